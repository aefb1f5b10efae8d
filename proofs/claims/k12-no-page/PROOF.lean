import PyProof.Rows.All
import Wide.All
import OpenK.AllK
import Wide.FinOn
import HandS.ForMost
import HandS.EndBits
import HandS.Walk
import HandS.TupAny
import HandS.Wide
import HandS.Style
import HandS.IsInst
import HandS.Zip
import HandS.More
import HandS.SortInts
import KE.KItemsList
import HandS.Exc
import HandS.ExcOwn
import HandS.ExcIs
import HandS.TryOnly
import HandS.CallSlots
import HandS.WordsExc
import PySem.Challenge.RW_sidelink_k12_no_page
set_option Elab.async false
set_option linter.all false
set_option maxRecDepth 100000
set_option maxHeartbeats 4000000
namespace M
open PySem L2

/-! ### values, heaps, environments of the small machine -/
inductive W where
  | non | bl (b : Bool) | int (i : Int) | str (s : Str)
  | tup (l : List W) | lst (l : List W) | fro (l : List W) | own (l : List W) | bor (l : List W) | ref (n : Nat)

inductive MO where
  | lst (l : List W) | dct (l : List (Key × W)) | ins (c : Nat) (fs : List W)
abbrev MH := List MO
abbrev En := List (Option W)
/-- a class: where it stands, its attributes in the order in which they come -/
structure Cl where
  ad : Addr
  nm : List Str
structure G where
  K : PySem.W.Frag
  cl : Nat → Cl

mutual
inductive RelW (g : G) (F : Hp) (ρ : List Addr) : W → V → Prop
  | non : RelW g F ρ .non .non
  | bl (b) : RelW g F ρ (.bl b) (.bl b)
  | int (i) : RelW g F ρ (.int i) (.int i)
  | str (s) : RelW g F ρ (.str s) (.str s)
  | tup {a vs l} : SqT g.K F a vs → RelWs g F ρ l vs → RelW g F ρ (.tup l) (.ref a)
  | lst {a vs l} : F a = some (.lst vs) → RelWs g F ρ l vs → RelW g F ρ (.lst l) (.ref a)
  | fro {a vs l} : SqL g.K F a vs → RelWs g F ρ l vs → RelW g F ρ (.fro l) (.ref a)
  | ref {n a} : ρ[n]? = some a → RelW g F ρ (.ref n) (.ref a)
inductive RelWs (g : G) (F : Hp) (ρ : List Addr) : List W → List V → Prop
  | nil : RelWs g F ρ [] []
  | cons {w v ws vs} : RelW g F ρ w v → RelWs g F ρ ws vs → RelWs g F ρ (w :: ws) (v :: vs)
end

theorem seqT {K : PySem.W.Frag} {H H' : Hp} {a : Addr} {xs : List V} (e : Same H H') (h : SqT K H a xs) : SqT K H' a xs := by
  rcases h with (h | ⟨o, h⟩) | h
  · exact .inl (.inl (e _ _ h))
  · exact .inl (.inr ⟨o, e _ _ h⟩)
  · exact .inr h
theorem getApp {α : Type} {l t : List α} {n : Nat} {a : α} (h : l[n]? = some a) : (l ++ t)[n]? = some a := by
  rw [List.getElem?_append_left (List.getElem?_eq_some_iff.mp h).1]; exact h

section
variable {g : G} {F F' : Hp} {ρ ρ' : List Addr}
mutual
theorem RelW.mono (hF : Same F F') (hr : ∃ t, ρ' = ρ ++ t) : ∀ {w : W} {v : V}, RelW g F ρ w v → RelW g F' ρ' w v
  | _, _, .non => .non
  | _, _, .bl _ => .bl _
  | _, _, .int _ => .int _
  | _, _, .str _ => .str _
  | _, _, .tup q r => .tup (seqT hF q) (RelWs.mono hF hr r)
  | _, _, .lst q r => .lst (hF _ _ q) (RelWs.mono hF hr r)
  | _, _, .fro q r => .fro (hF.seq q) (RelWs.mono hF hr r)
  | _, _, .ref q => .ref (by obtain ⟨t, rfl⟩ := hr; exact getApp q)
theorem RelWs.mono (hF : Same F F') (hr : ∃ t, ρ' = ρ ++ t) : ∀ {w : List W} {v : List V}, RelWs g F ρ w v → RelWs g F' ρ' w v
  | _, _, .nil => .nil
  | _, _, .cons q r => .cons (RelW.mono hF hr q) (RelWs.mono hF hr r)
end
theorem RelWs.length : ∀ {w : List W} {v : List V}, RelWs g F ρ w v → w.length = v.length
  | _, _, .nil => rfl
  | _, _, .cons _ r => congrArg (· + 1) (RelWs.length r)
theorem RelWs.get : ∀ {w : List W} {v : List V} {i : Nat} {x : W}, RelWs g F ρ w v → w[i]? = some x → ∃ y, v[i]? = some y ∧ RelW g F ρ x y
  | _, _, _, _, .nil, e => by simp at e
  | _, _, 0, _, .cons q _, e => by simp at e; subst e; exact ⟨_, rfl, q⟩
  | _, _, i + 1, _, .cons _ r, e => by simpa using RelWs.get (i := i) r (by simpa using e)
theorem RelWs.get' : ∀ {w : List W} {v : List V} {i : Nat} {y : V}, RelWs g F ρ w v → v[i]? = some y → ∃ x, w[i]? = some x ∧ RelW g F ρ x y
  | _, _, _, _, .nil, e => by simp at e
  | _, _, 0, _, .cons q _, e => by simp at e; subst e; exact ⟨_, rfl, q⟩
  | _, _, i + 1, _, .cons _ r, e => by simpa using RelWs.get' (i := i) r (by simpa using e)
theorem RelWs.app : ∀ {w w' : List W} {v v' : List V}, RelWs g F ρ w v → RelWs g F ρ w' v' → RelWs g F ρ (w ++ w') (v ++ v')
  | _, _, _, _, .nil, r => r
  | _, _, _, _, .cons q s, r => .cons q (RelWs.app s r)
theorem RelWs.take : ∀ {w : List W} {v : List V} (n : Nat), RelWs g F ρ w v → RelWs g F ρ (w.take n) (v.take n)
  | _, _, 0, _ => .nil
  | _, _, _ + 1, .nil => .nil
  | _, _, n + 1, .cons q r => .cons q (RelWs.take n r)
theorem RelWs.drop : ∀ {w : List W} {v : List V} (n : Nat), RelWs g F ρ w v → RelWs g F ρ (w.drop n) (v.drop n)
  | _, _, 0, r => r
  | _, _, _ + 1, .nil => .nil
  | _, _, n + 1, .cons _ r => RelWs.drop n r
theorem RelWs.set {x : W} {y : V} (q : RelW g F ρ x y) : ∀ {w : List W} {v : List V} (n : Nat), RelWs g F ρ w v → RelWs g F ρ (w.set n x) (v.set n y)
  | _, _, _, .nil => .nil
  | _, _, 0, .cons _ r => .cons q r
  | _, _, n + 1, .cons p r => .cons p (RelWs.set q n r)
theorem RelWs.rev : ∀ {w : List W} {v : List V}, RelWs g F ρ w v → RelWs g F ρ w.reverse v.reverse
  | _, _, .nil => .nil
  | _, _, .cons q r => by rw [List.reverse_cons, List.reverse_cons]; exact RelWs.app (RelWs.rev r) (.cons q .nil)
theorem RelWs.dropLast : ∀ {w : List W} {v : List V}, RelWs g F ρ w v → RelWs g F ρ w.dropLast v.dropLast
  | _, _, .nil => .nil
  | _, _, .cons _ .nil => .nil
  | _, _, .cons q (.cons p r) => .cons q (RelWs.dropLast (.cons p r))
theorem RelWs.erase : ∀ {w : List W} {v : List V} (n : Nat), RelWs g F ρ w v → RelWs g F ρ (w.eraseIdx n) (v.eraseIdx n)
  | _, _, _, .nil => .nil
  | _, _, 0, .cons _ r => r
  | _, _, n + 1, .cons q r => .cons q (RelWs.erase n r)
/-- ints read off -/
theorem RelWs.ints : ∀ {ns : List Int} {v : List V}, RelWs g F ρ (ns.map W.int) v → v = ns.map V.int
  | [], _, .nil => rfl
  | _ :: _, _, .cons (.int _) r => by rw [RelWs.ints r]; rfl
theorem RelWs.of_ints : ∀ (ns : List Int), RelWs g F ρ (ns.map W.int) (ns.map V.int)
  | [] => .nil
  | _ :: r => .cons (.int _) (RelWs.of_ints r)
end

/-! ### the heap's cells -/
abbrev RelKs (g : G) (F : Hp) (ρ : List Addr) : List (Key × W) → List (Key × V) → Prop := Paired fun p q => p.1 = q.1 ∧ RelW g F ρ p.2 q.2
abbrev RelFs (g : G) (F : Hp) (ρ : List Addr) : List (Str × W) → List (Str × V) → Prop := Paired fun p q => p.1 = q.1 ∧ RelW g F ρ p.2 q.2
def CellR (g : G) (F : Hp) (ρ : List Addr) (ho : Option HO) : MO → Prop
  | .lst l => ∃ vs, ho = some (.lst vs) ∧ RelWs g F ρ l vs
  | .dct kvs => ∃ vs, ho = some (.dK vs) ∧ RelKs g F ρ kvs vs
  | .ins c fs => ∃ dx vs, ho = some (.ins (g.cl c).ad dx ((g.cl c).nm.zip vs)) ∧ RelWs g F ρ fs vs ∧ vs.length ≤ (g.cl c).nm.length
theorem CellR.mono {g : G} {F F' : Hp} {ρ ρ' : List Addr} {ho : Option HO} {o : MO} (hF : Same F F') (hr : ∃ t, ρ' = ρ ++ t) (h : CellR g F ρ ho o) : CellR g F' ρ' ho o := by
  cases o with
  | lst l => obtain ⟨vs, e, r⟩ := h; exact ⟨vs, e, r.mono hF hr⟩
  | dct l => obtain ⟨vs, e, r⟩ := h; exact ⟨vs, e, Paired.mapP r fun p q z => ⟨z.1, z.2.mono hF hr⟩⟩
  | ins c l => obtain ⟨dx, vs, e, r, hl⟩ := h; exact ⟨dx, vs, e, r.mono hF hr, hl⟩
theorem CellR.some {g : G} {F : Hp} {ρ : List Addr} {ho : Option HO} {o : MO} (h : CellR g F ρ ho o) : ho ≠ none := by
  cases o with
  | lst l => obtain ⟨vs, e, r⟩ := h; rw [e]; simp
  | dct l => obtain ⟨vs, e, r⟩ := h; rw [e]; simp
  | ins c l => obtain ⟨dx, vs, e, r⟩ := h; rw [e]; simp

structure SR (g : G) (F : Hp) (ρ : List Addr) (m : MH) (H : Hp) : Prop where
  sub : Same F H
  len : ρ.length = m.length
  nd : ρ.Nodup
  cell : ∀ (n : Nat) (o : MO) (a : Addr), m[n]? = some o → ρ[n]? = some a → F a = none ∧ CellR g F ρ (H a) o

structure Adv (F : Hp) (ρ : List Addr) (H : Hp) (F' : Hp) (ρ' : List Addr) (H' : Hp) : Prop where
  f : Same F F'
  r : ∃ t, ρ' = ρ ++ t
  keep : ∀ a o, H a = some o → a ∉ ρ → H' a = some o
  there : ∀ a, H' a = none → H a = none
  nf : ∀ a, F a = none → F' a ≠ none → H a = none
  nr : ∀ a, a ∈ ρ' → a ∉ ρ → H a = none

section
variable {g : G} {F F1 F2 : Hp} {ρ ρ1 ρ2 : List Addr} {H H1 H2 : Hp} {m m1 : MH}
theorem Adv.refl : Adv F ρ H F ρ H := ⟨Same.refl _, ⟨[], by simp⟩, fun _ _ e _ => e, fun _ e => e, fun a h n => absurd h n, fun a h n => absurd h n⟩
theorem SR.at (s : SR g F ρ m H) {n : Nat} {a : Addr} (e : ρ[n]? = some a) : ∃ o, m[n]? = some o ∧ F a = none ∧ CellR g F ρ (H a) o := by
  have hn : n < m.length := by rw [← s.len]; exact (List.getElem?_eq_some_iff.mp e).1
  exact ⟨m[n], by simp [hn], s.cell n _ a (by simp [hn]) e⟩
theorem SR.mem (s : SR g F ρ m H) {a : Addr} (e : a ∈ ρ) : F a = none ∧ H a ≠ none := by
  obtain ⟨n, hn⟩ := List.mem_iff_getElem?.mp e
  obtain ⟨o, _, h1, h2⟩ := s.at hn
  exact ⟨h1, h2.some⟩
theorem SR.get (s : SR g F ρ m H) {n : Nat} {o : MO} (e : m[n]? = some o) : ∃ a, ρ[n]? = some a ∧ a ∈ ρ ∧ F a = none ∧ CellR g F ρ (H a) o := by
  have hn : n < ρ.length := by rw [s.len]; exact (List.getElem?_eq_some_iff.mp e).1
  exact ⟨ρ[n], by simp [hn], List.getElem_mem hn, s.cell n o _ e (by simp [hn])⟩
theorem Adv.trans (a : Adv F ρ H F1 ρ1 H1) (b : Adv F1 ρ1 H1 F2 ρ2 H2) : Adv F ρ H F2 ρ2 H2 where
  f := a.f.trans b.f
  r := by obtain ⟨t, e⟩ := a.r; obtain ⟨u, e'⟩ := b.r; exact ⟨t ++ u, by rw [e', e, List.append_assoc]⟩
  keep := fun c o e n => b.keep c o (a.keep c o e n) fun h => by
    by_cases q : c ∈ ρ
    · exact n q
    · have := a.nr c h q; rw [e] at this; cases this
  there := fun c e => a.there c (b.there c e)
  nf := fun c e n => by
    cases q : F1 c with
    | none => exact a.there c (b.nf c q n)
    | some o => exact a.nf c e (by rw [q]; simp)
  nr := fun c h n => by
    by_cases q : c ∈ ρ1
    · exact a.nr c q n
    · exact a.there c (b.nr c h q)
end

/-- a list of ours, at a place that nobody else knows -/
def OwnAt (g : G) (F : Hp) (ρ : List Addr) (H : Hp) (l : List W) (v : V) : Prop := ∃ a vs, v = .ref a ∧ H a = some (.lst vs) ∧ F a = none ∧ a ∉ ρ ∧ RelWs g F ρ l vs
def SlotR (g : G) (F : Hp) (ρ : List Addr) (H : Hp) (w : W) (v : V) : Prop := match w with
  | .own l => OwnAt g F ρ H l v
  | .bor _ => False
  | w => RelW g F ρ w v
/-- what may be read -/
def RdR (g : G) (F : Hp) (ρ : List Addr) (H : Hp) (w : W) (v : V) : Prop := match w with
  | .own l => OwnAt g F ρ H l v
  | .bor l => OwnAt g F ρ H l v
  | w => RelW g F ρ w v
/-- an expression's end; H0: the heap ahead -/
def ResR (g : G) (F : Hp) (ρ : List Addr) (H0 H : Hp) (w : W) (v : V) : Prop := match w with
  | .own l => OwnAt g F ρ H l v ∧ ∀ a, v = .ref a → H0 a = none
  | .bor l => OwnAt g F ρ H l v
  | w => RelW g F ρ w v
section
variable {g : G} {F F' F1 : Hp} {ρ ρ' ρ1 : List Addr} {H H' H0 H1 : Hp} {w : W} {v : V}
theorem OwnAt.adv {l : List W} (h : OwnAt g F ρ H l v) (A : Adv F ρ H F' ρ' H') : OwnAt g F' ρ' H' l v := by
  obtain ⟨a, vs, e, h1, h2, h3, r⟩ := h
  refine ⟨a, vs, e, A.keep a _ h1 h3, ?_, ?_, r.mono A.f A.r⟩
  · cases q : F' a with
    | none => rfl
    | some o => have := A.nf a h2 (by rw [q]; simp); rw [h1] at this; cases this
  · intro h
    have := A.nr a h h3; rw [h1] at this; cases this
theorem SlotR.adv (h : SlotR g F ρ H w v) (A : Adv F ρ H F' ρ' H') : SlotR g F' ρ' H' w v := by
  cases w with
  | own l => exact OwnAt.adv h A
  | bor l => exact h
  | non | bl | int | str | tup | lst | fro | ref => exact RelW.mono A.f A.r h
theorem RdR.adv (h : RdR g F ρ H w v) (A : Adv F ρ H F' ρ' H') : RdR g F' ρ' H' w v := by
  cases w with
  | own l => exact OwnAt.adv h A
  | bor l => exact OwnAt.adv h A
  | non | bl | int | str | tup | lst | fro | ref => exact RelW.mono A.f A.r h
theorem ResR.adv (h : ResR g F ρ H0 H w v) (A : Adv F ρ H F' ρ' H') : ResR g F' ρ' H0 H' w v := by
  cases w with
  | own l => exact ⟨OwnAt.adv h.1 A, h.2⟩
  | bor l => exact OwnAt.adv h A
  | non | bl | int | str | tup | lst | fro | ref => exact RelW.mono A.f A.r h
/-- seen from an earlier heap -/
theorem ResR.back (h : ResR g F' ρ' H1 H' w v) (A : Adv F ρ H0 F1 ρ1 H1) : ResR g F' ρ' H0 H' w v := by
  cases w with
  | own l => exact ⟨h.1, fun a e => A.there a (h.2 a e)⟩
  | bor l => exact h
  | non | bl | int | str | tup | lst | fro | ref => exact h
theorem ResR.rd (h : ResR g F ρ H0 H w v) : RdR g F ρ H w v := by
  cases w with
  | own l => exact h.1
  | bor l => exact h
  | non | bl | int | str | tup | lst | fro | ref => exact h
theorem SlotR.res (h : SlotR g F ρ H w v) (hn : ∀ l, w ≠ .own l) : ResR g F ρ H0 H w v := by
  cases w with
  | own l => exact absurd rfl (hn l)
  | bor l => exact absurd h id
  | non | bl | int | str | tup | lst | fro | ref => exact h
end

structure ER (g : G) (F : Hp) (ρ : List Addr) (env : En) (σ : St) (H : Hp) : Prop where
  len : env.length = σ.length
  slot : ∀ (i : Nat) (w : W), env[i]? = some (some w) → ∃ v, σ[i]? = some (some v) ∧ SlotR g F ρ H w v
  apart : ∀ (i j : Nat) (l l' : List W), env[i]? = some (some (.own l)) → env[j]? = some (some (.own l')) → i ≠ j → σ[i]? ≠ σ[j]?
theorem ER.adv {g : G} {F F' : Hp} {ρ ρ' : List Addr} {H H' : Hp} {env : En} {σ : St} (h : ER g F ρ env σ H) (A : Adv F ρ H F' ρ' H') : ER g F' ρ' env σ H' :=
  ⟨h.len, fun i w e => let ⟨v, e1, r⟩ := h.slot i w e; ⟨v, e1, r.adv A⟩, h.apart⟩

/-! ### what an expression, a test, arguments do -/
abbrev FE := En → MH → Option (W × MH)
abbrev FT := En → MH → Option (Bool × MH)
abbrev FA := En → MH → Option (List W × MH)
def tE (g : G) (f : FE) : TE := fun σ H Q => ∃ F ρ m env w m', SR g F ρ m H ∧ ER g F ρ env σ H ∧ f env m = some (w, m') ∧
  ∀ F' ρ' H' v, Adv F ρ H F' ρ' H' → SR g F' ρ' m' H' → ResR g F' ρ' H H' w v → Q v H'
def tT (g : G) (f : FT) : TT := fun σ H Q => ∃ F ρ m env b m', SR g F ρ m H ∧ ER g F ρ env σ H ∧ f env m = some (b, m') ∧
  ∀ F' ρ' H', Adv F ρ H F' ρ' H' → SR g F' ρ' m' H' → Q b H'
/-- the arguments are frozen -/
def tA (g : G) (f : FA) : TA := fun σ H Q => ∃ F ρ m env w m', SR g F ρ m H ∧ ER g F ρ env σ H ∧ f env m = some (w, m') ∧
  ∀ F' ρ' H' v, Adv F ρ H F' ρ' H' → SR g F' ρ' m' H' → RelWs g F' ρ' w v → Q v H'
structure EV (cl : Nat → Cl) (X : Cx) (e : Expr) (f : FE) : Prop where
  pe : PE X e (tE ⟨X.K, cl⟩ f)
structure TV (cl : Nat → Cl) (X : Cx) (e : Expr) (f : FT) : Prop where
  pt : PT X e (tT ⟨X.K, cl⟩ f)
structure AV (cl : Nat → Cl) (X : Cx) (es : List Expr) (f : FA) : Prop where
  pa : PA X es (tA ⟨X.K, cl⟩ f)
theorem PE.imp {X : Cx} {e : Expr} {t t' : TE} (h : PE X e t) (k : ∀ σ H Q, t' σ H Q → t σ H Q) : PE X e t' := ⟨fun pins s σ H Q I q => h.run pins s σ H Q I (k σ H Q q)⟩
theorem PT.imp {X : Cx} {e : Expr} {t t' : TT} (h : PT X e t) (k : ∀ σ H Q, t' σ H Q → t σ H Q) : PT X e t' := ⟨fun pins s σ H Q I q => h.run pins s σ H Q I (k σ H Q q)⟩
theorem PW.imp {X : Cx} {e : Expr} {t t' : TT} (h : PW X e t) (k : ∀ σ H Q, t' σ H Q → t σ H Q) : PW X e t' := ⟨fun w pins s σ H Q I q => h.run w pins s σ H Q I (k σ H Q q)⟩
theorem PA.imp {X : Cx} {e : List Expr} {t t' : TA} (h : PA X e t) (k : ∀ σ H Q, t' σ H Q → t σ H Q) : PA X e t' := ⟨fun p pins s σ H Q I q => h.run p pins s σ H Q I (k σ H Q q)⟩
theorem PS.imp {X : Cx} {e : Stmt} {t t' : TS} (h : PS X e t) (k : ∀ D σ H, t' D σ H → t D σ H) : PS X e t' := ⟨fun pins s σ H D I q => h.run pins s σ H D I (k D σ H q)⟩
theorem PSs.imp {X : Cx} {e : List Stmt} {t t' : TS} (h : PSs X e t) (k : ∀ D σ H, t' D σ H → t D σ H) : PSs X e t' := ⟨fun pins s σ H D I q => h.run pins s σ H D I (k D σ H q)⟩

/-! ### a new object -/
section
variable {g : G} {F : Hp} {ρ : List Addr} {H : Hp} {m : MH} {p : Addr}
theorem upd_none' {H : Hp} {a b : Addr} {o : HO} (e : upd H a o b = Option.none) : H b = Option.none := by
  unfold upd at e; split at e
  · cases e
  · exact e
theorem Same.upd {o : HO} (hp : F p = none) : Same F (upd F p o) := fun b u e => by rw [upd_ne (ne_of_none e hp)]; exact e
theorem SR.subNone (s : SR g F ρ m H) (hp : H p = none) : F p = none := by
  cases q : F p with
  | none => rfl
  | some o => rw [s.sub _ _ q] at hp; cases hp
theorem SR.notMem (s : SR g F ρ m H) (hp : H p = none) : p ∉ ρ := fun h => (s.mem h).2 hp
/-- laid outside of the cells -/
theorem SR.laid {o : HO} (s : SR g F ρ m H) (hp : H p = none) : SR g F ρ m (upd H p o) :=
  ⟨fun b u e => by rw [upd_ne (ne_of_none (s.sub _ _ e) hp)]; exact s.sub _ _ e, s.len, s.nd, fun n o a e1 e2 => by
    have ne : a ≠ p := fun z => by subst z; exact s.notMem hp (List.mem_of_getElem? e2)
    rw [upd_ne ne]; exact s.cell n o a e1 e2⟩
theorem Adv.laid {o : HO} (hp : H p = none) : Adv F ρ H F ρ (upd H p o) :=
  ⟨Same.refl _, ⟨[], by simp⟩, fun a u e _ => by rw [upd_ne (ne_of_none e hp)]; exact e, fun a e => upd_none' e, fun a h n => absurd h n, fun a h n => absurd h n⟩
/-- what is laid is frozen -/
theorem SR.frz {o : HO} (s : SR g F ρ m H) (hp : F p = none) (hr : p ∉ ρ) (h : H p = some o) : SR g (upd F p o) ρ m H :=
  ⟨fun b u e => by
    by_cases z : b = p
    · subst z; rw [upd_same] at e; cases e; exact h
    · rw [upd_ne z] at e; exact s.sub _ _ e, s.len, s.nd, fun n o a e1 e2 => by
    have ne : a ≠ p := fun z => by subst z; exact hr (List.mem_of_getElem? e2)
    obtain ⟨h1, h2⟩ := s.cell n o a e1 e2
    exact ⟨by rw [upd_ne ne]; exact h1, h2.mono (Same.upd hp) ⟨[], by simp⟩⟩⟩
/-- a frozen new object -/
theorem adv_new {o : HO} (s : SR g F ρ m H) (hp : H p = none) : Adv F ρ H (upd F p o) ρ (upd H p o) ∧ SR g (upd F p o) ρ m (upd H p o) := by
  refine ⟨⟨Same.upd (s.subNone hp), ⟨[], by simp⟩, fun a u e _ => by rw [upd_ne (ne_of_none e hp)]; exact e, fun a e => upd_none' e, fun a h n => ?_, fun a h n => absurd h n⟩, ?_⟩
  · by_cases z : a = p
    · rw [z]; exact hp
    · rw [upd_ne z] at n; exact absurd h n
  · exact (s.laid hp).frz (s.subNone hp) (s.notMem hp) upd_same
end

/-! ### an own list is given away: it is frozen -/
def frz : W → Option W
  | .own l => some (.lst l)
  | .bor _ => none
  | w => some w
theorem ResR.frz {g : G} {F F0 : Hp} {ρ ρ0 : List Addr} {H0 H : Hp} {m : MH} {w w' : W} {v : V} (A : Adv F0 ρ0 H0 F ρ H) (s : SR g F ρ m H) (h : ResR g F ρ H0 H w v) (e : frz w = some w') :
    ∃ F', Adv F0 ρ0 H0 F' ρ H ∧ SR g F' ρ m H ∧ RelW g F' ρ w' v ∧ Same F F' := by
  cases w with
  | own l =>
    obtain ⟨⟨a, vs, rfl, h1, h2, h3, r⟩, hf⟩ := h
    cases e
    refine ⟨upd F a (.lst vs), ⟨A.f.trans (Same.upd h2), A.r, A.keep, A.there, fun c c0 cn => ?_, A.nr⟩, s.frz h2 h3 h1, .lst upd_same (r.mono (Same.upd h2) ⟨[], by simp⟩), Same.upd h2⟩
    by_cases z : c = a
    · subst z; exact hf _ rfl
    · rw [upd_ne z] at cn; exact A.nf c c0 cn
  | bor l => cases e
  | non | bl | int | str | tup | lst | fro | ref => cases e; exact ⟨F, A, s, h, Same.refl _⟩
end M
namespace M
open PySem L2

/-! ### reading -/
def lstOf (m : MH) : W → Option (List W)
  | .lst l => some l
  | .own l => some l
  | .bor l => some l
  | .ref n => match m[n]? with
    | some (.lst l) => some l
    | _ => none
  | _ => none
/-- any list that is read -/
def lsOf (m : MH) : W → Option (List W)
  | .fro l => some l
  | w => lstOf m w
def sqOf (m : MH) : W → Option (List W)
  | .tup l => some l
  | w => lsOf m w
section
variable {g : G} {F : Hp} {ρ : List Addr} {H H0 : Hp} {m : MH} {w : W} {v : V} {l : List W}
theorem lstOf_rd (s : SR g F ρ m H) (r : RdR g F ρ H w v) (e : lstOf m w = some l) : ∃ a vs, v = .ref a ∧ H a = some (.lst vs) ∧ RelWs g F ρ l vs := by
  cases w with
  | lst l' => cases e; cases r with | lst q r => exact ⟨_, _, rfl, s.sub _ _ q, r⟩
  | own l' => cases e; obtain ⟨a, vs, h1, h2, _, _, h3⟩ := r; exact ⟨a, vs, h1, h2, h3⟩
  | bor l' => cases e; obtain ⟨a, vs, h1, h2, _, _, h3⟩ := r; exact ⟨a, vs, h1, h2, h3⟩
  | ref n =>
    cases r with
    | ref q =>
      obtain ⟨o, e1, _, c⟩ := s.at q
      unfold lstOf at e
      simp only [e1] at e
      cases o with
      | lst l' => cases e; obtain ⟨vs, h1, h2⟩ := c; exact ⟨_, vs, rfl, h1, h2⟩
      | dct _ => cases e
      | ins _ _ => cases e
  | non | bl | int | str | tup | fro => cases e
theorem lsOf_rd (s : SR g F ρ m H) (r : RdR g F ρ H w v) (e : lsOf m w = some l) : ∃ a vs, v = .ref a ∧ SqL g.K H a vs ∧ RelWs g F ρ l vs := by
  cases w with
  | fro l' => cases e; cases r with | fro q r => exact ⟨_, _, rfl, s.sub.seq q, r⟩
  | lst | own | bor | ref | non | bl | int | str | tup =>
    obtain ⟨a, vs, h1, h2, h3⟩ := lstOf_rd s r e
    exact ⟨a, vs, h1, SqL.of h2, h3⟩
theorem sqOf_rd (s : SR g F ρ m H) (r : RdR g F ρ H w v) (e : sqOf m w = some l) : ∃ a vs, v = .ref a ∧ (SqL g.K H a vs ∨ SqT g.K H a vs) ∧ RelWs g F ρ l vs := by
  cases w with
  | tup l' => cases e; cases r with | tup q r => exact ⟨_, _, rfl, .inr (seqT s.sub q), r⟩
  | lst | own | bor | ref | non | bl | int | str | fro =>
    obtain ⟨a, vs, h1, h2, h3⟩ := lsOf_rd s r e
    exact ⟨a, vs, h1, .inl h2, h3⟩
end

/-- what an operation may do -/
abbrev Fin (g : G) (F : Hp) (ρ : List Addr) (H : Hp) (w : W) (m' : MH) (Q : VK) : Prop :=
  ∀ F' ρ' H' v, Adv F ρ H F' ρ' H' → SR g F' ρ' m' H' → ResR g F' ρ' H H' w v → Q v H'
section
variable {g : G} {F : Hp} {ρ : List Addr} {H : Hp} {m : MH} {w : W} {v : V} {l : List W} {Q : VK}
theorem Fin.same (k : Fin g F ρ H w m Q) (s : SR g F ρ m H) (r : ResR g F ρ H H w v) : Q v H := k F ρ H v Adv.refl s r
theorem Fin.tup {l : List W} (k : Fin g F ρ H (.tup l) m Q) (s : SR g F ρ m H) {xs : List V} (r : RelWs g F ρ l xs) : ∀ p, H p = none → Q (.ref p) (upd H p (.tup xs)) := fun p hp => by
  obtain ⟨A, s'⟩ := adv_new (o := .tup xs) s hp
  exact k _ ρ _ _ A s' (.tup (SqT.of upd_same) (r.mono A.f A.r))
theorem Fin.own {l : List W} (k : Fin g F ρ H (.own l) m Q) (s : SR g F ρ m H) {xs : List V} (r : RelWs g F ρ l xs) : ∀ p, H p = none → Q (.ref p) (upd H p (.lst xs)) := fun p hp =>
  k F ρ _ _ (Adv.laid hp) (s.laid hp) ⟨⟨p, xs, rfl, upd_same, s.subNone hp, s.notMem hp, r⟩, fun a e => by cases e; exact hp⟩
end
abbrev Op1 := W → MH → Option (W × MH)
abbrev Op2 := W → W → MH → Option (W × MH)
abbrev OpN := List W → MH → Option (W × MH)
def OpS1 (g : G) (R : V → Hp → VK → Prop) (op : Op1) : Prop := ∀ {F ρ m H x vx w m' Q}, SR g F ρ m H → RdR g F ρ H x vx → op x m = some (w, m') → Fin g F ρ H w m' Q → R vx H Q
def OpS2 (g : G) (R : R2) (op : Op2) : Prop := ∀ {F ρ m H x y vx vy w m' Q}, SR g F ρ m H → RdR g F ρ H x vx → RdR g F ρ H y vy → op x y m = some (w, m') → Fin g F ρ H w m' Q → R vx vy H Q
def OpSN (g : G) (R : List V → Hp → VK → Prop) (op : OpN) : Prop := ∀ {F ρ m H xs vs w m' Q}, SR g F ρ m H → RelWs g F ρ xs vs → op xs m = some (w, m') → Fin g F ρ H w m' Q → R vs H Q
def eUn (op : Op1) (fa : FE) : FE := fun env m => match fa env m with
  | some (x, m1) => op x m1
  | none => none
def eBin (op : Op2) (fa fb : FE) : FE := fun env m => match fa env m with
  | some (x, m1) => match fb env m1 with
    | some (y, m2) => op x y m2
    | none => none
  | none => none
def eArg (op : OpN) (fa : FA) : FE := fun env m => match fa env m with
  | some (xs, m1) => op xs m1
  | none => none
theorem tE_un {g : G} {op : Op1} {fa : FE} {R : V → Hp → VK → Prop} (hs : OpS1 g R op) {σ H Q} (h : tE g (eUn op fa) σ H Q) : tE g fa σ H fun x H1 => R x H1 Q := by
  obtain ⟨F, ρ, m, env, w, m', s, er, e, k⟩ := h
  unfold eUn at e
  split at e
  · rename_i x m1 e1
    refine ⟨F, ρ, m, env, x, m1, s, er, e1, fun F1 ρ1 H1 v1 A1 s1 r1 => ?_⟩
    exact hs s1 r1.rd e fun F2 ρ2 H2 v2 A2 s2 r2 => k F2 ρ2 H2 v2 (A1.trans A2) s2 (r2.back A1)
  · cases e
theorem tE_bin {g : G} {op : Op2} {fa fb : FE} {R : R2} (hs : OpS2 g R op) {σ H Q} (h : tE g (eBin op fa fb) σ H Q) : tE g fa σ H fun x H1 => tE g fb σ H1 fun y H2 => R x y H2 Q := by
  obtain ⟨F, ρ, m, env, w, m', s, er, e, k⟩ := h
  unfold eBin at e
  split at e
  · rename_i x m1 e1
    split at e
    · rename_i y m2 e2
      refine ⟨F, ρ, m, env, x, m1, s, er, e1, fun F1 ρ1 H1 v1 A1 s1 r1 => ?_⟩
      refine ⟨F1, ρ1, m1, env, y, m2, s1, er.adv A1, e2, fun F2 ρ2 H2 v2 A2 s2 r2 => ?_⟩
      exact hs s2 (r1.rd.adv A2) r2.rd e fun F3 ρ3 H3 v3 A3 s3 r3 => k F3 ρ3 H3 v3 ((A1.trans A2).trans A3) s3 (r3.back (A1.trans A2))
    · cases e
  · cases e
theorem tE_arg {g : G} {op : OpN} {fa : FA} {R : List V → Hp → VK → Prop} (hs : OpSN g R op) {σ H Q} (h : tE g (eArg op fa) σ H Q) : tA g fa σ H fun x H1 => R x H1 Q := by
  obtain ⟨F, ρ, m, env, w, m', s, er, e, k⟩ := h
  unfold eArg at e
  split at e
  · rename_i x m1 e1
    refine ⟨F, ρ, m, env, x, m1, s, er, e1, fun F1 ρ1 H1 v1 A1 s1 r1 => ?_⟩
    exact hs s1 r1 e fun F2 ρ2 H2 v2 A2 s2 r2 => k F2 ρ2 H2 v2 (A1.trans A2) s2 (r2.back A1)
  · cases e

/-! ### constants, names -/
def eC (w : W) : FE := fun _ m => some (w, m)
def eVar (i : Nat) : FE := fun env m => match env[i]? with
  | some (some (.own l)) => some (.bor l, m)
  | some (some w) => some (w, m)
  | _ => none
section
variable {cl : Nat → Cl} {X : Cx} {pos : Pos} {a b c e : Expr} {fa fb fc : FE} {es : List Expr}
theorem tE_C {g : G} {w : W} {v : V} (r : ∀ F ρ, RelW g F ρ w v) (hn : ∀ l, w ≠ .own l ∧ w ≠ .bor l) {σ H Q} (h : tE g (eC w) σ H Q) : Q v H := by
  obtain ⟨F, ρ, m, env, w', m', s, er, e, k⟩ := h
  cases e
  refine k F ρ H v Adv.refl s ?_
  have := r F ρ
  cases w with
  | own l => exact absurd rfl (hn l).1
  | bor l => exact absurd rfl (hn l).2
  | non | bl | int | str | tup | lst | fro | ref => exact this
theorem ev_int {i j} : EV cl X (.Constant (.int i) j pos) (eC (.int i)) := ⟨PE.imp pe_int fun _ _ _ h => tE_C (fun _ _ => .int i) (fun l => ⟨nofun, nofun⟩) h⟩
theorem ev_bl {b j} : EV cl X (.Constant (.bool b) j pos) (eC (.bl b)) := ⟨PE.imp pe_bl fun _ _ _ h => tE_C (fun _ _ => .bl b) (fun l => ⟨nofun, nofun⟩) h⟩
theorem ev_non {j} : EV cl X (.Constant .none j pos) (eC .non) := ⟨PE.imp pe_non fun _ _ _ h => tE_C (fun _ _ => .non) (fun l => ⟨nofun, nofun⟩) h⟩
theorem ev_str {x j} : EV cl X (.Constant (.str x) j pos) (eC (.str x)) := ⟨PE.imp pe_str fun _ _ _ h => tE_C (fun _ _ => .str x) (fun l => ⟨nofun, nofun⟩) h⟩
theorem ev_var (i : Nat) {x : Str} (hN : X.N[i]? = some x := by rfl) (hv : Vis X.env.scope x := by first | exact Or.inl rfl | exact Or.inr (Or.inl rfl) | exact Or.inr (Or.inr rfl)) (hd : (x == ("__debug__" : Str)) = false := by decide)
    (hcd : (x == ("__classdict__" : Str)) = false := by decide) : EV cl X (.Name x pos) (eVar i) := ⟨PE.imp (pe_var hN hv hd hcd) fun σ H Q h => by
  obtain ⟨F, ρ, m, env, w, m', s, er, e, k⟩ := h
  unfold eVar at e
  split at e
  · rename_i l e1
    cases e
    obtain ⟨v, e2, r⟩ := er.slot i _ e1
    exact ⟨v, e2, k F ρ H v Adv.refl s r⟩
  · rename_i w' hne e1
    cases e
    obtain ⟨v, e2, r⟩ := er.slot i _ e1
    exact ⟨v, e2, k F ρ H v Adv.refl s (r.res fun l q => hne l q)⟩
  · cases e⟩

/-! ### operators -/
theorem ev_bin {op : Operator} {R : R2} {o : Op2} (ho : OpR X (binaryOp op) R) (hs : OpS2 ⟨X.K, cl⟩ R o) (ha : EV cl X a fa) (hb : EV cl X b fb) : EV cl X (.BinOp a op b pos) (eBin o fa fb) :=
  ⟨PE.imp (pe_op ho ha.pe hb.pe) fun _ _ _ h => tE_bin hs h⟩
theorem ev_un {op : UnaryOp} {R : V → Hp → VK → Prop} {o : Op1} (ho : UnR X (unaryOp op) R) (hs : OpS1 ⟨X.K, cl⟩ R o) (ha : EV cl X a fa) : EV cl X (.UnaryOp op a pos) (eUn o fa) :=
  ⟨PE.imp (pe_un ho ha.pe) fun _ _ _ h => tE_un hs h⟩
theorem ev_cmp {op : CmpOp} {R : R2} {o : Op2} (ho : OpR X (compareOp op) R) (hs : OpS2 ⟨X.K, cl⟩ R o) (ha : EV cl X a fa) (hb : EV cl X b fb) (hm : behindInMarks op b = false) : EV cl X (.Compare a [op] [b] pos) (eBin o fa fb) :=
  ⟨PE.imp (pe_cmpR ho ha.pe hb.pe hm) fun _ _ _ h => tE_bin hs h⟩

/-! ints -/
def oI2 (f : Int → Int → W) : Op2 := fun x y m => match x, y with
  | .int i, .int j => some (f i j, m)
  | _, _ => none
def oI2c (c : Int → Int → Bool) (f : Int → Int → W) : Op2 := fun x y m => match x, y with
  | .int i, .int j => if c i j = true then some (f i j, m) else none
  | _, _ => none
theorem RdR.int_inv {g : G} {F : Hp} {ρ : List Addr} {H : Hp} {i : Int} {v : V} (r : RdR g F ρ H (.int i) v) : v = .int i := by cases r; rfl
theorem RdR.bl_inv {g : G} {F : Hp} {ρ : List Addr} {H : Hp} {i : Bool} {v : V} (r : RdR g F ρ H (.bl i) v) : v = .bl i := by cases r; rfl
theorem RdR.str_inv {g : G} {F : Hp} {ρ : List Addr} {H : Hp} {i : Str} {v : V} (r : RdR g F ρ H (.str i) v) : v = .str i := by cases r; rfl
theorem RdR.non_inv {g : G} {F : Hp} {ρ : List Addr} {H : Hp} {v : V} (r : RdR g F ρ H .non v) : v = .non := by cases r; rfl
theorem oI2_ok {g : G} {f : Int → Int → W} {fV : Int → Int → V} (hf : ∀ i j F ρ H, ResR g F ρ H H (f i j) (fV i j)) : OpS2 g (rI0 fV) (oI2 f) := fun {F ρ m H x y vx vy w m' Q} s rx ry e k => by
  unfold oI2 at e
  split at e
  · cases e; cases rx.int_inv; cases ry.int_inv
    exact ⟨_, _, rfl, rfl, Fin.same k s (hf _ _ _ _ _)⟩
  · cases e
theorem oI2c_ok {g : G} {C : Int → Int → Prop} {c : Int → Int → Bool} {f : Int → Int → W} {fV : Int → Int → V} (hc : ∀ i j, c i j = true → C i j) (hf : ∀ i j F ρ H, ResR g F ρ H H (f i j) (fV i j)) : OpS2 g (rI C fV) (oI2c c f) := fun {F ρ m H x y vx vy w m' Q} s rx ry e k => by
  unfold oI2c at e
  split at e
  · split at e
    · rename_i h
      cases e; cases rx.int_inv; cases ry.int_inv
      exact ⟨_, _, rfl, rfl, hc _ _ h, Fin.same k s (hf _ _ _ _ _)⟩
    · cases e
  · cases e
def oSub : Op2 := oI2 fun i j => .int (i - j)
def oLt : Op2 := oI2 fun i j => .bl (decide (i < j))
def oLe : Op2 := oI2 fun i j => .bl (decide (i ≤ j))
def oGt : Op2 := oI2 fun i j => .bl (decide (j < i))
def oGe : Op2 := oI2 fun i j => .bl (decide (j ≤ i))
def CMulB (i j : Int) : Prop := i.natAbs.log2 + j.natAbs.log2 < 100000000
theorem CMulB.ok {i j : Int} (h : CMulB i j) : IntMulOk i j := by
  have b : ∀ x : Int, Builtin.Int.intBits x ≤ x.natAbs.log2 + 1 := fun x => by
    unfold Builtin.Int.intBits
    split <;> omega
  have h1 := b i
  have h2 := b j
  have h3 : i.natAbs.log2 + j.natAbs.log2 < 100000000 := h
  have e : bitsLine = 134217728 := by decide
  unfold IntMulOk
  intro z
  rw [Bool.and_eq_true] at z
  have z2 := z.2
  unfold Builtin.Int.intTooBig at z2
  have z3 := of_decide_eq_true z2
  rw [e] at z3
  omega
theorem op_mulB {X : Cx} : OpR X (binaryOp .Mult) (rI CMulB fun i j => .int (i * j)) := opI fun _ _ _ _ _ _ _ hc q => PyProof.Rows.mul_int q hc.ok
def mulOk (i j : Int) : Bool := decide (i.natAbs.log2 + j.natAbs.log2 < 100000000)
def oMul : Op2 := oI2c mulOk fun i j => .int (i * j)
def oDiv : Op2 := oI2c (fun _ j => decide (0 < j ∧ j < 1073741824)) fun i j => .int (i / j)
def oMod : Op2 := oI2c (fun _ j => decide (0 < j)) fun i j => .int (i % j)
def oPow : Op2 := oI2c (fun i j => decide (0 ≤ j ∧ j ≤ 1000 ∧ i.natAbs < 10000000000)) fun i j => .int (i ^ j.toNat)
theorem ev_sub (ha : EV cl X a fa) (hb : EV cl X b fb) : EV cl X (.BinOp a .Sub b pos) (eBin oSub fa fb) := ev_bin op_sub (oI2_ok (by intros; exact RelW.int _)) ha hb
theorem ev_mul (ha : EV cl X a fa) (hb : EV cl X b fb) : EV cl X (.BinOp a .Mult b pos) (eBin oMul fa fb) := ev_bin op_mulB (oI2c_ok (fun i j h => of_decide_eq_true h) (by intros; exact RelW.int _)) ha hb
theorem ev_div (ha : EV cl X a fa) (hb : EV cl X b fb) : EV cl X (.BinOp a .FloorDiv b pos) (eBin oDiv fa fb) := ev_bin op_fdiv (oI2c_ok (fun i j h => of_decide_eq_true h) (by intros; exact RelW.int _)) ha hb
theorem ev_mod (ha : EV cl X a fa) (hb : EV cl X b fb) : EV cl X (.BinOp a .Mod b pos) (eBin oMod fa fb) := ev_bin op_mod (oI2c_ok (fun i j h => of_decide_eq_true h) (by intros; exact RelW.int _)) ha hb
theorem ev_pow (ha : EV cl X a fa) (hb : EV cl X b fb) : EV cl X (.BinOp a .Pow b pos) (eBin oPow fa fb) := ev_bin op_pow (oI2c_ok (fun i j h => by
  have h := of_decide_eq_true h
  exact ⟨h.1, Int.le_trans h.2.1 (by decide), Nat.lt_trans h.2.2 (by decide)⟩) (by intros; exact RelW.int _)) ha hb
theorem ev_lt (ha : EV cl X a fa) (hb : EV cl X b fb) : EV cl X (.Compare a [.Lt] [b] pos) (eBin oLt fa fb) := ev_cmp op_lt (oI2_ok (by intros; exact RelW.bl _)) ha hb (nomark _)
theorem ev_le (ha : EV cl X a fa) (hb : EV cl X b fb) : EV cl X (.Compare a [.LtE] [b] pos) (eBin oLe fa fb) := ev_cmp op_le (oI2_ok (by intros; exact RelW.bl _)) ha hb (nomark _)
theorem ev_gt (ha : EV cl X a fa) (hb : EV cl X b fb) : EV cl X (.Compare a [.Gt] [b] pos) (eBin oGt fa fb) := ev_cmp op_gt (oI2_ok (by intros; exact RelW.bl _)) ha hb (nomark _)
theorem ev_ge (ha : EV cl X a fa) (hb : EV cl X b fb) : EV cl X (.Compare a [.GtE] [b] pos) (eBin oGe fa fb) := ev_cmp op_ge (oI2_ok (by intros; exact RelW.bl _)) ha hb (nomark _)
def oNeg : Op1 := fun x m => match x with
  | .int i => some (.int (-i), m)
  | _ => none
theorem ev_neg (ha : EV cl X a fa) : EV cl X (.UnaryOp .USub a pos) (eUn oNeg fa) := ev_un un_neg (fun {F ρ m H x vx w m' Q} s rx e k => by
  unfold oNeg at e
  split at e
  · cases e; cases rx.int_inv; exact ⟨_, rfl, Fin.same k s (.int _)⟩
  · cases e) ha

/-! adding: ints, texts, tuples, lists -/
def oAdd : Op2 := fun x y m => match x, y with
  | .int i, .int j => some (.int (i + j), m)
  | .str i, .str j => if i.length + j.length ≤ sizeLine then some (.str (i ++ j), m) else none
  | .tup i, .tup j => if i.length + j.length ≤ sizeLine then some (.tup (i ++ j), m) else none
  | x, y => match lstOf m x, lstOf m y with
    | some i, some j => if i.length + j.length ≤ sizeLine then some (.own (i ++ j), m) else none
    | _, _ => none
def rAddW (K : PySem.W.Frag) : R2 := fun x y H Q => rI0 (fun i j => .int (i + j)) x y H Q ∨ (∃ i j, x = .str i ∧ y = .str j ∧ i.length + j.length ≤ sizeLine ∧ Q (.str (i ++ j)) H) ∨ rCatA K x y H Q ∨ rCat x y H Q
theorem RelWs.nil_iff {g : G} {F : Hp} {ρ : List Addr} {l : List W} {vs : List V} (r : RelWs g F ρ l vs) : vs = [] ↔ l = [] := by
  rw [← List.length_eq_zero_iff, ← List.length_eq_zero_iff, r.length]
theorem oAdd_ok {g : G} : OpS2 g (rAddW g.K) oAdd := fun {F ρ m H x y vx vy w m' Q} s rx ry e k => by
  unfold oAdd at e
  split at e
  · cases e; cases rx.int_inv; cases ry.int_inv
    exact .inl ⟨_, _, rfl, rfl, Fin.same k s (.int _)⟩
  · split at e
    · cases e; cases rx.str_inv; cases ry.str_inv
      rename_i h
      exact .inr (.inl ⟨_, _, rfl, rfl, h, Fin.same k s (.str _)⟩)
    · cases e
  · split at e
    · rename_i i j h
      cases e
      cases rx with
      | tup qx rx =>
        cases ry with
        | tup qy ry =>
          refine .inr (.inr (.inl ⟨_, _, _, _, rfl, rfl, seqT s.sub qx, seqT s.sub qy, by rw [← rx.length, ← ry.length]; exact h, fun hx => ?_, fun hx hy => ?_, fun _ _ => Fin.tup k s (rx.app ry)⟩))
          · have z := rx.nil_iff.mp hx
            subst z
            exact Fin.same k s (.tup qy (by simpa using ry))
          · have z := ry.nil_iff.mp hy
            subst z
            exact Fin.same k s (.tup qx (by simpa using rx))
    · cases e
  · split at e
    · rename_i x' y' _ _ _ _ _ i j ei ej
      split at e
      · rename_i h
        cases e
        obtain ⟨p, xs, rfl, hx, rx⟩ := lstOf_rd s rx ei
        obtain ⟨q, ys, rfl, hy, ry⟩ := lstOf_rd s ry ej
        exact .inr (.inr (.inr ⟨p, q, xs, ys, rfl, rfl, hx, hy, by rw [← rx.length, ← ry.length]; exact h, Fin.own k s (rx.app ry)⟩))
      · cases e
    · cases e
theorem ev_add (ha : EV cl X a fa) (hb : EV cl X b fb) : EV cl X (.BinOp a .Add b pos) (eBin oAdd fa fb) := ev_bin (op_add.or (op_add_str.or (op_catA.or op_cat))) oAdd_ok ha hb

/-! == and != -/
mutual
def dOf : W → Option PyData
  | .non => some .none
  | .bl b => some (.bool b)
  | .int i => some (.int i)
  | .str x => some (.str x)
  | .tup l => (dsOf l).map .tuple
  | .lst l => (dsOf l).map .list
  | .fro l => (dsOf l).map .list
  | .own l => (dsOf l).map .list
  | .bor l => (dsOf l).map .list
  | .ref _ => none
def dsOf : List W → Option (List PyData)
  | [] => some []
  | w :: ws => match dOf w, dsOf ws with
    | some d, some ds => some (d :: ds)
    | _, _ => none
end
/-- .. of what stands in the heap, too -/
def dOfM (m : MH) (w : W) : Option PyData := match w with
  | .ref n => match m[n]? with
    | some (.lst l) => (dsOf l).map .list
    | _ => none
  | w => dOf w
section
variable {g : G} {F : Hp} {ρ : List Addr} {H : Hp} {m : MH}
mutual
theorem dOf_rd (s : SR g F ρ m H) : ∀ {w : W} {v : V} {d : PyData}, RelW g F ρ w v → dOf w = some d → Dp g.K H v d
  | .non, _, _, .non, e => by cases e; exact .non
  | .bl b, _, _, .bl _, e => by cases e; exact .bl b
  | .int b, _, _, .int _, e => by cases e; exact .int b
  | .str b, _, _, .str _, e => by cases e; exact .str b
  | .tup l, _, _, .tup q r, e => by
    unfold dOf at e
    cases z : dsOf l with
    | none => rw [z] at e; cases e
    | some ds => rw [z] at e; cases e; exact .tup (seqT s.sub q) (dsOf_rd s r z)
  | .lst l, _, _, .lst q r, e => by
    unfold dOf at e
    cases z : dsOf l with
    | none => rw [z] at e; cases e
    | some ds => rw [z] at e; cases e; exact .lst (SqL.of (s.sub _ _ q)) (dsOf_rd s r z)
  | .fro l, _, _, .fro q r, e => by
    unfold dOf at e
    cases z : dsOf l with
    | none => rw [z] at e; cases e
    | some ds => rw [z] at e; cases e; exact .lst (s.sub.seq q) (dsOf_rd s r z)
  | .ref _, _, _, .ref _, e => by cases e
theorem dsOf_rd (s : SR g F ρ m H) : ∀ {w : List W} {v : List V} {d : List PyData}, RelWs g F ρ w v → dsOf w = some d → DpAll g.K H v d
  | [], _, _, .nil, e => by cases e; exact .nil
  | w :: ws, _, _, .cons q r, e => by
    unfold dsOf at e
    split at e
    · rename_i d ds h1 h2
      cases e
      exact .cons (dOf_rd s q h1) (dsOf_rd s r h2)
    · cases e
end
theorem dOfM_rd (s : SR g F ρ m H) {w : W} {v : V} {d : PyData} (r : RdR g F ρ H w v) (e : dOfM m w = some d) : Dp g.K H v d := by
  have own : ∀ {l : List W}, OwnAt g F ρ H l v → (dsOf l).map PyData.list = some d → Dp g.K H v d := fun {l} ⟨a, vs, e1, e2, _, _, rr⟩ e => by
    subst e1
    cases z : dsOf l with
    | none => rw [z] at e; cases e
    | some ds => rw [z] at e; cases e; exact .lst (SqL.of e2) (dsOf_rd s rr z)
  cases w with
  | own l => exact own r e
  | bor l => exact own r e
  | ref n =>
    unfold dOfM at e
    simp only at e
    cases r with
    | ref q =>
      obtain ⟨o, e1, _, c⟩ := s.at q
      rw [e1] at e
      cases o with
      | lst l =>
        obtain ⟨vs, h1, h2⟩ := c
        simp only at e
        cases z : dsOf l with
        | none => rw [z] at e; cases e
        | some ds => rw [z] at e; cases e; exact .lst (SqL.of h1) (dsOf_rd s h2 z)
      | dct _ => cases e
      | ins _ _ => cases e
  | non | bl | int | str | tup | lst | fro => exact dOf_rd s r e
end
def oEqB (x y : W) (m : MH) : Option Bool := match x, y with
  | .int i, .int j => some (decide (i = j))
  | .bl i, .bl j => some (decide (i = j))
  | .str i, .str j => some (decide (i = j))
  | .non, .int _ => some false
  | .int _, .non => some false
  | .non, .non => some true
  | x, y => match dOfM m x, dOfM m y with
    | some d, some e => if SeqAt.shaped d && SeqAt.shaped e then some (PyData.eqv d e) else none
    | _, _ => none
def oEq : Op2 := fun x y m => (oEqB x y m).map fun b => (.bl b, m)
def oNe : Op2 := fun x y m => (oEqB x y m).map fun b => (.bl (!b), m)
theorem oEqB_ok {g : G} {F : Hp} {ρ : List Addr} {H : Hp} {m : MH} {x y : W} {vx vy : V} {b : Bool} (s : SR g F ρ m H) (rx : RdR g F ρ H x vx) (ry : RdR g F ρ H y vy) (e : oEqB x y m = some b) :
    (scal vx vy = true ∧ b = decide (vx = vy)) ∨ ∃ d d', Dp g.K H vx d ∧ Dp g.K H vy d' ∧ SeqAt.shaped d = true ∧ SeqAt.shaped d' = true ∧ b = PyData.eqv d d' := by
  unfold oEqB at e
  split at e
  · cases e; cases rx.int_inv; cases ry.int_inv; exact .inl ⟨rfl, by simp⟩
  · cases e; cases rx.bl_inv; cases ry.bl_inv; exact .inl ⟨rfl, by simp⟩
  · cases e; cases rx.str_inv; cases ry.str_inv; exact .inl ⟨rfl, by simp⟩
  · cases e; cases rx.non_inv; cases ry.int_inv; exact .inl ⟨rfl, by simp⟩
  · cases e; cases rx.int_inv; cases ry.non_inv; exact .inl ⟨rfl, by simp⟩
  · cases e; cases rx.non_inv; cases ry.non_inv; exact .inl ⟨rfl, by simp⟩
  · split at e
    · rename_i d d' h1 h2
      split at e
      · rename_i h
        cases e
        rw [Bool.and_eq_true] at h
        exact .inr ⟨d, d', dOfM_rd s rx h1, dOfM_rd s ry h2, h.1, h.2, rfl⟩
      · cases e
    · cases e
theorem oEq_ok {g : G} : OpS2 g (fun x y H Q => rEq x y H Q ∨ rEqD g.K x y H Q) oEq := fun {F ρ m H x y vx vy w m' Q} s rx ry e k => by
  unfold oEq at e
  cases z : oEqB x y m with
  | none => rw [z] at e; cases e
  | some b =>
    rw [z] at e; cases e
    rcases oEqB_ok s rx ry z with ⟨h1, h2⟩ | ⟨d, d', h1, h2, h3, h4, h5⟩
    · exact .inl ⟨h1, by rw [← h2]; exact Fin.same k s (.bl _)⟩
    · exact .inr ⟨d, d', h1, h2, h3, h4, by rw [← h5]; exact Fin.same k s (.bl _)⟩
theorem ev_eq (hu : X.A.units + 64 < cLine) (ha : EV cl X a fa) (hb : EV cl X b fb) : EV cl X (.Compare a [.Eq] [b] pos) (eBin oEq fa fb) := ev_cmp (op_eq.or (op_eqD hu)) oEq_ok ha hb (nomark _)
theorem oNe_ok {g : G} : OpS2 g (fun x y H Q => rNe x y H Q ∨ rNeD g.K x y H Q) oNe := fun {F ρ m H x y vx vy w m' Q} s rx ry e k => by
  unfold oNe at e
  cases z : oEqB x y m with
  | none => rw [z] at e; cases e
  | some b =>
    rw [z] at e; cases e
    rcases oEqB_ok s rx ry z with ⟨h1, h2⟩ | ⟨d, d', h1, h2, h3, h4, h5⟩
    · exact .inl ⟨h1, by rw [← h2]; exact Fin.same k s (.bl _)⟩
    · exact .inr ⟨d, d', h1, h2, h3, h4, by rw [← h5]; exact Fin.same k s (.bl _)⟩
theorem ev_ne (hu : X.A.units + 64 < cLine) (ha : EV cl X a fa) (hb : EV cl X b fb) : EV cl X (.Compare a [.NotEq] [b] pos) (eBin oNe fa fb) := ev_cmp (op_ne.or (op_neD hu)) oNe_ok ha hb (nomark _)

/-! is None, is True -/
def isNon : W → Bool
  | .non => true
  | _ => false
theorem isNon_ok {g : G} {F : Hp} {ρ : List Addr} {H : Hp} {x : W} {v : V} (r : RdR g F ρ H x v) : decide (v = .non) = isNon x := by
  cases x with
  | own l => obtain ⟨a, vs, rfl, _⟩ := r; rfl
  | bor l => obtain ⟨a, vs, rfl, _⟩ := r; rfl
  | non | bl | int | str | tup | lst | fro | ref => cases r <;> rfl
def oIs : Op2 := fun x y m => match y with
  | .non => some (.bl (isNon x), m)
  | .bl j => match x with
    | .bl i => some (.bl (decide (i = j)), m)
    | _ => none
  | _ => none
def oIsNot : Op2 := fun x y m => match y with
  | .non => some (.bl (!isNon x), m)
  | .bl j => match x with
    | .bl i => some (.bl (!decide (i = j)), m)
    | _ => none
  | _ => none
theorem oIs_ok {g : G} : OpS2 g (fun x y H Q => (y = V.non ∧ Q (.bl (decide (x = .non))) H) ∨ rIsB x y H Q) oIs := fun {F ρ m H x y vx vy w m' Q} s rx ry e k => by
  unfold oIs at e
  split at e
  · cases e; cases ry.non_inv
    exact .inl ⟨rfl, by rw [isNon_ok rx]; exact Fin.same k s (.bl _)⟩
  · split at e
    · cases e; cases rx.bl_inv; cases ry.bl_inv
      exact .inr ⟨_, _, rfl, rfl, Fin.same k s (.bl _)⟩
    · cases e
  · cases e
theorem ev_is (ha : EV cl X a fa) (hb : EV cl X b fb) : EV cl X (.Compare a [.Is] [b] pos) (eBin oIs fa fb) := ev_cmp (op_isN.or op_isBl) oIs_ok ha hb (nomark _)
theorem oIsNot_ok {g : G} : OpS2 g (fun x y H Q => (y = V.non ∧ Q (.bl (!decide (x = .non))) H) ∨ rNotB x y H Q) oIsNot := fun {F ρ m H x y vx vy w m' Q} s rx ry e k => by
  unfold oIsNot at e
  split at e
  · cases e; cases ry.non_inv
    exact .inl ⟨rfl, by rw [isNon_ok rx]; exact Fin.same k s (.bl _)⟩
  · split at e
    · cases e; cases rx.bl_inv; cases ry.bl_inv
      exact .inr ⟨_, _, rfl, rfl, Fin.same k s (.bl _)⟩
    · cases e
  · cases e
theorem ev_isnot (ha : EV cl X a fa) (hb : EV cl X b fb) : EV cl X (.Compare a [.IsNot] [b] pos) (eBin oIsNot fa fb) := ev_cmp (op_notN.or op_notBl) oIsNot_ok ha hb (nomark _)

/-! ### tests -/
def tOf (f : FE) : FT := fun env m => match f env m with
  | some (.bl b, m') => some (b, m')
  | _ => none
theorem tv_val (ha : EV cl X e fa) (he : ∀ whole, isTrue e X.env whole = (do let v ← whole; standAt e.pos; holding [v] (truthy v)) := by intro _; rfl) : TV cl X e (tOf fa) := ⟨PT.imp (pt_val ha.pe he) fun σ H Q h => by
  obtain ⟨F, ρ, m, env, b, m', s, er, e, k⟩ := h
  unfold tOf at e
  split at e
  · rename_i b' m1 e1
    cases e
    refine ⟨F, ρ, m, env, _, _, s, er, e1, fun F1 ρ1 H1 v1 A1 s1 r1 => ?_⟩
    cases r1
    exact ⟨_, rfl, k F1 ρ1 H1 A1 s1⟩
  · cases e⟩
def tAndF (f h : FT) : FT := fun env m => match f env m with
  | some (true, m') => h env m'
  | some (false, m') => some (false, m')
  | none => none
def tOrF (f h : FT) : FT := fun env m => match f env m with
  | some (true, m') => some (true, m')
  | some (false, m') => h env m'
  | none => none
def tNotF (f : FT) : FT := fun env m => match f env m with
  | some (b, m') => some (!b, m')
  | none => none
structure WV (cl : Nat → Cl) (X : Cx) (e : Expr) (f : FT) : Prop where
  pw : PW X e (tT ⟨X.K, cl⟩ f)
variable {ta tb : FT} {rest : List Expr}
theorem WV.tv (h : WV cl X e ta) : TV cl X e ta := ⟨h.pw.pt⟩
theorem wv_and1 (ha : TV cl X a ta) : WV cl X (.BoolOp .And [a] pos) ta := ⟨pw_and1 ha.pt⟩
theorem wv_or1 (ha : TV cl X a ta) : WV cl X (.BoolOp .Or [a] pos) ta := ⟨pw_or1 ha.pt⟩
theorem tT_and {g : G} {σ H Q} (h : tT g (tAndF ta tb) σ H Q) : tT g ta σ H fun c H1 => if c = true then tT g tb σ H1 Q else Q false H1 := by
  obtain ⟨F, ρ, m, env, b, m', s, er, e, k⟩ := h
  unfold tAndF at e
  split at e
  · rename_i m1 e1
    refine ⟨F, ρ, m, env, _, _, s, er, e1, fun F1 ρ1 H1 A1 s1 => ?_⟩
    refine iteT ?_
    exact ⟨F1, ρ1, m1, env, b, m', s1, er.adv A1, e, fun F2 ρ2 H2 A2 s2 => k F2 ρ2 H2 (A1.trans A2) s2⟩
  · rename_i m1 e1
    cases e
    refine ⟨F, ρ, m, env, _, _, s, er, e1, fun F1 ρ1 H1 A1 s1 => ?_⟩
    refine iteF ?_
    exact k F1 ρ1 H1 A1 s1
  · cases e
theorem tT_or {g : G} {σ H Q} (h : tT g (tOrF ta tb) σ H Q) : tT g ta σ H fun c H1 => if c = true then Q true H1 else tT g tb σ H1 Q := by
  obtain ⟨F, ρ, m, env, b, m', s, er, e, k⟩ := h
  unfold tOrF at e
  split at e
  · rename_i m1 e1
    cases e
    refine ⟨F, ρ, m, env, _, _, s, er, e1, fun F1 ρ1 H1 A1 s1 => ?_⟩
    refine iteT ?_
    exact k F1 ρ1 H1 A1 s1
  · rename_i m1 e1
    refine ⟨F, ρ, m, env, _, _, s, er, e1, fun F1 ρ1 H1 A1 s1 => ?_⟩
    refine iteF ?_
    exact ⟨F1, ρ1, m1, env, b, m', s1, er.adv A1, e, fun F2 ρ2 H2 A2 s2 => k F2 ρ2 H2 (A1.trans A2) s2⟩
  · cases e
theorem wv_and (ha : TV cl X a ta) (hb : WV cl X (.BoolOp .And (b :: rest) pos) tb) : WV cl X (.BoolOp .And (a :: b :: rest) pos) (tAndF ta tb) := ⟨PW.imp (pw_and ha.pt hb.pw) fun _ _ _ h => tT_and h⟩
theorem wv_or (ha : TV cl X a ta) (hb : WV cl X (.BoolOp .Or (b :: rest) pos) tb) : WV cl X (.BoolOp .Or (a :: b :: rest) pos) (tOrF ta tb) := ⟨PW.imp (pw_or ha.pt hb.pw) fun _ _ _ h => tT_or h⟩
theorem tT_not {g : G} {σ H Q} (h : tT g (tNotF ta) σ H Q) : tT g ta σ H fun c H1 => Q (!c) H1 := by
  obtain ⟨F, ρ, m, env, b, m', s, er, e, k⟩ := h
  unfold tNotF at e
  split at e
  · rename_i b1 m1 e1
    cases e
    exact ⟨F, ρ, m, env, _, _, s, er, e1, fun F1 ρ1 H1 A1 s1 => k F1 ρ1 H1 A1 s1⟩
  · cases e
theorem tv_not (ha : TV cl X a ta) : TV cl X (.UnaryOp .Not a pos) (tNotF ta) := ⟨PT.imp (pt_not ha.pt) fun _ _ _ h => tT_not h⟩
/-- .. as values -/
def eAnd (f h : FE) : FE := fun env m => match f env m with
  | some (.bl true, m') => h env m'
  | some (.bl false, m') => some (.bl false, m')
  | _ => none
def eOr (f h : FE) : FE := fun env m => match f env m with
  | some (.bl true, m') => some (.bl true, m')
  | some (.bl false, m') => h env m'
  | _ => none
def eNot (f : FE) : FE := fun env m => match f env m with
  | some (.bl b, m') => some (.bl (!b), m')
  | _ => none
theorem ev_one {op} (ha : EV cl X a fa) : EV cl X (.BoolOp op [a] pos) fa := ⟨pe_one ha.pe⟩
theorem ev_and (ha : EV cl X a fa) (hb : EV cl X (.BoolOp .And (b :: rest) pos) fb) : EV cl X (.BoolOp .And (a :: b :: rest) pos) (eAnd fa fb) := ⟨PE.imp (pe_and ha.pe hb.pe) fun σ H Q h => by
  obtain ⟨F, ρ, m, env, b, m', s, er, e, k⟩ := h
  unfold eAnd at e
  split at e
  · rename_i m1 e1
    refine ⟨F, ρ, m, env, _, _, s, er, e1, fun F1 ρ1 H1 v1 A1 s1 r1 => ?_⟩
    cases r1
    refine ⟨_, rfl, ?_⟩
    rw [if_pos rfl]
    exact ⟨F1, ρ1, m1, env, _, m', s1, er.adv A1, e, fun F2 ρ2 H2 v2 A2 s2 r2 => k F2 ρ2 H2 v2 (A1.trans A2) s2 (r2.back A1)⟩
  · rename_i m1 e1
    cases e
    refine ⟨F, ρ, m, env, _, _, s, er, e1, fun F1 ρ1 H1 v1 A1 s1 r1 => ?_⟩
    cases r1
    refine ⟨_, rfl, ?_⟩
    rw [if_neg Bool.false_ne_true]
    exact k F1 ρ1 H1 _ A1 s1 (.bl _)
  · cases e⟩
theorem ev_or (ha : EV cl X a fa) (hb : EV cl X (.BoolOp .Or (b :: rest) pos) fb) : EV cl X (.BoolOp .Or (a :: b :: rest) pos) (eOr fa fb) := ⟨PE.imp (pe_or ha.pe hb.pe) fun σ H Q h => by
  obtain ⟨F, ρ, m, env, b, m', s, er, e, k⟩ := h
  unfold eOr at e
  split at e
  · rename_i m1 e1
    cases e
    refine ⟨F, ρ, m, env, _, _, s, er, e1, fun F1 ρ1 H1 v1 A1 s1 r1 => ?_⟩
    cases r1
    refine ⟨_, rfl, ?_⟩
    rw [if_pos rfl]
    exact k F1 ρ1 H1 _ A1 s1 (.bl _)
  · rename_i m1 e1
    refine ⟨F, ρ, m, env, _, _, s, er, e1, fun F1 ρ1 H1 v1 A1 s1 r1 => ?_⟩
    cases r1
    refine ⟨_, rfl, ?_⟩
    rw [if_neg Bool.false_ne_true]
    exact ⟨F1, ρ1, m1, env, _, m', s1, er.adv A1, e, fun F2 ρ2 H2 v2 A2 s2 r2 => k F2 ρ2 H2 v2 (A1.trans A2) s2 (r2.back A1)⟩
  · cases e⟩
theorem ev_not (ha : EV cl X a fa) : EV cl X (.UnaryOp .Not a pos) (eNot fa) := ⟨PE.imp (pe_not ha.pe) fun σ H Q h => by
  obtain ⟨F, ρ, m, env, b, m', s, er, e, k⟩ := h
  unfold eNot at e
  split at e
  · rename_i b1 m1 e1
    cases e
    refine ⟨F, ρ, m, env, _, _, s, er, e1, fun F1 ρ1 H1 v1 A1 s1 r1 => ?_⟩
    cases r1
    exact ⟨_, rfl, k F1 ρ1 H1 _ A1 s1 (.bl _)⟩
  · cases e⟩

/-! ### arguments, displays -/
def aNil : FA := fun _ m => some ([], m)
def aCons (fa : FE) (r : FA) : FA := fun env m => match fa env m with
  | some (x, m1) => match frz x with
    | some x' => match r env m1 with
      | some (xs, m2) => some (x' :: xs, m2)
      | none => none
    | none => none
  | none => none
variable {fr : FA}
theorem av_nil : AV cl X [] aNil := ⟨PA.imp pa_nil fun σ H Q h => by
  obtain ⟨F, ρ, m, env, b, m', s, er, e, k⟩ := h
  cases e
  exact k F ρ H _ Adv.refl s .nil⟩
theorem tA_cons {g : G} {σ H Q} (h : tA g (aCons fa fr) σ H Q) : tE g fa σ H fun x H1 => tA g fr σ H1 fun xs H2 => Q (x :: xs) H2 := by
  obtain ⟨F, ρ, m, env, b, m', s, er, e, k⟩ := h
  unfold aCons at e
  split at e
  · rename_i x m1 e1
    split at e
    · rename_i x' ef
      split at e
      · rename_i xs m2 e2
        cases e
        refine ⟨F, ρ, m, env, _, _, s, er, e1, fun F1 ρ1 H1 v1 A1 s1 r1 => ?_⟩
        obtain ⟨F1', A1', s1', q, _⟩ := r1.frz A1 s1 ef
        exact ⟨F1', ρ1, m1, env, _, _, s1', er.adv A1', e2, fun F2 ρ2 H2 v2 A2 s2 r2 => k F2 ρ2 H2 _ (A1'.trans A2) s2 (.cons (q.mono A2.f A2.r) r2)⟩
      · cases e
    · cases e
  · cases e
theorem av_cons (ha : EV cl X e fa) (hr : AV cl X es fr) (hs : starEach (e :: es) X.env = (false, eval e X.env) :: starEach es X.env := by rfl) : AV cl X (e :: es) (aCons fa fr) :=
  ⟨PA.imp (pa_cons ha.pe hr.pa hs) fun _ _ _ h => tA_cons h⟩
def oTup (n : Nat) : OpN := fun xs m => if xs.length = n then some (.tup xs, m) else none
def oOwn (n : Nat) : OpN := fun xs m => if xs.length = n then some (.own xs, m) else none
theorem ev_tup (n : Nat) {x1} (h : AV cl X es fr) (hn : n ≤ 1000 := by decide) : EV cl X (.Tuple es x1 pos) (eArg (oTup n) fr) := ⟨PE.imp (pe_tup h.pa) fun _ _ _ h => tE_arg (R := fun xs H Q => xs.length ≤ sizeLine ∧ ∀ p, H p = none → Q (.ref p) (upd H p (.tup xs))) (fun {F ρ m H xs vs w m' Q} s r e k => by
  unfold oTup at e
  split at e
  · rename_i hl
    cases e
    refine ⟨?_, Fin.tup k s r⟩
    rw [← r.length, hl]
    exact Nat.le_of_lt (small1000 hn)
  · cases e) h⟩
theorem ev_lst (n : Nat) (h : AV cl X es fr) (hn : n ≤ 1000 := by decide) : EV cl X (.List es pos) (eArg (oOwn n) fr) := ⟨PE.imp (pe_lst h.pa) fun _ _ _ h => tE_arg (R := fun xs H Q => xs.length ≤ sizeLine ∧ ∀ p, H p = none → Q (.ref p) (upd H p (.lst xs))) (fun {F ρ m H xs vs w m' Q} s r e k => by
  unfold oOwn at e
  split at e
  · rename_i hl
    cases e
    refine ⟨?_, Fin.own k s r⟩
    rw [← r.length, hl]
    exact Nat.le_of_lt (small1000 hn)
  · cases e) h⟩
end
end M
namespace M
open PySem L2

/-! ### items, slices -/
theorem RelWs.atI {g : G} {F : Hp} {ρ : List Addr} {l : List W} {vs : List V} {i : Int} {w : W} (r : RelWs g F ρ l vs) (e : atI l i = some w) : ∃ v, L2.atI vs i = some v ∧ RelW g F ρ w v := by
  unfold L2.atI at e ⊢
  rw [← r.length]
  cases q : ixN l.length i with
  | none => rw [q] at e; cases e
  | some j => rw [q] at e; exact r.get e
def oIx : Op2 := fun x y m => match y with
  | .int i => match x with
    | .str z => if z.length ≤ sizeLine then (L2.atI z.cps.toList i).map fun c => (.str ⟨#[c]⟩, m) else none
    | x => match sqOf m x with
      | some l => (L2.atI l i).map fun w => (w, m)
      | none => none
  | _ => none
def eltOk : W → Bool
  | .own _ => false
  | .bor _ => false
  | _ => true
theorem RelW.elt {g : G} {F : Hp} {ρ : List Addr} {w : W} {v : V} (r : RelW g F ρ w v) : eltOk w = true := by cases r <;> rfl
theorem RelW.res {g : G} {F : Hp} {ρ : List Addr} {H0 H : Hp} {w : W} {v : V} (r : RelW g F ρ w v) : ResR g F ρ H0 H w v := by cases r <;> (constructor <;> assumption)
theorem RelW.rd {g : G} {F : Hp} {ρ : List Addr} {H : Hp} {w : W} {v : V} (r : RelW g F ρ w v) : RdR g F ρ H w v := by cases r <;> (constructor <;> assumption)
theorem RelW.slot {g : G} {F : Hp} {ρ : List Addr} {H : Hp} {w : W} {v : V} (r : RelW g F ρ w v) : SlotR g F ρ H w v := by cases r <;> (constructor <;> assumption)
section
variable {cl : Nat → Cl} {X : Cx} {pos : Pos} {a b c e : Expr} {fa fb fc : FE} {es : List Expr} {fr : FA}
theorem oIx_ok {g : G} : OpS2 g (rIx g.K) oIx := fun {F ρ m H x y vx vy w m' Q} s rx ry e k => by
  unfold oIx at e
  split at e
  · cases ry.int_inv
    split at e
    · split at e
      · rename_i z hz
        cases rx.str_inv
        cases q : L2.atI z.cps.toList _ with
        | none => rw [q] at e; cases e
        | some c => rw [q] at e; cases e; exact .inr (.inr ⟨_, _, c, rfl, rfl, hz, q, Fin.same k s (RelW.str _)⟩)
      · cases e
    · split at e
      · rename_i l hl
        cases q : L2.atI l _ with
        | none => rw [q] at e; cases e
        | some c =>
          rw [q] at e; cases e
          obtain ⟨p, vs, rfl, hs, r⟩ := sqOf_rd s rx hl
          obtain ⟨v, hv, rv⟩ := r.atI q
          rcases hs with hs | hs
          · exact .inl ⟨p, vs, _, v, rfl, rfl, hs, hv, Fin.same k s rv.res⟩
          · exact .inr (.inl ⟨p, vs, _, v, rfl, rfl, hs, hv, Fin.same k s rv.res⟩)
      · cases e
  · cases e
theorem ev_ix (ha : EV cl X a fa) (hb : EV cl X b fb) (hs : PlainIx b := by intro _ _; rfl) : EV cl X (.Subscript a b pos) (eBin oIx fa fb) :=
  ⟨PE.imp (pe_ix ix_seq ha.pe hb.pe hs) fun _ _ _ h => tE_bin oIx_ok h⟩

def cutG {α : Type} (xs : List α) (lo hi : Option Int) : List α := (xs.drop (HT.sIx xs.length 0 lo)).take (HT.sIx xs.length xs.length hi - HT.sIx xs.length 0 lo)
theorem cutG_V (xs : List V) (lo hi : Option Int) : cutG xs lo hi = cutV xs lo hi := rfl
theorem RelWs.cut {g : G} {F : Hp} {ρ : List Addr} {l : List W} {vs : List V} (r : RelWs g F ρ l vs) (lo hi : Option Int) : RelWs g F ρ (cutG l lo hi) (cutV vs lo hi) := by
  unfold cutG cutV
  rw [r.length]
  exact (r.drop _).take _
abbrev FO := En → MH → Option (Option Int × MH)
def tO (g : G) (f : FO) : TO := fun σ H Q => ∃ F ρ m env w m', SR g F ρ m H ∧ ER g F ρ env σ H ∧ f env m = some (w, m') ∧
  ∀ F' ρ' H', Adv F ρ H F' ρ' H' → SR g F' ρ' m' H' → Q w H'
structure OV (cl : Nat → Cl) (X : Cx) (e : Option Expr) (f : FO) : Prop where
  po : PO X e (tO ⟨X.K, cl⟩ f)
def oNo : FO := fun _ m => some (none, m)
def oAt (f : FE) : FO := fun env m => match f env m with
  | some (.int i, m') => some (some i, m')
  | _ => none
theorem PO.imp {X : Cx} {e : Option Expr} {t t' : TO} (h : PO X e t) (k : ∀ σ H Q, t' σ H Q → t σ H Q) : PO X e t' := by
  obtain ⟨r⟩ := h
  exact ⟨fun pins s σ H Q I q => r pins s σ H Q I (k σ H _ q)⟩
theorem ov_none : OV cl X none oNo := ⟨PO.imp po_none fun σ H Q h => by
  obtain ⟨F, ρ, m, env, w, m', s, er, e, k⟩ := h
  cases e
  exact k F ρ H Adv.refl s⟩
theorem ov_some (ha : EV cl X a fa) : OV cl X (some a) (oAt fa) := ⟨PO.imp (po_some ha.pe) fun σ H Q h => by
  obtain ⟨F, ρ, m, env, w, m', s, er, e, k⟩ := h
  unfold oAt at e
  split at e
  · rename_i i m1 e1
    cases e
    exact ⟨F, ρ, m, env, _, _, s, er, e1, fun F1 ρ1 H1 v A1 s1 r1 => by cases r1; exact ⟨_, rfl, k F1 ρ1 H1 A1 s1⟩⟩
  · cases e⟩
def oCut (x : W) (lo hi : Option Int) (m : MH) : Option (W × MH) := match x with
  | .tup l => some (.tup (cutG l lo hi), m)
  | .str z => if z.length ≤ sizeLine then some (.str (cutS z lo hi), m) else none
  | x => match lsOf m x with
    | some l => some (.own (cutG l lo hi), m)
    | none => none
def eCut (fa : FE) (fl fh : FO) : FE := fun env m => match fa env m with
  | some (x, m1) => match fl env m1 with
    | some (lo, m2) => match fh env m2 with
      | some (hi, m3) => oCut x lo hi m3
      | none => none
    | none => none
  | none => none
theorem cutG_all {α : Type} {xs : List α} {lo hi : Option Int} (h : HT.sIx xs.length 0 lo = 0 ∧ HT.sIx xs.length xs.length hi = xs.length) : cutG xs lo hi = xs := by
  unfold cutG; rw [h.1, h.2]; simp
theorem ev_cut {lo hi : Option Expr} {fl fh : FO} {p2 : Pos} (ha : EV cl X a fa) (hl : OV cl X lo fl) (hh : OV cl X hi fh) : EV cl X (.Subscript a (.Slice lo hi none p2) pos) (eCut fa fl fh) :=
  ⟨PE.imp (pe_slice (sl_list.or (sl_tupA.or sl_str)) ha.pe hl.po hh.po) fun σ H Q h => by
  obtain ⟨F, ρ, m, env, w, m', s, er, e, k⟩ := h
  unfold eCut at e
  split at e
  · rename_i x m1 e1
    split at e
    · rename_i l m2 e2
      split at e
      · rename_i u m3 e3
        refine ⟨F, ρ, m, env, _, _, s, er, e1, fun F1 ρ1 H1 v1 A1 s1 r1 => ?_⟩
        refine ⟨F1, ρ1, m1, env, _, _, s1, er.adv A1, e2, fun F2 ρ2 H2 A2 s2 => ?_⟩
        refine ⟨F2, ρ2, m2, env, _, _, s2, (er.adv A1).adv A2, e3, fun F3 ρ3 H3 A3 s3 => ?_⟩
        have r3 := (r1.rd.adv A2).adv A3
        have A := (A1.trans A2).trans A3
        have k' : Fin ⟨X.K, cl⟩ F3 ρ3 H3 w m' Q := fun F4 ρ4 H4 v4 A4 s4 r4 => k F4 ρ4 H4 v4 (A.trans A4) s4 (r4.back A)
        unfold oCut at e
        split at e
        · cases e
          cases r3 with
          | tup q r =>
            refine .inr (.inl ⟨_, _, rfl, seqT s3.sub q, fun h => ?_, fun h => Fin.tup k' s3 (r.cut l u)⟩)
            have h' := h
            rw [← r.length] at h'
            rw [cutG_all h'] at k'
            exact Fin.same k' s3 (RelW.tup q r)
        · split at e
          · rename_i hz
            cases e
            cases r3.str_inv
            exact .inr (.inr ⟨_, rfl, hz, Fin.same k' s3 (RelW.str _)⟩)
          · cases e
        · split at e
          · rename_i l' hl'
            cases e
            obtain ⟨p, vs, rfl, hs, r⟩ := lsOf_rd s3 r3 hl'
            exact .inl ⟨p, vs, rfl, hs, Fin.own k' s3 (r.cut l u)⟩
          · cases e
      · cases e
    · cases e
  · cases e⟩
/-- xs[::-1] -/
def oRev : Op1 := fun x m => match lsOf m x with
  | some l => some (.own l.reverse, m)
  | none => none
theorem ev_rev {k : Nat} {p1 p2 p3 : Pos} (ha : EV cl X a fa) : EV cl X (.Subscript a (.Slice none none (some (.UnaryOp .USub (.Constant (.int 1) k p1) p2)) p3) pos) (eUn oRev fa) :=
  ⟨PE.imp (pe_revL ha.pe) fun σ H Q h => tE_un (R := fun x H1 Q => ∃ a xs, x = .ref a ∧ SqL X.K H1 a xs ∧ ∀ p, H1 p = none → Q (.ref p) (upd H1 p (.lst xs.reverse))) (fun {F ρ m H x vx w m' Q} s rx e k => by
    unfold oRev at e
    split at e
    · rename_i l hl
      cases e
      obtain ⟨p, vs, rfl, hs, r⟩ := lsOf_rd s rx hl
      exact ⟨p, vs, rfl, hs, Fin.own k s r.rev⟩
    · cases e) h⟩

/-! ### in -/
def flatW : W → Bool
  | .non => true
  | .bl _ => true
  | .int _ => true
  | .str _ => true
  | _ => false
def toV : W → V
  | .non => .non
  | .bl b => .bl b
  | .int i => .int i
  | .str x => .str x
  | _ => .non
theorem RelW.flat {g : G} {F : Hp} {ρ : List Addr} {w : W} {v : V} (r : RelW g F ρ w v) (h : flatW w = true) : v = toV w ∧ flatV v = true := by
  cases r <;> first | (cases h; done) | exact ⟨rfl, rfl⟩
theorem RelWs.flat {g : G} {F : Hp} {ρ : List Addr} : ∀ {w : List W} {v : List V}, RelWs g F ρ w v → w.all flatW = true → v = w.map toV ∧ v.all flatV = true
  | _, _, .nil, _ => ⟨rfl, rfl⟩
  | _ :: _, _ :: _, .cons q r, h => by
    rw [List.all_cons, Bool.and_eq_true] at h
    obtain ⟨e1, e2⟩ := q.flat h.1
    obtain ⟨e3, e4⟩ := RelWs.flat r h.2
    exact ⟨by rw [List.map_cons, ← e1, ← e3], by rw [List.all_cons, e2, e4]; rfl⟩
def inW (x : W) (l : List W) : Bool := inV (toV x) (l.map toV)
def oIn (neg : Bool) : Op2 := fun x y m => match sqOf m y with
  | some l => if flatW x && l.all flatW then some (.bl (if neg then !inW x l else inW x l), m) else none
  | none => none
theorem RdR.of_flat {g : G} {F : Hp} {ρ : List Addr} {H : Hp} {w : W} {v : V} (r : RdR g F ρ H w v) (h : flatW w = true) : RelW g F ρ w v := by
  cases w <;> first | exact r | cases h
theorem oIn_ok {g : G} {neg : Bool} : OpS2 g (rIn g.K neg) (oIn neg) := fun {F ρ m H x y vx vy w m' Q} s rx ry e k => by
  unfold oIn at e
  split at e
  · rename_i l hl
    split at e
    · rename_i h
      cases e
      rw [Bool.and_eq_true] at h
      obtain ⟨e1, e2⟩ := (rx.of_flat h.1).flat h.1
      obtain ⟨p, vs, rfl, hs, r⟩ := sqOf_rd s ry hl
      obtain ⟨e3, e4⟩ := r.flat h.2
      refine ⟨p, vs, rfl, hs, e2, e4, ?_⟩
      rw [e1, e3]
      exact Fin.same k s (RelW.bl _)
    · cases e
  · cases e
theorem ev_in (ha : EV cl X a fa) (hb : EV cl X b fb) (hm : behindInMarks .In b = false := by rfl) : EV cl X (.Compare a [.In] [b] pos) (eBin (oIn false) fa fb) := ev_cmp op_in_seq oIn_ok ha hb hm
theorem ev_notin (ha : EV cl X a fa) (hb : EV cl X b fb) (hm : behindInMarks .NotIn b = false := by rfl) : EV cl X (.Compare a [.NotIn] [b] pos) (eBin (oIn true) fa fb) := ev_cmp op_notIn_seq oIn_ok ha hb hm
/-! ### comparisons, by what they do -/
def CmpV (cl : Nat → Cl) (X : Cx) (op : CmpOp) (o : Op2) : Prop := ∃ R, OpR X (compareOp op) R ∧ OpS2 ⟨X.K, cl⟩ R o
theorem cm_lt : CmpV cl X .Lt oLt := ⟨_, op_lt, oI2_ok (by intros; exact RelW.bl _)⟩
theorem cm_le : CmpV cl X .LtE oLe := ⟨_, op_le, oI2_ok (by intros; exact RelW.bl _)⟩
theorem cm_gt : CmpV cl X .Gt oGt := ⟨_, op_gt, oI2_ok (by intros; exact RelW.bl _)⟩
theorem cm_ge : CmpV cl X .GtE oGe := ⟨_, op_ge, oI2_ok (by intros; exact RelW.bl _)⟩
theorem cm_in : CmpV cl X .In (oIn false) := ⟨_, op_in_seq, oIn_ok⟩
theorem cm_notin : CmpV cl X .NotIn (oIn true) := ⟨_, op_notIn_seq, oIn_ok⟩
theorem cm_is : CmpV cl X .Is oIs := ⟨_, op_isN.or op_isBl, oIs_ok⟩
theorem cm_isnot : CmpV cl X .IsNot oIsNot := ⟨_, op_notN.or op_notBl, oIsNot_ok⟩
theorem cm_eq (hu : X.A.units + 64 < cLine) : CmpV cl X .Eq oEq := ⟨_, op_eq.or (op_eqD hu), oEq_ok⟩
theorem cm_ne (hu : X.A.units + 64 < cLine) : CmpV cl X .NotEq oNe := ⟨_, op_ne.or (op_neD hu), oNe_ok⟩
theorem ev_cm {op : CmpOp} {o : Op2} (h : CmpV cl X op o) (ha : EV cl X a fa) (hb : EV cl X b fb) (hm : behindInMarks op b = false := by first | exact nomark _ | rfl) : EV cl X (.Compare a [op] [b] pos) (eBin o fa fb) := by
  obtain ⟨R, h1, h2⟩ := h
  exact ev_cmp h1 h2 ha hb hm
theorem tT_E {g : G} {σ H} {Q : Bool → Hp → Prop} {t : TE} (ht : ∀ σ H Q, tE g fa σ H Q → t σ H Q) (h : tT g (tOf fa) σ H Q) : t σ H fun x H1 => ∃ k, x = .bl k ∧ Q k H1 := by
  refine ht _ _ _ ?_
  obtain ⟨F, ρ, m, env, b, m', s, er, e, k⟩ := h
  unfold tOf at e
  split at e
  · rename_i b' m1 e1
    cases e
    refine ⟨F, ρ, m, env, _, _, s, er, e1, fun F1 ρ1 H1 v1 A1 s1 r1 => ?_⟩
    cases r1
    exact ⟨_, rfl, k F1 ρ1 H1 A1 s1⟩
  · cases e
theorem tv_cm {op : CmpOp} {o : Op2} (h : CmpV cl X op o) (ha : EV cl X a fa) (hb : EV cl X b fb) (hm : behindInMarks op b = false := by first | exact nomark _ | rfl) : TV cl X (.Compare a [op] [b] pos) (tOf (eBin o fa fb)) := by
  obtain ⟨R, h1, h2⟩ := h
  exact ⟨PT.imp (pt_cmpR h1 ha.pe hb.pe hm) fun σ H Q q => tT_E (t := tOp R (tE ⟨X.K, cl⟩ fa) (tE ⟨X.K, cl⟩ fb)) (fun _ _ _ h => tE_bin h2 h) q⟩
/-- a < b < c -/
def eChain (o o' : Op2) (fa fb fc : FE) : FE := fun env m => match fa env m with
  | some (x, m1) => match fb env m1 with
    | some (y, m2) => match o x y m2 with
      | some (.bl true, m3) => match fc env m3 with
        | some (z, m4) => o' y z m4
        | none => none
      | some (.bl false, m3) => some (.bl false, m3)
      | _ => none
    | none => none
  | none => none
theorem tE_chain {g : G} {R R' : R2} {o o' : Op2} (hs : OpS2 g R o) (hs' : OpS2 g R' o') {σ H Q} (h : tE g (eChain o o' fa fb fc) σ H Q) : tChain R R' (tE g fa) (tE g fb) (tE g fc) σ H Q := by
  obtain ⟨F, ρ, m, env, w, m', s, er, e, k⟩ := h
  unfold eChain at e
  split at e
  · rename_i x m1 e1
    split at e
    · rename_i y m2 e2
      refine ⟨F, ρ, m, env, _, _, s, er, e1, fun F1 ρ1 H1 v1 A1 s1 r1 => ?_⟩
      refine ⟨F1, ρ1, m1, env, _, _, s1, er.adv A1, e2, fun F2 ρ2 H2 v2 A2 s2 r2 => ?_⟩
      split at e
      · rename_i m3 e3
        split at e
        · rename_i z m4 e4
          refine hs s2 (r1.rd.adv A2) r2.rd e3 fun F3 ρ3 H3 v3 A3 s3 r3 => ?_
          cases r3
          refine ⟨true, rfl, ?_⟩
          rw [if_pos rfl]
          have A := (A1.trans A2).trans A3
          refine ⟨F3, ρ3, m3, env, _, _, s3, er.adv A, e4, fun F4 ρ4 H4 v4 A4 s4 r4 => ?_⟩
          exact hs' s4 ((r2.rd.adv A3).adv A4) r4.rd e fun F5 ρ5 H5 v5 A5 s5 r5 => k F5 ρ5 H5 v5 ((A.trans A4).trans A5) s5 (r5.back (A.trans A4))
        · cases e
      · rename_i m3 e3
        cases e
        refine hs s2 (r1.rd.adv A2) r2.rd e3 fun F3 ρ3 H3 v3 A3 s3 r3 => ?_
        cases r3
        refine ⟨false, rfl, ?_⟩
        rw [if_neg Bool.false_ne_true]
        exact k F3 ρ3 H3 _ ((A1.trans A2).trans A3) s3 (RelW.bl _)
      · cases e
    · cases e
  · cases e
theorem ev_chain {op op' : CmpOp} {o o' : Op2} (h : CmpV cl X op o) (h' : CmpV cl X op' o') (ha : EV cl X a fa) (hb : EV cl X b fb) (hc : EV cl X c fc)
    (hm : lastMarks [op, op'] [b, c] = false := by with_unfolding_all rfl) : EV cl X (.Compare a [op, op'] [b, c] pos) (eChain o o' fa fb fc) := by
  obtain ⟨R, h1, h2⟩ := h
  obtain ⟨R', h1', h2'⟩ := h'
  exact ⟨PE.imp (pe_chain h1 h1' ha.pe hb.pe hc.pe hm) fun σ H Q q => tE_chain h2 h2' q⟩
theorem tv_chain {op op' : CmpOp} {o o' : Op2} (h : CmpV cl X op o) (h' : CmpV cl X op' o') (ha : EV cl X a fa) (hb : EV cl X b fb) (hc : EV cl X c fc)
    (hm : lastMarks [op, op'] [b, c] = false := by with_unfolding_all rfl) : TV cl X (.Compare a [op, op'] [b, c] pos) (tOf (eChain o o' fa fb fc)) := by
  obtain ⟨R, h1, h2⟩ := h
  obtain ⟨R', h1', h2'⟩ := h'
  exact ⟨PT.imp (pt_chain h1 h1' ha.pe hb.pe hc.pe hm) fun σ H Q q => tT_E (t := tChain R R' (tE ⟨X.K, cl⟩ fa) (tE ⟨X.K, cl⟩ fb) (tE ⟨X.K, cl⟩ fc)) (fun _ _ _ h => tE_chain h2 h2' h) q⟩
end
end M
namespace M
open PySem L2

/-! ### calls of built-ins -/
section
variable {cl : Nat → Cl} {X : Cx} {pos p : Pos} {a b c e : Expr} {fa fb fc : FE} {es : List Expr} {fr : FA} {x : Str} {id T : String} {r : List V → Hp → VK → Prop}
theorem ev_b1 {o : Op1} (hc : CallR X (.builtin id) r) (hs : OpS1 ⟨X.K, cl⟩ (fun v H Q => r [v] H Q) o) (hg : Gl X x) (hm : X.mg x = none) (hv : bootBuiltins x = some (.builtin id)) (ha : EV cl X a fa)
    (hn : x ≠ "__name__" := by decide) (hdb : (x == ("__debug__" : Str)) = false := by decide) (hst : starEach [a] X.env = [(false, eval a X.env)] := by rfl) : EV cl X (.Call (.Name x p) [a] [] pos) (eUn o fa) :=
  ⟨PE.imp (pe_callB hc hg hm hv (pa_cons ha.pe pa_nil hst) hn hdb hst rfl) fun _ _ _ h => tE_un hs h⟩
theorem ev_t1 {o : Op1} (hc : CallR X (.type T) r) (hs : OpS1 ⟨X.K, cl⟩ (fun v H Q => r [v] H Q) o) (hg : Gl X x) (hm : X.mg x = none) (hv : bootBuiltins x = some (.type T)) (ha : EV cl X a fa)
    (hn : x ≠ "__name__" := by decide) (hdb : (x == ("__debug__" : Str)) = false := by decide) (hst : starEach [a] X.env = [(false, eval a X.env)] := by rfl) : EV cl X (.Call (.Name x p) [a] [] pos) (eUn o fa) :=
  ⟨PE.imp (pe_callTy hc hg hm hv (pa_cons ha.pe pa_nil hst) hn hdb hst rfl) fun _ _ _ h => tE_un hs h⟩
theorem ev_b2 {o : Op2} (hc : CallR X (.builtin id) r) (hs : OpS2 ⟨X.K, cl⟩ (fun v w H Q => r [v, w] H Q) o) (hg : Gl X x) (hm : X.mg x = none) (hv : bootBuiltins x = some (.builtin id)) (ha : EV cl X a fa) (hb : EV cl X b fb)
    (hn : x ≠ "__name__" := by decide) (hdb : (x == ("__debug__" : Str)) = false := by decide) (hst : starEach [a, b] X.env = (false, eval a X.env) :: starEach [b] X.env := by rfl) (hst2 : starEach [b] X.env = [(false, eval b X.env)] := by rfl)
    (hpl : (backTo pos (starEach [b] X.env)).any (·.1) = false := by rfl) : EV cl X (.Call (.Name x p) [a, b] [] pos) (eBin o fa fb) :=
  ⟨PE.imp (pe_callB hc hg hm hv (pa_cons ha.pe (pa_cons hb.pe pa_nil hst2) hst) hn hdb hst hpl) fun _ _ _ h => tE_bin hs h⟩

def oLen : Op1 := fun x m => match x with
  | .str z => if z.length ≤ sizeLine then some (.int z.length, m) else none
  | x => match sqOf m x with
    | some l => some (.int l.length, m)
    | none => none
theorem ev_len (hg : Gl X "len") (hm : X.mg "len" = none) (ha : EV cl X a fa) (hst : starEach [a] X.env = [(false, eval a X.env)] := by rfl) : EV cl X (.Call (.Name "len" p) [a] [] pos) (eUn oLen fa) :=
  ev_b1 (call_len_seq.or call_len_str) (fun {F ρ m H x vx w m' Q} s rx e k => by
    unfold oLen at e
    split at e
    · split at e
      · rename_i z hz
        cases e; cases rx.str_inv
        exact .inr ⟨_, rfl, hz, Fin.same k s (RelW.int _)⟩
      · cases e
    · split at e
      · rename_i l hl
        cases e
        obtain ⟨p, vs, rfl, hs, r⟩ := sqOf_rd s rx hl
        rw [r.length] at k
        exact .inl ⟨p, vs, rfl, hs, Fin.same k s (RelW.int _)⟩
      · cases e) hg hm PySem.boot_len ha (by decide) (by decide) hst
def oMin : Op2 := oI2 fun i j => .int (if j < i then j else i)
def oMax : Op2 := oI2 fun i j => .int (if j > i then j else i)
theorem ev_min (hc : X.calm = true) (hg : Gl X "min") (hm : X.mg "min" = none) (ha : EV cl X a fa) (hb : EV cl X b fb) (hst : starEach [a, b] X.env = (false, eval a X.env) :: starEach [b] X.env := by rfl) (hst2 : starEach [b] X.env = [(false, eval b X.env)] := by rfl)
    (hpl : (backTo pos (starEach [b] X.env)).any (·.1) = false := by rfl) : EV cl X (.Call (.Name "min" p) [a, b] [] pos) (eBin oMin fa fb) :=
  ev_b2 (call_min2 hc) (fun {F ρ m H x y vx vy w m' Q} s rx ry e k => by
    unfold oMin oI2 at e
    split at e
    · cases e; cases rx.int_inv; cases ry.int_inv
      exact ⟨_, _, rfl, Fin.same k s (RelW.int _)⟩
    · cases e) hg hm (by decide +kernel) ha hb (by decide) (by decide) hst hst2 hpl
theorem ev_max (hc : X.calm = true) (hg : Gl X "max") (hm : X.mg "max" = none) (ha : EV cl X a fa) (hb : EV cl X b fb) (hst : starEach [a, b] X.env = (false, eval a X.env) :: starEach [b] X.env := by rfl) (hst2 : starEach [b] X.env = [(false, eval b X.env)] := by rfl)
    (hpl : (backTo pos (starEach [b] X.env)).any (·.1) = false := by rfl) : EV cl X (.Call (.Name "max" p) [a, b] [] pos) (eBin oMax fa fb) :=
  ev_b2 (call_max2 hc) (fun {F ρ m H x y vx vy w m' Q} s rx ry e k => by
    unfold oMax oI2 at e
    split at e
    · cases e; cases rx.int_inv; cases ry.int_inv
      exact ⟨_, _, rfl, Fin.same k s (RelW.int _)⟩
    · cases e) hg hm (by decide +kernel) ha hb (by decide) (by decide) hst hst2 hpl
/-- int of an int or a truth -/
def oInt : Op1 := fun x m => match x with
  | .int i => some (.int i, m)
  | .bl b => some (.int (if b then 1 else 0), m)
  | _ => none
theorem ev_toint (hg : Gl X "int") (hm : X.mg "int" = none) (ha : EV cl X a fa) (hst : starEach [a] X.env = [(false, eval a X.env)] := by rfl) : EV cl X (.Call (.Name "int" p) [a] [] pos) (eUn oInt fa) :=
  ev_t1 call_int1 (fun {F ρ m H x vx w m' Q} s rx e k => by
    unfold oInt at e
    split at e
    · cases e; cases rx.int_inv
      exact .inl ⟨_, rfl, Fin.same k s (RelW.int _)⟩
    · cases e; cases rx.bl_inv
      exact .inr ⟨_, rfl, Fin.same k s (RelW.int _)⟩
    · cases e) hg hm (by decide +kernel) ha (by decide) (by decide) hst
def oTuple : Op1 := fun x m => match x with
  | .tup l => some (.tup l, m)
  | x => match lsOf m x with
    | some l => some (.tup l, m)
    | none => none
theorem ev_tuple (hg : Gl X "tuple") (hm : X.mg "tuple" = none) (ha : EV cl X a fa) (hst : starEach [a] X.env = [(false, eval a X.env)] := by rfl) : EV cl X (.Call (.Name "tuple" p) [a] [] pos) (eUn oTuple fa) :=
  ev_t1 call_tuple_of (fun {F ρ m H x vx w m' Q} s rx e k => by
    unfold oTuple at e
    split at e
    · cases e
      cases rx with
      | tup q r => exact ⟨_, _, rfl, .inr ⟨seqT s.sub q, Fin.same k s (RelW.tup q r)⟩⟩
    · split at e
      · rename_i l hl
        cases e
        obtain ⟨p, vs, rfl, hs, r⟩ := lsOf_rd s rx hl
        exact ⟨p, vs, rfl, .inl ⟨hs, Fin.tup k s r⟩⟩
      · cases e) hg hm (by decide +kernel) ha (by decide) (by decide) hst
def oList : Op1 := fun x m => match sqOf m x with
  | some l => some (.own l, m)
  | none => none
theorem ev_list (hg : Gl X "list") (hm : X.mg "list" = none) (ha : EV cl X a fa) (hst : starEach [a] X.env = [(false, eval a X.env)] := by rfl) : EV cl X (.Call (.Name "list" p) [a] [] pos) (eUn oList fa) :=
  ev_t1 call_list_of (fun {F ρ m H x vx w m' Q} s rx e k => by
    unfold oList at e
    split at e
    · rename_i l hl
      cases e
      obtain ⟨p, vs, rfl, hs, r⟩ := sqOf_rd s rx hl
      exact ⟨p, vs, rfl, hs, Fin.own k s r⟩
    · cases e) hg hm (by decide +kernel) ha (by decide) (by decide) hst

/-! isinstance of a built-in class -/
def tyN (m : MH) : W → Option String
  | .non => some "NoneType"
  | .bl _ => some "bool"
  | .int _ => some "int"
  | .str _ => some "str"
  | .tup _ => some "tuple"
  | .lst _ => some "list"
  | .fro _ => some "list"
  | .own _ => some "list"
  | .bor _ => some "list"
  | .ref n => match m[n]? with
    | some (.lst _) => some "list"
    | some (.dct _) => some "dict"
    | _ => none
def isTy (tn T : String) : Option Bool := kitB tn T
def oIsi (T : String) : Op1 := fun x m => match tyN m x with
  | some tn => (kitB tn T).map fun b => (.bl b, m)
  | none => none
theorem tyN_ok {g : G} {F : Hp} {ρ : List Addr} {H : Hp} {m : MH} {x : W} {v : V} {tn : String} (s : SR g F ρ m H) (r : RdR g F ρ H x v) (e : tyN m x = some tn) : TyX g.K H v (.type tn) := by
  have lst : ∀ {a vs}, H a = some (.lst vs) → TyX g.K H (.ref a) (.type "list") := fun h => .base (.lst h)
  cases x with
  | non => cases e; cases r; exact .base .non
  | bl b => cases e; cases r; exact .base (.bl b)
  | int b => cases e; cases r; exact .base (.int b)
  | str b => cases e; cases r; exact .base (.str b)
  | tup l =>
    cases e
    cases r with
    | tup q _ =>
      rcases seqT s.sub q with (q | ⟨o, q⟩) | ⟨o, its, n, h1, h2, _⟩
      · exact .base (.tup q)
      · exact .fTuple q
      · exact .kTuple h1 h2
  | lst l => cases e; cases r with | lst q _ => exact lst (s.sub _ _ q)
  | fro l =>
    cases e
    cases r with
    | fro q _ =>
      rcases s.sub.seq q with (q | ⟨o, q⟩) | ⟨o, its, n, h1, h2, _⟩
      · exact lst q
      · exact .base (.frz q)
      · exact .kList h1 h2
  | own l => cases e; obtain ⟨a, vs, rfl, h, _⟩ := r; exact lst h
  | bor l => cases e; obtain ⟨a, vs, rfl, h, _⟩ := r; exact lst h
  | ref n =>
    cases r with
    | ref q =>
      obtain ⟨o, e1, _, c⟩ := s.at q
      unfold tyN at e
      simp only [e1] at e
      cases o with
      | lst l => cases e; obtain ⟨vs, h, _⟩ := c; exact lst h
      | dct l => cases e; obtain ⟨vs, h, _⟩ := c; exact .base (.dK h)
      | ins _ _ => cases e
theorem ev_isi (T : String) {y : Str} {p2 : Pos} (hg : Gl X "isinstance") (hm : X.mg "isinstance" = none) (hgT : Gl X y) (hmT : X.mg y = none) (hvT : bootBuiltins y = some (.type T)) (ha : EV cl X a fa)
    (hn : y ≠ "__name__" := by decide) (hd : (y == ("__debug__" : Str)) = false := by decide)
    (hst : starEach [a, .Name y p2] X.env = (false, eval a X.env) :: starEach [.Name y p2] X.env := by rfl) : EV cl X (.Call (.Name "isinstance" p) [a, .Name y p2] [] pos) (eUn (oIsi T) fa) :=
  ⟨PE.imp (pe_callB call_isi hg hm (by decide +kernel) (pa_cons ha.pe (pa_cons (pe_bltn (v := .ty T) hgT hmT hvT rfl hn hd) pa_nil rfl) hst) (by decide) (by decide) hst rfl) fun σ H Q h => tE_un (R := fun v H Q => rIsi X.K [v, .ty T] H Q) (fun {F ρ m H x vx w m' Q} s rx e k => by
    unfold oIsi at e
    split at e
    · rename_i tn ht
      cases q : kitB tn T with
      | none => rw [q] at e; cases e
      | some b =>
        rw [q] at e; cases e
        exact ⟨vx, .ty T, .type tn, .type T, b, rfl, .ty T, tyN_ok s rx ht, kit_ty q, Fin.same k s (RelW.bl _)⟩
    · cases e) h⟩

/-! ### a def of one's own is called -/
def spW (g : G) (n : Nat) (φ : OpN) : Sp := fun vs H Q _ => ∃ F ρ m ws w m', vs.length = n ∧ SR g F ρ m H ∧ RelWs g F ρ ws vs ∧ φ ws m = some (w, m') ∧ Fin g F ρ H w m' Q
def oCall (n : Nat) (φ : OpN) : OpN := fun ws m => if ws.length = n then φ ws m else none
theorem oCall_ok {g : G} {n : Nat} {φ : OpN} : OpSN g (fun vs H Q => spW g n φ (vs ++ []) H Q E0) (oCall n φ) := fun {F ρ m H xs vs w m' Q} s r e k => by
  unfold oCall at e
  split at e
  · rename_i h
    rw [List.append_nil]
    exact ⟨F, ρ, m, xs, w, m', by rw [← r.length]; exact h, s, r, e, k⟩
  · cases e
theorem ev_call {k n : Nat} {f : Addr} {fd : FuncData} {ps : List Str} {φ : OpN} (D : FnOk X.prog X.w X.K X.mg X.base CX0 k f fd ps (spW ⟨X.K, cl⟩ n φ)) (hr : Room k X.A) (hg : Gl X x) (hm : X.mg x = some (.ref f)) (hk : PySem.W.keepIn X.K (.ref f) = true) (hb : Binds X.K fd ps [])
    (ha : AV cl X (e :: es) fr) (hdb : (x == ("__debug__" : Str)) = false := by decide) (he : starEach (e :: es) X.env = (false, eval e X.env) :: starEach es X.env := by rfl) (hpl : (backTo pos (starEach es X.env)).any (·.1) = false := by rfl) :
    EV cl X (.Call (.Name x p) (e :: es) [] pos) (eArg (oCall n φ) fr) :=
  ⟨PE.imp (pe_call D hr hg hm hk hb .nil pass0 ha.pa hdb he hpl) fun σ H Q h => tE_arg oCall_ok h⟩
end

/-! ### targets -/
inductive Tg where
  | nm (i : Nat) | tp (is : List Nat)
def setNs : List Nat → List W → En → Option En
  | [], [], env => some env
  | i :: is, w :: ws, env => setNs is ws (env.set i (some w))
  | _, _, _ => none
def setT (T : Tg) (w : W) (env : En) : Option En := match T with
  | .nm i => some (env.set i (some w))
  | .tp is => match w with
    | .tup ws => setNs is ws env
    | _ => none
/-- the slots are set, nothing else -/
theorem ER.put {g : G} {F : Hp} {ρ : List Addr} {env : En} {σ : St} {H : Hp} {i : Nat} {w : W} {v : V} (h : ER g F ρ env σ H) (r : RelW g F ρ w v) : ER g F ρ (env.set i (some w)) (σ.set i (some v)) H := by
  have hw : ∀ l, w ≠ .own l := fun l e => by subst e; cases r
  refine ⟨by rw [List.length_set, List.length_set]; exact h.len, fun j x e => ?_, fun j k l l' e1 e2 ne => ?_⟩
  · by_cases z : i = j
    · subst z
      have hi : i < env.length := by
        have := (List.getElem?_eq_some_iff.mp e).1
        rwa [List.length_set] at this
      rw [List.getElem?_set_self hi] at e
      cases e
      exact ⟨v, List.getElem?_set_self (by rw [← h.len]; exact hi), r.slot⟩
    · rw [List.getElem?_set_ne z] at e
      rw [List.getElem?_set_ne z]
      exact h.slot j x e
  · have own : ∀ {j l}, (env.set i (some w))[j]? = some (some (.own l)) → i ≠ j ∧ env[j]? = some (some (.own l)) := fun {j l} e => by
      by_cases z : i = j
      · subst z
        have hi : i < env.length := by
          have := (List.getElem?_eq_some_iff.mp e).1
          rwa [List.length_set] at this
        rw [List.getElem?_set_self hi] at e
        exact absurd (Option.some.inj (Option.some.inj e)) (hw l)
      · rw [List.getElem?_set_ne z] at e
        exact ⟨z, e⟩
    obtain ⟨n1, e1⟩ := own e1
    obtain ⟨n2, e2⟩ := own e2
    rw [List.getElem?_set_ne n1, List.getElem?_set_ne n2]
    exact h.apart j k l l' e1 e2 ne
/-- own slots stay where they are, or are gone -/
def Ows (env env' : En) (σ σ' : St) : Prop := ∀ (i : Nat) (l : List W), env'[i]? = some (some (W.own l)) → env[i]? = some (some (W.own l)) ∧ σ'[i]? = σ[i]?
theorem Ows.refl {env : En} {σ : St} : Ows env env σ σ := fun _ _ e => ⟨e, rfl⟩
theorem Ows.trans {e1 e2 e3 : En} {s1 s2 s3 : St} (a : Ows e1 e2 s1 s2) (b : Ows e2 e3 s2 s3) : Ows e1 e3 s1 s3 := fun i l e => by
  obtain ⟨h1, h2⟩ := b i l e
  obtain ⟨h3, h4⟩ := a i l h1
  exact ⟨h3, h2.trans h4⟩
theorem Ows.put {env : En} {σ : St} {i : Nat} {w : W} {v : V} (hw : ∀ l, w ≠ .own l) : Ows env (env.set i (some w)) σ (σ.set i (some v)) := fun j l e => by
  by_cases z : i = j
  · subst z
    have hi : i < env.length := by
      have := (List.getElem?_eq_some_iff.mp e).1
      rwa [List.length_set] at this
    rw [List.getElem?_set_self hi] at e
    exact absurd (Option.some.inj (Option.some.inj e)) (hw l)
  · rw [List.getElem?_set_ne z] at e
    exact ⟨e, List.getElem?_set_ne z⟩
theorem RelW.notOwn {g : G} {F : Hp} {ρ : List Addr} {w : W} {v : V} (r : RelW g F ρ w v) : ∀ l, w ≠ .own l := fun l e => by subst e; cases r
/-- a target's reading -/
def Tg.is : Tg → List Nat
  | .nm i => [i]
  | .tp is => is
def Only (is : List Nat) (σ σ' : St) : Prop := ∀ (j : Nat), j ∉ is → σ'[j]? = σ[j]?
def tG (g : G) (T : Tg) : TG := fun v σ H Q => ∃ F ρ m env w env', SR g F ρ m H ∧ ER g F ρ env σ H ∧ RelW g F ρ w v ∧ setT T w env = some env' ∧ ∀ σ', ER g F ρ env' σ' H → Ows env env' σ σ' → Only T.is σ σ' → Q σ' H
structure GV (cl : Nat → Cl) (X : Cx) (tg : Expr) (T : Tg) : Prop where
  pg : PG X tg (tG ⟨X.K, cl⟩ T)
theorem PG.imp {X : Cx} {e : Expr} {t t' : TG} (h : PG X e t) (k : ∀ v σ H Q, t' v σ H Q → t v σ H Q) : PG X e t' := ⟨fun pins s σ H v u Q I r q => h.run pins s σ H v u Q I r (k v σ H Q q)⟩
section
variable {cl : Nat → Cl} {X : Cx} {pos : Pos}
theorem gv_name (i : Nat) {x : Str} (hN : X.N.Nodup) (hi : X.N[i]? = some x := by rfl) (hx : Loc X.env.scope x := by first | exact Or.inl rfl | exact Or.inr rfl) (hf : X.fn x = true ∨ X.env.scope.names.lookup x = some .local := by first | exact .inl rfl | exact .inr rfl) : GV cl X (.Name x pos) (.nm i) :=
  ⟨PG.imp (pg_name hN hi hx hf) fun v σ H Q h => by
    obtain ⟨F, ρ, m, env, w, env', s, er, r, e, k⟩ := h
    cases e
    exact k _ (er.put r) (Ows.put r.notOwn) fun j hj => List.getElem?_set_ne fun z => hj (by subst z; exact List.mem_cons_self)⟩
/-- several names -/
inductive NGs (X : Cx) : List Expr → List Nat → Prop
  | nil : NGs X [] []
  | cons {x : Str} {p : Pos} {i : Nat} {es : List Expr} {is : List Nat} (h : PG X (.Name x p) (gName i)) (hs : (assignEach (.Name x p :: es) X.env).map (·.2) = assign (.Name x p) X.env :: (assignEach es X.env).map (·.2)) (r : NGs X es is) : NGs X (.Name x p :: es) (i :: is)
def gNs : List Nat → TGs
  | [] => gNil
  | i :: is => gCons (gName i) (gNs is)
theorem NGs.pgs : ∀ {es : List Expr} {is : List Nat}, NGs X es is → PGs X es (gNs is)
  | _, _, .nil => pgs_nil
  | _, _, .cons h hs r => pgs_cons h (NGs.pgs r) hs
theorem gNs_ok {g : G} {F : Hp} {ρ : List Addr} {H : Hp} : ∀ {is : List Nat} {ws : List W} {vs : List V} {env env' : En} {σ : St} {Q : St → Hp → Prop}, ER g F ρ env σ H → RelWs g F ρ ws vs → setNs is ws env = some env' → (∀ σ', ER g F ρ env' σ' H → Ows env env' σ σ' → Only is σ σ' → Q σ' H) → gNs is vs σ H Q
  | [], [], _, _, _, _, _, er, .nil, e, k => by cases e; exact ⟨rfl, k _ er Ows.refl fun _ _ => rfl⟩
  | i :: is, w :: ws, _, env, env', σ, Q, er, .cons (v := v) q r, e, k =>
    ⟨v, _, rfl, gNs_ok (is := is) (er.put q) r e fun σ' er' ow on => k σ' er' ((Ows.put q.notOwn).trans ow) fun j hj =>
      (on j fun z => hj (List.mem_cons_of_mem _ z)).trans (List.getElem?_set_ne fun z => hj (by subst z; exact List.mem_cons_self))⟩
theorem gv_tup {es : List Expr} {k : Nat} {is : List Nat} (hc : X.calm = true) (h : NGs X es is) (hn : (assignEach es X.env).length = is.length := by rfl) (hst : (assignEach es X.env).findIdx? (·.1) = none := by rfl) : GV cl X (.Tuple es k pos) (.tp is) :=
  ⟨PG.imp (pg_tup hc h.pgs hn hst) fun v σ H Q h => by
    obtain ⟨F, ρ, m, env, w, env', s, er, r, e, k⟩ := h
    unfold setT at e
    cases r with
    | tup q r =>
      simp only at e
      refine ⟨_, _, rfl, seqT s.sub q, ?_, gNs_ok er r e k⟩
      have : ∀ {is : List Nat} {ws : List W} {env env' : En}, setNs is ws env = some env' → ws.length = is.length := by
        intro is
        induction is with
        | nil => intro ws env env' e; cases ws with
          | nil => rfl
          | cons _ _ => cases e
        | cons i is ih => intro ws env env' e; cases ws with
          | nil => cases e
          | cons w ws => exact congrArg (· + 1) (ih e)
      rw [← r.length]
      exact this e
    | _ => cases e⟩
end
end M
namespace M
open PySem L2

/-! ### what is walked -/
/-- what must stay true of the heap while it is walked -/
abbrev Gd := MH → Prop
def gT : Gd := fun _ => True
def WalkW (g : G) (F : Hp) (ρ : List Addr) (gd : Gd) (J : It) (ws : List W) : Prop :=
  ∃ G Y, Walk J ws.length G Y ∧ (∀ F1 ρ1 m1 H1, Same F F1 → (∃ t, ρ1 = ρ ++ t) → SR g F1 ρ1 m1 H1 → gd m1 → G H1) ∧
    ∀ (i : Nat) (w : W) F1 ρ1 m1 H1 x H2, ws[i]? = some w → Same F F1 → (∃ t, ρ1 = ρ ++ t) → SR g F1 ρ1 m1 H1 → gd m1 → Y i H1 x H2 → ∃ F2, Adv F1 ρ1 H1 F2 ρ1 H2 ∧ SR g F2 ρ1 m1 H2 ∧ RelW g F2 ρ1 w x
abbrev FI := En → MH → Option (List W × Gd × MH)
def tI (g : G) (f : FI) : TI := fun σ H R => ∃ F ρ m env w gd m', SR g F ρ m H ∧ ER g F ρ env σ H ∧ f env m = some (w, gd, m') ∧
  ∀ F' ρ' H' J, Adv F ρ H F' ρ' H' → SR g F' ρ' m' H' → WalkW g F' ρ' gd J w → R J H'
structure IV (cl : Nat → Cl) (X : Cx) (tg e : Expr) (f : FI) : Prop where
  pi : PI X tg e (tI ⟨X.K, cl⟩ f)
theorem PI.imp {X : Cx} {tg e : Expr} {t t' : TI} (h : PI X tg e t) (k : ∀ σ H R, t' σ H R → t σ H R) : PI X tg e t' := ⟨fun pins s σ H R I q => h.run pins s σ H R I (k σ H R q)⟩
/-- the items of a frozen list (tuple) -/
def iLst (fa : FE) : FI := fun env m => match fa env m with
  | some (x, m1) => match frz x with
    | some (.lst l) => some (l, gT, m1)
    | some (.fro l) => some (l, gT, m1)
    | _ => none
  | none => none
def iTpl (fa : FE) : FI := fun env m => match fa env m with
  | some (.tup l, m1) => some (l, gT, m1)
  | _ => none
def rangeW (lo : Int) (n : Nat) : List W := (List.range n).map fun (i : Nat) => W.int (lo + i)
def iRg1 (fa : FE) : FI := fun env m => match fa env m with
  | some (.int j, m1) => if -(2 ^ 62) ≤ j ∧ j < 2 ^ 62 then some (rangeW 0 j.toNat, gT, m1) else none
  | _ => none
def iRg2 (fa fb : FE) : FI := fun env m => match fa env m with
  | some (.int i, m1) => match fb env m1 with
    | some (.int j, m2) => if -(2 ^ 62) ≤ i ∧ i < 2 ^ 62 ∧ -(2 ^ 62) ≤ j ∧ j < 2 ^ 62 then some (rangeW i (j - i).toNat, gT, m2) else none
    | _ => none
  | _ => none
def enumW (l : List W) : List W := (List.range l.length).map fun (i : Nat) => W.tup [.int (i : Int), l.getD i .non]
def iEnu (fr : FA) : FI := fun env m => match fr env m with
  | some ([.lst l], m1) => some (enumW l, gT, m1)
  | some ([.fro l], m1) => some (enumW l, gT, m1)
  | _ => none
def zipW (l l' : List W) : List W := (List.range (min l.length l'.length)).map fun (i : Nat) => W.tup [l.getD i .non, l'.getD i .non]
def iZp (fr : FA) : FI := fun env m => match fr env m with
  | some ([.lst l, .lst l'], m1) => some (zipW l l', gT, m1)
  | some ([.tup l, .tup l'], m1) => some (zipW l l', gT, m1)
  | _ => none
section
variable {g : G} {F : Hp} {ρ : List Addr} {l l' : List W} {vs vs' : List V} {a b : Addr} {K : PySem.W.Frag}
theorem wk_list (h : SqL g.K F a vs) (r : RelWs g F ρ l vs) : WalkW g F ρ gT (Itl g.K a) l :=
  ⟨fun H => SqL g.K H a vs, YAt vs, by rw [r.length]; exact walk_list, fun F1 ρ1 m1 H1 f _ s _ => s.sub.seq (f.seq h), fun i w F1 ρ1 m1 H1 x H2 e f t s _ ⟨e1, e2⟩ => by
    subst e1
    obtain ⟨v, e3, q⟩ := r.get e
    rw [e2] at e3; cases e3
    exact ⟨F1, Adv.refl, s, q.mono f t⟩⟩
/-- a list of the heap, as long as it stays -/
def gL (n : Nat) (l : List W) : Gd := fun m => m[n]? = some (.lst l)
theorem wk_ref {m : MH} {H : Hp} {n : Nat} (s0 : SR g F ρ m H) (e0 : m[n]? = some (.lst l)) (h : ρ[n]? = some a) (hv : H a = some (.lst vs)) : WalkW g F ρ (gL n l) (Itl g.K a) l := by
  have at' : ∀ {F1 ρ1 m1 H1}, (∃ t, ρ1 = ρ ++ t) → SR g F1 ρ1 m1 H1 → gL n l m1 → ∃ vs, H1 a = some (.lst vs) ∧ RelWs g F1 ρ1 l vs := fun {F1 ρ1 m1 H1} t s q => by
    obtain ⟨t, rfl⟩ := t
    obtain ⟨_, c⟩ := s.cell n _ a q (getApp h)
    exact c
  refine ⟨fun H => ∃ vs, SqL g.K H a vs ∧ vs.length = l.length, fun i H1 x H2 => H2 = H1 ∧ ∃ vs, SqL g.K H1 a vs ∧ vs.length = l.length ∧ ∀ xs, SqL g.K H1 a xs → xs[i]? = some x, ⟨fun i H hi ⟨vs, q, e⟩ => ⟨vs, vs[i]'(by omega), q, by simp [show i < vs.length by omega]⟩, fun H ⟨vs, q, e⟩ => ⟨vs, q, by omega⟩, fun i H x H' hi ⟨vs, q, e⟩ y => ⟨y.1, vs, q, e, y.2⟩⟩, fun F1 ρ1 m1 H1 f t s gd => ?_, fun i w F1 ρ1 m1 H1 x H2 e f t s gd ⟨e1, _, _, _, e2⟩ => ?_⟩
  · obtain ⟨vs, q, r⟩ := at' t s gd
    exact ⟨vs, SqL.of q, r.length.symm⟩
  · subst e1
    obtain ⟨vs, q, r⟩ := at' t s gd
    obtain ⟨v, e3, q2⟩ := r.get e
    rw [e2 vs (SqL.of q)] at e3; cases e3
    exact ⟨F1, Adv.refl, s, q2⟩
theorem wk_tup (h : SqT g.K F a vs) (r : RelWs g F ρ l vs) : WalkW g F ρ gT (Itt g.K a) l :=
  ⟨fun H => SqT g.K H a vs, YAt vs, by rw [r.length]; exact walk_tup, fun F1 ρ1 m1 H1 f _ s _ => seqT s.sub (seqT f h), fun i w F1 ρ1 m1 H1 x H2 e f t s _ ⟨e1, e2⟩ => by
    subst e1
    obtain ⟨v, e3, q⟩ := r.get e
    rw [e2] at e3; cases e3
    exact ⟨F1, Adv.refl, s, q.mono f t⟩⟩
theorem wk_range {lo : Int} {n : Nat} : WalkW g F ρ gT (Itr lo n) (rangeW lo n) :=
  ⟨fun _ => True, YFn fun i => .int (lo + i), by unfold rangeW; rw [List.length_map, List.length_range]; exact walk_range, fun _ _ _ _ _ _ _ _ => trivial, fun i w F1 ρ1 m1 H1 x H2 e f t s _ ⟨e1, e2⟩ => by
    subst e1 e2
    unfold rangeW at e
    rw [List.getElem?_map] at e
    by_cases hi : i < n
    · rw [List.getElem?_range hi] at e
      cases e
      exact ⟨F1, Adv.refl, s, .int _⟩
    · rw [List.getElem?_eq_none (by simpa using Nat.le_of_not_lt hi)] at e
      cases e⟩
theorem getD_some {α : Type} {l : List α} {i : Nat} {d : α} (h : i < l.length) : l[i]? = some (l.getD i d) := by
  rw [List.getD_eq_getElem?_getD]
  simp [h]
theorem wk_enum (h : SqL g.K F a vs) (r : RelWs g F ρ l vs) : WalkW g F ρ gT (Ite g.K a) (enumW l) :=
  ⟨fun H => SqL g.K H a vs, YPair (fun i => some (.int (i : Nat))) (fun i => vs[i]?), by unfold enumW; rw [List.length_map, List.length_range, r.length]; exact walk_enum, fun F1 ρ1 m1 H1 f _ s _ => s.sub.seq (f.seq h), fun i w F1 ρ1 m1 H1 x H2 e f t s _ ⟨T, x1, x2, e0, hT, e1, e2, e3⟩ => by
    subst e0 e1
    unfold enumW at e
    rw [List.getElem?_map] at e
    by_cases hi : i < l.length
    · rw [List.getElem?_range hi] at e
      cases e
      obtain ⟨v, e4, q⟩ := r.get (getD_some (d := W.non) hi)
      cases e3.symm.trans e4
      cases e2
      obtain ⟨A, s2⟩ := adv_new (o := .tup [.int (i : Int), x2]) s hT
      exact ⟨_, A, s2, .tup (SqT.of upd_same) (.cons (.int _) (.cons ((q.mono f t).mono A.f A.r) .nil))⟩
    · rw [List.getElem?_eq_none (by simpa using Nat.le_of_not_lt hi)] at e
      cases e⟩
theorem wk_pairs {J : It} {G : Hp → Prop} (w : Walk J (min vs.length vs'.length) G (YPair (fun i => vs[i]?) (fun i => vs'[i]?))) (hG : ∀ F1 ρ1 m1 H1, Same F F1 → SR g F1 ρ1 m1 H1 → G H1) (r : RelWs g F ρ l vs) (r' : RelWs g F ρ l' vs') : WalkW g F ρ gT J (zipW l l') :=
  ⟨G, YPair (fun i => vs[i]?) (fun i => vs'[i]?), by unfold zipW; rw [List.length_map, List.length_range, r.length, r'.length]; exact w, fun F1 ρ1 m1 H1 f _ s _ => hG F1 ρ1 m1 H1 f s, fun i w F1 ρ1 m1 H1 x H2 e f t s _ ⟨T, x1, x2, e0, hT, e1, e2, e3⟩ => by
    subst e0 e1
    unfold zipW at e
    rw [List.getElem?_map] at e
    by_cases hi : i < min l.length l'.length
    · rw [List.getElem?_range hi] at e
      cases e
      obtain ⟨v, e4, q⟩ := r.get (getD_some (d := W.non) (by omega : i < l.length))
      obtain ⟨v', e5, q'⟩ := r'.get (getD_some (d := W.non) (by omega : i < l'.length))
      cases e2.symm.trans e4
      cases e3.symm.trans e5
      obtain ⟨A, s2⟩ := adv_new (o := .tup [x1, x2]) s hT
      exact ⟨_, A, s2, .tup (SqT.of upd_same) (.cons ((q.mono f t).mono A.f A.r) (.cons ((q'.mono f t).mono A.f A.r) .nil))⟩
    · rw [List.getElem?_eq_none (by simpa using Nat.le_of_not_lt hi)] at e
      cases e⟩
end
section
variable {cl : Nat → Cl} {X : Cx} {pos p : Pos} {a b c e tg : Expr} {fa fb fc : FE} {es : List Expr} {fr : FA}
theorem iv_list (ha : EV cl X a fa) : IV cl X tg a (iLst fa) := ⟨PI.imp (pi_list ha.pe) fun σ H R h => by
  obtain ⟨F, ρ, m, env, w, gd, m', s, er, e, k⟩ := h
  unfold iLst at e
  split at e
  · rename_i x m1 e1
    refine ⟨F, ρ, m, env, _, _, s, er, e1, fun F1 ρ1 H1 v1 A1 s1 r1 => ?_⟩
    split at e
    · rename_i l ef
      cases e
      obtain ⟨F2, A2, s2, q, _⟩ := r1.frz A1 s1 ef
      cases q with
      | lst q r => exact ⟨_, rfl, ⟨_, SqL.of (s2.sub _ _ q)⟩, k F2 ρ1 H1 _ A2 s2 (wk_list (SqL.of q) r)⟩
    · rename_i l ef
      cases e
      obtain ⟨F2, A2, s2, q, _⟩ := r1.frz A1 s1 ef
      cases q with
      | fro q r => exact ⟨_, rfl, ⟨_, s2.sub.seq q⟩, k F2 ρ1 H1 _ A2 s2 (wk_list q r)⟩
    · cases e
  · cases e⟩
theorem iv_tup (ha : EV cl X a fa) : IV cl X tg a (iTpl fa) := ⟨PI.imp (pi_tup ha.pe) fun σ H R h => by
  obtain ⟨F, ρ, m, env, w, gd, m', s, er, e, k⟩ := h
  unfold iTpl at e
  split at e
  · rename_i l m1 e1
    cases e
    refine ⟨F, ρ, m, env, _, _, s, er, e1, fun F1 ρ1 H1 v1 A1 s1 r1 => ?_⟩
    cases r1 with
    | tup q r => exact ⟨_, rfl, ⟨_, seqT s1.sub q⟩, k F1 ρ1 H1 _ A1 s1 (wk_tup q r)⟩
  · cases e⟩
/-- a list or a tuple, as it comes -/
def iSeqT (K : PySem.W.Frag) (tl : TE) : TI := fun σ H R => tl σ H fun x H1 => ∃ a, x = .ref a ∧ (((∃ xs, SqL K H1 a xs) ∧ R (Itl K a) H1) ∨ ((∃ xs, SqT K H1 a xs) ∧ R (Itt K a) H1))
theorem pi_seq {X : Cx} {tg l : Expr} {tl : TE} (hl : PE X l tl) : PI X tg l (iSeqT X.K tl) := by
  refine ⟨fun pins s σ H R I h => ?_⟩
  refine thn (hl.run pins s σ H _ I h) fun v s1 ⟨x, H1, I1, r1, q1⟩ => ?_
  obtain ⟨a, e, q⟩ := q1
  subst e
  cases r1
  rcases q with ⟨⟨xs, hq⟩, q⟩ | ⟨⟨xs, hq⟩, q⟩
  · obtain ⟨its, rv, p, hz⟩ := I1.list hq
    refine wpAny_pyIter_list p.isList ?_
    refine ⟨s1.heap.objs.size, [s1.heap.objs.size], _, _, H1, rfl, I1.kept (t' := s1.toks) fun b o e => Heap.get?_push_of_some _ e, turn_list a _, ⟨_, Heap.get?_push_size _ rfl, rfl, rfl⟩, fun b hb => ?_, q⟩
    have e : b = s1.heap.objs.size := by simpa using hb
    subst e
    exact I1.fpOk (Nat.le_refl _) (I1.hok.fresh (Nat.le_refl _))
  · obtain ⟨its, rv, p, hz⟩ := I1.tuple hq
    refine wpAny_pyIter_tuple (show s1.heap.IsTuple a its.toArray from p) ?_
    refine ⟨s1.heap.objs.size, [s1.heap.objs.size], _, _, H1, rfl, I1.kept (t' := s1.toks) fun b o e => Heap.get?_push_of_some _ e, turn_tuple a _, ⟨_, Heap.get?_push_size _ rfl, rfl, rfl⟩, fun b hb => ?_, q⟩
    have e : b = s1.heap.objs.size := by simpa using hb
    subst e
    exact I1.fpOk (Nat.le_refl _) (I1.hok.fresh (Nat.le_refl _))
def iSeq (fa : FE) : FI := fun env m => match fa env m with
  | some (x, m1) => match frz x with
    | some (.lst l) => some (l, gT, m1)
    | some (.fro l) => some (l, gT, m1)
    | some (.tup l) => some (l, gT, m1)
    | some (.ref n) => match m1[n]? with
      | some (.lst l) => some (l, gL n l, m1)
      | _ => none
    | _ => none
  | none => none
theorem iv_seq (ha : EV cl X a fa) : IV cl X tg a (iSeq fa) := ⟨PI.imp (pi_seq ha.pe) fun σ H R h => by
  obtain ⟨F, ρ, m, env, w, gd, m', s, er, e, k⟩ := h
  unfold iSeq at e
  split at e
  · rename_i x m1 e1
    refine ⟨F, ρ, m, env, _, _, s, er, e1, fun F1 ρ1 H1 v1 A1 s1 r1 => ?_⟩
    split at e
    · rename_i l ef
      cases e
      obtain ⟨F2, A2, s2, q, _⟩ := r1.frz A1 s1 ef
      cases q with
      | lst q r => exact ⟨_, rfl, .inl ⟨⟨_, SqL.of (s2.sub _ _ q)⟩, k F2 ρ1 H1 _ A2 s2 (wk_list (SqL.of q) r)⟩⟩
    · rename_i l ef
      cases e
      obtain ⟨F2, A2, s2, q, _⟩ := r1.frz A1 s1 ef
      cases q with
      | fro q r => exact ⟨_, rfl, .inl ⟨⟨_, s2.sub.seq q⟩, k F2 ρ1 H1 _ A2 s2 (wk_list q r)⟩⟩
    · rename_i l ef
      cases e
      obtain ⟨F2, A2, s2, q, _⟩ := r1.frz A1 s1 ef
      cases q with
      | tup q r => exact ⟨_, rfl, .inr ⟨⟨_, seqT s2.sub q⟩, k F2 ρ1 H1 _ A2 s2 (wk_tup q r)⟩⟩
    · rename_i n ef
      split at e
      · rename_i l el
        cases e
        obtain ⟨F2, A2, s2, q, _⟩ := r1.frz A1 s1 ef
        cases q with
        | ref q =>
          obtain ⟨a, e2, _, _, vs, h1, _⟩ := s2.get el
          rw [q] at e2; cases e2
          exact ⟨_, rfl, .inl ⟨⟨_, SqL.of h1⟩, k F2 ρ1 H1 _ A2 s2 (wk_ref s2 el q h1)⟩⟩
      · cases e
    · cases e
  · cases e⟩
theorem iv_range1 (hg : Gl X "range") (hm : X.mg "range" = none) (ha : EV cl X a fa) (hst : starEach [a] X.env = [(false, eval a X.env)] := by rfl) : IV cl X tg (.Call (.Name "range" p) [a] [] pos) (iRg1 fa) :=
  ⟨PI.imp (pi_range1 hg hm (pa_cons ha.pe pa_nil hst) hst) fun σ H R h => by
  obtain ⟨F, ρ, m, env, w, gd, m', s, er, e, k⟩ := h
  unfold iRg1 at e
  split at e
  · rename_i j m1 e1
    split at e
    · rename_i hj
      cases e
      refine ⟨F, ρ, m, env, _, _, s, er, e1, fun F1 ρ1 H1 v1 A1 s1 r1 => ?_⟩
      cases r1
      exact ⟨j, rfl, hj.1, hj.2, k F1 ρ1 H1 _ A1 s1 wk_range⟩
    · cases e
  · cases e⟩
theorem iv_range2 (hg : Gl X "range") (hm : X.mg "range" = none) (ha : EV cl X a fa) (hb : EV cl X b fb) (hst : starEach [a, b] X.env = [(false, eval a X.env), (false, eval b X.env)] := by rfl) (hst2 : starEach [b] X.env = [(false, eval b X.env)] := by rfl) : IV cl X tg (.Call (.Name "range" p) [a, b] [] pos) (iRg2 fa fb) :=
  ⟨PI.imp (pi_range2 hg hm (pa_cons ha.pe (pa_cons hb.pe pa_nil hst2) (by rw [hst, hst2])) hst hst2) fun σ H R h => by
  obtain ⟨F, ρ, m, env, w, gd, m', s, er, e, k⟩ := h
  unfold iRg2 at e
  split at e
  · rename_i i m1 e1
    split at e
    · rename_i j m2 e2
      split at e
      · rename_i hj
        cases e
        refine ⟨F, ρ, m, env, _, _, s, er, e1, fun F1 ρ1 H1 v1 A1 s1 r1 => ?_⟩
        cases r1
        refine ⟨F1, ρ1, m1, env, _, _, s1, er.adv A1, e2, fun F2 ρ2 H2 v2 A2 s2 r2 => ?_⟩
        cases r2
        exact ⟨i, j, rfl, hj, k F2 ρ2 H2 _ (A1.trans A2) s2 wk_range⟩
      · cases e
    · cases e
  · cases e⟩
theorem iv_enum {elts : List Expr} {kk : Nat} {tpos : Pos} (hg : Gl X "enumerate") (hm : X.mg "enumerate" = none) (ha : AV cl X [a] fr) (hst : starEach [a] X.env = [(false, eval a X.env)] := by rfl) : IV cl X (.Tuple elts kk tpos) (.Call (.Name "enumerate" p) [a] [] pos) (iEnu fr) :=
  ⟨PI.imp (pi_enum hg hm ha.pa hst) fun σ H R h => by
  obtain ⟨F, ρ, m, env, w, gd, m', s, er, e, k⟩ := h
  unfold iEnu at e
  split at e
  · rename_i l m1 e1
    cases e
    refine ⟨F, ρ, m, env, _, _, s, er, e1, fun F1 ρ1 H1 v1 A1 s1 r1 => ?_⟩
    cases r1 with
    | cons q r0 =>
      cases r0
      cases q with
      | lst q r => exact ⟨_, _, rfl, SqL.of (s1.sub _ _ q), k F1 ρ1 H1 _ A1 s1 (wk_enum (SqL.of q) r)⟩
  · rename_i l m1 e1
    cases e
    refine ⟨F, ρ, m, env, _, _, s, er, e1, fun F1 ρ1 H1 v1 A1 s1 r1 => ?_⟩
    cases r1 with
    | cons q r0 =>
      cases r0
      cases q with
      | fro q r => exact ⟨_, _, rfl, s1.sub.seq q, k F1 ρ1 H1 _ A1 s1 (wk_enum q r)⟩
  · cases e⟩

theorem walk_zipT {K : PySem.W.Frag} {a b : Addr} {xs ys : List V} {n : Nat} (hn : n = min xs.length ys.length) : Walk (RZ.ItzT K a b) n (fun H => SqT K H a xs ∧ SqT K H b ys) (YPair (fun i => xs[i]?) (fun i => ys[i]?)) := by
  subst hn
  refine ⟨fun i _ hi q => ?_, fun _ q => ⟨xs, ys, q.1, q.2, by omega⟩, fun i H v H' _ q y => ?_⟩
  · have h1 : i < xs.length := by omega
    have h2 : i < ys.length := by omega
    exact ⟨xs, ys, xs[i], ys[i], q.1, q.2, by simp [h1], by simp [h2]⟩
  · obtain ⟨T, x, z, h1, h2, h3, h4, h5⟩ := y
    exact ⟨T, x, z, h1, h2, h3, h4 xs q.1, h5 ys q.2⟩
theorem iv_zip {elts : List Expr} {kk : Nat} {tpos : Pos} (hg : Gl X "zip") (hm : X.mg "zip" = none) (ha : AV cl X [a, b] fr) (hst : starEach [a, b] X.env = (false, eval a X.env) :: starEach [b] X.env := by rfl) (hpl : (backTo pos (starEach [b] X.env)).any (·.1) = false := by rfl) : IV cl X (.Tuple elts kk tpos) (.Call (.Name "zip" p) [a, b] [] pos) (iZp fr) :=
  ⟨PI.imp (RZ.pi_zipA hg hm ha.pa hst hpl) fun σ H R h => by
  obtain ⟨F, ρ, m, env, w, gd, m', s, er, e, k⟩ := h
  unfold iZp at e
  split at e
  · rename_i l l' m1 e1
    cases e
    refine ⟨F, ρ, m, env, _, _, s, er, e1, fun F1 ρ1 H1 v1 A1 s1 r1 => ?_⟩
    cases r1 with
    | cons q r0 =>
      cases r0 with
      | cons q' r0 =>
        cases r0
        cases q with
        | lst q r =>
          cases q' with
          | lst q' r' =>
            exact ⟨_, _, _, _, rfl, .inl ⟨SqL.of (s1.sub _ _ q), SqL.of (s1.sub _ _ q'), k F1 ρ1 H1 _ A1 s1 (wk_pairs (walk_zip rfl) (fun F1 ρ1 m1 H1 f s => ⟨SqL.of (s.sub _ _ (f _ _ q)), SqL.of (s.sub _ _ (f _ _ q'))⟩) r r')⟩⟩
  · rename_i l l' m1 e1
    cases e
    refine ⟨F, ρ, m, env, _, _, s, er, e1, fun F1 ρ1 H1 v1 A1 s1 r1 => ?_⟩
    cases r1 with
    | cons q r0 =>
      cases r0 with
      | cons q' r0 =>
        cases r0
        cases q with
        | tup q r =>
          cases q' with
          | tup q' r' =>
            exact ⟨_, _, _, _, rfl, .inr ⟨seqT s1.sub q, seqT s1.sub q', k F1 ρ1 H1 _ A1 s1 (wk_pairs (walk_zipT rfl) (fun F1 ρ1 m1 H1 f s => ⟨seqT s.sub (seqT f q), seqT s.sub (seqT f q')⟩) r r')⟩⟩
  · cases e⟩
end

/-! ### comprehensions -/
structure CV (cl : Nat → Cl) (X : Cx) (ifs : List Expr) (f : FT) : Prop where
  pts : PTs X ifs (tT ⟨X.K, cl⟩ f)
def tTrue : FT := fun _ m => some (true, m)
theorem PTs.imp {X : Cx} {e : List Expr} {t t' : TT} (h : PTs X e t) (k : ∀ σ H Q, t' σ H Q → t σ H Q) : PTs X e t' := ⟨fun pins s σ H Q I q => h.run pins s σ H Q I (k σ H Q q)⟩
theorem cv_nil {cl : Nat → Cl} {X : Cx} : CV cl X [] tTrue := ⟨PTs.imp pts_nil fun σ H Q h => by
  obtain ⟨F, ρ, m, env, b, m', s, er, e, k⟩ := h
  cases e
  exact k F ρ H Adv.refl s⟩
theorem cv_one {cl : Nat → Cl} {X : Cx} {c : Expr} {f : FT} (h : TV cl X c f) : CV cl X [c] f := ⟨pts_one h.pt⟩
def wipeE (env : En) : List Nat → En
  | [] => env
  | v :: vs => (wipeE env vs).set v none
open Classical in
noncomputable def loopC (step : W → MH → Option (Option W × MH)) (gd : Gd) : List W → MH → Option (List W × MH)
  | [], m => if gd m then some ([], m) else none
  | w :: ws, m => if gd m then match step w m with
    | some (o, m1) => match loopC step gd ws m1 with
      | some (l, m2) => some ((match o with
        | some x => x :: l
        | none => l), m2)
      | none => none
    | none => none
    else none
def stepC (T : Tg) (vs : List Nat) (ft : FT) (fe : FE) (env : En) (w : W) (m : MH) : Option (Option W × MH) := match setT T w (wipeE env vs) with
  | some env' => match ft env' m with
    | some (true, m2) => match fe env' m2 with
      | some (x, m3) => match frz x with
        | some x' => some (some x', m3)
        | none => none
      | none => none
    | some (false, m2) => some (none, m2)
    | none => none
  | none => none
noncomputable def eLC (T : Tg) (vs : List Nat) (fi : FI) (ft : FT) (fe : FE) : FE := fun env m => match fi env m with
  | some (ws, gd, m1) => if ws.length ≤ sizeLine then match loopC (stepC T vs ft fe env) gd ws m1 with
      | some (l, m2) => some (.own l, m2)
      | none => none
    else none
  | none => none
theorem wipeE_get {env : En} {i : Nat} {w : W} : ∀ {vs : List Nat}, (wipeE env vs)[i]? = some (some w) → env[i]? = some (some w) ∧ i ∉ vs
  | [], h => ⟨h, by simp⟩
  | v :: vs, h => by
    unfold wipeE at h
    by_cases hi : v = i
    · subst hi
      by_cases hv : v < (wipeE env vs).length
      · rw [List.getElem?_set_self hv] at h; cases h
      · rw [List.getElem?_eq_none (by simpa using hv)] at h; cases h
    · rw [List.getElem?_set_ne hi] at h
      obtain ⟨h1, h2⟩ := wipeE_get h
      exact ⟨h1, by simp only [List.mem_cons, not_or]; exact ⟨fun e => hi e.symm, h2⟩⟩
theorem wipeE_len (env : En) : ∀ vs : List Nat, (wipeE env vs).length = env.length
  | [] => rfl
  | v :: vs => by unfold wipeE; rw [List.length_set, wipeE_len env vs]
theorem wipe_at (σ : St) (i : Nat) : ∀ vs : List Nat, i ∉ vs → (wipe σ vs)[i]? = σ[i]?
  | [], _ => rfl
  | v :: vs, h => by
    unfold wipe
    rw [List.getElem?_set_ne fun z => h (by subst z; exact List.mem_cons_self)]
    exact wipe_at σ i vs fun z => h (List.mem_cons_of_mem _ z)
theorem wipe_in (σ : St) (i : Nat) : ∀ vs : List Nat, i ∈ vs → (wipe σ vs)[i]? = if i < σ.length then some none else none
  | v :: vs, h => by
    unfold wipe
    by_cases z : v = i
    · subst z
      by_cases hv : v < σ.length
      · rw [if_pos hv, List.getElem?_set_self (by rw [wipe_length]; exact hv)]
      · rw [if_neg hv, List.getElem?_eq_none (by rw [List.length_set, wipe_length]; exact Nat.le_of_not_lt hv)]
    · rw [List.getElem?_set_ne z]
      exact wipe_in σ i vs (by
        rcases List.mem_cons.mp h with e | e
        · exact absurd e.symm z
        · exact e)
theorem wipe_eq {σ σ' : St} {vs : List Nat} (hl : σ'.length = σ.length) (h : ∀ i, i ∉ vs → σ'[i]? = σ[i]?) : wipe σ' vs = wipe σ vs := by
  apply List.ext_getElem?
  intro i
  by_cases hi : i ∈ vs
  · rw [wipe_in σ' i vs hi, wipe_in σ i vs hi, hl]
  · rw [wipe_at σ' i vs hi, wipe_at σ i vs hi, h i hi]
theorem ER.wipe {g : G} {F : Hp} {ρ : List Addr} {env : En} {σ : St} {H : Hp} (h : ER g F ρ env σ H) (vs : List Nat) : ER g F ρ (wipeE env vs) (L2.wipe σ vs) H := by
  refine ⟨by rw [wipeE_len, wipe_length]; exact h.len, fun i w e => ?_, fun i j l l' e1 e2 ne => ?_⟩
  · obtain ⟨e1, n⟩ := wipeE_get e
    obtain ⟨v, e2, r⟩ := h.slot i w e1
    exact ⟨v, by rw [wipe_at σ i vs n]; exact e2, r⟩
  · obtain ⟨e1, n1⟩ := wipeE_get e1
    obtain ⟨e2, n2⟩ := wipeE_get e2
    rw [wipe_at σ i vs n1, wipe_at σ j vs n2]
    exact h.apart i j l l' e1 e2 ne
theorem tLc_ok {g : G} {T : Tg} {vs : List Nat} {fi : FI} {ft : FT} {fe : FE} (hT : ∀ i ∈ T.is, i ∈ vs) {σ : St} {H : Hp} {Q : VK} (h : tE g (eLC T vs fi ft fe) σ H Q) : tLc (tI g fi) (tG g T) (tT g ft) (tE g fe) vs σ H Q := by
  obtain ⟨F, ρ, m, env, w, m', s, er, e, k⟩ := h
  unfold eLC at e
  split at e
  · rename_i ws gd m1 e1
    split at e
    · rename_i hz
      split at e
      · rename_i l m2 e2
        cases e
        refine ⟨F, ρ, m, env, ws, gd, m1, s, er, e1, fun F1 ρ1 H1 J A1 s1 wk => fun D hD => ?_⟩
        obtain ⟨GG, Y, wk, hG, hY⟩ := wk
        refine lc_it wk (fun i H' => ∃ F2 ρ2 m3 accW accV rest, Adv F1 ρ1 H1 F2 ρ2 H' ∧ SR g F2 ρ2 m3 H' ∧ H' D = some (.lst accV) ∧ F2 D = none ∧ D ∉ ρ2 ∧ RelWs g F2 ρ2 accW accV ∧ accW.length ≤ i ∧
          loopC (stepC T vs ft fe env) gd (ws.drop i) m3 = some (rest, m') ∧ accW ++ rest = l) ?_ ?_ ?_ ?_
        · exact ⟨F1, ρ1, m1, [], [], l, Adv.laid hD, s1.laid hD, upd_same, s1.subNone hD, s1.notMem hD, .nil, Nat.le_refl _, e2, rfl⟩
        · rintro i H' _ ⟨F2, ρ2, m3, accW, accV, rest, A2, s2, _, _, _, _, _, el, _⟩
          refine hG F2 ρ2 m3 H' A2.f A2.r s2 ?_
          cases h : ws.drop i with
          | nil =>
            rw [h] at el; unfold loopC at el; split at el
            · assumption
            · cases el
          | cons w r =>
            rw [h] at el; unfold loopC at el; split at el
            · assumption
            · cases el
        · rintro i x H' H'' hi ⟨F2, ρ2, m3, accW, accV, rest, A2, s2, hD2, hF2, hr2, ra, la, el, eq⟩ y
          have edrop : ws.drop i = ws[i] :: ws.drop (i + 1) := by rw [List.drop_eq_getElem_cons hi]
          rw [edrop] at el
          unfold loopC at el
          split at el
          case isFalse => cases el
          rename_i hgd
          obtain ⟨F3, A3, s3, rx⟩ := hY i ws[i] F2 ρ2 m3 H' x H'' (by simp [hi]) A2.f A2.r s2 hgd y
          split at el
          · rename_i o m4 est
            split at el
            · rename_i l2 m5 el2
              cases el
              unfold stepC at est
              split at est
              · rename_i env' eT
                have erW := (((er.adv A1).adv A2).adv A3).wipe vs
                have O3 : OwnAt g F3 ρ2 H'' accW (.ref D) := OwnAt.adv ⟨D, accV, rfl, hD2, hF2, hr2, ra⟩ A3
                refine ⟨F3, ρ2, m3, _, _, env', s3, erW, rx, eT, fun σ2 er2 ow on => ⟨?_, ?_⟩⟩
                · refine Eq.trans (wipe_eq (σ := L2.wipe σ vs) (σ' := σ2) (vs := vs) ?_ ?_) (wipe_eq (wipe_length _ _) fun i hi => wipe_at σ i vs hi)
                  · rw [← er2.len, wipe_length]
                    have l1 : env'.length = (wipeE env vs).length := by
                      cases T with
                      | nm i => cases eT; rw [List.length_set]
                      | tp is =>
                        have : ∀ {is : List Nat} {ws : List W} {env env' : En}, setNs is ws env = some env' → env'.length = env.length := by
                          intro is
                          induction is with
                          | nil => intro ws env env' e; cases ws with
                            | nil => cases e; rfl
                            | cons _ _ => cases e
                          | cons i is ih => intro ws env env' e; cases ws with
                            | nil => cases e
                            | cons w ws => exact (ih e).trans (List.length_set ..)
                        unfold setT at eT
                        split at eT
                        · cases ‹Tg.tp is = _›
                        · split at eT
                          · rename_i h1 h2
                            cases ‹Tg.tp is = _›
                            exact this eT
                          · cases eT
                    rw [l1, wipeE_len, er.len]
                  · exact fun i hi => on i fun z => hi (hT i z)
                · split at est
                  · rename_i m6 e6
                    split at est
                    · rename_i xr m7 e7
                      split at est
                      · rename_i x' ex
                        cases est
                        refine ⟨F3, ρ2, m3, env', true, m6, s3, er2, e6, fun F4 ρ4 H4 A4 s4 => ?_⟩
                        refine iteT ?_
                        refine ⟨F4, ρ4, m6, env', xr, _, s4, er2.adv A4, e7, fun F5 ρ5 H5 v5 A5 s5 r5 => ?_⟩
                        obtain ⟨F6, A6, s6, q6, f6⟩ := r5.frz A5 s5 ex
                        have O5 := (O3.adv A4).adv A6
                        obtain ⟨D', accV', eD, hD5, hF5, hr5, ra5⟩ := O5
                        cases eD
                        refine ⟨accV', hD5, ?_, F6, ρ5, m4, accW ++ [x'], accV' ++ [v5], l2, ?_, ?_, upd_same, hF5, hr5, ra5.app (.cons q6 .nil), ?_, el2, by rw [← eq]; simp⟩
                        · rw [← ra5.length]
                          exact Nat.lt_of_le_of_lt la (Nat.lt_of_lt_of_le hi hz)
                        · have A := ((A2.trans A3).trans A4).trans A6
                          refine ⟨A.f, A.r, fun c o h1 h2 => ?_, fun c h1 => A.there c (upd_none' h1), A.nf, A.nr⟩
                          rw [upd_ne (ne_of_none h1 hD)]
                          exact A.keep c o h1 h2
                        · refine ⟨fun b u h1 => ?_, s6.len, s6.nd, fun n o c h1 h2 => ?_⟩
                          · rw [upd_ne (ne_of_none h1 hF5)]
                            exact s6.sub b u h1
                          · have ne : c ≠ D := fun z => by subst z; exact hr5 (List.mem_of_getElem? h2)
                            rw [upd_ne ne]
                            exact s6.cell n o c h1 h2
                        · rw [List.length_append, List.length_singleton]
                          omega
                      · cases est
                    · cases est
                  · rename_i m6 e6
                    cases est
                    refine ⟨F3, ρ2, m3, env', false, m4, s3, er2, e6, fun F4 ρ4 H4 A4 s4 => ?_⟩
                    refine iteF ?_
                    obtain ⟨D', accV', eD, hD5, hF5, hr5, ra5⟩ := O3.adv A4
                    cases eD
                    exact ⟨F4, ρ4, m4, accW, accV', l2, (A2.trans A3).trans A4, s4, hD5, hF5, hr5, ra5, by omega, el2, eq⟩
                  · cases est
              · cases est
            · cases el
          · cases el
        · rintro H' ⟨F2, ρ2, m3, accW, accV, rest, A2, s2, hD2, hF2, hr2, ra, la, el, eq⟩
          rw [List.drop_length] at el
          unfold loopC at el
          split at el
          case isFalse => cases el
          cases el
          rw [List.append_nil] at eq
          subst eq
          exact k F2 ρ2 H' _ (A1.trans A2) s2 ⟨⟨D, accV, rfl, hD2, hF2, hr2, ra⟩, fun a ea => by cases ea; exact A1.there _ hD⟩
      · cases e
    · cases e
  · cases e
end M
namespace M
open PySem L2

section
variable {cl : Nat → Cl} {X : Cx} {pos p : Pos} {a b c e tg : Expr} {fa fb fc : FE} {es : List Expr} {fr : FA}
/-- what a comprehension's parts are, in the block -/
abbrev Blk (X : Cx) (scope : Scope) (s : Shared) (H : Hp) (C : Addr) (cs : List (Str × Addr)) (fp : List Addr) : Cx := X.blk s H scope (compEnvC scope cs C X.env) fp
theorem ev_lc {elt tg iter : Expr} {ifs : List Expr} {scope : Scope} {T : Tg} {fi : FI} {ft : FT} {fe : FE} (own : List (Str × Nat)) (hc : X.calm = true) (hN : X.N.Nodup) (hi : IV cl X tg iter fi) (ok : BlkOk X.N X.env.scope scope own)
    (hg : ∀ s H C cs fp, GV cl (Blk X scope s H C cs fp) tg T) (ht : ∀ s H C cs fp, CV cl (Blk X scope s H C cs fp) ifs ft) (he : ∀ s H C cs fp, EV cl (Blk X scope s H C cs fp) elt fe)
    (hT : (T.is.all fun i => (own.map (·.2)).contains i) = true := by rfl) (hs : ∀ x, foldedSetIterable iter X.env x = pure x := by intro _; rfl) : EV cl X (.ListComp elt [⟨tg, iter, ifs, 0⟩] scope pos) (eLC T (own.map (·.2)) fi ft fe) :=
  ⟨PE.imp (pe_lc hc hN hi.pi ok (fun s H C cs fp => (hg s H C cs fp).pg) (fun s H C cs fp => (ht s H C cs fp).pts) (fun s H C cs fp => (he s H C cs fp).pe) hs) fun σ H Q h =>
    tLc_ok (fun i hi => by simpa using List.all_eq_true.mp hT i hi) h⟩
end

/-! ### statements -/
def fuel : Nat := 1099511627776
def oAddI : Op2 := oI2 fun i j => .int (i + j)
inductive Out where
  | nx | bk | ct | rt (w : W)
abbrev FS := En → MH → Option (Out × En × MH)
structure SRel (g : G) (F0 : Hp) (ρ0 : List Addr) (H0 : Hp) (m : MH) (env : En) (F : Hp) (ρ : List Addr) (σ : St) (H : Hp) : Prop where
  sr : SR g F ρ m H
  er : ER g F ρ env σ H
  adv : Adv F0 ρ0 H0 F ρ H
  ownf : ∀ (i : Nat) (l : List W) (a : Addr), env[i]? = some (some (W.own l)) → σ[i]? = some (some (.ref a)) → H0 a = none
def Grow (F : Hp) (ρ : List Addr) (F' : Hp) (ρ' : List Addr) : Prop := Same F F' ∧ ∃ t, ρ' = ρ ++ t
theorem Grow.refl {F : Hp} {ρ : List Addr} : Grow F ρ F ρ := ⟨Same.refl _, [], by simp⟩
theorem Grow.trans {F F1 F2 : Hp} {ρ ρ1 ρ2 : List Addr} (a : Grow F ρ F1 ρ1) (b : Grow F1 ρ1 F2 ρ2) : Grow F ρ F2 ρ2 := by
  obtain ⟨a, t, rfl⟩ := a
  obtain ⟨b, u, rfl⟩ := b
  exact ⟨a.trans b, t ++ u, by rw [List.append_assoc]⟩
theorem Adv.grow {F F1 : Hp} {ρ ρ1 : List Addr} {H H1 : Hp} (A : Adv F ρ H F1 ρ1 H1) : Grow F ρ F1 ρ1 := ⟨A.f, A.r⟩
def Post (g : G) (F0 : Hp) (ρ0 : List Addr) (H0 : Hp) (F : Hp) (ρ : List Addr) (D : Ends) (o : Out) (env' : En) (m' : MH) : Prop := match o with
  | .nx => ∀ F' ρ' σ' H', SRel g F0 ρ0 H0 m' env' F' ρ' σ' H' → Grow F ρ F' ρ' → D.nx σ' H'
  | .bk => ∀ F' ρ' σ' H', SRel g F0 ρ0 H0 m' env' F' ρ' σ' H' → Grow F ρ F' ρ' → D.bk σ' H'
  | .ct => ∀ F' ρ' σ' H', SRel g F0 ρ0 H0 m' env' F' ρ' σ' H' → Grow F ρ F' ρ' → D.ct σ' H'
  | .rt w => ∀ F' ρ' H' v, Adv F0 ρ0 H0 F' ρ' H' → SR g F' ρ' m' H' → ResR g F' ρ' H0 H' w v → D.rt v H'
theorem Post.grow {g : G} {F0 : Hp} {ρ0 : List Addr} {H0 : Hp} {F F1 : Hp} {ρ ρ1 : List Addr} {D : Ends} {o : Out} {env' : En} {m' : MH} (h : Post g F0 ρ0 H0 F ρ D o env' m') (G : Grow F ρ F1 ρ1) : Post g F0 ρ0 H0 F1 ρ1 D o env' m' := by
  cases o with
  | rt w => exact h
  | nx | bk | ct => exact fun F' ρ' σ' H' S G' => h F' ρ' σ' H' S (G.trans G')
def tS (g : G) (f : FS) : TS := fun D σ H => ∃ F0 ρ0 H0 F ρ m env o env' m', SRel g F0 ρ0 H0 m env F ρ σ H ∧ f env m = some (o, env', m') ∧ Post g F0 ρ0 H0 F ρ D o env' m'
structure SV (cl : Nat → Cl) (X : Cx) (st : Stmt) (f : FS) : Prop where
  ps : PS X st (tS ⟨X.K, cl⟩ f)
structure SsV (cl : Nat → Cl) (X : Cx) (st : List Stmt) (f : FS) : Prop where
  ps : PSs X st (tS ⟨X.K, cl⟩ f)
theorem SRel.advd {g : G} {F0 : Hp} {ρ0 : List Addr} {H0 : Hp} {m m1 : MH} {env : En} {F F1 : Hp} {ρ ρ1 : List Addr} {σ : St} {H H1 : Hp} (S : SRel g F0 ρ0 H0 m env F ρ σ H) (A : Adv F ρ H F1 ρ1 H1) (s : SR g F1 ρ1 m1 H1) : SRel g F0 ρ0 H0 m1 env F1 ρ1 σ H1 :=
  ⟨s, S.er.adv A, S.adv.trans A, S.ownf⟩
/-- a slot gets a value -/
theorem SRel.put {g : G} {F0 : Hp} {ρ0 : List Addr} {H0 : Hp} {m : MH} {env : En} {F : Hp} {ρ : List Addr} {σ : St} {H : Hp} {i : Nat} {w : W} {v : V} (S : SRel g F0 ρ0 H0 m env F ρ σ H) (r : RelW g F ρ w v) : SRel g F0 ρ0 H0 m (env.set i (some w)) F ρ (σ.set i (some v)) H :=
  ⟨S.sr, S.er.put r, S.adv, fun j l a e1 e2 => by
    obtain ⟨h1, h2⟩ := Ows.put (σ := σ) (v := v) r.notOwn j l e1
    exact S.ownf j l a h1 (h2.symm.trans e2)⟩
/-- .. one that has just come -/
theorem SRel.putR {g : G} {F0 : Hp} {ρ0 : List Addr} {H0 : Hp} {m : MH} {env : En} {F Fa : Hp} {ρ ρa : List Addr} {σ : St} {H Ha : Hp} {i : Nat} {w : W} {v : V} (Sa : SRel g F0 ρ0 H0 m env F ρ σ H) (ea : ER g Fa ρa env σ Ha) (A0 : ∀ c, Ha c = none → H0 c = none) (r : ResR g F ρ Ha H w v) (hb : ∀ l, w ≠ .bor l) :
    SRel g F0 ρ0 H0 m (env.set i (some w)) F ρ (σ.set i (some v)) H := by
  by_cases hw : ∃ l, w = .own l
  · obtain ⟨l, rfl⟩ := hw
    obtain ⟨O, fr⟩ := r
    obtain ⟨a, vs, rfl, h1, h2, h3, h4⟩ := id O
    have fr' := fr a rfl
    have other : ∀ {j l'}, i ≠ j → env[j]? = some (some (W.own l')) → σ[j]? ≠ some (some (.ref a)) := fun {j l'} ne e1 e2 => by
      obtain ⟨v', e3, q⟩ := ea.slot j _ e1
      obtain ⟨a', vs', rfl, q1, _⟩ := q
      rw [e2] at e3; cases e3
      rw [fr'] at q1; cases q1
    have at' : ∀ {j l'}, (env.set i (some (W.own l)))[j]? = some (some (W.own l')) → (i = j ∧ l' = l ∧ j < env.length) ∨ (i ≠ j ∧ env[j]? = some (some (W.own l'))) := fun {j l'} e1 => by
      by_cases z : i = j
      · subst z
        have hi : i < env.length := by
          have := (List.getElem?_eq_some_iff.mp e1).1
          rwa [List.length_set] at this
        rw [List.getElem?_set_self hi] at e1
        cases e1
        exact .inl ⟨rfl, rfl, hi⟩
      · rw [List.getElem?_set_ne z] at e1
        exact .inr ⟨z, e1⟩
    refine ⟨Sa.sr, ⟨by rw [List.length_set, List.length_set]; exact Sa.er.len, fun j x e1 => ?_, fun j k l1 l2 e1 e2 ne => ?_⟩, Sa.adv, fun j l' a' e1 e2 => ?_⟩
    · by_cases z : i = j
      · subst z
        have hi : i < env.length := by
          have := (List.getElem?_eq_some_iff.mp e1).1
          rwa [List.length_set] at this
        rw [List.getElem?_set_self hi] at e1
        cases e1
        exact ⟨_, List.getElem?_set_self (by rw [← Sa.er.len]; exact hi), O⟩
      · rw [List.getElem?_set_ne z] at e1
        rw [List.getElem?_set_ne z]
        exact Sa.er.slot j x e1
    · rcases at' e1 with ⟨z, -, hl⟩ | ⟨z, e1⟩ <;> rcases at' e2 with ⟨z2, -, hl2⟩ | ⟨z2, e2⟩
      · exact absurd (z.symm.trans z2) ne
      · subst z
        rw [List.getElem?_set_self (by rw [← Sa.er.len]; exact hl), List.getElem?_set_ne z2]
        exact fun q => other z2 e2 q.symm
      · subst z2
        rw [List.getElem?_set_self (by rw [← Sa.er.len]; exact hl2), List.getElem?_set_ne z]
        exact fun q => other z e1 q
      · rw [List.getElem?_set_ne z, List.getElem?_set_ne z2]
        exact Sa.er.apart j k l1 l2 e1 e2 ne
    · rcases at' e1 with ⟨z, -, hl⟩ | ⟨z, e1⟩
      · subst z
        rw [List.getElem?_set_self (by rw [← Sa.er.len]; exact hl)] at e2
        cases e2
        exact A0 _ fr'
      · rw [List.getElem?_set_ne z] at e2
        exact Sa.ownf j l' a' e1 e2
  · have q : RelW g F ρ w v := by
      cases w with
      | own l => exact absurd ⟨l, rfl⟩ hw
      | bor l => exact absurd rfl (hb l)
      | non | bl | int | str | tup | lst | fro | ref => exact r
    exact Sa.put q
/-- an own list is changed in its place -/
theorem SRel.mut {g : G} {F0 : Hp} {ρ0 : List Addr} {H0 : Hp} {m : MH} {env : En} {F : Hp} {ρ : List Addr} {σ : St} {H : Hp} {i : Nat} {l l' : List W} {a : Addr} {vs' : List V} (S : SRel g F0 ρ0 H0 m env F ρ σ H) (e : env[i]? = some (some (W.own l))) (ea : σ[i]? = some (some (.ref a))) (r : RelWs g F ρ l' vs') :
    SRel g F0 ρ0 H0 m (env.set i (some (W.own l'))) F ρ σ (upd H a (.lst vs')) := by
  obtain ⟨v, e1, O⟩ := S.er.slot i _ e
  rw [ea] at e1; cases e1
  obtain ⟨a', vs, eq, h1, h2, h3, h4⟩ := O
  cases eq
  have hi : i < env.length := (List.getElem?_eq_some_iff.mp e).1
  have h0 := S.ownf i l _ e ea
  have slotOwn : ∀ {j l1}, (env.set i (some (W.own l')))[j]? = some (some (W.own l1)) → (i = j ∧ l1 = l') ∨ (i ≠ j ∧ env[j]? = some (some (W.own l1))) := fun {j l1} q => by
    by_cases z : i = j
    · subst z; rw [List.getElem?_set_self hi] at q; cases q; exact .inl ⟨rfl, rfl⟩
    · rw [List.getElem?_set_ne z] at q; exact .inr ⟨z, q⟩
  have ownAny : ∀ {j l1}, (env.set i (some (W.own l')))[j]? = some (some (W.own l1)) → ∃ l2, env[j]? = some (some (W.own l2)) := fun {j l1} q => by
    rcases slotOwn q with ⟨z, _⟩ | ⟨_, q⟩
    · subst z; exact ⟨l, e⟩
    · exact ⟨l1, q⟩
  refine ⟨⟨fun b u q => ?_, S.sr.len, S.sr.nd, fun n o c q1 q2 => ?_⟩, ⟨by rw [List.length_set]; exact S.er.len, fun j x q => ?_, fun j k l1 l2 q1 q2 ne => ?_⟩, ⟨S.adv.f, S.adv.r, fun c o q1 q2 => ?_, fun c q => S.adv.there c (upd_none' q), S.adv.nf, S.adv.nr⟩, fun j l1 c q1 q2 => ?_⟩
  · rw [upd_ne (ne_of_none q h2)]; exact S.sr.sub b u q
  · have ne : c ≠ a := fun z => by subst z; exact h3 (List.mem_of_getElem? q2)
    rw [upd_ne ne]; exact S.sr.cell n o c q1 q2
  · by_cases z : i = j
    · subst z
      rw [List.getElem?_set_self hi] at q
      cases q
      exact ⟨_, ea, a, vs', rfl, upd_same, h2, h3, r⟩
    · rw [List.getElem?_set_ne z] at q
      obtain ⟨v, e2, s⟩ := S.er.slot j x q
      refine ⟨v, e2, ?_⟩
      cases x with
      | own l1 =>
        obtain ⟨c, ws, rfl, g1, g2, g3, g4⟩ := s
        refine ⟨c, ws, rfl, ?_, g2, g3, g4⟩
        have ne : c ≠ a := fun y => by
          subst y
          exact S.er.apart i j l l1 e q z (ea.trans e2.symm)
        rw [upd_ne ne]; exact g1
      | bor l1 => exact s
      | non | bl | int | str | tup | lst | fro | ref => exact s
  · obtain ⟨l3, q3⟩ := ownAny q1
    obtain ⟨l4, q4⟩ := ownAny q2
    exact S.er.apart j k l3 l4 q3 q4 ne
  · rw [upd_ne (ne_of_none q1 h0)]; exact S.adv.keep c o q1 q2
  · obtain ⟨l3, q3⟩ := ownAny q1
    exact S.ownf j l3 c q3 q2
/-- an own list is frozen in its place -/
theorem SRel.frz {g : G} {F0 : Hp} {ρ0 : List Addr} {H0 : Hp} {m : MH} {env : En} {F : Hp} {ρ : List Addr} {σ : St} {H : Hp} {i : Nat} {l : List W} (S : SRel g F0 ρ0 H0 m env F ρ σ H) (e : env[i]? = some (some (W.own l))) :
    ∃ F', SRel g F0 ρ0 H0 m (env.set i (some (W.lst l))) F' ρ σ H ∧ Same F F' := by
  obtain ⟨v, e1, O⟩ := S.er.slot i _ e
  obtain ⟨a, vs, rfl, h1, h2, h3, h4⟩ := O
  have hi : i < env.length := (List.getElem?_eq_some_iff.mp e).1
  have h0 := S.ownf i l _ e e1
  have sm : Same F (upd F a (.lst vs)) := Same.upd h2
  have slotOwn : ∀ {j l1}, (env.set i (some (W.lst l)))[j]? = some (some (W.own l1)) → i ≠ j ∧ env[j]? = some (some (W.own l1)) := fun {j l1} q => by
    by_cases z : i = j
    · subst z; rw [List.getElem?_set_self hi] at q; cases q
    · rw [List.getElem?_set_ne z] at q; exact ⟨z, q⟩
  refine ⟨upd F a (.lst vs), ⟨S.sr.frz h2 h3 h1, ⟨by rw [List.length_set]; exact S.er.len, fun j x q => ?_, fun j k l1 l2 q1 q2 ne => ?_⟩, ⟨S.adv.f.trans sm, S.adv.r, S.adv.keep, S.adv.there, fun c q1 q2 => ?_, S.adv.nr⟩, fun j l1 c q1 q2 => ?_⟩, sm⟩
  · by_cases z : i = j
    · subst z
      rw [List.getElem?_set_self hi] at q
      cases q
      exact ⟨_, e1, RelW.lst upd_same (h4.mono sm ⟨[], by simp⟩)⟩
    · rw [List.getElem?_set_ne z] at q
      obtain ⟨v, e2, s⟩ := S.er.slot j x q
      refine ⟨v, e2, ?_⟩
      cases x with
      | own l1 =>
        obtain ⟨c, ws, rfl, g1, g2, g3, g4⟩ := s
        have ne : c ≠ a := fun y => by
          subst y
          exact S.er.apart i j l l1 e q z (e1.trans e2.symm)
        exact ⟨c, ws, rfl, g1, by rw [upd_ne ne]; exact g2, g3, g4.mono sm ⟨[], by simp⟩⟩
      | bor l1 => exact s
      | non | bl | int | str | tup | lst | fro | ref => exact RelW.mono sm ⟨[], by simp⟩ s
  · exact S.er.apart j k l1 l2 (slotOwn q1).2 (slotOwn q2).2 ne
  · by_cases z : c = a
    · subst z; exact h0
    · rw [upd_ne z] at q2; exact S.adv.nf c q1 q2
  · exact S.ownf j l1 c (slotOwn q1).2 q2

def fSeq (f h : FS) : FS := fun env m => match f env m with
  | some (.nx, env1, m1) => h env1 m1
  | r => r
def fNext : FS := fun env m => some (.nx, env, m)
def fFrz (i : Nat) (h : FS) : FS := fun env m => match env[i]? with
  | some (some (.own l)) => h (env.set i (some (.lst l))) m
  | _ => h env m
def fSet (i : Nat) (fa : FE) : FS := fun env m => match fa env m with
  | some (.bor _, _) => none
  | some (w, m1) => some (.nx, env.set i (some w), m1)
  | none => none
/-- .. a new list is frozen at once -/
def fSetZ (i : Nat) (fa : FE) : FS := fun env m => match fa env m with
  | some (w, m1) => match frz w with
    | some w' => some (.nx, env.set i (some w'), m1)
    | none => none
  | none => none
def fTup (T : Tg) (fa : FE) : FS := fun env m => match fa env m with
  | some (w, m1) => match frz w with
    | some w' => match setT T w' env with
      | some env' => some (.nx, env', m1)
      | none => none
    | none => none
  | none => none
def fIf (c : FT) (f h : FS) : FS := fun env m => match c env m with
  | some (true, m1) => f env m1
  | some (false, m1) => h env m1
  | none => none
def fRet (fa : FE) : FS := fun env m => match fa env m with
  | some (.bor _, _) => none
  | some (w, m1) => some (.rt w, env, m1)
  | none => none
/-- return x, x a name that holds a list of ours -/
def fRetV (i : Nat) : FS := fun env m => match env[i]? with
  | some (some w) => some (.rt w, env, m)
  | _ => none
def fDrop (fa : FE) : FS := fun env m => match fa env m with
  | some (_, m1) => some (.nx, env, m1)
  | none => none
def fAppend (i : Nat) (fa : FE) : FS := fun env m => match env[i]? with
  | some (some (.own _)) => match fa env m with
    | some (x, m1) => match frz x with
      | some x' => match env[i]? with
        | some (some (.own l)) => if l.length < sizeLine then some (.nx, env.set i (some (.own (l ++ [x']))), m1) else none
        | _ => none
      | none => none
    | none => none
  | _ => none
def fAug (i : Nat) (o : Op2) (fa : FE) : FS := fun env m => match env[i]? with
  | some (some x) => match fa env m with
    | some (y, m1) => match o x y m1 with
      | some (.own _, _) => none
      | some (.bor _, _) => none
      | some (z, m2) => some (.nx, env.set i (some z), m2)
      | none => none
    | none => none
  | _ => none
open Classical in
noncomputable def loopF (T : Tg) (gd : Gd) (body : FS) : List W → FS
  | [], env, m => if gd m then some (.nx, env, m) else none
  | w :: ws, env, m => if gd m then match setT T w env with
    | some env1 => match body env1 m with
      | some (.nx, env2, m2) => loopF T gd body ws env2 m2
      | some (.ct, env2, m2) => loopF T gd body ws env2 m2
      | some (.bk, env2, m2) => some (.nx, env2, m2)
      | r => r
    | none => none
    else none
noncomputable def fFor (T : Tg) (fi : FI) (body : FS) : FS := fun env m => match fi env m with
  | some (ws, gd, m1) => loopF T gd body ws env m1
  | none => none
def loopW (c : FT) (body : FS) : Nat → FS
  | 0, _, _ => none
  | n + 1, env, m => match c env m with
    | some (true, m1) => match body env m1 with
      | some (.nx, env2, m2) => loopW c body n env2 m2
      | some (.ct, env2, m2) => loopW c body n env2 m2
      | some (.bk, env2, m2) => some (.nx, env2, m2)
      | r => r
    | some (false, m1) => some (.nx, env, m1)
    | none => none

section
variable {cl : Nat → Cl} {X : Cx} {pos p : Pos} {a b c e tg : Expr} {fa fb fc : FE} {es : List Expr} {fr : FA} {st : Stmt} {sts : List Stmt} {f h : FS} {x : Str} {i : Nat}
theorem ss_nil : SsV cl X [] fNext := ⟨PSs.imp pss_nil fun D σ H q => by
  obtain ⟨F0, ρ0, H0, F, ρ, m, env, o, env', m', S, e, k⟩ := q
  cases e
  exact k F ρ σ H S .refl⟩
theorem ss_one (h : SV cl X st f) : SsV cl X [st] f := ⟨pss_one h.ps⟩
theorem tS_seq {g : G} {D σ H} (q : tS g (fSeq f h) D σ H) : tS g f { D with nx := tS g h D } σ H := by
  obtain ⟨F0, ρ0, H0, F, ρ, m, env, o, env', m', S, e, k⟩ := q
  unfold fSeq at e
  split at e
  · rename_i env1 m1 e1
    exact ⟨F0, ρ0, H0, F, ρ, m, env, _, _, _, S, e1, fun F' ρ' σ' H' S' G' => ⟨F0, ρ0, H0, F', ρ', m1, env1, o, env', m', S', e, k.grow G'⟩⟩
  · rename_i hne
    refine ⟨F0, ρ0, H0, F, ρ, m, env, o, env', m', S, e, ?_⟩
    cases o with
    | nx => exact (hne _ _ e).elim
    | bk | ct | rt => exact k
theorem ss_cons (h1 : SV cl X st f) (h2 : SsV cl X sts h) : SsV cl X (st :: sts) (fSeq f h) := ⟨PSs.imp (pss_cons h1.ps h2.ps) fun D σ H q => tS_seq q⟩
/-- from here on the list in slot i is not changed any more -/
theorem ss_frz (i : Nat) (h : SsV cl X sts f) : SsV cl X sts (fFrz i f) := ⟨PSs.imp h.ps fun D σ H q => by
  obtain ⟨F0, ρ0, H0, F, ρ, m, env, o, env', m', S, e, k⟩ := q
  unfold fFrz at e
  split at e
  · rename_i l el
    obtain ⟨F', S', sm⟩ := S.frz el
    exact ⟨F0, ρ0, H0, F', ρ, m, _, o, env', m', S', e, k.grow ⟨sm, [], by simp⟩⟩
  · exact ⟨F0, ρ0, H0, F, ρ, m, _, o, env', m', S, e, k⟩⟩
theorem tS_set {g : G} {D σ H} (q : tS g (fSet i fa) D σ H) : tE g fa σ H fun y H1 => D.nx (σ.set i (some y)) H1 := by
  obtain ⟨F0, ρ0, H0, F, ρ, m, env, o, env', m', S, e, k⟩ := q
  unfold fSet at e
  split at e
  · cases e
  · rename_i w m1 hb e1
    cases e
    refine ⟨F, ρ, m, env, w, _, S.sr, S.er, e1, fun F1 ρ1 H1 v A s r => ?_⟩
    exact k F1 ρ1 _ H1 ((S.advd A s).putR S.er S.adv.there r (fun l z => hb l (by rw [z]))) A.grow
  · cases e
theorem sv_set (i : Nat) (hN : X.N.Nodup) (he : EV cl X e fa) (hi : X.N[i]? = some x := by rfl) (hx : Loc X.env.scope x := by first | exact Or.inl rfl | exact Or.inr rfl) (hs : swapsWith e (some (.Name x p)) pos.line X.env = pure false := by rfl) (hf : X.fn x = true ∨ X.env.scope.names.lookup x = some .local := by first | exact .inl rfl | exact .inr rfl) :
    SV cl X (.Assign [.Name x p] e pos) (fSet i fa) := ⟨PS.imp (ps_set hN hi hx he.pe hs hf) fun D σ H q => tS_set q⟩
theorem tS_setZ {g : G} {D σ H} (q : tS g (fSetZ i fa) D σ H) : tE g fa σ H fun y H1 => D.nx (σ.set i (some y)) H1 := by
  obtain ⟨F0, ρ0, H0, F, ρ, m, env, o, env', m', S, e, k⟩ := q
  unfold fSetZ at e
  split at e
  · rename_i w m1 e1
    split at e
    · rename_i w' ef
      cases e
      refine ⟨F, ρ, m, env, w, _, S.sr, S.er, e1, fun F1 ρ1 H1 v A s r => ?_⟩
      obtain ⟨F2, A2, s2, q, _⟩ := r.frz A s ef
      exact k F2 ρ1 _ H1 ((S.advd A2 s2).put q) A2.grow
    · cases e
  · cases e
theorem sv_setZ (i : Nat) (hN : X.N.Nodup) (he : EV cl X e fa) (hi : X.N[i]? = some x := by rfl) (hx : Loc X.env.scope x := by first | exact Or.inl rfl | exact Or.inr rfl) (hs : swapsWith e (some (.Name x p)) pos.line X.env = pure false := by rfl) (hf : X.fn x = true ∨ X.env.scope.names.lookup x = some .local := by first | exact .inl rfl | exact .inr rfl) :
    SV cl X (.Assign [.Name x p] e pos) (fSetZ i fa) := ⟨PS.imp (ps_set hN hi hx he.pe hs hf) fun D σ H q => tS_setZ q⟩
theorem sv_setLcZ {elt tg iter : Expr} {ifs : List Expr} {scope : Scope} {T : Tg} {fi : FI} {ft : FT} {fe : FE} {y : Str} {py : Pos} {spos : Pos} (i : Nat) (own : List (Str × Nat)) (hc : X.calm = true) (hN : X.N.Nodup) (hi : IV cl X tg iter fi) (ok : BlkOk X.N X.env.scope scope own)
    (hg : ∀ s H C cs fp, GV cl (Blk X scope s H C cs fp) tg T) (ht : ∀ s H C cs fp, CV cl (Blk X scope s H C cs fp) ifs ft) (he : ∀ s H C cs fp, EV cl (Blk X scope s H C cs fp) elt fe)
    (hy : X.N[i]? = some y := by rfl) (hyl : X.env.scope.names.lookup y = some .local := by rfl)
    (hsw : swapsWith (.ListComp elt [⟨tg, iter, ifs, 0⟩] scope pos) (some (.Name y py)) spos.line X.env = pure true := by exact sw_true rfl rfl rfl (by decide +kernel))
    (hT : (T.is.all fun i => (own.map (·.2)).contains i) = true := by rfl) (hs : ∀ x, foldedSetIterable iter X.env x = pure x := by intro _; rfl) : SV cl X (.Assign [.Name y py] (.ListComp elt [⟨tg, iter, ifs, 0⟩] scope pos) spos) (fSetZ i (eLC T (own.map (·.2)) fi ft fe)) :=
  ⟨PS.imp (ps_setLc hc hN hy hyl hsw hi.pi ok (fun s H C cs fp => (hg s H C cs fp).pg) (fun s H C cs fp => (ht s H C cs fp).pts) (fun s H C cs fp => (he s H C cs fp).pe) hs) fun D σ H q =>
    tLc_ok (fun i hi => by simpa using List.all_eq_true.mp hT i hi) (tS_setZ q)⟩
/-- y = [.. for ..] -/
theorem sv_setLc {elt tg iter : Expr} {ifs : List Expr} {scope : Scope} {T : Tg} {fi : FI} {ft : FT} {fe : FE} {y : Str} {py : Pos} {spos : Pos} (i : Nat) (own : List (Str × Nat)) (hc : X.calm = true) (hN : X.N.Nodup) (hi : IV cl X tg iter fi) (ok : BlkOk X.N X.env.scope scope own)
    (hg : ∀ s H C cs fp, GV cl (Blk X scope s H C cs fp) tg T) (ht : ∀ s H C cs fp, CV cl (Blk X scope s H C cs fp) ifs ft) (he : ∀ s H C cs fp, EV cl (Blk X scope s H C cs fp) elt fe)
    (hy : X.N[i]? = some y := by rfl) (hyl : X.env.scope.names.lookup y = some .local := by rfl)
    (hsw : swapsWith (.ListComp elt [⟨tg, iter, ifs, 0⟩] scope pos) (some (.Name y py)) spos.line X.env = pure true := by exact sw_true rfl rfl rfl (by decide +kernel))
    (hT : (T.is.all fun i => (own.map (·.2)).contains i) = true := by rfl) (hs : ∀ x, foldedSetIterable iter X.env x = pure x := by intro _; rfl) : SV cl X (.Assign [.Name y py] (.ListComp elt [⟨tg, iter, ifs, 0⟩] scope pos) spos) (fSet i (eLC T (own.map (·.2)) fi ft fe)) :=
  ⟨PS.imp (ps_setLc hc hN hy hyl hsw hi.pi ok (fun s H C cs fp => (hg s H C cs fp).pg) (fun s H C cs fp => (ht s H C cs fp).pts) (fun s H C cs fp => (he s H C cs fp).pe) hs) fun D σ H q =>
    tLc_ok (fun i hi => by simpa using List.all_eq_true.mp hT i hi) (tS_set q)⟩
theorem tS_tgt {g : G} {T : Tg} {D σ H} (q : tS g (fTup T fa) D σ H) : tE g fa σ H fun y H1 => tG g T y σ H1 D.nx := by
  obtain ⟨F0, ρ0, H0, F, ρ, m, env, o, env', m', S, e, k⟩ := q
  unfold fTup at e
  split at e
  · rename_i w m1 e1
    split at e
    · rename_i w' ef
      split at e
      · rename_i env1 eT
        cases e
        refine ⟨F, ρ, m, env, w, _, S.sr, S.er, e1, fun F1 ρ1 H1 v A s r => ?_⟩
        obtain ⟨F2, A2, s2, q, _⟩ := r.frz A s ef
        have S2 := S.advd A2 s2
        refine ⟨F2, ρ1, _, env, w', _, s2, S2.er, q, eT, fun σ' er' ow _ => ?_⟩
        exact k F2 ρ1 σ' H1 ⟨s2, er', S2.adv, fun j l a h1 h2 => S2.ownf j l a (ow j l h1).1 ((ow j l h1).2 ▸ h2)⟩ A2.grow
      · cases e
    · cases e
  · cases e
theorem sv_tgt {T : Tg} (he : EV cl X e fa) (hg : GV cl X tg T) (hs : swapsWithSole [tg] e pos.line X.env = pure false := by rfl) (hw : swappedStores [tg] e X.env = pure none := by rfl)
    (h1 : (assignEach [tg] X.env).map (·.2) = [assign tg X.env] := by rfl) : SV cl X (.Assign [tg] e pos) (fTup T fa) := ⟨PS.imp (ps_asg he.pe hg.pg hs hw h1) fun D σ H q => tS_tgt q⟩
theorem sv_if {t : FT} {sa sb : List Stmt} (hc : TV cl X c t) (ha : SsV cl X sa f) (hb : SsV cl X sb h) : SV cl X (.If c sa sb pos) (fIf t f h) := ⟨PS.imp (ps_if hc.pt ha.ps hb.ps) fun D σ H q => by
  obtain ⟨F0, ρ0, H0, F, ρ, m, env, o, env', m', S, e, k⟩ := q
  unfold fIf at e
  split at e
  · rename_i m1 e1
    refine ⟨F, ρ, m, env, _, _, S.sr, S.er, e1, fun F1 ρ1 H1 A s => iteT ?_⟩
    exact ⟨F0, ρ0, H0, F1, ρ1, m1, env, o, env', m', S.advd A s, e, k.grow A.grow⟩
  · rename_i m1 e1
    refine ⟨F, ρ, m, env, _, _, S.sr, S.er, e1, fun F1 ρ1 H1 A s => iteF ?_⟩
    exact ⟨F0, ρ0, H0, F1, ρ1, m1, env, o, env', m', S.advd A s, e, k.grow A.grow⟩
  · cases e⟩
theorem sv_ret (he : EV cl X e fa) : SV cl X (.Return (some e) pos) (fRet fa) := ⟨PS.imp (ps_ret he.pe) fun D σ H q => by
  obtain ⟨F0, ρ0, H0, F, ρ, m, env, o, env', m', S, e, k⟩ := q
  unfold fRet at e
  split at e
  · cases e
  · rename_i w m1 hb e1
    cases e
    exact ⟨F, ρ, m, env, w, _, S.sr, S.er, e1, fun F1 ρ1 H1 v A s r => k F1 ρ1 H1 v (S.adv.trans A) s (r.back S.adv)⟩
  · cases e⟩
theorem sv_retN : SV cl X (.Return none pos) (fRet (eC .non)) := ⟨PS.imp ps_retN fun D σ H q => by
  obtain ⟨F0, ρ0, H0, F, ρ, m, env, o, env', m', S, e, k⟩ := q
  cases e
  exact k F ρ H _ S.adv S.sr RelW.non⟩
theorem sv_retV (i : Nat) (hN : X.N[i]? = some x := by rfl) (hv : Vis X.env.scope x := by first | exact Or.inl rfl | exact Or.inr (Or.inl rfl) | exact Or.inr (Or.inr rfl)) (hd : (x == ("__debug__" : Str)) = false := by decide)
    (hcd : (x == ("__classdict__" : Str)) = false := by decide) : SV cl X (.Return (some (.Name x p)) pos) (fRetV i) := ⟨PS.imp (ps_ret (pe_var hN hv hd hcd)) fun D σ H q => by
  obtain ⟨F0, ρ0, H0, F, ρ, m, env, o, env', m', S, e, k⟩ := q
  unfold fRetV at e
  split at e
  · rename_i w e1
    cases e
    obtain ⟨v, e2, r⟩ := S.er.slot i _ e1
    refine ⟨v, e2, k F ρ H v S.adv S.sr ?_⟩
    cases w with
    | own l => exact ⟨r, fun a ea => S.ownf i l a e1 (by rw [e2, ea])⟩
    | bor l => exact r.elim
    | non | bl | int | str | tup | lst | fro | ref => exact r
  · cases e⟩
theorem sv_drop (he : EV cl X e fa) (hs : swapsWith e none pos.line X.env = pure false := by rfl) : SV cl X (.Expr e pos) (fDrop fa) := ⟨PS.imp (ps_expr he.pe hs) fun D σ H q => by
  obtain ⟨F0, ρ0, H0, F, ρ, m, env, o, env', m', S, e, k⟩ := q
  unfold fDrop at e
  split at e
  · rename_i w m1 e1
    cases e
    exact ⟨F, ρ, m, env, w, _, S.sr, S.er, e1, fun F1 ρ1 H1 v A s r => k F1 ρ1 σ H1 (S.advd A s) A.grow⟩
  · cases e⟩
theorem sv_doc {z : Str} {j : Nat} {p1 p2 : Pos} : SV cl X (.Expr (.Constant (.str z) j p1) p2) fNext := ⟨PS.imp ps_doc fun D σ H q => by
  obtain ⟨F0, ρ0, H0, F, ρ, m, env, o, env', m', S, e, k⟩ := q
  cases e
  exact k F ρ σ H S .refl⟩
theorem sv_pass : SV cl X (.Pass pos) fNext := ⟨PS.imp ps_pass fun D σ H q => by
  obtain ⟨F0, ρ0, H0, F, ρ, m, env, o, env', m', S, e, k⟩ := q
  cases e
  exact k F ρ σ H S .refl⟩
def fBrk : FS := fun env m => some (.bk, env, m)
def fCnt : FS := fun env m => some (.ct, env, m)
theorem sv_break : SV cl X (.Break pos) fBrk := ⟨PS.imp ps_break fun D σ H q => by
  obtain ⟨F0, ρ0, H0, F, ρ, m, env, o, env', m', S, e, k⟩ := q
  cases e
  exact k F ρ σ H S .refl⟩
theorem sv_continue : SV cl X (.Continue pos) fCnt := ⟨PS.imp ps_continue fun D σ H q => by
  obtain ⟨F0, ρ0, H0, F, ρ, m, env, o, env', m', S, e, k⟩ := q
  cases e
  exact k F ρ σ H S .refl⟩
/-- what is not reached -/
def fNever : FS := fun _ _ => none
theorem sv_never : SV cl X st fNever := ⟨PS.imp ps_never fun D σ H q => by
  obtain ⟨F0, ρ0, H0, F, ρ, m, env, o, env', m', S, e, k⟩ := q
  cases e⟩
/-- x.append(e), x a name that holds a list of ours -/
theorem sv_append {apos cpos : Pos} (i : Nat) (ha : EV cl X a fa) (hN : X.N[i]? = some x := by rfl) (hv : Vis X.env.scope x := by first | exact Or.inl rfl | exact Or.inr (Or.inl rfl) | exact Or.inr (Or.inr rfl)) (hd : (x == ("__debug__" : Str)) = false := by decide)
    (hcd : (x == ("__classdict__" : Str)) = false := by decide)
    (hfew : ((backTo cpos (starEach [a] X.env)).all (fun x => !x.1) && (backToKw cpos (keywordEach [] X.env)).all (fun x => x.1.isSome)
      && decide (([a] : List Expr).length + ([] : List Keyword).length + (if ([] : List Keyword).isEmpty then 0 else 1) < 30)) = true := by rfl)
    (hline : (apos.endLine == cpos.line) = true := by rfl) (hst : starEach [a] X.env = [(false, eval a X.env)] := by rfl)
    (hs : swapsWith (.Call (.Attribute (.Name x p) "append" apos) [a] [] cpos) none pos.line X.env = pure false := by rfl) : SV cl X (.Expr (.Call (.Attribute (.Name x p) "append" apos) [a] [] cpos) pos) (fAppend i fa) :=
  ⟨PS.imp (ps_expr (pe_bm PySem.F.plainAttrs_list PySem.F.slot_list_append PySem.F.type_list_append mt_append (pe_var hN hv hd hcd) (pa_cons ha.pe pa_nil hst) rfl hfew hline hst rfl) hs) fun D σ H q => by
  obtain ⟨F0, ρ0, H0, F, ρ, m, env, o, env', m', S, e, k⟩ := q
  unfold fAppend at e
  split at e
  · rename_i l0 el
    obtain ⟨v, e2, r⟩ := S.er.slot i _ el
    obtain ⟨ad, vs0, rfl, h1, h2, h3, h4⟩ := id r
    refine ⟨_, e2, .inl ⟨rfl, _, SqL.of h1⟩, ?_⟩
    split at e
    · rename_i y m1 e1
      split at e
      · rename_i y' ef
        simp only [el] at e
        split at e
        · rename_i hz
          cases e
          refine ⟨F, ρ, m, env, y, _, S.sr, S.er, e1, fun F1 ρ1 H1 v1 A s r1 => ?_⟩
          obtain ⟨F2, A2, s2, q, _⟩ := r1.frz A s ef
          have S2 := S.advd A2 s2
          obtain ⟨v', e3, r'⟩ := S2.er.slot i _ el
          rw [e2] at e3; cases e3
          obtain ⟨ad', vs, eq, g1, g2, g3, g4⟩ := id r'
          cases eq
          refine ⟨ad, vs, v1, rfl, rfl, g1, by rw [← g4.length]; exact hz, ?_⟩
          exact k F2 ρ1 σ _ (S2.mut el e2 (g4.app (.cons q .nil))) A2.grow
        · cases e
      · cases e
    · cases e
  · cases e⟩
theorem sv_aug {op : Operator} {R : R2} {o : Op2} (i : Nat) (hN : X.N.Nodup) (ho : OpR X (inplaceOp op) R) (hs : OpS2 ⟨X.K, cl⟩ R o) (he : EV cl X e fa) (hi : X.N[i]? = some x := by rfl) (hx : Loc X.env.scope x := by first | exact Or.inl rfl | exact Or.inr rfl) (hf : X.fn x = true ∨ X.env.scope.names.lookup x = some .local := by first | exact .inl rfl | exact .inr rfl) :
    SV cl X (.AugAssign (.Name x p) op e pos) (fAug i o fa) := ⟨PS.imp (ps_aug (ti := R) hN hi hx he.pe (fun pins s σ H x y v u Q I r1 r2 q => ho pins s σ H x y v u Q I r1 r2 q) hf) fun D σ H q => by
  obtain ⟨F0, ρ0, H0, F, ρ, m, env, o', env', m', S, e, k⟩ := q
  unfold fAug at e
  split at e
  · rename_i w el
    obtain ⟨v, e2, r⟩ := S.er.slot i _ el
    refine ⟨v, e2, ?_⟩
    split at e
    · rename_i y m1 e1
      split at e
      · cases e
      · cases e
      · rename_i z m2 n1 n2 eo
        cases e
        refine ⟨F, ρ, m, env, y, _, S.sr, S.er, e1, fun F1 ρ1 H1 v1 A s r1 => ?_⟩
        have rd : RdR ⟨X.K, cl⟩ F1 ρ1 H1 w v := by
          have r' := r.adv A
          cases w with
          | own l => exact r'
          | bor l => exact r'.elim
          | non | bl | int | str | tup | lst | fro | ref => exact r'
        refine hs s rd r1.rd eo fun F2 ρ2 H2 v2 A2 s2 r2 => ?_
        have S2 := S.advd (A.trans A2) s2
        exact k F2 ρ2 _ H2 (S2.putR (S.er.adv A) (fun c h => S.adv.there c (A.there c h)) r2 (fun l h => n2 l (by rw [h]))) (A.trans A2).grow
      · cases e
    · cases e
  · cases e⟩
theorem sv_for {iter : Expr} {body : List Stmt} {T : Tg} {fi : FI} {fb : FS} (hp : PassesOwn (model X.prog X.w) X.A X.env X.xe) (hc : X.calm = true) (hi : IV cl X tg iter fi) (hg : GV cl X tg T) (hb : SsV cl X body fb)
    (hs : ∀ x, foldedSetIterable iter X.env x = pure x := by intro _; rfl) : SV cl X (.For tg iter body [] pos) (fFor T fi fb) := ⟨PS.imp (ps_for hp hc hi.pi hg.pg hb.ps hs) fun D σ H q => by
  obtain ⟨F0, ρ0, H0, F, ρ, m, env, o, env', m', S, e, k⟩ := q
  unfold fFor at e
  split at e
  · rename_i ws gd m1 e1
    refine ⟨F, ρ, m, env, ws, gd, m1, S.sr, S.er, e1, fun F1 ρ1 H1 J A1 s1 wk => ?_⟩
    obtain ⟨GG, Y, wk, hG, hY⟩ := wk
    have k1 := k.grow A1.grow
    refine for_it wk (fun i σ2 H2 => ∃ F2 ρ2 m2 env2, SRel ⟨X.K, cl⟩ F0 ρ0 H0 m2 env2 F2 ρ2 σ2 H2 ∧ Grow F1 ρ1 F2 ρ2 ∧ loopF T gd fb (ws.drop i) env2 m2 = some (o, env', m')) ?_ ?_ ?_ ?_
    · exact ⟨F1, ρ1, m1, env, S.advd A1 s1, .refl, e⟩
    · rintro i σ2 H2 _ ⟨F2, ρ2, m2, env2, S2, G2, el⟩
      refine hG F2 ρ2 m2 H2 G2.1 G2.2 S2.sr ?_
      cases h : ws.drop i with
      | nil =>
        rw [h] at el; unfold loopF at el; split at el
        · assumption
        · cases el
      | cons w r =>
        rw [h] at el; unfold loopF at el; split at el
        · assumption
        · cases el
    · rintro i x σ2 H2 H3 hi ⟨F2, ρ2, m2, env2, S2, G2, el⟩ y
      rw [List.drop_eq_getElem_cons hi] at el
      unfold loopF at el
      split at el
      case isFalse => cases el
      rename_i hgd
      obtain ⟨F3, A3, s3, rx⟩ := hY i ws[i] F2 ρ2 m2 H2 x H3 (by simp [hi]) G2.1 G2.2 S2.sr hgd y
      have S3 := S2.advd A3 s3
      split at el
      · rename_i env3 eT
        refine ⟨F3, ρ2, m2, env2, _, env3, s3, S3.er, rx, eT, fun σ4 er4 ow _ => ?_⟩
        have S4 : SRel ⟨X.K, cl⟩ F0 ρ0 H0 m2 env3 F3 ρ2 σ4 H3 := ⟨s3, er4, S3.adv, fun j l a h1 h2 => S3.ownf j l a (ow j l h1).1 ((ow j l h1).2 ▸ h2)⟩
        have G3 : Grow F1 ρ1 F3 ρ2 := G2.trans A3.grow
        have again : ∀ {env5 m5}, loopF T gd fb (ws.drop (i + 1)) env5 m5 = some (o, env', m') → ∀ F' ρ' σ' H', SRel ⟨X.K, cl⟩ F0 ρ0 H0 m5 env5 F' ρ' σ' H' → Grow F3 ρ2 F' ρ' → ∃ F2 ρ2 m2 env2, SRel ⟨X.K, cl⟩ F0 ρ0 H0 m2 env2 F2 ρ2 σ' H' ∧ Grow F1 ρ1 F2 ρ2 ∧ loopF T gd fb (ws.drop (i + 1)) env2 m2 = some (o, env', m') :=
          fun {env5 m5} el2 F' ρ' σ' H' S' G' => ⟨F', ρ', m5, env5, S', G3.trans G', el2⟩
        split at el
        · rename_i env5 m5 e5
          exact ⟨F0, ρ0, H0, F3, ρ2, m2, env3, _, _, _, S4, e5, again el⟩
        · rename_i env5 m5 e5
          exact ⟨F0, ρ0, H0, F3, ρ2, m2, env3, _, _, _, S4, e5, again el⟩
        · rename_i env5 m5 e5
          cases el
          exact ⟨F0, ρ0, H0, F3, ρ2, m2, env3, _, _, _, S4, e5, k1.grow G3⟩
        · rename_i n1 n2 n3
          refine ⟨F0, ρ0, H0, F3, ρ2, m2, env3, _, _, _, S4, el, ?_⟩
          cases o with
          | nx => exact (n1 _ _ el).elim
          | ct => exact (n2 _ _ el).elim
          | bk => exact (n3 _ _ el).elim
          | rt w => exact k
      · cases el
    · rintro σ2 H2 ⟨F2, ρ2, m2, env2, S2, G2, el⟩
      rw [List.drop_length] at el
      unfold loopF at el
      split at el
      case isFalse => cases el
      cases el
      exact k1 F2 ρ2 σ2 H2 S2 G2
  · cases e⟩
theorem sv_while (n : Nat) {t : FT} {body : List Stmt} {fb : FS} (hp : PassesOwn (model X.prog X.w) X.A X.env X.xe) (hc : TV cl X c t) (hb : SsV cl X body fb) : SV cl X (.While c body [] pos) (loopW t fb n) := ⟨PS.imp (ps_while hp hc.pt hb.ps) fun D σ H q => by
  obtain ⟨F0, ρ0, H0, F, ρ, m, env, o, env', m', S, e, k⟩ := q
  refine ⟨fun j σ2 H2 => ∃ F2 ρ2 m2 env2, SRel ⟨X.K, cl⟩ F0 ρ0 H0 m2 env2 F2 ρ2 σ2 H2 ∧ Grow F ρ F2 ρ2 ∧ loopW t fb j env2 m2 = some (o, env', m'), ⟨n, F, ρ, m, env, S, .refl, e⟩, ?_⟩
  rintro j σ2 H2 ⟨F2, ρ2, m2, env2, S2, G2, el⟩
  cases j with
  | zero => cases el
  | succ j =>
    unfold loopW at el
    split at el
    · rename_i m3 e3
      refine ⟨F2, ρ2, m2, env2, _, _, S2.sr, S2.er, e3, fun F3 ρ3 H3 A3 s3 => ?_⟩
      have S3 := S2.advd A3 s3
      have G3 := G2.trans A3.grow
      refine ⟨fun σ' H' => ∃ F2 ρ2 m2 env2, SRel ⟨X.K, cl⟩ F0 ρ0 H0 m2 env2 F2 ρ2 σ' H' ∧ Grow F ρ F2 ρ2 ∧ loopW t fb j env2 m2 = some (o, env', m'), fun σ' H' h => ⟨j, Nat.lt_succ_self _, h⟩, ?_⟩
      have again : ∀ {env5 m5}, loopW t fb j env5 m5 = some (o, env', m') → ∀ F' ρ' σ' H', SRel ⟨X.K, cl⟩ F0 ρ0 H0 m5 env5 F' ρ' σ' H' → Grow F3 ρ3 F' ρ' → ∃ F2 ρ2 m2 env2, SRel ⟨X.K, cl⟩ F0 ρ0 H0 m2 env2 F2 ρ2 σ' H' ∧ Grow F ρ F2 ρ2 ∧ loopW t fb j env2 m2 = some (o, env', m') :=
        fun {env5 m5} el2 F' ρ' σ' H' S' G' => ⟨F', ρ', m5, env5, S', G3.trans G', el2⟩
      split at el
      · rename_i env5 m5 e5
        exact ⟨F0, ρ0, H0, F3, ρ3, m3, env2, _, _, _, S3, e5, again el⟩
      · rename_i env5 m5 e5
        exact ⟨F0, ρ0, H0, F3, ρ3, m3, env2, _, _, _, S3, e5, again el⟩
      · rename_i env5 m5 e5
        cases el
        exact ⟨F0, ρ0, H0, F3, ρ3, m3, env2, _, _, _, S3, e5, k.grow G3⟩
      · rename_i n1 n2 n3
        refine ⟨F0, ρ0, H0, F3, ρ3, m3, env2, _, _, _, S3, el, ?_⟩
        cases o with
        | nx => exact (n1 _ _ el).elim
        | ct => exact (n2 _ _ el).elim
        | bk => exact (n3 _ _ el).elim
        | rt w => exact k
    · rename_i m3 e3
      cases el
      exact ⟨F2, ρ2, m2, _, _, _, S2.sr, S2.er, e3, fun F3 ρ3 H3 A3 s3 => iteF (k F3 ρ3 σ2 H3 (S2.advd A3 s3) (G2.trans A3.grow))⟩
    · cases el⟩
end

/-! ### a def -/
def startE (n : Nat) (ws : List W) : En := ws.map some ++ List.replicate (n - ws.length) none
def bodyF (n : Nat) (f : FS) : OpN := fun ws m => match f (startE n ws) m with
  | some (.rt (.bor _), _, _) => none
  | some (.rt w, _, m') => some (w, m')
  | some (.nx, _, m') => some (.non, m')
  | _ => none
theorem fn_W {P : Program} {w : World} {K : PySem.W.Frag} {mg : Str → Option Value} {base : Heap} {cl : Nat → Cl} {x qual : Str} {st : Stmt} {f : Addr} {fd : FuncData} {N ps : List Str} {k : Nat} {fb : FS} (D : Fun K x qual st f fd) (S : FnScope N ps (defScope st))
    (hb : ∀ (cdv : Value) (A : Around) (outer : List Env) (s : Shared) (H : Hp) (E : XK), Room k (A.deeper (PyProof.Rows.envOfC qual (defScope st) s.heap.objs.size f cdv)) → SsV cl (cxOf CX0 P w K mg base N qual (defScope st) f cdv A outer s H E).nox (defBody st) fb) :
    FnOk P w K mg base CX0 (k + 1) f fd ps (spW ⟨K, cl⟩ ps.length (bodyF N.length fb)) := by
  refine D.ok S (fun vs H Q E h => ?_) (fun cdv A outer s H vs Q E hr h => ?_)
  · obtain ⟨F, ρ, m, ws, w, m', hl, _⟩ := h
    exact hl
  · obtain ⟨F, ρ, m, ws, w, m', hl, sr, r, e, k⟩ := h
    refine ⟨_, (hb cdv A outer s H E hr).ps, ?_⟩
    have hle : ws.length = vs.length := r.length
    have er : ER ⟨K, cl⟩ F ρ (startE N.length ws) (L2.start N vs) H := by
      have own : ∀ {i w}, (startE N.length ws)[i]? = some (some w) → ws[i]? = some w := fun {i w} e => by
        unfold startE at e
        by_cases hi : i < ws.length
        · rw [List.getElem?_append_left (by simpa using hi), List.getElem?_map] at e
          cases q : ws[i]? with
          | none => rw [q] at e; cases e
          | some y => rw [q] at e; cases e; rfl
        · rw [List.getElem?_append_right (by simpa using Nat.le_of_not_lt hi), List.getElem?_replicate] at e
          split at e <;> cases e
      refine ⟨by unfold startE L2.start; rw [List.length_append, List.length_append, List.length_map, List.length_map, List.length_replicate, List.length_replicate, hle], fun i w e => ?_, fun i j l l' e1 e2 ne => ?_⟩
      · obtain ⟨v, e2, q⟩ := r.get (own e)
        refine ⟨v, ?_, q.slot⟩
        unfold L2.start
        rw [List.getElem?_append_left (by simpa using (List.getElem?_eq_some_iff.mp e2).1), List.getElem?_map, e2]
        rfl
      · obtain ⟨v, e2, q⟩ := r.get (own e1)
        exact absurd rfl (q.notOwn l)
    unfold bodyF at e
    have base : ∀ {o env' m1}, fb (startE N.length ws) m = some (o, env', m1) → Post ⟨K, cl⟩ F ρ H F ρ { nx := fun _ H' => Q .non H', rt := Q } o env' m1 → tS ⟨K, cl⟩ fb { nx := fun _ H' => Q .non H', rt := Q } (L2.start N vs) H :=
      fun {o env' m1} e1 p => ⟨F, ρ, H, F, ρ, m, _, o, env', m1, ⟨sr, er, Adv.refl, fun i l a e1 e2 => by
        obtain ⟨v, e3, q⟩ := er.slot i _ e1
        have : (startE N.length ws)[i]? = some (some (W.own l)) := e1
        unfold startE at this
        by_cases hi : i < ws.length
        · rw [List.getElem?_append_left (by simpa using hi), List.getElem?_map] at this
          cases q : ws[i]? with
          | none => rw [q] at this; cases this
          | some y =>
            rw [q] at this; cases this
            obtain ⟨v, e2, q⟩ := r.get q
            exact absurd rfl (q.notOwn l)
        · rw [List.getElem?_append_right (by simpa using Nat.le_of_not_lt hi), List.getElem?_replicate] at this
          split at this <;> cases this⟩, e1, p⟩
    split at e
    · cases e
    · rename_i w1 _ m1 hb1 e1
      cases e
      exact base e1 fun F' ρ' H' v A' s' r' => k F' ρ' H' v A' s' r'
    · rename_i m1 e1
      cases e
      exact base e1 fun F' ρ' σ' H' S' _ => k F' ρ' H' .non S'.adv S'.sr RelW.non
    · cases e
/-- another promise: what the body does, said otherwise -/
theorem fn_imp {P : Program} {w : World} {K : PySem.W.Frag} {mg : Str → Option Value} {base : Heap} {cl : Nat → Cl} {k n : Nat} {f : Addr} {fd : FuncData} {ps : List Str} {φ φ' : OpN} (D : FnOk P w K mg base CX0 k f fd ps (spW ⟨K, cl⟩ n φ)) (h : ∀ ws m r, φ' ws m = some r → φ ws m = some r) :
    FnOk P w K mg base CX0 k f fd ps (spW ⟨K, cl⟩ n φ') := D.imp fun vs H Q E ⟨F, ρ, m, ws, w, m', h1, h2, h3, h4, h5⟩ => ⟨F, ρ, m, ws, w, m', h1, h2, h3, h _ _ _ h4, h5⟩
/-- a def of the module, by its name: its level, the number of its parameters, what it does -/
def OkFn (P : Program) (w : World) (K : PySem.W.Frag) (mg : Str → Option Value) (base : Heap) (cl : Nat → Cl) (x : Str) (k n : Nat) (φ : OpN) : Prop :=
  ∃ f fd ps, FnOk P w K mg base CX0 k f fd ps (spW ⟨K, cl⟩ n φ) ∧ mg x = some (.ref f) ∧ PySem.W.keepIn K (.ref f) = true ∧ Binds K fd ps []
/-- where a def stands -/
def DefAt (K : PySem.W.Frag) (mg : Str → Option Value) (x : Str) (st : Stmt) : Prop := ∃ f fd, Fun K x x st f fd ∧ mg x = some (.ref f)
theorem ev_fn {cl : Nat → Cl} {X : Cx} {x : Str} {p pos : Pos} {e : Expr} {es : List Expr} {fr : FA} {k j n : Nat} {φ : OpN} (O : OkFn X.prog X.w X.K X.mg X.base cl x k n φ) (hr : Room j X.A) (hkj : k ≤ j) (hg : Gl X x) (ha : AV cl X (e :: es) fr)
    (hdb : (x == ("__debug__" : Str)) = false := by decide) (he : starEach (e :: es) X.env = (false, eval e X.env) :: starEach es X.env := by rfl) (hpl : (backTo pos (starEach es X.env)).any (·.1) = false := by rfl) : EV cl X (.Call (.Name x p) (e :: es) [] pos) (eArg (oCall n φ) fr) := by
  obtain ⟨f, fd, ps, D, hm, hk, hb⟩ := O
  exact ev_call D (hr.mono hkj) hg hm hk hb ha hdb he hpl
theorem ok_fn {P : Program} {w : World} {K : PySem.W.Frag} {mg : Str → Option Value} {base : Heap} {cl : Nat → Cl} {x : Str} {st : Stmt} {N ps : List Str} {k : Nat} {fb : FS} (D : DefAt K mg x st) (S : FnScope N ps (defScope st))
    (hbd : ∀ (kV doc pm : Value) (an : Option Addr) (cdv ct : Value) (us : List Value), us.length = ps.length → bindArgs (PySem.W.fnOf x x (defArgs st) (defBody st) (defScope st) .none kV doc pm an cdv ct) ⟨us, []⟩ = pure (ps.zip us))
    (hb : ∀ (f : Addr) (cdv : Value) (A : Around) (outer : List Env) (s : Shared) (H : Hp) (E : XK), Room k (A.deeper (PyProof.Rows.envOfC x (defScope st) s.heap.objs.size f cdv)) → SsV cl (cxOf CX0 P w K mg base N x (defScope st) f cdv A outer s H E).nox (defBody st) fb) :
    OkFn P w K mg base cl x (k + 1) ps.length (bodyF N.length fb) := by
  obtain ⟨f, fd, F, hm⟩ := D
  exact ⟨f, fd, ps, fn_W F S (hb f), hm, F.kp, F.binds hbd⟩
end M
namespace M
open PySem L2
/-! ### objects of the small heap -/
section
variable {g : G} {F : Hp} {ρ : List Addr} {H : Hp} {m : MH} {w : W} {v : V} {l : List W} {Q : VK} {p a : Addr} {o o' : MO} {ho : HO}
theorem getSnoc {α : Type} {l : List α} {x y : α} {n : Nat} (h : (l ++ [x])[n]? = some y) : (l[n]? = some y) ∨ (n = l.length ∧ y = x) := by
  by_cases z : n < l.length
  · rw [List.getElem?_append_left z] at h; exact .inl h
  · rw [List.getElem?_append_right (Nat.le_of_not_lt z)] at h
    cases e : n - l.length with
    | zero => rw [e] at h; cases h; exact .inr ⟨by omega, rfl⟩
    | succ k => rw [e] at h; simp at h
theorem SR.alloc (s : SR g F ρ m H) (hp : H p = none) (c : CellR g F (ρ ++ [p]) (some ho) o) : Adv F ρ H F (ρ ++ [p]) (upd H p ho) ∧ SR g F (ρ ++ [p]) (m ++ [o]) (upd H p ho) := by
  refine ⟨⟨Same.refl _, ⟨[p], rfl⟩, fun a u e _ => by rw [upd_ne (ne_of_none e hp)]; exact e, fun a e => upd_none' e, fun a h n => absurd h n, fun a h n => ?_⟩, ⟨(s.laid hp).sub, by rw [List.length_append, List.length_append, s.len]; rfl, ?_, fun n x b e1 e2 => ?_⟩⟩
  · rcases List.mem_append.mp h with h | h
    · exact absurd h n
    · rw [List.mem_singleton] at h; subst h; exact hp
  · rw [List.nodup_append]
    refine ⟨s.nd, by simp, fun x hx y hy => ?_⟩
    rw [List.mem_singleton] at hy
    subst hy
    exact fun z => s.notMem hp (z ▸ hx)
  · rcases getSnoc e1 with e1 | ⟨en, rfl⟩
    · have hn : n < ρ.length := by rw [s.len]; exact (List.getElem?_eq_some_iff.mp e1).1
      rw [List.getElem?_append_left hn] at e2
      obtain ⟨h1, h2⟩ := s.cell n x b e1 e2
      have ne : b ≠ p := fun z => s.notMem hp (z ▸ List.mem_of_getElem? e2)
      exact ⟨h1, by rw [upd_ne ne]; exact h2.mono (Same.refl _) ⟨[p], rfl⟩⟩
    · subst en
      rw [← s.len, List.getElem?_append_right (Nat.le_refl _), Nat.sub_self] at e2
      cases e2
      exact ⟨s.subNone hp, by rw [upd_same]; exact c⟩
/-- a new object -/
theorem Fin.new (k : Fin g F ρ H (.ref m.length) (m ++ [o]) Q) (s : SR g F ρ m H) (hp : H p = none) (c : CellR g F (ρ ++ [p]) (some ho) o) : Q (.ref p) (upd H p ho) := by
  obtain ⟨A, s'⟩ := s.alloc hp c
  exact k _ _ _ _ A s' (.ref (by rw [List.getElem?_append_right (Nat.le_of_eq s.len), s.len, Nat.sub_self]; rfl))
theorem SR.put {n : Nat} (s : SR g F ρ m H) (e : ρ[n]? = some a) (c : CellR g F ρ (some ho) o') : Adv F ρ H F ρ (upd H a ho) ∧ SR g F ρ (m.set n o') (upd H a ho) := by
  obtain ⟨o, e1, hF, c0⟩ := s.at e
  have ha : a ∈ ρ := List.mem_of_getElem? e
  refine ⟨⟨Same.refl _, ⟨[], by simp⟩, fun b u h1 h2 => by rw [upd_ne (fun z => by subst z; exact h2 ha)]; exact h1, fun b h1 => upd_none' h1, fun b h n => absurd h n, fun b h n => absurd h n⟩, ⟨fun b u h1 => ?_, by rw [List.length_set]; exact s.len, s.nd, fun j x b e2 e3 => ?_⟩⟩
  · rw [upd_ne (ne_of_none h1 hF)]; exact s.sub b u h1
  · by_cases z : n = j
    · subst z
      rw [e] at e3; cases e3
      rw [List.getElem?_set_self (List.getElem?_eq_some_iff.mp e1).1] at e2
      cases e2
      exact ⟨hF, by rw [upd_same]; exact c⟩
    · rw [List.getElem?_set_ne z] at e2
      obtain ⟨h1, h2⟩ := s.cell j x b e2 e3
      have ne : b ≠ a := fun q => by
        subst q
        have h1 := (List.getElem?_eq_some_iff.mp e)
        have h2 := (List.getElem?_eq_some_iff.mp e3)
        exact z ((List.getElem_inj s.nd).mp (h1.2.trans h2.2.symm))
      exact ⟨h1, by rw [upd_ne ne]; exact h2⟩
/-- an object is written -/
theorem Fin.put {n : Nat} (k : Fin g F ρ H w (m.set n o') Q) (s : SR g F ρ m H) (e : ρ[n]? = some a) (c : CellR g F ρ (some ho) o') (r : ∀ H', ResR g F ρ H H' w v) : Q v (upd H a ho) := by
  obtain ⟨A, s'⟩ := s.put e c
  exact k F ρ _ v A s' (r _)
end
/-- a list of ours goes to the heap -/
def eRef (fa : FE) : FE := fun env m => match fa env m with
  | some (.own l, m1) => some (.ref m1.length, m1 ++ [.lst l])
  | _ => none
section
variable {cl : Nat → Cl} {X : Cx} {pos p cpos apos : Pos} {a b c e o : Expr} {fa fb fc fo : FE} {es : List Expr} {fr : FA} {x : Str}
theorem tE_ref {g : G} {fa : FE} {σ : St} {H : Hp} {Q : VK} (h : tE g (eRef fa) σ H Q) : tE g fa σ H Q := by
  obtain ⟨F, ρ, m, env, w, m', s, er, e, k⟩ := h
  unfold eRef at e
  split at e
  · rename_i l m1 e1
    cases e
    refine ⟨F, ρ, m, env, _, _, s, er, e1, fun F1 ρ1 H1 v1 A1 s1 r1 => ?_⟩
    obtain ⟨⟨ad, vs, rfl, h1, h2, h3, r⟩, fr⟩ := r1
    refine k F1 (ρ1 ++ [ad]) H1 _ ⟨A1.f, by obtain ⟨t, rfl⟩ := A1.r; exact ⟨t ++ [ad], by rw [List.append_assoc]⟩, A1.keep, A1.there, A1.nf, fun c h n => ?_⟩ ⟨s1.sub, by rw [List.length_append, List.length_append, s1.len]; rfl, ?_, fun n x b e1 e2 => ?_⟩ (RelW.ref (by rw [List.getElem?_append_right (Nat.le_of_eq s1.len), s1.len, Nat.sub_self]; rfl))
    · rcases List.mem_append.mp h with h | h
      · exact A1.nr c h n
      · rw [List.mem_singleton] at h; subst h; exact fr _ rfl
    · rw [List.nodup_append]
      refine ⟨s1.nd, by simp, fun x hx y hy => ?_⟩
      rw [List.mem_singleton] at hy
      subst hy
      exact fun z => h3 (z ▸ hx)
    · rcases getSnoc e1 with e1 | ⟨en, rfl⟩
      · have hn : n < ρ1.length := by rw [s1.len]; exact (List.getElem?_eq_some_iff.mp e1).1
        rw [List.getElem?_append_left hn] at e2
        obtain ⟨q1, q2⟩ := s1.cell n x b e1 e2
        exact ⟨q1, q2.mono (Same.refl _) ⟨[ad], rfl⟩⟩
      · subst en
        rw [← s1.len, List.getElem?_append_right (Nat.le_refl _), Nat.sub_self] at e2
        cases e2
        exact ⟨h2, vs, h1, r.mono (Same.refl _) ⟨[ad], rfl⟩⟩
  · cases e
theorem ev_ref (ha : EV cl X e fa) : EV cl X e (eRef fa) := ⟨PE.imp ha.pe fun σ H Q h => tE_ref h⟩

/-! methods of lists -/
abbrev OpM := W → List W → MH → Option (W × MH)
def isLst (m : MH) (x : W) : Bool := match x with
  | .ref n => match m[n]? with
    | some (.lst _) => true
    | _ => false
  | _ => false
def eMet (op : OpM) (fo : FE) (fr : FA) : FE := fun env m => match fo env m with
  | some (x, m1) => if isLst m1 x = true then match fr env m1 with
      | some (xs, m2) => op x xs m2
      | none => none
    else none
  | none => none
def OpSM (g : G) (R : V → List V → Hp → VK → Prop) (op : OpM) : Prop := ∀ {F ρ m H x vx xs vs w m' Q}, SR g F ρ m H → RelW g F ρ x vx → RelWs g F ρ xs vs → op x xs m = some (w, m') → Fin g F ρ H w m' Q → R vx vs H Q
theorem isLst_rd {g : G} {F : Hp} {ρ : List Addr} {H : Hp} {m : MH} {x : W} {vx : V} {H0 : Hp} (s : SR g F ρ m H) (r : ResR g F ρ H0 H x vx) (h : isLst m x = true) : (∃ a l vs n, x = .ref n ∧ ρ[n]? = some a ∧ m[n]? = some (.lst l) ∧ vx = .ref a ∧ H a = some (.lst vs) ∧ RelWs g F ρ l vs) ∧ RelW g F ρ x vx := by
  cases x with
  | ref n =>
    cases r with
    | ref q =>
      obtain ⟨o, e1, _, c⟩ := s.at q
      unfold isLst at h
      simp only [e1] at h
      cases o with
      | lst l => obtain ⟨vs, h1, h2⟩ := c; exact ⟨⟨_, l, vs, n, rfl, q, e1, rfl, h1, h2⟩, .ref q⟩
      | dct _ => cases h
      | ins _ _ => cases h
  | non | bl | int | str | tup | lst | fro | own | bor => cases h
theorem tE_met {g : G} {op : OpM} {R : V → List V → Hp → VK → Prop} (hs : OpSM g R op) {σ H Q} (h : tE g (eMet op fo fr) σ H Q) : tBM g.K "list" R (tE g fo) (tA g fr) σ H Q := by
  obtain ⟨F, ρ, m, env, w, m', s, er, e, k⟩ := h
  unfold eMet at e
  split at e
  · rename_i x m1 e1
    split at e
    · rename_i hl
      split at e
      · rename_i xs m2 e2
        refine ⟨F, ρ, m, env, _, _, s, er, e1, fun F1 ρ1 H1 v1 A1 s1 r1 => ?_⟩
        obtain ⟨⟨ad, l, vs, n, rfl, q, q1, rfl, h1, h2⟩, rx⟩ := isLst_rd s1 r1 hl
        refine ⟨.inl ⟨rfl, _, SqL.of h1⟩, F1, ρ1, m1, env, _, _, s1, er.adv A1, e2, fun F2 ρ2 H2 v2 A2 s2 r2 => ?_⟩
        exact hs s2 (rx.mono A2.f A2.r) r2 e fun F3 ρ3 H3 v3 A3 s3 r3 => k F3 ρ3 H3 v3 ((A1.trans A2).trans A3) s3 (r3.back (A1.trans A2))
      · cases e
    · cases e
  · cases e
/-- x.append(y) -/
def oApp : OpM := fun x xs m => match x, xs with
  | .ref n, [y] => match m[n]? with
    | some (.lst l) => if l.length < sizeLine then some (.non, m.set n (.lst (l ++ [y]))) else none
    | _ => none
  | _, _ => none
theorem oApp_ok {g : G} : OpSM g rAppend oApp := fun {F ρ m H x vx xs vs w m' Q} s rx rs e k => by
  unfold oApp at e
  split at e
  · rename_i n y
    split at e
    · rename_i l el
      split at e
      · rename_i hl
        cases e
        cases rx with
        | ref q =>
          obtain ⟨_, vs0, h1, h2⟩ := s.cell n _ _ el q
          cases rs with
          | cons ry r0 =>
            cases r0
            exact ⟨_, vs0, _, rfl, rfl, h1, by rw [← h2.length]; exact hl, Fin.put k s q ⟨_, rfl, h2.app (.cons ry .nil)⟩ fun _ => RelW.non⟩
      · cases e
    · cases e
  · cases e
theorem ev_append (ho : EV cl X o fo) (ha : AV cl X [a] fr) (hbase : attributeBase o "append" X.env (eval o X.env) = eval o X.env := by rfl)
    (hfew : ((backTo cpos (starEach [a] X.env)).all (fun x => !x.1) && (backToKw cpos (keywordEach [] X.env)).all (fun x => x.1.isSome)
      && decide (([a] : List Expr).length + ([] : List Keyword).length + (if ([] : List Keyword).isEmpty then 0 else 1) < 30)) = true := by rfl)
    (hline : (apos.endLine == cpos.line) = true := by rfl) (hs : starEach [a] X.env = [(false, eval a X.env)] := by rfl) : EV cl X (.Call (.Attribute o "append" apos) [a] [] cpos) (eMet oApp fo fr) :=
  ⟨PE.imp (pe_bm PySem.F.plainAttrs_list PySem.F.slot_list_append PySem.F.type_list_append mt_append ho.pe ha.pa hbase hfew hline hs rfl) fun _ _ _ h => tE_met oApp_ok h⟩
/-- x.insert(i, y) -/
def oIns : OpM := fun x xs m => match x, xs with
  | .ref n, [.int i, y] => match m[n]? with
    | some (.lst l) => if l.length < sizeLine ∧ 0 ≤ i ∧ i < 2 ^ 63 then some (.non, m.set n (.lst (l.take i.toNat ++ [y] ++ l.drop i.toNat))) else none
    | _ => none
  | _, _ => none
theorem ev_insert (ho : EV cl X o fo) (ha : AV cl X [a, b] fr) (hbase : attributeBase o "insert" X.env (eval o X.env) = eval o X.env := by rfl)
    (hfew : ((backTo cpos (starEach [a, b] X.env)).all (fun x => !x.1) && (backToKw cpos (keywordEach [] X.env)).all (fun x => x.1.isSome)
      && decide (([a, b] : List Expr).length + ([] : List Keyword).length + (if ([] : List Keyword).isEmpty then 0 else 1) < 30)) = true := by rfl)
    (hline : (apos.endLine == cpos.line) = true := by rfl) (hs : starEach [a, b] X.env = (false, eval a X.env) :: starEach [b] X.env := by rfl) (hpl : (backTo cpos (starEach [b] X.env)).any (·.1) = false := by rfl) : EV cl X (.Call (.Attribute o "insert" apos) [a, b] [] cpos) (eMet oIns fo fr) :=
  ⟨PE.imp (pe_bm PySem.F.plainAttrs_list PySem.F.slot_list_insert PySem.F.type_list_insert mt_insert ho.pe ha.pa hbase hfew hline hs hpl) fun _ _ _ h => tE_met (fun {F ρ m H x vx xs vs w m' Q} s rx rs e k => by
  unfold oIns at e
  split at e
  · rename_i n i y
    split at e
    · rename_i l el
      split at e
      · rename_i hl
        cases e
        cases rx with
        | ref q =>
          obtain ⟨_, vs0, h1, h2⟩ := s.cell n _ _ el q
          cases rs with
          | cons ri r0 =>
            cases ri
            cases r0 with
            | cons ry r0 =>
              cases r0
              exact ⟨_, vs0, _, _, rfl, rfl, h1, by rw [← h2.length]; exact hl.1, hl.2.1, hl.2.2, Fin.put k s q ⟨_, rfl, ((h2.take _).app (.cons ry .nil)).app (h2.drop _)⟩ fun _ => RelW.non⟩
      · cases e
    · cases e
  · cases e) h⟩
/-- x.clear() -/
def oClr : OpM := fun x xs m => match x, xs with
  | .ref n, [] => match m[n]? with
    | some (.lst _) => some (.non, m.set n (.lst []))
    | _ => none
  | _, _ => none
def eMet0 (op : OpM) (fo : FE) : FE := fun env m => match fo env m with
  | some (x, m1) => if isLst m1 x = true then op x [] m1 else none
  | none => none
theorem tE_met0 {g : G} {op : OpM} {R : V → List V → Hp → VK → Prop} (hs : OpSM g R op) {σ H Q} (h : tE g (eMet0 op fo) σ H Q) : tBM0 g.K "list" R (tE g fo) σ H Q := by
  obtain ⟨F, ρ, m, env, w, m', s, er, e, k⟩ := h
  unfold eMet0 at e
  split at e
  · rename_i x m1 e1
    split at e
    · rename_i hl
      refine ⟨F, ρ, m, env, _, _, s, er, e1, fun F1 ρ1 H1 v1 A1 s1 r1 => ?_⟩
      obtain ⟨⟨ad, l, vs, n, rfl, q, q1, rfl, h1, h2⟩, rx⟩ := isLst_rd s1 r1 hl
      exact ⟨.inl ⟨rfl, _, SqL.of h1⟩, hs s1 rx .nil e fun F3 ρ3 H3 v3 A3 s3 r3 => k F3 ρ3 H3 v3 (A1.trans A3) s3 (r3.back A1)⟩
    · cases e
  · cases e
theorem ev_clear (ho : EV cl X o fo) (hbase : attributeBase o "clear" X.env (eval o X.env) = eval o X.env := by rfl) (hline : (apos.endLine == cpos.line) = true := by rfl) : EV cl X (.Call (.Attribute o "clear" apos) [] [] cpos) (eMet0 oClr fo) :=
  ⟨PE.imp (pe_bm0 PySem.F.plainAttrs_list PySem.F.slot_list_clear PySem.F.type_list_clear mt_clear ho.pe hbase hline) fun _ _ _ h => tE_met0 (fun {F ρ m H x vx xs vs w m' Q} s rx rs e k => by
  unfold oClr at e
  split at e
  · rename_i n
    split at e
    · rename_i l el
      cases e
      cases rx with
      | ref q =>
        obtain ⟨_, vs0, h1, h2⟩ := s.cell n _ _ el q
        exact ⟨_, vs0, rfl, by cases rs; rfl, h1, Fin.put k s q ⟨_, rfl, .nil⟩ fun _ => RelW.non⟩
    · cases e
  · cases e) h⟩
/-- x[i] = v, a list of the heap -/
def fStore (fo fi fv : FE) : FS := fun env m => match fv env m with
  | some (v, m1) => match frz v with
    | some v' => match fo env m1 with
      | some (.ref n, m2) => match fi env m2 with
        | some (.int i, m3) => match m3[n]? with
          | some (.lst l) => match ixN l.length i with
            | some j => some (.nx, env, m3.set n (.lst (l.set j v')))
            | none => none
          | _ => none
        | _ => none
      | _ => none
    | none => none
  | none => none
theorem sv_store {pos' : Pos} (ho : EV cl X o fo) (hi : EV cl X a fa) (hv : EV cl X b fb) (hsub : ∀ v, assign (.Subscript o a pos') X.env v = (do
      let ov ← holding [v] (eval o X.env)
      let iv ← holding [v, ov] (eval a X.env)
      standAt pos'
      holding [v, ov, iv] (setItem ov iv v)
      release [v, ov, iv] []) := by intro _; rfl) (hs : swapsWithSole [.Subscript o a pos'] b pos.line X.env = pure false := by rfl) (hw : swappedStores [.Subscript o a pos'] b X.env = pure none := by rfl)
    (h1 : (assignEach [.Subscript o a pos'] X.env).map (·.2) = [assign (.Subscript o a pos') X.env] := by rfl) : SV cl X (.Assign [.Subscript o a pos'] b pos) (fStore fo fa fb) :=
  ⟨PS.imp (ps_asg hv.pe (pg_sub ho.pe hi.pe set_list hsub) hs hw h1) fun D σ H q => by
  obtain ⟨F0, ρ0, H0, F, ρ, m, env, ou, env', m', S, e, k⟩ := q
  unfold fStore at e
  split at e
  · rename_i v m1 e1
    split at e
    · rename_i v' ef
      split at e
      · rename_i n m2 e2
        split at e
        · rename_i i m3 e3
          split at e
          · rename_i l el
            split at e
            · rename_i j ej
              cases e
              refine ⟨F, ρ, m, env, _, _, S.sr, S.er, e1, fun F1 ρ1 H1 v1 A1 s1 r1 => ?_⟩
              obtain ⟨F1', A1', s1', qv, _⟩ := r1.frz A1 s1 ef
              refine ⟨F1', ρ1, m1, env, _, _, s1', S.er.adv A1', e2, fun F2 ρ2 H2 v2 A2 s2 r2 => ?_⟩
              cases r2 with
              | ref qo =>
                refine ⟨F2, ρ2, m2, env, _, _, s2, (S.er.adv A1').adv A2, e3, fun F3 ρ3 H3 v3 A3 s3 r3 => ?_⟩
                cases r3
                rename_i ad
                have qo3 : ρ3[n]? = some ad := by obtain ⟨t, rfl⟩ := A3.r; exact getApp qo
                obtain ⟨_, vs0, h1, h2⟩ := s3.cell n _ _ el qo3
                refine ⟨_, vs0, i, j, rfl, rfl, h1, by rw [← h2.length]; exact ej, ?_⟩
                have qv3 := (qv.mono A2.f A2.r).mono A3.f A3.r
                obtain ⟨A4, s4⟩ := s3.put (ho := .lst (vs0.set j v1)) (o' := .lst (l.set j v')) qo3 ⟨_, rfl, h2.set qv3 j⟩
                have A := ((A1'.trans A2).trans A3).trans A4
                exact k F3 ρ3 σ _ (S.advd A s4) A.grow
            · cases e
          · cases e
        · cases e
      · cases e
    · cases e
  · cases e⟩
end

/-! ### dicts -/
section
variable {α : Type}
def valW (kvs : List (Key × α)) (k : Key) : Option α := (kvs.find? fun kv => decide (kv.1 = k)).map (·.2)
def putW (kvs : List (Key × α)) (k : Key) (v : α) : List (Key × α) :=
  if (kvs.any fun kv => decide (kv.1 = k)) = true then kvs.map (fun kv => if kv.1 = k then (kv.1, v) else kv) else kvs ++ [(k, v)]
def dropW (kvs : List (Key × α)) (k : Key) : List (Key × α) := kvs.filter fun kv => decide (kv.1 ≠ k)
end
def keyW : W → Option Key
  | .int i => some (.inl i)
  | .str x => some (.inr x)
  | _ => none
section
variable {g : G} {F : Hp} {ρ : List Addr} {H : Hp} {m : MH} {k : Key}
theorem keyW_rd {x : W} {v : V} (r : RelW g F ρ x v) (e : keyW x = some k) : v = kV k := by
  cases r <;> first | (cases e; done) | (cases e; rfl)
theorem RelKs.len {kvs : List (Key × W)} {vs : List (Key × V)} (r : RelKs g F ρ kvs vs) : kvs.length = vs.length := Paired.length r
theorem RelKs.val {k : Key} : ∀ {kvs : List (Key × W)} {vs : List (Key × V)}, RelKs g F ρ kvs vs → (∀ w, valW kvs k = some w → ∃ v, valV vs k = some v ∧ RelW g F ρ w v) ∧ (valW kvs k = none → valV vs k = none)
  | _, _, .nil => ⟨(fun w e => by cases e), fun _ => rfl⟩
  | (a, w) :: kvs, (b, v) :: vs, .cons ⟨e, q⟩ r => by
    have e' : a = b := e
    subst e'
    unfold valW valV
    rw [List.find?_cons, List.find?_cons]
    by_cases z : a = k
    · simp only [z, decide_true, Option.map_some]
      exact ⟨fun w' h => by cases h; exact ⟨v, rfl, q⟩, fun h => by cases h⟩
    · simp only [z, decide_false]
      exact RelKs.val r
theorem RelKs.any {k : Key} : ∀ {kvs : List (Key × W)} {vs : List (Key × V)}, RelKs g F ρ kvs vs → (kvs.any fun kv => decide (kv.1 = k)) = vs.any fun kv => decide (kv.1 = k)
  | _, _, .nil => rfl
  | (a, w) :: kvs, (b, v) :: vs, .cons ⟨e, q⟩ r => by
    have e' : a = b := e
    subst e'
    rw [List.any_cons, List.any_cons, RelKs.any r]
theorem RelKs.snoc {k : Key} {w : W} {v : V} (q : RelW g F ρ w v) : ∀ {kvs : List (Key × W)} {vs : List (Key × V)}, RelKs g F ρ kvs vs → RelKs g F ρ (kvs ++ [(k, w)]) (vs ++ [(k, v)])
  | _, _, .nil => .cons ⟨rfl, q⟩ .nil
  | _ :: _, _ :: _, .cons p r => .cons p (RelKs.snoc q r)
theorem RelKs.repl {k : Key} {w : W} {v : V} (q : RelW g F ρ w v) : ∀ {kvs : List (Key × W)} {vs : List (Key × V)}, RelKs g F ρ kvs vs → RelKs g F ρ (kvs.map fun kv => if kv.1 = k then (kv.1, w) else kv) (vs.map fun kv => if kv.1 = k then (kv.1, v) else kv)
  | _, _, .nil => .nil
  | (a, x) :: kvs, (b, y) :: vs, .cons ⟨e, p⟩ r => by
    have e' : a = b := e
    subst e'
    rw [List.map_cons, List.map_cons]
    refine .cons ?_ (RelKs.repl q r)
    by_cases z : a = k
    · simp only [z, if_true]; exact ⟨trivial, q⟩
    · simp only [z, if_false]; exact ⟨trivial, p⟩
theorem RelKs.put {k : Key} {w : W} {v : V} (q : RelW g F ρ w v) {kvs : List (Key × W)} {vs : List (Key × V)} (r : RelKs g F ρ kvs vs) : RelKs g F ρ (putW kvs k w) (putK vs k v) := by
  unfold putW putK
  rw [r.any]
  split
  · exact r.repl q
  · exact r.snoc q
theorem RelKs.drop {k : Key} : ∀ {kvs : List (Key × W)} {vs : List (Key × V)}, RelKs g F ρ kvs vs → RelKs g F ρ (dropW kvs k) (dropK vs k)
  | _, _, .nil => .nil
  | (a, x) :: kvs, (b, y) :: vs, .cons ⟨e, p⟩ r => by
    have e' : a = b := e
    subst e'
    unfold dropW dropK
    rw [List.filter_cons, List.filter_cons]
    by_cases z : a = k
    · simp only [z, ne_eq, not_true_eq_false, decide_false, Bool.false_eq_true, if_false]
      exact RelKs.drop r
    · simp only [z, ne_eq, not_false_eq_true, decide_true, if_true]
      exact .cons ⟨rfl, p⟩ (RelKs.drop r)
/-- a dict of the heap -/
def dctOf (m : MH) (x : W) : Option (Nat × List (Key × W)) := match x with
  | .ref n => match m[n]? with
    | some (.dct kvs) => some (n, kvs)
    | _ => none
  | _ => none
theorem dctOf_rd {x : W} {v : V} {n : Nat} {kvs : List (Key × W)} (s : SR g F ρ m H) (r : RdR g F ρ H x v) (e : dctOf m x = some (n, kvs)) : ∃ a vs, v = .ref a ∧ x = .ref n ∧ ρ[n]? = some a ∧ m[n]? = some (.dct kvs) ∧ H a = some (.dK vs) ∧ RelKs g F ρ kvs vs := by
  cases x with
  | ref j =>
    cases r with
    | ref q =>
      obtain ⟨o, e1, _, c⟩ := s.at q
      unfold dctOf at e
      simp only [e1] at e
      cases o with
      | lst _ => cases e
      | dct kvs' => cases e; obtain ⟨vs, h1, h2⟩ := c; exact ⟨_, vs, rfl, rfl, q, e1, h1, h2⟩
      | ins _ _ => cases e
  | non | bl | int | str | tup | lst | fro | own | bor => cases e
end
section
variable {cl : Nat → Cl} {X : Cx} {pos p cpos apos : Pos} {a b c e o : Expr} {fa fb fc fo : FE} {es : List Expr} {fr : FA} {x : Str}
def eDNew : FE := fun _ m => some (.ref m.length, m ++ [.dct []])
theorem ev_dnew : EV cl X (.Dict [] [] pos) eDNew := ⟨PE.imp pe_dnewK fun σ H Q h => by
  obtain ⟨F, ρ, m, env, w, m', s, er, e, k⟩ := h
  cases e
  exact fun p hp => Fin.new k s hp ⟨[], rfl, .nil⟩⟩
/-- two parts in a row -/
def eDGet (fo fa : FE) : FE := eBin (fun x y m => match dctOf m x, keyW y with
  | some (_, kvs), some k => (valW kvs k).map fun w => (w, m)
  | _, _ => none) fo fa
theorem ev_dget (hu : X.A.units + 1 < cLine) (ho : EV cl X o fo) (ha : EV cl X a fa) (hs : NoSl a := by intro _ _; rfl) : EV cl X (.Subscript o a pos) (eDGet fo fa) :=
  ⟨PE.imp (pe_dget hu ho.pe ha.pe hs) fun σ H Q h => tE_bin (R := fun x y H Q => ∃ a v, x = .ref a ∧ DGet H a y (some v) ∧ Q v H) (fun {F ρ m H x y vx vy w m' Q} s rx ry e k => by
  split at e
  · rename_i n kvs ke e1 e2
    cases q : valW kvs ke with
    | none => rw [q] at e; cases e
    | some w' =>
      rw [q] at e; cases e
      obtain ⟨a, vs, rfl, rfl, _, _, h1, h2⟩ := dctOf_rd s rx e1
      have ry' : RelW ⟨X.K, cl⟩ F ρ y vy := by cases y <;> first | exact ry | cases e2
      cases keyW_rd ry' e2
      obtain ⟨v, h3, h4⟩ := (h2.val (k := ke)).1 _ q
      exact ⟨a, v, rfl, h3 ▸ DGet.k h1, Fin.same k s h4.res⟩
  · cases e) h⟩
def oDIn (neg : Bool) : Op2 := fun y x m => match dctOf m x, keyW y with
  | some (_, kvs), some k => some (.bl (if neg then !(valW kvs k).isSome else (valW kvs k).isSome), m)
  | _, _ => none
theorem RelKs.isSome {g : G} {F : Hp} {ρ : List Addr} {kvs : List (Key × W)} {vs : List (Key × V)} {k : Key} (r : RelKs g F ρ kvs vs) : (valV vs k).isSome = (valW kvs k).isSome := by
  cases q : valW kvs k with
  | none => rw [(r.val).2 q]; rfl
  | some w => obtain ⟨v, h, _⟩ := (r.val).1 w q; rw [h]; rfl
theorem oDIn_ok {g : G} {neg : Bool} : OpS2 g (fun y x H Q => ∃ a o, x = .ref a ∧ DGet H a y o ∧ Q (.bl (if neg then !o.isSome else o.isSome)) H) (oDIn neg) := fun {F ρ m H y x vy vx w m' Q} s ry rx e k => by
  unfold oDIn at e
  split at e
  · rename_i n kvs ke e1 e2
    cases e
    obtain ⟨a, vs, rfl, rfl, _, _, h1, h2⟩ := dctOf_rd s rx e1
    have ry' : RelW g F ρ y vy := by cases y <;> first | exact ry | cases e2
    cases keyW_rd ry' e2
    refine ⟨a, _, rfl, DGet.k h1, ?_⟩
    rw [h2.isSome]
    exact Fin.same k s (RelW.bl _)
  · cases e
theorem ev_din (hu : X.A.units + 1 < cLine) (ha : EV cl X a fa) (ho : EV cl X o fo) (hm : behindInMarks .In o = false := by rfl) : EV cl X (.Compare a [.In] [o] pos) (eBin (oDIn false) fa fo) :=
  ⟨PE.imp (pe_cmp (pc_din hu ha.pe ho.pe) hm) fun σ H Q h => tE_bin oDIn_ok h⟩
theorem ev_dnotin (hu : X.A.units + 1 < cLine) (ha : EV cl X a fa) (ho : EV cl X o fo) (hm : behindInMarks .NotIn o = false := by rfl) : EV cl X (.Compare a [.NotIn] [o] pos) (eBin (oDIn true) fa fo) :=
  ⟨PE.imp (pe_cmp (pc_dnotin hu ha.pe ho.pe) hm) fun σ H Q h => tE_bin oDIn_ok h⟩
theorem tv_din (hu : X.A.units + 1 < cLine) (ha : EV cl X a fa) (ho : EV cl X o fo) (hm : behindInMarks .In o = false := by rfl) : TV cl X (.Compare a [.In] [o] pos) (tOf (eBin (oDIn false) fa fo)) :=
  ⟨PT.imp (pt_cmp (pc_din hu ha.pe ho.pe) hm) fun σ H Q q => tT_E (t := tDIn (tE ⟨X.K, cl⟩ fa) (tE ⟨X.K, cl⟩ fo)) (fun _ _ _ h => tE_bin (op := oDIn false) (R := fun y x H Q => ∃ a o, x = .ref a ∧ DGet H a y o ∧ Q (.bl (o.isSome)) H) oDIn_ok h) q⟩
theorem tv_dnotin (hu : X.A.units + 1 < cLine) (ha : EV cl X a fa) (ho : EV cl X o fo) (hm : behindInMarks .NotIn o = false := by rfl) : TV cl X (.Compare a [.NotIn] [o] pos) (tOf (eBin (oDIn true) fa fo)) :=
  ⟨PT.imp (pt_cmp (pc_dnotin hu ha.pe ho.pe) hm) fun σ H Q q => tT_E (t := tDNotIn (tE ⟨X.K, cl⟩ fa) (tE ⟨X.K, cl⟩ fo)) (fun _ _ _ h => tE_bin (op := oDIn true) (R := fun y x H Q => ∃ a o, x = .ref a ∧ DGet H a y o ∧ Q (.bl (!o.isSome)) H) oDIn_ok h) q⟩
/-- d[k] = v -/
def fDPut (fo fi fv : FE) : FS := fun env m => match fv env m with
  | some (v, m1) => match frz v with
    | some v' => match fo env m1 with
      | some (x, m2) => match fi env m2 with
        | some (y, m3) => match dctOf m3 x, keyW y with
          | some (n, kvs), some k => if kvs.length < sizeLine then some (.nx, env, m3.set n (.dct (putW kvs k v'))) else none
          | _, _ => none
        | _ => none
      | _ => none
    | none => none
  | none => none
theorem sv_dput {pos' : Pos} (hu : X.A.units + 1 < cLine) (ho : EV cl X o fo) (hi : EV cl X a fa) (hv : EV cl X b fb) (hs : swapsWith b (some (.Subscript o a pos')) pos.line X.env = pure false := by rfl) : SV cl X (.Assign [.Subscript o a pos'] b pos) (fDPut fo fa fb) :=
  ⟨PS.imp (ps_dput hu ho.pe hi.pe hv.pe hs) fun D σ H q => by
  obtain ⟨F0, ρ0, H0, F, ρ, m, env, ou, env', m', S, e, k⟩ := q
  unfold fDPut at e
  split at e
  · rename_i v m1 e1
    split at e
    · rename_i v' ef
      split at e
      · rename_i x m2 e2
        split at e
        · rename_i y m3 e3
          split at e
          · rename_i n kvs ke ed ek
            split at e
            · rename_i hl
              cases e
              refine ⟨F, ρ, m, env, _, _, S.sr, S.er, e1, fun F1 ρ1 H1 v1 A1 s1 r1 => ?_⟩
              obtain ⟨F1', A1', s1', qv, _⟩ := r1.frz A1 s1 ef
              refine ⟨F1', ρ1, m1, env, _, _, s1', S.er.adv A1', e2, fun F2 ρ2 H2 v2 A2 s2 r2 => ?_⟩
              refine ⟨F2, ρ2, m2, env, _, _, s2, (S.er.adv A1').adv A2, e3, fun F3 ρ3 H3 v3 A3 s3 r3 => ?_⟩
              obtain ⟨ad, vs, rfl, rfl, q, _, h1, h2⟩ := dctOf_rd s3 (r2.rd.adv A3) ed
              have ry' : RelW ⟨X.K, cl⟩ F3 ρ3 y v3 := by cases y <;> first | exact r3 | cases ek
              cases keyW_rd ry' ek
              refine ⟨ad, _, rfl, DPut.k h1 (by rw [← h2.len]; exact hl), ?_⟩
              have qv3 := (qv.mono A2.f A2.r).mono A3.f A3.r
              obtain ⟨A4, s4⟩ := s3.put (ho := .dK (putK vs ke v1)) (o' := .dct (putW kvs ke v')) q ⟨_, rfl, h2.put qv3⟩
              have A := ((A1'.trans A2).trans A3).trans A4
              exact k F3 ρ3 σ _ (S.advd A s4) A.grow
            · cases e
          · cases e
        · cases e
      · cases e
    · cases e
  · cases e⟩
/-- d.get(k, x), d.pop(k, x): three parts -/
def eD3 (op : W → W → W → MH → Option (W × MH)) (fo fa fb : FE) : FE := fun env m => match fo env m with
  | some (x, m1) => if (dctOf m1 x).isSome = true then match fa env m1 with
      | some (y, m2) => match fb env m2 with
        | some (z, m3) => op x y z m3
        | none => none
      | none => none
    else none
  | none => none
def eD2 (op : W → W → MH → Option (W × MH)) (fo fa : FE) : FE := fun env m => match fo env m with
  | some (x, m1) => if (dctOf m1 x).isSome = true then match fa env m1 with
      | some (y, m2) => op x y m2
      | none => none
    else none
  | none => none
def oGet2 : W → W → W → MH → Option (W × MH) := fun x y z m => match dctOf m x, keyW y with
  | some (_, kvs), some k => some ((valW kvs k).getD z, m)
  | _, _ => none
def oGet1 : W → W → MH → Option (W × MH) := fun x y m => match dctOf m x, keyW y with
  | some (_, kvs), some k => some ((valW kvs k).getD .non, m)
  | _, _ => none
def oPop2 : W → W → W → MH → Option (W × MH) := fun x y z m => match dctOf m x, keyW y with
  | some (n, kvs), some k => match valW kvs k with
    | some w => some (w, m.set n (.dct (dropW kvs k)))
    | none => if eltOk z = true then some (z, m) else none
  | _, _ => none
def oPop1 : W → W → MH → Option (W × MH) := fun x y m => match dctOf m x, keyW y with
  | some (n, kvs), some k => match valW kvs k with
    | some w => some (w, m.set n (.dct (dropW kvs k)))
    | none => none
  | _, _ => none
theorem isD_of {g : G} {F : Hp} {ρ : List Addr} {H : Hp} {m : MH} {x : W} {v : V} (s : SR g F ρ m H) (r : RdR g F ρ H x v) (e : (dctOf m x).isSome = true) : ∃ a, v = .ref a ∧ IsD H a := by
  cases q : dctOf m x with
  | none => rw [q] at e; cases e
  | some p =>
    obtain ⟨n, kvs⟩ := p
    obtain ⟨a, vs, rfl, rfl, _, _, h1, h2⟩ := dctOf_rd s r q
    exact ⟨a, rfl, .inl ⟨vs, .inl h1⟩⟩
theorem RdR.key {g : G} {F : Hp} {ρ : List Addr} {H : Hp} {y : W} {v : V} {k : Key} (r : RdR g F ρ H y v) (e : keyW y = some k) : v = kV k := by
  have r' : RelW g F ρ y v := by cases y <;> first | exact r | cases e
  exact keyW_rd r' e
theorem ev_dget2 (hu : X.A.units + 1 < cLine) (ho : EV cl X o fo) (ha : EV cl X a fa) (hb : EV cl X b fb) (hm : M2 X o "get" apos a b cpos := by exact ⟨rfl, rfl, rfl, rfl⟩) : EV cl X (.Call (.Attribute o "get" apos) [a, b] [] cpos) (eD3 oGet2 fo fa fb) :=
  ⟨PE.imp (pe_dget2 hu ho.pe ha.pe hb.pe hm) fun σ H Q h => by
  obtain ⟨F, ρ, m, env, w, m', s, er, e, k⟩ := h
  unfold eD3 at e
  split at e
  · rename_i x m1 e1
    split at e
    · rename_i hd
      split at e
      · rename_i y m2 e2
        split at e
        · rename_i z m3 e3
          refine ⟨F, ρ, m, env, _, _, s, er, e1, fun F1 ρ1 H1 v1 A1 s1 r1 => ?_⟩
          obtain ⟨ad, rfl, hD⟩ := isD_of s1 r1.rd hd
          refine ⟨ad, rfl, hD, F1, ρ1, m1, env, _, _, s1, er.adv A1, e2, fun F2 ρ2 H2 v2 A2 s2 r2 => ?_⟩
          refine ⟨F2, ρ2, m2, env, _, _, s2, (er.adv A1).adv A2, e3, fun F3 ρ3 H3 v3 A3 s3 r3 => ?_⟩
          unfold oGet2 at e
          split at e
          · rename_i n kvs ke ed ek
            cases e
            obtain ⟨ad', vs, eq, rfl, q, _, h1, h2⟩ := dctOf_rd s3 ((r1.rd.adv A2).adv A3) ed
            cases eq
            cases (r2.rd.adv A3).key ek
            refine ⟨_, DGet.k h1, ?_⟩
            have A := (A1.trans A2).trans A3
            cases qv : valW kvs ke with
            | some w' =>
              obtain ⟨v, h3, h4⟩ := (h2.val (k := ke)).1 _ qv
              rw [h3]
              exact k F3 ρ3 H3 v A s3 (by rw [qv]; exact h4.res)
            | none =>
              rw [(h2.val (k := ke)).2 qv]
              exact k F3 ρ3 H3 v3 A s3 (by rw [qv]; exact r3.back (A1.trans A2))
          · cases e
        · cases e
      · cases e
    · cases e
  · cases e⟩
theorem ev_dget1 (hu : X.A.units + 1 < cLine) (ho : EV cl X o fo) (ha : EV cl X a fa) (hm : M1 X o "get" apos a cpos := by exact ⟨rfl, rfl, rfl, rfl⟩) : EV cl X (.Call (.Attribute o "get" apos) [a] [] cpos) (eD2 oGet1 fo fa) :=
  ⟨PE.imp (pe_dget1 hu ho.pe ha.pe hm) fun σ H Q h => by
  obtain ⟨F, ρ, m, env, w, m', s, er, e, k⟩ := h
  unfold eD2 at e
  split at e
  · rename_i x m1 e1
    split at e
    · rename_i hd
      split at e
      · rename_i y m2 e2
        refine ⟨F, ρ, m, env, _, _, s, er, e1, fun F1 ρ1 H1 v1 A1 s1 r1 => ?_⟩
        obtain ⟨ad, rfl, hD⟩ := isD_of s1 r1.rd hd
        refine ⟨ad, rfl, hD, F1, ρ1, m1, env, _, _, s1, er.adv A1, e2, fun F3 ρ3 H3 v3 A3 s3 r3 => ?_⟩
        unfold oGet1 at e
        split at e
        · rename_i n kvs ke ed ek
          cases e
          obtain ⟨ad', vs, eq, rfl, q, _, h1, h2⟩ := dctOf_rd s3 (r1.rd.adv A3) ed
          cases eq
          cases r3.rd.key ek
          refine ⟨_, DGet.k h1, ?_⟩
          have A := A1.trans A3
          cases qv : valW kvs ke with
          | some w' =>
            obtain ⟨v, h3, h4⟩ := (h2.val (k := ke)).1 _ qv
            rw [h3]
            exact k F3 ρ3 H3 v A s3 (by rw [qv]; exact h4.res)
          | none =>
            rw [(h2.val (k := ke)).2 qv]
            exact k F3 ρ3 H3 _ A s3 (by rw [qv]; exact RelW.non)
        · cases e
      · cases e
    · cases e
  · cases e⟩
/-- a def whose promise is never asked -/
theorem ss_never {sts : List Stmt} : SsV cl X sts fNever := ⟨⟨fun pins s σ H D I q => by
  obtain ⟨F0, ρ0, H0, F, ρ, m, env, o, env', m', S, e, k⟩ := q
  cases e⟩⟩
end
theorem ok_none {P : Program} {w : World} {K : PySem.W.Frag} {mg : Str → Option Value} {base : Heap} {cl : Nat → Cl} {x : Str} {st : Stmt} {N ps : List Str} (k : Nat) (D : DefAt K mg x st) (S : FnScope N ps (defScope st))
    (hbd : ∀ (kV doc pm : Value) (an : Option Addr) (cdv ct : Value) (us : List Value), us.length = ps.length → bindArgs (PySem.W.fnOf x x (defArgs st) (defBody st) (defScope st) .none kV doc pm an cdv ct) ⟨us, []⟩ = pure (ps.zip us)) :
    OkFn P w K mg base cl x (k + 1) ps.length (fun _ _ => none) := by
  have h := ok_fn (P := P) (w := w) (base := base) (cl := cl) (N := N) (k := k) (fb := fNever) D S hbd fun _ _ _ _ _ _ _ _ => ss_never
  exact h
end M
namespace M
open PySem L2
/-! ### classes, their objects -/
theorem zip_lookup : ∀ {nm : List Str} {vs : List V} {i : Nat} {f : Str} {v : V}, nm.Nodup → nm[i]? = some f → vs[i]? = some v → (nm.zip vs).lookup f = some v
  | [], _, _, _, _, _, e, _ => by simp at e
  | _ :: _, [], _, _, _, _, _, e => by simp at e
  | a :: nm, w :: vs, 0, f, v, nd, e1, e2 => by
    simp at e1 e2
    subst e1 e2
    simp [List.zip, List.zipWith, List.lookup]
  | a :: nm, w :: vs, i + 1, f, v, nd, e1, e2 => by
    have e1' : nm[i]? = some f := by simpa using e1
    have ne : f ≠ a := fun z => (List.nodup_cons.mp nd).1 (z ▸ List.mem_of_getElem? e1')
    have hb : (f == a) = false := beq_eq_false_iff_ne.mpr ne
    show ((a, w) :: nm.zip vs).lookup f = _
    simp only [List.lookup, hb]
    exact zip_lookup (List.nodup_cons.mp nd).2 e1' (by simpa using e2)
theorem zip_none : ∀ {nm : List Str} {vs : List V} {f : Str}, f ∉ nm → (nm.zip vs).lookup f = none
  | [], _, _, _ => rfl
  | _ :: _, [], _, _ => rfl
  | a :: nm, w :: vs, f, h => by
    have hb : (f == a) = false := beq_eq_false_iff_ne.mpr fun z => h (by rw [z]; exact List.mem_cons_self)
    show ((a, w) :: nm.zip vs).lookup f = _
    simp only [List.lookup, hb]
    exact zip_none fun z => h (List.mem_cons_of_mem _ z)
theorem zip_set : ∀ {nm : List Str} {vs : List V} {i : Nat} {f : Str} {v : V}, nm.Nodup → nm[i]? = some f → i < vs.length → putF f v (nm.zip vs) = nm.zip (vs.set i v)
  | [], _, _, _, _, _, e, _ => by simp at e
  | _ :: _, [], _, _, _, _, _, e => by simp at e
  | a :: nm, w :: vs, 0, f, v, nd, e1, e2 => by
    simp at e1
    subst e1
    show (if a = a then (a, v) :: nm.zip vs else _) = _
    rw [if_pos rfl]; rfl
  | a :: nm, w :: vs, i + 1, f, v, nd, e1, e2 => by
    have e1' : nm[i]? = some f := by simpa using e1
    have ne : a ≠ f := fun z => (List.nodup_cons.mp nd).1 (z ▸ List.mem_of_getElem? e1')
    show (if a = f then (a, v) :: nm.zip vs else (a, w) :: putF f v (nm.zip vs)) = _
    rw [if_neg ne, zip_set (List.nodup_cons.mp nd).2 e1' (by simpa using e2)]; rfl
theorem zip_new : ∀ {nm : List Str} {vs : List V} {i : Nat} {f : Str} {v : V}, nm.Nodup → nm[i]? = some f → i = vs.length → putF f v (nm.zip vs) = nm.zip (vs ++ [v])
  | [], _, _, _, _, _, e, _ => by simp at e
  | a :: nm, [], i, f, v, _, e, z => by
    subst z
    simp at e
    subst e
    cases nm <;> rfl
  | a :: nm, w :: vs, i, f, v, nd, e1, e2 => by
    subst e2
    have e1' : nm[vs.length]? = some f := by simpa using e1
    have ne : a ≠ f := fun z => (List.nodup_cons.mp nd).1 (z ▸ List.mem_of_getElem? e1')
    show (if a = f then (a, v) :: nm.zip vs else (a, w) :: putF f v (nm.zip vs)) = _
    rw [if_neg ne, zip_new (List.nodup_cons.mp nd).2 e1' rfl]; rfl
/-- what the text has of a class -/
structure ClT (K : PySem.W.Frag) (mg : Str → Option Value) (C : Cl) (x : Str) (nm : List Str) : Prop where
  names : C.nm = nm
  nd : nm.Nodup
  few : nm.length < 1000
  cl : Cls K C.ad
  no : ∀ f ∈ nm, NoAttr K C.ad f
  mg : mg x = some (.ref C.ad)
theorem ClT.nodup {K : PySem.W.Frag} {mg : Str → Option Value} {C : Cl} {x : Str} {nm : List Str} (T : ClT K mg C x nm) : C.nm.Nodup := by rw [T.names]; exact T.nd
def insOf (c : Nat) (n : Nat) (m : MH) : Option (List W) := match m[n]? with
  | some (.ins c' fs) => if c' = c then some fs else none
  | _ => none
theorem insOf_eq {c n : Nat} {m : MH} {fs : List W} (e : insOf c n m = some fs) : m[n]? = some (.ins c fs) := by
  unfold insOf at e
  split at e
  · rename_i c' fs' h
    split at e
    · rename_i z; cases e; subst z; exact h
    · cases e
  · cases e
theorem insOf_rd {g : G} {F : Hp} {ρ : List Addr} {H : Hp} {m : MH} {c n : Nat} {fs : List W} {a : Addr} (s : SR g F ρ m H) (q : ρ[n]? = some a) (e : insOf c n m = some fs) :
    ∃ dx vs, H a = some (.ins (g.cl c).ad dx ((g.cl c).nm.zip vs)) ∧ RelWs g F ρ fs vs ∧ vs.length ≤ (g.cl c).nm.length := (s.cell n _ a (insOf_eq e) q).2
/-- o.f -/
def oFld (c i : Nat) : Op1 := fun x m => match x with
  | .ref n => match insOf c n m with
    | some fs => (fs[i]?).map fun w => (w, m)
    | none => none
  | _ => none
def putFs (i : Nat) (v : W) (fs : List W) : Option (List W) := if i < fs.length then some (fs.set i v) else if i = fs.length then some (fs ++ [v]) else none
def fFld (c i : Nat) (fo fv : FE) : FS := fun env m => match fv env m with
  | some (v, m1) => match frz v with
    | some v' => match fo env m1 with
      | some (.ref n, m2) => match insOf c n m2 with
        | some fs => match putFs i v' fs with
          | some fs' => some (.nx, env, m2.set n (.ins c fs'))
          | none => none
        | none => none
      | _ => none
    | none => none
  | none => none
def fFldAug (c i : Nat) (op : Op2) (fo fv : FE) : FS := fun env m => match fo env m with
  | some (.ref n, m1) => match insOf c n m1 with
    | some fs => match fs[i]? with
      | some x => match fv env m1 with
        | some (y, m2) => match op x y m2 with
          | some (z, m3) => match frz z with
            | some z' => match insOf c n m3 with
              | some fs' => if i < fs'.length then some (.nx, env, m3.set n (.ins c (fs'.set i z'))) else none
              | none => none
            | none => none
          | none => none
        | none => none
      | none => none
    | none => none
  | _ => none
theorem putFs_ok {g : G} {F : Hp} {ρ : List Addr} {c i : Nat} {nm : List Str} {f : Str} {w : W} {v : V} {fs fs' : List W} {vs : List V} (nd : (g.cl c).nm.Nodup) (hi : (g.cl c).nm[i]? = some f) (r : RelWs g F ρ fs vs) (hl : vs.length ≤ (g.cl c).nm.length) (q : RelW g F ρ w v) (e : putFs i w fs = some fs') :
    ∃ vs', putF f v ((g.cl c).nm.zip vs) = (g.cl c).nm.zip vs' ∧ RelWs g F ρ fs' vs' ∧ vs'.length ≤ (g.cl c).nm.length := by
  have hin : i < (g.cl c).nm.length := (List.getElem?_eq_some_iff.mp hi).1
  unfold putFs at e
  rw [r.length] at e
  split at e
  · rename_i h
    cases e
    exact ⟨vs.set i v, zip_set nd hi h, RelWs.set q i r, by rw [List.length_set]; exact hl⟩
  · split at e
    · rename_i h
      cases e
      exact ⟨vs ++ [v], zip_new nd hi h, r.app (.cons q .nil), by rw [List.length_append, List.length_singleton]; omega⟩
    · cases e
section
variable {cl : Nat → Cl} {X : Cx} {pos pos' p cpos apos : Pos} {a b e o : Expr} {fa fb fo fv : FE} {es : List Expr} {fr : FA} {x f m : Str} {c i j k n : Nat} {nm : List Str} {φ : OpN}
theorem ev_fld (c i : Nat) (T : ClT X.K X.mg (cl c) x nm) (ho : EV cl X o fo) (hi : nm[i]? = some f := by rfl) (hb : attributeBase o f X.env (eval o X.env) = eval o X.env := by rfl) : EV cl X (.Attribute o f pos) (eUn (oFld c i) fo) :=
  ⟨PE.imp (pe_fld ho.pe hb) fun σ H Q h => tE_un (R := fun x H1 Q => ∃ a C dx fs v, x = .ref a ∧ H1 a = some (.ins C dx fs) ∧ Cls X.K C ∧ NoAttr X.K C f ∧ fs.lookup f = some v ∧ Q v H1) (fun {F ρ m H x vx w m' Q} s rx e k => by
    unfold oFld at e
    split at e
    · rename_i n
      cases rx with
      | ref q =>
        split at e
        · rename_i fs ef
          obtain ⟨dx, vs, h1, r, hl⟩ := insOf_rd s q ef
          cases hw : fs[i]? with
          | none => rw [hw] at e; cases e
          | some w' =>
            rw [hw] at e; cases e
            obtain ⟨v, hv, rv⟩ := r.get hw
            exact ⟨_, _, dx, _, v, rfl, h1, T.cl, T.no f (List.mem_of_getElem? hi), zip_lookup T.nodup (by rw [T.names]; exact hi) hv, Fin.same k s rv.res⟩
        · cases e
    · cases e) h⟩
theorem sv_fld (c i : Nat) (T : ClT X.K X.mg (cl c) x nm) (ho : EV cl X o fo) (hv : EV cl X e fv) (hi : nm[i]? = some f := by rfl) (hs : swapsWith e (some (.Attribute o f pos')) pos.line X.env = pure false := by rfl) : SV cl X (.Assign [.Attribute o f pos'] e pos) (fFld c i fo fv) :=
  ⟨PS.imp (ps_fld ho.pe hv.pe hs) fun D σ H q => by
  obtain ⟨F0, ρ0, H0, F, ρ, m, env, ou, env', m', S, e, k⟩ := q
  unfold fFld at e
  split at e
  · rename_i v m1 e1
    split at e
    · rename_i v' ef
      split at e
      · rename_i n m2 e2
        split at e
        · rename_i fs eo
          split at e
          · rename_i fs' ep
            cases e
            refine ⟨F, ρ, m, env, _, _, S.sr, S.er, e1, fun F1 ρ1 H1 v1 A1 s1 r1 => ?_⟩
            obtain ⟨F1', A1', s1', qv, _⟩ := r1.frz A1 s1 ef
            refine ⟨F1', ρ1, m1, env, _, _, s1', S.er.adv A1', e2, fun F2 ρ2 H2 v2 A2 s2 r2 => ?_⟩
            cases r2 with
            | ref qo =>
              obtain ⟨dx, vs, h1, r, hl⟩ := insOf_rd s2 qo eo
              have qv2 := qv.mono A2.f A2.r
              obtain ⟨vs', z1, z2, z3⟩ := putFs_ok (nm := nm) (f := f) T.nodup (by show (cl c).nm[i]? = _; rw [T.names]; exact hi) r hl qv2 ep
              refine ⟨_, _, dx, _, rfl, h1, T.cl, T.no f (List.mem_of_getElem? hi), ?_, ?_⟩
              · have : ((cl c).nm.zip vs).length ≤ (cl c).nm.length := by rw [List.length_zip]; exact Nat.min_le_left _ _
                have := T.few
                rw [← T.names] at this
                show ((cl c).nm.zip vs).length < 1000
                omega
              · obtain ⟨A4, s4⟩ := s2.put (ho := .ins (cl c).ad dx (putF f v1 ((cl c).nm.zip vs))) (o' := .ins c fs') qo ⟨dx, vs', by rw [z1], z2, z3⟩
                have A := (A1'.trans A2).trans A4
                exact k F2 ρ2 σ _ (S.advd A s4) A.grow
          · cases e
        · cases e
      · cases e
    · cases e
  · cases e⟩
theorem sv_fldaug {op : Operator} {R : R2} {op2 : Op2} (c i : Nat) (T : ClT X.K X.mg (cl c) x nm) (hop : OpR X (inplaceOp op) R) (hs : OpS2 ⟨X.K, cl⟩ R op2) (ho : EV cl X o fo) (hv : EV cl X e fv) (hi : nm[i]? = some f := by rfl) : SV cl X (.AugAssign (.Attribute o f pos') op e pos) (fFldAug c i op2 fo fv) :=
  ⟨PS.imp (ps_fldaug (rd := R) ho.pe hv.pe (fun pins s σ H x y u v Q I r1 r2 q => hop pins s σ H x y u v Q I r1 r2 q)) fun D σ H q => by
  obtain ⟨F0, ρ0, H0, F, ρ, m, env, ou, env', m', S, e, k⟩ := q
  unfold fFldAug at e
  split at e
  · rename_i n m1 e1
    split at e
    · rename_i fs eo
      split at e
      · rename_i xw ex
        split at e
        · rename_i y m2 e2
          split at e
          · rename_i z m3 e3
            split at e
            · rename_i z' ez
              split at e
              · rename_i fs' eo'
                split at e
                · rename_i hlt
                  cases e
                  refine ⟨F, ρ, m, env, _, _, S.sr, S.er, e1, fun F1 ρ1 H1 v1 A1 s1 r1 => ?_⟩
                  cases r1 with
                  | @ref _ ad qo =>
                    obtain ⟨dx, vs, h1, r, hl⟩ := insOf_rd s1 qo eo
                    obtain ⟨xv, hxv, rxv⟩ := r.get ex
                    refine ⟨_, _, dx, _, xv, rfl, h1, T.cl, T.no f (List.mem_of_getElem? hi), zip_lookup T.nodup (by rw [T.names]; exact hi) hxv, ?_⟩
                    refine ⟨F1, ρ1, m1, env, _, _, s1, S.er.adv A1, e2, fun F2 ρ2 H2 v2 A2 s2 r2 => ?_⟩
                    refine hs s2 ((rxv.mono A2.f A2.r).rd) r2.rd e3 fun F3 ρ3 H3 v3 A3 s3 r3 => ?_
                    obtain ⟨F3', A3', s3', qz, _⟩ := r3.frz A3 s3 ez
                    have qo3 : ρ3[n]? = some ad := by
                      obtain ⟨t, ht⟩ := (A2.trans A3').r
                      rw [ht]; exact getApp qo
                    obtain ⟨dx', vs', h1', r', hl'⟩ := insOf_rd s3' qo3 eo'
                    refine ⟨dx', _, h1', ?_, ?_⟩
                    · have : ((cl c).nm.zip vs').length ≤ (cl c).nm.length := by rw [List.length_zip]; exact Nat.min_le_left _ _
                      have := T.few
                      rw [← T.names] at this
                      show ((cl c).nm.zip vs').length < 1000
                      omega
                    · obtain ⟨vs2, z1, z2, z3⟩ := putFs_ok (nm := nm) (f := f) (fs' := fs'.set i z') T.nodup (by show (cl c).nm[i]? = _; rw [T.names]; exact hi) r' hl' qz (by unfold putFs; rw [if_pos hlt])
                      obtain ⟨A4, s4⟩ := s3'.put (ho := .ins (cl c).ad dx' (putF f v3 ((cl c).nm.zip vs'))) (o' := .ins c (fs'.set i z')) qo3 ⟨dx', vs2, by rw [z1], z2, z3⟩
                      have A := ((A1.trans A2).trans A3').trans A4
                      exact k F3' ρ3 σ _ (S.advd A s4) A.grow
                · cases e
              · cases e
            · cases e
          · cases e
        · cases e
      · cases e
    · cases e
  · cases e⟩
/-! methods, makers -/
def isIns (c : Nat) (m : MH) (x : W) : Bool := match x with
  | .ref n => (insOf c n m).isSome
  | _ => false
def eMe (c n : Nat) (φ : OpN) (fo : FE) (fr : FA) : FE := fun env m => match fo env m with
  | some (x, m1) => if isIns c m1 x = true then match fr env m1 with
      | some (xs, m2) => oCall n φ (x :: xs) m2
      | none => none
    else none
  | none => none
def eMk (c n : Nat) (φ : OpN) (fr : FA) : FE := fun env m => match fr env m with
  | some (xs, m1) => match oCall n φ (.ref m1.length :: xs) (m1 ++ [.ins c []]) with
    | some (.non, m2) => some (.ref m1.length, m2)
    | _ => none
  | none => none
def OkMe (P : Program) (w : World) (K : PySem.W.Frag) (mg : Str → Option Value) (base : Heap) (cl : Nat → Cl) (c : Nat) (m : Str) (k n : Nat) (φ : OpN) : Prop :=
  ∃ f fd ps, FnOk P w K mg base CX0 k f fd ps (spW ⟨K, cl⟩ n φ) ∧ Meth K (cl c).ad m f ∧ Binds K fd ps []
def OkMk (P : Program) (w : World) (K : PySem.W.Frag) (mg : Str → Option Value) (base : Heap) (cl : Nat → Cl) (c : Nat) (k n : Nat) (φ : OpN) : Prop :=
  ∃ f fd ps, FnOk P w K mg base CX0 k f fd ps (spW ⟨K, cl⟩ n φ) ∧ Mk K (cl c).ad f ∧ Binds K fd ps []
theorem tE_me {g : G} {σ H Q} (hno : m ∉ (g.cl c).nm) (h : tE g (eMe c n φ fo fr) σ H Q) : tMeth (g.cl c).ad m (spW g n φ) [] E0 (tE g fo) (tA g fr) σ H Q := by
  obtain ⟨F, ρ, mh, env, w, m', s, er, e, k⟩ := h
  unfold eMe at e
  split at e
  · rename_i x m1 e1
    split at e
    · rename_i hI
      split at e
      · rename_i xs m2 e2
        refine ⟨F, ρ, mh, env, _, _, s, er, e1, fun F1 ρ1 H1 v1 A1 s1 r1 => ?_⟩
        unfold isIns at hI
        split at hI
        · rename_i n'
          cases r1 with
          | ref qo =>
            cases ef : insOf c n' m1 with
            | none => rw [ef] at hI; cases hI
            | some fs =>
              obtain ⟨dx, vs, h1, r, hl⟩ := insOf_rd s1 qo ef
              refine ⟨_, dx, _, rfl, h1, zip_none hno, ?_⟩
              refine ⟨F1, ρ1, m1, env, _, _, s1, er.adv A1, e2, fun F2 ρ2 H2 v2 A2 s2 r2 => ?_⟩
              unfold oCall at e
              split at e
              · rename_i hn
                rw [List.append_nil]
                have rx2 : RelW g F2 ρ2 (.ref n') _ := (RelW.ref qo).mono A2.f A2.r
                exact ⟨F2, ρ2, m2, _, w, m', by rw [← (RelWs.cons rx2 r2).length]; exact hn, s2, .cons rx2 r2, e, fun F3 ρ3 H3 v3 A3 s3 r3 => k F3 ρ3 H3 v3 ((A1.trans A2).trans A3) s3 (r3.back (A1.trans A2))⟩
              · cases e
        · cases hI
      · cases e
    · cases e
  · cases e
theorem ev_meth (c : Nat) (O : OkMe X.prog X.w X.K X.mg X.base cl c m k n φ) (T : ClT X.K X.mg (cl c) x nm) (hr : Room j X.A) (hkj : k ≤ j) (ho : EV cl X o fo) (ha : AV cl X (e :: es) fr) (hno : m ∉ nm := by decide +kernel)
    (hst : starEach (e :: es) X.env = (false, eval e X.env) :: starEach es X.env := by rfl) (hpl : (backTo pos (starEach es X.env)).any (·.1) = false := by rfl) {pl : Sem Bool}
    (ht : eval (.Call (.Attribute o m apos) (e :: es) [] pos) X.env = (do
      let ov ← eval o X.env
      standAt apos.atName
      let (f, first) ← holding [ov] (getMethod ov m pl)
      callWith pos f first (backTo pos (starEach (e :: es) X.env)) (backToKw pos (keywordEach [] X.env))) := by rfl) : EV cl X (.Call (.Attribute o m apos) (e :: es) [] pos) (eMe c n φ fo fr) := by
  obtain ⟨f, fd, ps, D, hm, hb⟩ := O
  exact ⟨PE.imp (pe_meth ho.pe T.cl hm D (hr.mono hkj) hb .nil pass0 ha.pa hst hpl ht) fun σ H Q h => tE_me (g := ⟨X.K, cl⟩) (by show m ∉ (cl c).nm; rw [T.names]; exact hno) h⟩
theorem ev_meth0 (c : Nat) (O : OkMe X.prog X.w X.K X.mg X.base cl c m k n φ) (T : ClT X.K X.mg (cl c) x nm) (hr : Room j X.A) (hkj : k ≤ j) (ho : EV cl X o fo) (hno : m ∉ nm := by decide +kernel) {pl : Sem Bool}
    (ht : eval (.Call (.Attribute o m apos) [] [] pos) X.env = (do
      let ov ← eval o X.env
      standAt apos.atName
      let (f, first) ← holding [ov] (getMethod ov m pl)
      callWith pos f first (backTo pos (starEach [] X.env)) (backToKw pos (keywordEach [] X.env))) := by rfl) : EV cl X (.Call (.Attribute o m apos) [] [] pos) (eMe c n φ fo aNil) := by
  obtain ⟨f, fd, ps, D, hm, hb⟩ := O
  refine ⟨PE.imp (pe_meth0 ho.pe T.cl hm D (hr.mono hkj) hb .nil pass0 ht) fun σ H Q h => ?_⟩
  have h2 := tE_me (m := m) (g := ⟨X.K, cl⟩) (by show m ∉ (cl c).nm; rw [T.names]; exact hno) h
  unfold tMeth at h2 ⊢
  obtain ⟨F, ρ, mh, env, w, m', s, er, e, k⟩ := h2
  refine ⟨F, ρ, mh, env, w, m', s, er, e, fun F' ρ' H' v A s' r => ?_⟩
  obtain ⟨a, dx, fs, h1, h2, h3, F2, ρ2, m2, env2, w2, m2', s2, er2, e2, k2⟩ := k F' ρ' H' v A s' r
  cases e2
  exact ⟨a, dx, fs, h1, h2, h3, k2 F2 ρ2 H' [] Adv.refl s2 .nil⟩
theorem ev_make (c : Nat) (O : OkMk X.prog X.w X.K X.mg X.base cl c k n φ) (T : ClT X.K X.mg (cl c) x nm) (hr : Room j X.A) (hkj : k + 1 ≤ j) (hg : Gl X x) (ha : AV cl X (e :: es) fr) (hdb : (x == ("__debug__" : Str)) = false := by decide)
    (he : starEach (e :: es) X.env = (false, eval e X.env) :: starEach es X.env := by rfl) (hpl : (backTo pos (starEach es X.env)).any (·.1) = false := by rfl) : EV cl X (.Call (.Name x p) (e :: es) [] pos) (eMk c n φ fr) := by
  obtain ⟨f, fd, ps, D, M, hb⟩ := O
  refine ⟨PE.imp (pe_make M D (hr.mono hkj) hg T.mg hb .nil pass0 ha.pa hdb he hpl) fun σ H Q h => ?_⟩
  obtain ⟨F, ρ, mh, env, w, m', s, er, e, k⟩ := h
  unfold eMk at e
  split at e
  · rename_i xs m1 e1
    split at e
    · rename_i m2 e2
      cases e
      refine ⟨F, ρ, mh, env, _, _, s, er, e1, fun F1 ρ1 H1 vs A1 s1 r1 => ?_⟩
      intro x dx hx hdx ne
      have s2 := s1.laid (o := .own x) hdx
      have A2 : Adv F1 ρ1 H1 F1 ρ1 (upd H1 dx (.own x)) := Adv.laid hdx
      have hx2 : upd H1 dx (.own x) x = none := by rw [upd_ne (fun z => ne z.symm)]; exact hx
      obtain ⟨A3, s3⟩ := s2.alloc (o := .ins c []) (ho := .ins (cl c).ad dx []) hx2 ⟨dx, [], by show _ = some (HO.ins (cl c).ad dx ((cl c).nm.zip [])); rw [List.zip_nil_right], .nil, Nat.zero_le _⟩
      have A := (A1.trans A2).trans A3
      have rx : RelW ⟨X.K, cl⟩ F1 (ρ1 ++ [x]) (.ref m1.length) (.ref x) := .ref (by rw [List.getElem?_append_right (Nat.le_of_eq s1.len), s1.len, Nat.sub_self]; rfl)
      have r3 : RelWs ⟨X.K, cl⟩ F1 (ρ1 ++ [x]) (.ref m1.length :: xs) (.ref x :: vs) := .cons rx (r1.mono (Same.refl _) ⟨[x], rfl⟩)
      unfold oCall at e2
      split at e2
      · rename_i hn
        rw [List.append_nil]
        refine ⟨F1, ρ1 ++ [x], m1 ++ [.ins c []], _, .non, m', by rw [← r3.length]; exact hn, s3, r3, e2, fun F4 ρ4 H4 v4 A4 s4 r4 => ?_⟩
        cases r4
        exact ⟨rfl, k F4 ρ4 H4 _ (A.trans A4) s4 (RelW.res (rx.mono A4.f A4.r))⟩
      · cases e2
    · cases e
  · cases e
end
end M
namespace ExtT
open PySem.AutoSeq1
open PySem
theorem extend_tuple (l : Addr) (items : Array Value) (n : Nat) (b : Addr) (items2 : Array Value) (n2 : Nat) (dd : Option Addr) (sl : Array (Option Value)) (hs0 : ¬(!items.isEmpty && Builtin.List.listTooLong (items.size + items2.size)) = true) (hs1 : items.size ≤ sizeLine) (hs2 : items.size + items2.size ≤ sizeLine + 1) :
    Meets (Builtin.«list.extend» ⟨[.ref l, .ref b], []⟩) (fun _ R s => s.heap.get? l = some { cls := .type "list", dict := none, data := .seq items n, slots := #[] } ∧ s.heap.get? b = some { cls := .type "tuple", dict := dd, data := .seq items2 n2, slots := sl } ∧ R (.ok (.ret Value.none)) { s with heap := s.heap.update l (Obj.mapSeq fun x => x ++ items2), toks := s.toks }) :=
  .of_wp fun prog w A R s h => by
    obtain ⟨hp, g, d, tk, os⟩ := s; obtain ⟨hl, hb, h⟩ := h; have f1 := idx_int; have f2 := sub_tuple_tuple; have f3 := sub_list_list; have f4 := sub_tuple_list; have f5 := sub_list_tuple;
    have hz' : (items ++ items2).size ≤ sizeLine + 1 := by rw [Array.size_append]; exact hs2
    wp_walk using (wpAny_updateSeq hl rfl (hz := hs1) (_hz' := hz')), wpAny_loadPart' hl, wpAny_loadPart' hb; exact ⟨_, rfl, h⟩
end ExtT
namespace SortAny
open PySem PySem.Spec PyProof.Rows L2
/-- sorted(d) of a dict, all its keys ints, any number of them -/
theorem call_sortedDIn {X : Cx} (hcalm : X.calm = true) : CallR X (.builtin "sorted") (fun xs H Q => ∃ (a : Addr) (kvs : List (Key × V)) (ks : List Int), xs = [.ref a] ∧ Rd H a (.dK kvs) ∧ kvs.map (·.1) = ks.map Sum.inl ∧ ks.length ≤ sizeLine ∧
    ∀ (ys : List Int) (p : Addr), ys.Perm ks → ys.Pairwise (· ≤ ·) → H p = none → Q (.ref p) (upd H p (.lst (ys.map V.int)))) := by
  intro pins s σ H xs us Q I r q
  obtain ⟨a, kvs, ks, ex, hd, hks, hz, q⟩ := q
  subst ex
  obtain ⟨u, eu, rx⟩ := vals1 r
  subst eu
  cases rx
  obtain ⟨z, lo, vs, rel, dd⟩ := dk_rd I.hok hd
  obtain ⟨ep, hat⟩ := dd.dictAt
  have hkeys : vs.map (·.1) = ks.map Sum.inl := rel.keys.symm.trans hks
  have hl : vs.length = ks.length := by
    have e := congrArg List.length hkeys
    rw [List.length_map, List.length_map] at e
    exact e
  have h16 : vs.length ≤ sizeLine := by rw [hl]; exact hz
  refine Calls.call_function_entry PyProof.Rows.kind_sorted PyProof.Rows.plain_sorted PyProof.Rows.entry_sorted (PyProof.Rows.args_sorted1 _) ?_
  unfold Builtin.«sorted»
  refine wpAny_bind (m := checkCount "sorted" 1 1 _) (wpAny_pure ?_)
  refine wpAny_bind (PySem.W.kdu_collect (A := X.A.in1) (PySem.W.kdl_dict (knd := mixKind X.prog X.w) (kvs := vs) (ep := ep) lo) (I.ok.hd hcalm) hat h16 fun h' tk acc hk hacc => ?_)
  have hal : acc.toList.length = ks.length := by rw [Array.length_toList, hacc.1, hl]
  have hS : IntsAre acc.toList ks := ints_each hal fun j v e => by
    obtain ⟨k, x, e1, e2⟩ := hacc.2 j v (by rw [← Array.getElem?_toList]; exact e)
    have e3 : (vs.map (·.1))[j]? = some k := by rw [List.getElem?_map, e1]; rfl
    rw [hkeys, List.getElem?_map] at e3
    cases e4 : ks[j]? with
    | none => rw [e4] at e3; cases e3
    | some y =>
      rw [e4] at e3
      have e5 : Sum.inl y = k := Option.some.inj e3
      subst e5
      rcases keyIs_shape (show keyIs (Sum.inl y) v = true from e2) with ⟨i, t, ek, ev⟩ | ⟨z, t, ek, ev⟩
      · cases ek
        exact ⟨y, t, rfl, ev⟩
      · cases ek
  have I1 : Inv X pins σ H { s with heap := h', toks := tk } := I.kept hk
  refine wpAny_bind (wpAny_newList ?_ (by rw [hal]; exact hz))
  have hoL : (h'.push (seqObj "list" acc.toList.toArray 0)).get? h'.objs.size = some (seqObj "list" acc.toList.toArray 0) := Heap.get?_push_size _ rfl
  show wpAny _ _ _ _ _ { s with heap := h'.push (seqObj "list" acc.toList.toArray 0), toks := tk }
  refine wpAny_bind (wpAny_holding (wpAny_call_entry PyProof.Rows.slot_list_sort ⟨_, hoL, rfl⟩ PyProof.Rows.entry_list_sort
    (SrtO.list_sort_ord (s := { s with heap := h'.push (seqObj "list" acc.toList.toArray 0), toks := tk }) SrtO.swo_int hoL (by rw [hal]; exact hz) (fun h2 => SrtO.ints_sortable hS h2) fun out h1 h2 => ⟨_, rfl, ?_⟩) (PyProof.Rows.args_list_sort _)))
  obtain ⟨g1, g2, g3⟩ := SrtO.ints_out hS h1 h2
  obtain ⟨e', he'⟩ := PyProof.Rows.sortedHeap_at (vs := acc.toList) (out := out.toArray) hoL
  have hlen : ((out.map SrtO.iv).map V.int).length ≤ sizeLine := by
    rw [List.length_map, g2.length_eq]
    exact hz
  refine wpAny_pure ⟨_, rfl, .ref h'.objs.size, upd H h'.objs.size (.lst ((out.map SrtO.iv).map V.int)), I1.laid (t' := tk) (fun b u e => ?_) (Nat.le_refl _)
    (show ObjOk X.prog X.w _ _ _ (.lst ((out.map SrtO.iv).map V.int)) from ⟨hlen, out, e', vals_of_ints g1, he'⟩), rfl, q _ _ g2 g3 (I1.hok.fresh (Nat.le_refl _))⟩
  have hb : b < h'.objs.size := Heap.lt_size e
  rw [PyProof.Rows.sortedHeap_old (Nat.ne_of_lt hb) (by rw [size_push']; exact Nat.lt_succ_of_lt hb)]
  exact Heap.get?_push_of_some _ e
/-- xs.extend(t), t a tuple -/
def rExtT (K : PySem.W.Frag) : V → List V → Hp → VK → Prop := fun x vs H Q => ∃ l b xs zs, x = .ref l ∧ vs = [.ref b] ∧ H l = some (.lst xs) ∧ SqT K H b zs ∧ xs.length + zs.length ≤ sizeLine ∧ Q .non (upd H l (.lst (xs ++ zs)))
theorem mt_extT {X : Cx} : MtM X "list.extend" (rExtT X.K) := by
  intro pins s σ H x vs v us Q I rx rv h
  obtain ⟨l, b, xs, zs, rfl, rfl, hH, hB, hz, q⟩ := h
  cases rx
  obtain ⟨u, rfl, ru⟩ := rv.one
  cases ru
  obtain ⟨z, its, n, r, hl, e⟩ := I.lstM hH
  obtain ⟨its2, r2, e2, hl2⟩ := I.tuple hB
  obtain ⟨⟨oc, od, oda, osl⟩, ho2, hc2, n2, hd2⟩ := e2
  cases hc2
  cases hd2
  have hl2' := r2.length
  have hsz : its.toArray.size + its2.toArray.size ≤ sizeLine := by rw [List.size_toArray, List.size_toArray, ← hl2']; omega
  have hlong : ¬ (!its.toArray.isEmpty && Builtin.List.listTooLong (its.toArray.size + its2.toArray.size)) = true := by
    rw [notLongL hsz, Bool.and_false]
    exact Bool.false_ne_true
  refine call_meets F.slot_list_extend ⟨_, e, rfl⟩ F.entry_list_extend (F.args_list_extend_2 _ _)
    (ExtT.extend_tuple l its.toArray n b its2.toArray n2 _ _ hlong (by rw [List.size_toArray]; omega) (by omega)) ⟨e, ho2, ?_⟩
  refine ⟨.non, _, I.lset (its' := its ++ its2) hH e (by simp) (r.append r2) ?_, rfl, q⟩
  rw [List.length_append]
  omega
end SortAny
namespace M
open PySem L2
/-! ### ints in order -/
def insI (x : Int) : List Int → List Int
  | [] => [x]
  | y :: ys => if x ≤ y then x :: y :: ys else y :: insI x ys
def sortI : List Int → List Int
  | [] => []
  | x :: xs => insI x (sortI xs)
theorem insI_perm (x : Int) : ∀ l : List Int, (insI x l).Perm (x :: l)
  | [] => .refl _
  | y :: ys => by
    unfold insI
    split
    · exact .refl _
    · exact ((insI_perm x ys).cons y).trans (.swap _ _ _)
theorem sortI_perm : ∀ l : List Int, (sortI l).Perm l
  | [] => .refl _
  | x :: xs => (insI_perm x _).trans ((sortI_perm xs).cons x)
theorem insI_sorted (x : Int) : ∀ {l : List Int}, l.Pairwise (· ≤ ·) → (insI x l).Pairwise (· ≤ ·)
  | [], _ => List.pairwise_singleton _ _
  | y :: ys, h => by
    obtain ⟨h1, h2⟩ := List.pairwise_cons.mp h
    unfold insI
    split
    · rename_i hxy
      refine List.pairwise_cons.mpr ⟨fun z hz => ?_, h⟩
      rcases List.mem_cons.mp hz with rfl | hz
      · exact hxy
      · exact Int.le_trans hxy (h1 z hz)
    · rename_i hxy
      refine List.pairwise_cons.mpr ⟨fun z hz => ?_, insI_sorted x h2⟩
      rcases List.mem_cons.mp ((insI_perm x ys).mem_iff.mp hz) with rfl | hz
      · omega
      · exact h1 z hz
theorem sortI_sorted : ∀ l : List Int, (sortI l).Pairwise (· ≤ ·)
  | [] => .nil
  | x :: xs => insI_sorted x (sortI_sorted xs)
theorem sorted_unique : ∀ {l l' : List Int}, l.Perm l' → l.Pairwise (· ≤ ·) → l'.Pairwise (· ≤ ·) → l = l'
  | [], l', p, _, _ => (List.nil_perm.mp p).symm
  | x :: xs, [], p, _, _ => absurd p.length_eq (by simp)
  | x :: xs, y :: ys, p, h, h' => by
    obtain ⟨h1, h2⟩ := List.pairwise_cons.mp h
    obtain ⟨h3, h4⟩ := List.pairwise_cons.mp h'
    have e : x = y := by
      have a : x ≤ y := by
        rcases List.mem_cons.mp (p.symm.mem_iff.mp (List.mem_cons_self (a := y) (l := ys))) with q | q
        · omega
        · exact h1 y q
      have b : y ≤ x := by
        rcases List.mem_cons.mp (p.mem_iff.mp (List.mem_cons_self (a := x) (l := xs))) with q | q
        · omega
        · exact h3 x q
      omega
    subst e
    rw [sorted_unique (List.perm_cons _ |>.mp p) h2 h4]
theorem sortI_unique {l l' : List Int} (p : l'.Perm l) (h : l'.Pairwise (· ≤ ·)) : l' = sortI l := sorted_unique (p.trans (sortI_perm l).symm) h (sortI_sorted l)
def intsW : List W → Option (List Int)
  | [] => some []
  | .int i :: l => (intsW l).map (i :: ·)
  | _ => none
theorem intsW_eq : ∀ {l : List W} {ks : List Int}, intsW l = some ks → l = ks.map W.int
  | [], _, e => by cases e; rfl
  | .int i :: l, ks, e => by
    unfold intsW at e
    cases q : intsW l with
    | none => rw [q] at e; cases e
    | some r => rw [q] at e; cases e; rw [intsW_eq q]; rfl
  | .non :: _, _, e | .bl _ :: _, _, e | .str _ :: _, _, e | .tup _ :: _, _, e | .lst _ :: _, _, e | .fro _ :: _, _, e | .own _ :: _, _, e | .bor _ :: _, _, e | .ref _ :: _, _, e => by cases e
theorem intsW_map : ∀ (ks : List Int), intsW (ks.map W.int) = some ks
  | [] => rfl
  | i :: ks => by rw [List.map_cons]; unfold intsW; rw [intsW_map ks]; rfl
def keysI {α : Type} : List (Key × α) → Option (List Int)
  | [] => some []
  | (.inl i, _) :: l => (keysI l).map (i :: ·)
  | _ => none
theorem keysI_eq {α : Type} : ∀ {l : List (Key × α)} {ks : List Int}, keysI l = some ks → l.map (·.1) = ks.map Sum.inl
  | [], _, e => by cases e; rfl
  | (.inl i, _) :: l, ks, e => by
    unfold keysI at e
    cases q : keysI l with
    | none => rw [q] at e; cases e
    | some r => rw [q] at e; cases e; rw [List.map_cons, keysI_eq q]; rfl
  | (.inr _, _) :: _, _, e => by cases e
theorem RelKs.keys {g : G} {F : Hp} {ρ : List Addr} : ∀ {kvs : List (Key × W)} {vs : List (Key × V)}, RelKs g F ρ kvs vs → kvs.map (·.1) = vs.map (·.1)
  | _, _, .nil => rfl
  | (a, _) :: _, (b, _) :: _, .cons ⟨e, _⟩ r => by
    have e' : a = b := e
    subst e'
    rw [List.map_cons, List.map_cons, RelKs.keys r]
/-- sorted(x): ints of a list, or a dict's keys -/
def oSorted : Op1 := fun x m => match dctOf m x with
  | some (_, kvs) => match keysI kvs with
    | some ks => if ks.length ≤ sizeLine then some (.own ((sortI ks).map W.int), m) else none
    | none => none
  | none => match lsOf m x with
    | some l => match intsW l with
      | some ks => some (.own ((sortI ks).map W.int), m)
      | none => none
    | none => none
section
variable {cl : Nat → Cl} {X : Cx} {pos p cpos apos : Pos} {a b c e o : Expr} {fa fb fc fo : FE} {es : List Expr} {fr : FA} {x : Str}
theorem ev_sorted (hc : X.calm = true) (hg : Gl X "sorted") (hm : X.mg "sorted" = none) (ha : EV cl X a fa) (hst : starEach [a] X.env = [(false, eval a X.env)] := by rfl) : EV cl X (.Call (.Name "sorted" p) [a] [] pos) (eUn oSorted fa) :=
  ev_b1 (cr_sortedI.or (SortAny.call_sortedDIn hc)) (fun {F ρ m H x vx w m' Q} s rx e k => by
    unfold oSorted at e
    split at e
    · rename_i n kvs ed
      split at e
      · rename_i ks ek
        split at e
        · rename_i hz
          cases e
          obtain ⟨a, vs, rfl, rfl, _, _, h1, h2⟩ := dctOf_rd s rx ed
          refine .inr ⟨a, vs, ks, rfl, .inl h1, by rw [← h2.keys]; exact keysI_eq ek, hz, fun ys p p1 p2 hp => ?_⟩
          rw [sortI_unique p1 p2]
          exact Fin.own k s (RelWs.of_ints _) p hp
        · cases e
      · cases e
    · split at e
      · rename_i l hl
        split at e
        · rename_i ks ek
          cases e
          obtain ⟨a, vs, rfl, hs, r⟩ := lsOf_rd s rx hl
          rw [intsW_eq ek] at r
          refine .inl ⟨a, ks, rfl, by rw [← r.ints]; exact hs, fun ys p p1 p2 hp => ?_⟩
          rw [sortI_unique p1 p2]
          exact Fin.own k s (RelWs.of_ints _) p hp
        · cases e
      · cases e) hg hm (by decide +kernel) ha (by decide) (by decide) hst
/-! dicts: pop, display, len, list(d.values()) -/
theorem ev_dpop1 (ho : EV cl X o fo) (ha : EV cl X a fa) (hm : M1 X o "pop" apos a cpos := by exact ⟨rfl, rfl, rfl, rfl⟩) : EV cl X (.Call (.Attribute o "pop" apos) [a] [] cpos) (eD2 oPop1 fo fa) :=
  ⟨PE.imp (pe_dpop1 ho.pe ha.pe hm) fun σ H Q h => by
  obtain ⟨F, ρ, m, env, w, m', s, er, e, k⟩ := h
  unfold eD2 at e
  split at e
  · rename_i x m1 e1
    split at e
    · rename_i hd
      split at e
      · rename_i y m2 e2
        refine ⟨F, ρ, m, env, _, _, s, er, e1, fun F1 ρ1 H1 v1 A1 s1 r1 => ?_⟩
        obtain ⟨ad, rfl, hD⟩ := isD_of s1 r1.rd hd
        refine ⟨ad, rfl, hD, F1, ρ1, m1, env, _, _, s1, er.adv A1, e2, fun F3 ρ3 H3 v3 A3 s3 r3 => ?_⟩
        unfold oPop1 at e
        split at e
        · rename_i n kvs ke ed ek
          split at e
          · rename_i w' ew
            cases e
            obtain ⟨ad', vs, eq, rfl, q, _, h1, h2⟩ := dctOf_rd s3 (r1.rd.adv A3) ed
            cases eq
            cases r3.rd.key ek
            obtain ⟨v, h3, h4⟩ := (h2.val (k := ke)).1 _ ew
            refine ⟨vs, ke, v, h1, rfl, h3, ?_⟩
            obtain ⟨A4, s4⟩ := s3.put (ho := .dK (dropK vs ke)) (o' := .dct (dropW kvs ke)) q ⟨_, rfl, h2.drop⟩
            exact k F3 ρ3 _ v ((A1.trans A3).trans A4) s4 h4.res
          · cases e
        · cases e
      · cases e
    · cases e
  · cases e⟩
theorem eltOk_rel {g : G} {F : Hp} {ρ : List Addr} {H0 H : Hp} {w : W} {v : V} (r : ResR g F ρ H0 H w v) (h : eltOk w = true) : RelW g F ρ w v := by
  cases w <;> first | exact r | cases h
theorem ev_dpop2 (ho : EV cl X o fo) (ha : EV cl X a fa) (hb : EV cl X b fb) (hm : M2 X o "pop" apos a b cpos := by exact ⟨rfl, rfl, rfl, rfl⟩) : EV cl X (.Call (.Attribute o "pop" apos) [a, b] [] cpos) (eD3 oPop2 fo fa fb) :=
  ⟨PE.imp (pe_dpop2 ho.pe ha.pe hb.pe hm) fun σ H Q h => by
  obtain ⟨F, ρ, m, env, w, m', s, er, e, k⟩ := h
  unfold eD3 at e
  split at e
  · rename_i x m1 e1
    split at e
    · rename_i hd
      split at e
      · rename_i y m2 e2
        split at e
        · rename_i z m3 e3
          refine ⟨F, ρ, m, env, _, _, s, er, e1, fun F1 ρ1 H1 v1 A1 s1 r1 => ?_⟩
          obtain ⟨ad, rfl, hD⟩ := isD_of s1 r1.rd hd
          refine ⟨ad, rfl, hD, F1, ρ1, m1, env, _, _, s1, er.adv A1, e2, fun F2 ρ2 H2 v2 A2 s2 r2 => ?_⟩
          refine ⟨F2, ρ2, m2, env, _, _, s2, (er.adv A1).adv A2, e3, fun F3 ρ3 H3 v3 A3 s3 r3 => ?_⟩
          unfold oPop2 at e
          split at e
          · rename_i n kvs ke ed ek
            obtain ⟨ad', vs, eq, rfl, q, _, h1, h2⟩ := dctOf_rd s3 ((r1.rd.adv A2).adv A3) ed
            cases eq
            cases (r2.rd.adv A3).key ek
            have A := (A1.trans A2).trans A3
            refine ⟨vs, ke, h1, rfl, fun v hv => ?_, fun hv => ?_⟩
            · cases qv : valW kvs ke with
              | none => rw [(h2.val (k := ke)).2 qv] at hv; cases hv
              | some w' =>
                rw [qv] at e
                cases e
                obtain ⟨v', h3, h4⟩ := (h2.val (k := ke)).1 _ qv
                rw [hv] at h3; cases h3
                obtain ⟨A4, s4⟩ := s3.put (ho := .dK (dropK vs ke)) (o' := .dct (dropW kvs ke)) q ⟨_, rfl, h2.drop⟩
                exact k F3 ρ3 _ v (A.trans A4) s4 h4.res
            · cases qv : valW kvs ke with
              | some w' =>
                obtain ⟨v', h3, h4⟩ := (h2.val (k := ke)).1 _ qv
                rw [hv] at h3; cases h3
              | none =>
                rw [qv] at e
                simp only at e
                split at e
                · rename_i hz
                  cases e
                  exact k F3 ρ3 _ v3 A s3 (eltOk_rel r3 hz).res
                · cases e
          · cases e
        · cases e
      · cases e
    · cases e
  · cases e⟩
def oLenD : Op1 := fun x m => match dctOf m x with
  | some (_, kvs) => some (.int kvs.length, m)
  | none => none
theorem ev_lend (hg : Gl X "len") (hm : X.mg "len" = none) (ha : EV cl X a fa) (hst : starEach [a] X.env = [(false, eval a X.env)] := by rfl) : EV cl X (.Call (.Name "len" p) [a] [] pos) (eUn oLenD fa) :=
  ev_b1 call_lenD (fun {F ρ m H x vx w m' Q} s rx e k => by
    unfold oLenD at e
    split at e
    · rename_i n kvs ed
      cases e
      obtain ⟨a, vs, rfl, rfl, _, _, h1, h2⟩ := dctOf_rd s rx ed
      refine ⟨a, vs, rfl, h1, ?_⟩
      rw [← h2.len]
      exact Fin.same k s (RelW.int _)
    · cases e) hg hm PySem.boot_len ha (by decide) (by decide) hst
/-- max(xs), ints -/
def maxI : List Int → Int
  | [] => 0
  | x :: l => l.foldl (fun a b => if a < b then b else a) x
/-- a if t else b -/
def eIfE (t : FT) (fa fb : FE) : FE := fun env m => match t env m with
  | some (true, m1) => fa env m1
  | some (false, m1) => fb env m1
  | none => none
theorem ev_ifE {t : FT} (hc : TV cl X c t) (ha : EV cl X a fa) (hb : EV cl X b fb) : EV cl X (.IfExp c a b pos) (eIfE t fa fb) := ⟨PE.imp (pe_ifExp hc.pt ha.pe hb.pe) fun σ H Q h => by
  obtain ⟨F, ρ, m, env, w, m', s, er, e, k⟩ := h
  unfold eIfE at e
  split at e
  · rename_i m1 e1
    refine ⟨F, ρ, m, env, _, _, s, er, e1, fun F1 ρ1 H1 A1 s1 => iteT ?_⟩
    exact ⟨F1, ρ1, m1, env, w, m', s1, er.adv A1, e, fun F2 ρ2 H2 v2 A2 s2 r2 => k F2 ρ2 H2 v2 (A1.trans A2) s2 (r2.back A1)⟩
  · rename_i m1 e1
    refine ⟨F, ρ, m, env, _, _, s, er, e1, fun F1 ρ1 H1 A1 s1 => iteF ?_⟩
    exact ⟨F1, ρ1, m1, env, w, m', s1, er.adv A1, e, fun F2 ρ2 H2 v2 A2 s2 r2 => k F2 ρ2 H2 v2 (A1.trans A2) s2 (r2.back A1)⟩
  · cases e⟩
theorem mt_or {id : String} {r r' : V → List V → Hp → VK → Prop} (h : MtR X id r) (h' : MtR X id r') : MtR X id (fun x vs H Q => r x vs H Q ∨ r' x vs H Q) := fun pins s σ H x xs v us Q I r1 r2 q => by
  rcases q with q | q
  · exact h pins s σ H x xs v us Q I r1 r2 q
  · exact h' pins s σ H x xs v us Q I r1 r2 q
/-- x.extend(y), y a list or a tuple -/
def oExt : OpM := fun x xs m => match x, xs with
  | .ref n, [y] => match m[n]? with
    | some (.lst l) => match y with
      | .tup l' => if l.length + l'.length ≤ sizeLine then some (.non, m.set n (.lst (l ++ l'))) else none
      | y => match lstOf m y with
        | some l' => if l.length + l'.length ≤ sizeLine then some (.non, m.set n (.lst (l ++ l'))) else none
        | none => none
    | _ => none
  | _, _ => none
theorem ev_extend (ho : EV cl X o fo) (ha : AV cl X [a] fr) (hbase : attributeBase o "extend" X.env (eval o X.env) = eval o X.env := by rfl)
    (hfew : ((backTo cpos (starEach [a] X.env)).all (fun x => !x.1) && (backToKw cpos (keywordEach [] X.env)).all (fun x => x.1.isSome)
      && decide (([a] : List Expr).length + ([] : List Keyword).length + (if ([] : List Keyword).isEmpty then 0 else 1) < 30)) = true := by rfl)
    (hline : (apos.endLine == cpos.line) = true := by rfl) (hs : starEach [a] X.env = [(false, eval a X.env)] := by rfl) : EV cl X (.Call (.Attribute o "extend" apos) [a] [] cpos) (eMet oExt fo fr) :=
  ⟨PE.imp (pe_bm PySem.F.plainAttrs_list PySem.F.slot_list_extend PySem.F.type_list_extend (mt_or mt_extend SortAny.mt_extT) ho.pe ha.pa hbase hfew hline hs rfl) fun _ _ _ h => tE_met (fun {F ρ m H x vx xs vs w m' Q} s rx rs e k => by
  unfold oExt at e
  split at e
  · rename_i n y
    split at e
    · rename_i l el
      cases rx with
      | ref q =>
        obtain ⟨_, vs0, h1, h2⟩ := s.cell n _ _ el q
        cases rs with
        | cons ry r0 =>
          cases r0
          split at e
          · rename_i l'
            split at e
            · rename_i hl
              cases e
              cases ry with
              | tup q' r' => exact .inr ⟨_, _, vs0, _, rfl, rfl, h1, seqT s.sub q', by rw [← h2.length, ← r'.length]; exact hl, Fin.put k s q ⟨_, rfl, h2.app r'⟩ fun _ => RelW.non⟩
            · cases e
          · split at e
            · rename_i l' hl'
              split at e
              · rename_i hl
                cases e
                obtain ⟨b, vs', rfl, h3, h4⟩ := lstOf_rd s ry.rd hl'
                exact .inl ⟨_, _, vs0, _, rfl, rfl, h1, h3, by rw [← h2.length, ← h4.length]; exact hl, Fin.put k s q ⟨_, rfl, h2.app h4⟩ fun _ => RelW.non⟩
              · cases e
            · cases e
    · cases e
  · cases e) h⟩
/-! a dict that is written out -/
def aPairs : List (FE × FE) → En → MH → Option (List (W × W) × MH)
  | [], _, m => some ([], m)
  | (fk, fv) :: r, env, m => match fk env m with
    | some (k, m1) => match fv env m1 with
      | some (v, m2) => match frz v with
        | some v' => match aPairs r env m2 with
          | some (ps, m3) => some ((k, v') :: ps, m3)
          | none => none
        | none => none
      | none => none
    | none => none
def mergeW (kvs more : List (Key × W)) : List (Key × W) := more.foldl (fun acc kv => putW acc kv.1 kv.2) kvs
def keyPs : List (W × W) → Option (List (Key × W))
  | [] => some []
  | (k, v) :: r => match keyW k, keyPs r with
    | some k, some r => some ((k, v) :: r)
    | _, _ => none
def eDisp (ps : List (FE × FE)) : FE := fun env m => match aPairs ps env (m ++ [.dct []]) with
  | some (kvs, m1) => match m1[m.length]?, keyPs kvs with
    | some (.dct []), some kvs => if kvs.length ≤ 15 then some (.ref m.length, m1.set m.length (.dct (mergeW [] kvs))) else none
    | _, _ => none
  | none => none
inductive PVs (cl : Nat → Cl) (X : Cx) : List (Option Expr) → List Expr → List (FE × FE) → Prop
  | nil : PVs cl X [] [] []
  | cons {k v : Expr} {fk fv : FE} {ks : List (Option Expr)} {vs : List Expr} {r : List (FE × FE)} (hk : EV cl X k fk) (hv : EV cl X v fv) (hr : PVs cl X ks vs r) : PVs cl X (some k :: ks) (v :: vs) ((fk, fv) :: r)
def tPs (g : G) : List (FE × FE) → List (TE × TE) := List.map fun p => (tE g p.1, tE g p.2)
theorem PVs.pps {cl : Nat → Cl} {X : Cx} {pos : Pos} : ∀ {ks : List (Option Expr)} {vs : List Expr} {r : List (FE × FE)}, PVs cl X ks vs r → PPs X pos ks vs (tPs ⟨X.K, cl⟩ r)
  | _, _, _, .nil => pps_nil
  | _, _, _, .cons hk hv hr => pps_cons hk.pe hv.pe (PVs.pps hr)
theorem tPs_ok {g : G} : ∀ {r : List (FE × FE)} {F : Hp} {ρ : List Addr} {m m' : MH} {H : Hp} {env : En} {σ : St} {ps : List (W × W)} {kvs : List (Key × W)} {Q : List (V × V) → Hp → Prop}, SR g F ρ m H → ER g F ρ env σ H → aPairs r env m = some (ps, m') → keyPs ps = some kvs →
    (∀ F' ρ' H' vs, Adv F ρ H F' ρ' H' → SR g F' ρ' m' H' → RelKs g F' ρ' kvs vs → Q (vs.map fun kv => (kV kv.1, kv.2)) H') → tPairs (tPs g r) σ H Q
  | [], F, ρ, m, m', H, env, σ, ps, kvs, Q, s, er, e, ek, k => by
    cases e; cases ek
    exact k F ρ H [] Adv.refl s .nil
  | (fk, fv) :: r, F, ρ, m, m', H, env, σ, ps, kvs, Q, s, er, e, ek, k => by
    unfold aPairs at e
    split at e
    · rename_i kw m1 e1
      split at e
      · rename_i v m2 e2
        split at e
        · rename_i v' ef
          split at e
          · rename_i ps' m3 e3
            cases e
            unfold keyPs at ek
            split at ek
            · rename_i kk rr ek1 ek2
              cases ek
              refine ⟨F, ρ, m, env, _, _, s, er, e1, fun F1 ρ1 H1 v1 A1 s1 r1 => ?_⟩
              refine ⟨F1, ρ1, m1, env, _, _, s1, er.adv A1, e2, fun F2 ρ2 H2 v2 A2 s2 r2 => ?_⟩
              obtain ⟨F2', A2', s2', qv, _⟩ := r2.frz A2 s2 ef
              refine tPs_ok (r := r) s2' ((er.adv A1).adv A2') e3 ek2 fun F3 ρ3 H3 vs A3 s3 r3 => ?_
              cases r1.rd.key ek1
              exact k F3 ρ3 H3 ((kk, v2) :: vs) ((A1.trans A2').trans A3) s3 (.cons ⟨rfl, qv.mono A3.f A3.r⟩ r3)
            · cases ek
          · cases e
        · cases e
      · cases e
    · cases e
theorem RelKs.merge {g : G} {F : Hp} {ρ : List Addr} : ∀ {more : List (Key × W)} {vmore : List (Key × V)} {kvs : List (Key × W)} {vs : List (Key × V)}, RelKs g F ρ more vmore → RelKs g F ρ kvs vs → RelKs g F ρ (mergeW kvs more) (mergeK vs vmore)
  | _, _, _, _, .nil, h => h
  | (a, w) :: more, (b, v) :: vmore, kvs, vs, .cons ⟨e, q⟩ r, h => by
    have e' : a = b := e
    subst e'
    show RelKs g F ρ (mergeW (putW kvs a w) more) (mergeK (putK vs a v) vmore)
    exact RelKs.merge r (h.put q)
theorem ev_disp {ks : List (Option Expr)} {vs : List Expr} {r : List (FE × FE)} (h : PVs cl X ks vs r) (hall : ks.all (·.isSome) = true := by rfl) (hl : ks.length = vs.length := by rfl) (h0 : ks ≠ [] := by (intro h; cases h)) (h15 : ks.length ≤ 15 := by decide) : EV cl X (.Dict ks vs pos) (eDisp r) :=
  ⟨PE.imp (pe_disp h.pps hall hl h0 h15) fun σ H Q q => by
  obtain ⟨F, ρ, m, env, w, m', s, er, e, k⟩ := q
  unfold eDisp at e
  split at e
  · rename_i kvs m1 e1
    split at e
    · rename_i kvs' e2 e3
      split at e
      · rename_i h15
        cases e
        intro p hp
        obtain ⟨A0, s0⟩ := s.alloc (o := .dct []) (ho := .dK []) hp ⟨[], rfl, .nil⟩
        refine tPs_ok s0 (er.adv A0) e1 e3 fun F1 ρ1 H1 vs1 A1 s1 r1 => ?_
        have hq : ρ1[m.length]? = some p := by
          obtain ⟨t, ht⟩ := A1.r
          rw [ht]
          exact getApp (by rw [List.getElem?_append_right (Nat.le_of_eq s.len), s.len, Nat.sub_self]; rfl)
        obtain ⟨_, vs2, h1, h2⟩ := s1.cell _ _ _ e2 hq
        cases vs2 with
        | cons _ _ => cases h2
        | nil =>
          refine ⟨h1, vs1, rfl, by rw [← r1.len]; exact h15, ?_⟩
          obtain ⟨A4, s4⟩ := s1.put (ho := .dK (mergeK [] vs1)) (o' := .dct (mergeW [] kvs')) hq ⟨_, rfl, RelKs.merge r1 .nil⟩
          have A := (A0.trans A1).trans A4
          exact k F1 ρ1 _ _ A s4 (RelW.res (RelW.ref hq))
      · cases e
    · cases e
  · cases e⟩
end
end M
namespace M
open PySem L2
theorem hu1 {X : Cx} (h : X.A.units + 64 < cLine) : X.A.units + 1 < cLine := by omega
/-- a name of the module that holds what never changes -/
def GlobW (K : PySem.W.Frag) (cl : Nat → Cl) (mg : Str → Option Value) (x : Str) (w : W) : Prop := ∃ u v, mg x = some u ∧ RelV v u ∧ ∀ F ρ, RelW ⟨K, cl⟩ F ρ w v
theorem ev_glob {cl : Nat → Cl} {X : Cx} {x : Str} {w : W} {pos : Pos} (h : GlobW X.K cl X.mg x w) (hg : Gl X x) (hp : (match w with | .own _ => false | .bor _ => false | _ => true) = true := by rfl) (hd : (x == ("__debug__" : Str)) = false := by decide) : EV cl X (.Name x pos) (eC w) := by
  obtain ⟨u, v, hm, r, rw⟩ := h
  exact ⟨PE.imp (pe_glob hg hm r hd) fun _ _ _ h => tE_C rw (fun l => ⟨fun e => (by subst e; cases hp), fun e => (by subst e; cases hp)⟩) h⟩
theorem ev_lcR {cl : Nat → Cl} {X : Cx} {e : Expr} {f : FE} (h : EV cl X e f) : EV cl X e (eRef f) := ev_ref h
/-- a method, a maker, by its text -/
def MethAt (K : PySem.W.Frag) (C : Cl) (m qual : Str) (st : Stmt) : Prop := ∃ f fd, Fun K m qual st f fd ∧ Meth K C.ad m f
def InitAt (K : PySem.W.Frag) (C : Cl) (qual : Str) (st : Stmt) : Prop := ∃ f fd, Fun K "__init__" qual st f fd ∧ Mk K C.ad f
theorem ok_me {P : Program} {w : World} {K : PySem.W.Frag} {mg : Str → Option Value} {base : Heap} {cl : Nat → Cl} {m qual : Str} {st : Stmt} {N ps : List Str} {k : Nat} {fb : FS} (c : Nat) (D : MethAt K (cl c) m qual st) (S : FnScope N ps (defScope st))
    (hbd : ∀ (kV doc pm : Value) (an : Option Addr) (cdv ct : Value) (us : List Value), us.length = ps.length → bindArgs (PySem.W.fnOf m qual (defArgs st) (defBody st) (defScope st) .none kV doc pm an cdv ct) ⟨us, []⟩ = pure (ps.zip us))
    (hb : ∀ (f : Addr) (cdv : Value) (A : Around) (outer : List Env) (s : Shared) (H : Hp) (E : XK), Room k (A.deeper (PyProof.Rows.envOfC qual (defScope st) s.heap.objs.size f cdv)) → SsV cl (cxOf CX0 P w K mg base N qual (defScope st) f cdv A outer s H E).nox (defBody st) fb) :
    OkMe P w K mg base cl c m (k + 1) ps.length (bodyF N.length fb) := by
  obtain ⟨f, fd, F, hm⟩ := D
  exact ⟨f, fd, ps, fn_W F S (hb f), hm, F.binds hbd⟩
theorem ok_mk {P : Program} {w : World} {K : PySem.W.Frag} {mg : Str → Option Value} {base : Heap} {cl : Nat → Cl} {qual : Str} {st : Stmt} {N ps : List Str} {k : Nat} {fb : FS} (c : Nat) (D : InitAt K (cl c) qual st) (S : FnScope N ps (defScope st))
    (hbd : ∀ (kV doc pm : Value) (an : Option Addr) (cdv ct : Value) (us : List Value), us.length = ps.length → bindArgs (PySem.W.fnOf "__init__" qual (defArgs st) (defBody st) (defScope st) .none kV doc pm an cdv ct) ⟨us, []⟩ = pure (ps.zip us))
    (hb : ∀ (f : Addr) (cdv : Value) (A : Around) (outer : List Env) (s : Shared) (H : Hp) (E : XK), Room k (A.deeper (PyProof.Rows.envOfC qual (defScope st) s.heap.objs.size f cdv)) → SsV cl (cxOf CX0 P w K mg base N qual (defScope st) f cdv A outer s H E).nox (defBody st) fb) :
    OkMk P w K mg base cl c (k + 1) ps.length (bodyF N.length fb) := by
  obtain ⟨f, fd, F, hm⟩ := D
  exact ⟨f, fd, ps, fn_W F S (hb f), hm, F.binds hbd⟩
end M
namespace M
open PySem L2
def clsOf (l : List Cl) : Nat → Cl := fun i => l.getD i ⟨0, []⟩
theorem rw_tup {g : G} {F : Hp} {ρ : List Addr} {a : Addr} {xs : List V} {l : List W} (h : SqT g.K F a xs) (r : RelWs g F ρ l xs) : RelW g F ρ (.tup l) (.ref a) := .tup h r
end M
/-! zip whose pairs go to one name: the pair that it gave out last may still be held -/
namespace M
open PySem PySem.Spec L2 RZ
open PySem.Sem (wp)
abbrev ZAt (h : Heap) (z TI TO : Addr) (f0 : Value) (b : Bool) : Prop :=
  h.get? z = some { cls := .type "zip", dict := none, data := .fields #[f0, .bool b, .bool false, .ref TI, .ref TO], slots := #[] }
def Z0 (f0 : Value) : Prop := f0 = .none ∨ ∃ T : Nat, f0 = rawInt T
section
variable {prog : Program} {w : World} {A : Around} {E : Value → Shared → Prop} {s : Shared}
theorem z_free {z TI TO : Addr} {f0 : Value} {b : Bool} {Q : Bool → Shared → Prop} (hz : ZAt s.heap z TI TO f0 b) (hf : Z0 f0)
    (h : ∀ r h' b', ZAt h' z TI TO f0 b' → Heap.SameBut z s.heap h' → Q r { s with heap := h' }) : wpAny (model prog w) A (Builtin.SmallTypes.ownedTupleIsFree (.ref z)) Q E s := by
  unfold Builtin.SmallTypes.ownedTupleIsFree
  rcases hf with rfl | ⟨T, rfl⟩
  · exact wpAny_bind (wpAny_field hz rfl (x := .none) rfl (wpAny_pure (h true s.heap b hz (Heap.SameBut.refl _ _))))
  · refine wpAny_bind (wpAny_field hz rfl (x := rawInt T) rfl ?_)
    show wpAny _ _ (loadIfAlive ((T : Int).toNat) >>= _) _ _ _
    rw [Int.toNat_natCast]
    refine wpAny_bind ?_
    have key : ∀ o : Option Obj, wpAny (model prog w) A ((fun o : Option Obj => (if o.isNone = true then pure true else do
        if (← field (.ref z) 1) != .bool true then setField (.ref z) 1 (.bool true)
        return false : Sem Bool)) o) Q E s := by
      intro o
      cases o with
      | none => exact wpAny_pure (h true s.heap b hz (Heap.SameBut.refl _ _))
      | some o =>
        simp only [Option.isNone_some, Bool.false_eq_true, if_false]
        refine wpAny_bind (wpAny_field hz rfl (x := .bool b) rfl ?_)
        cases b with
        | true =>
          rw [if_neg (show ¬ ((Value.bool true != Value.bool true) = true) from Bool.false_ne_true)]
          exact wpAny_pure (h false s.heap true hz (Heap.SameBut.refl _ _))
        | false =>
          rw [if_pos (show (Value.bool false != Value.bool true) = true from rfl)]
          exact wpAny_bind (wpAny_setField_rec hz (by simp) fun h1 hz1 hs1 => wpAny_pure (h false h1 true hz1 hs1))
    have k := key (s.heap.get? T)
    exact fun _ _ _ => k
theorem z_item {z TI TO i1 i2 l1 l2 : Addr} {k1 k2 : Nat} {xs ys : Array Value} {x y a b f0 : Value} {fb : Bool} {Q : Value → Shared → Prop} (D : ZipApart z TI TO i1 i2 l1 l2)
    (hz : ZAt s.heap z TI TO f0 fb) (hf0 : Z0 f0) (hTI : IsPair s.heap TI (.ref i1) (.ref i2)) (hTO : IsPair s.heap TO a b)
    (h1 : s.heap.IsTupleIter i1 l1 k1) (h2 : s.heap.IsTupleIter i2 l2 k2) (hl1 : s.heap.IsTuple l1 xs) (hl2 : s.heap.IsTuple l2 ys) (hx : xs[k1]? = some x) (hy : ys[k2]? = some y)
    (hQ : ∀ h' f0' fb' a' b', ZAt h' z TI TO f0' fb' → Z0 f0' → IsPair h' TO a' b' → h'.IsTupleIter i1 l1 (k1 + 1) → h'.IsTupleIter i2 l2 (k2 + 1) → IsPair h' s.heap.objs.size x y → h'.objs.size = s.heap.objs.size + 1 →
      (∀ c o, c ≠ z → c ≠ TO → c ≠ i1 → c ≠ i2 → s.heap.get? c = some o → h'.get? c = some o) → Q (.ref s.heap.objs.size) { s with heap := h' }) :
    wpAny (model prog w) A (Builtin.«zip.__next__» ⟨[.ref z], []⟩) (fun fin s' => ∃ v, fin = .done (.ret v) ∧ Q v s') E s := by
  show wpAny _ _ (field (.ref z) 2 >>= _) _ _ _
  refine wpAny_bind (wpAny_field hz rfl (x := .bool false) rfl ?_)
  show wpAny _ _ (field (.ref z) 3 >>= _) _ _ _
  refine wpAny_bind (wpAny_field hz rfl (x := .ref TI) rfl ?_)
  refine wpAny_bind (wpAny_seqItems hTI rfl ?_)
  show wpAny _ _ (Builtin.SmallTypes.ownedTupleIsFree (.ref z) >>= _) _ _ _
  refine wpAny_bind (z_free hz hf0 fun r h₀ fb0 hz₀ hs₀ => ?_)
  cases r with
  | true =>
    simp only [if_true]
    refine wpAny_bind (wpAny_rule ?_)
    refine wpAny_bind (wpAny_field hz₀ rfl (x := .ref TO) rfl ?_)
    refine wpAny_bind (wpAny_setField_rec hz₀ (by simp) fun h₁ hz₁ hs₁0 => ?_)
    replace hz₁ : ZAt h₁ z TI TO .ellipsis fb0 := hz₁
    have hs₁ : Heap.SameBut z s.heap h₁ := ⟨hs₁0.1.trans hs₀.1, fun c hc => (hs₁0.2 c hc).trans (hs₀.2 c hc)⟩
    refine wpAny_bind ?_
    simp only [List.zipIdx_cons, List.zipIdx_nil, List.forIn_cons, List.forIn_nil]
    refine wpAny_bind (wpAny_bind (wpAny_onRaise ?_))
    show wpAny _ _ (Builtin.SmallTypes.nextOf (.ref i1) >>= _) _ _ _
    refine wpAny_bind (nextOf_tuple_item (h1.extBut hs₁.extBut D.i1z) (hl1.extBut hs₁.extBut D.l1z) hx fun h₂ h1₂ hs₂ => wpAny_pure ?_)
    have hTO₂ : IsPair h₂ TO a b := hs₂.extBut _ _ D.TOi1 (hs₁.extBut _ _ D.TOz hTO)
    refine wpAny_bind (wpAny_seqItems hTO₂ rfl ?_)
    refine wpAny_bind (wpAny_updateSeq_pair hTO₂ fun h₃ hTO₃ hs₃ => ?_)
    replace hTO₃ : IsPair h₃ TO x b := hTO₃
    refine wpAny_bind (wpAny_letGo (wpAny_pure ?_))
    refine wpAny_bind (wpAny_bind (wpAny_onRaise ?_))
    show wpAny _ _ (Builtin.SmallTypes.nextOf (.ref i2) >>= _) _ _ _
    refine wpAny_bind (nextOf_tuple_item (((h2.extBut hs₁.extBut D.i2z).extBut hs₂.extBut D.i12.symm).extBut hs₃.extBut D.TOi2.symm)
      (((hl2.extBut hs₁.extBut D.l2z).extBut hs₂.extBut D.l2i1).extBut hs₃.extBut D.l2TO) hy fun h₄ h2₄ hs₄ => wpAny_pure ?_)
    have hTO₄ : IsPair h₄ TO x b := hs₄.extBut _ _ D.TOi2 hTO₃
    refine wpAny_bind (wpAny_seqItems hTO₄ rfl ?_)
    refine wpAny_bind (wpAny_updateSeq_pair hTO₄ fun h₅ hTO₅ hs₅ => ?_)
    replace hTO₅ : IsPair h₅ TO x y := hTO₅
    refine wpAny_bind (wpAny_letGo (wpAny_pure (wpAny_pure ?_)))
    refine wpAny_bind (wpAny_seqItems hTO₅ rfl ?_)
    refine wpAny_bind (wpAny_newTuple ?_)
    have hsz : h₅.objs.size = s.heap.objs.size := by rw [hs₅.1, hs₄.1, hs₃.1, hs₂.1, hs₁.1]
    have hz₅ : ZAt h₅ z TI TO .ellipsis fb0 := hs₅.extBut _ _ D.TOz.symm (hs₄.extBut _ _ D.i2z.symm (hs₃.extBut _ _ D.TOz.symm (hs₂.extBut _ _ D.i1z.symm hz₁)))
    have hk₅ : ∀ c o, c ≠ z → c ≠ TO → c ≠ i1 → c ≠ i2 → s.heap.get? c = some o → h₅.get? c = some o := fun c o c1 c2 c3 c4 e =>
      hs₅.extBut _ _ c2 (hs₄.extBut _ _ c4 (hs₃.extBut _ _ c2 (hs₂.extBut _ _ c3 (hs₁.extBut _ _ c1 e))))
    have h1₅ : h₅.IsTupleIter i1 l1 (k1 + 1) := ((h1₂.extBut hs₃.extBut D.TOi1.symm).extBut hs₄.extBut D.i12).extBut hs₅.extBut D.TOi1.symm
    have h2₅ : h₅.IsTupleIter i2 l2 (k2 + 1) := h2₄.extBut hs₅.extBut D.TOi2.symm
    have hzlt : z < h₅.objs.size := Heap.lt_size hz₅
    show wpAny _ _ (Builtin.SmallTypes.ownedTupleHandOut (.ref z) (.ref h₅.objs.size) >>= _) _ _ _
    refine wpAny_bind ?_
    unfold Builtin.SmallTypes.ownedTupleHandOut
    have hz₆ : ZAt (h₅.push { cls := .type "tuple", data := .seq #[x, y] }) z TI TO .ellipsis fb0 := Heap.get?_push_of_some _ hz₅
    refine wpAny_bind (wpAny_setField_rec hz₆ (by simp) fun h₇ hz₇ hs₇ => ?_)
    replace hz₇ : ZAt h₇ z TI TO (rawInt h₅.objs.size) fb0 := hz₇
    refine wpAny_setField_rec hz₇ (by simp) fun h₈ hz₈ hs₈ => ?_
    replace hz₈ : ZAt h₈ z TI TO (rawInt h₅.objs.size) false := hz₈
    have up : ∀ c o, c ≠ z → h₅.get? c = some o → h₈.get? c = some o := fun c o c1 e => hs₈.extBut _ _ c1 (hs₇.extBut _ _ c1 (Heap.get?_push_of_some _ e))
    have hT₈ : IsPair h₈ h₅.objs.size x y := hs₈.extBut _ _ (Nat.ne_of_gt hzlt) (hs₇.extBut _ _ (Nat.ne_of_gt hzlt) (Heap.get?_push_size _ rfl))
    have hz8 : h₈.objs.size = h₅.objs.size + 1 := by rw [hs₈.1, hs₇.1, Heap.size_push]
    rw [hsz] at hz₈ hT₈ hz8
    refine wpAny_pure ⟨_, rfl, ?_⟩
    show Q (.ref h₅.objs.size) _
    rw [hsz]
    exact hQ h₈ _ _ _ _ hz₈ (.inr ⟨_, rfl⟩) (up _ _ D.TOz hTO₅) (h1₅.at fun o e => up _ o D.i1z e) (h2₅.at fun o e => up _ o D.i2z e) hT₈ hz8 fun c o c1 c2 c3 c4 e => up c o c1 (hk₅ c o c1 c2 c3 c4 e)
  | false =>
    simp only [Bool.false_eq_true, if_false]
    refine wpAny_bind ?_
    rw [← Array.forIn_toList]
    simp only [List.forIn_cons, List.forIn_nil]
    refine wpAny_bind (wpAny_bind (wpAny_holding ?_))
    show wpAny _ _ (Builtin.SmallTypes.nextOf (.ref i1) >>= _) _ _ _
    refine wpAny_bind (nextOf_tuple_item (s := { s with heap := h₀ }) (h1.extBut hs₀.extBut D.i1z) (hl1.extBut hs₀.extBut D.l1z) hx fun h₂ h1₂ hs₂ => wpAny_pure ?_)
    refine wpAny_pure ?_
    refine wpAny_bind (wpAny_bind (wpAny_holding ?_))
    show wpAny _ _ (Builtin.SmallTypes.nextOf (.ref i2) >>= _) _ _ _
    refine wpAny_bind (nextOf_tuple_item (s := { s with heap := h₂ }) ((h2.extBut hs₀.extBut D.i2z).extBut hs₂.extBut D.i12.symm) ((hl2.extBut hs₀.extBut D.l2z).extBut hs₂.extBut D.l2i1) hy fun h₃ h2₃ hs₃ => wpAny_pure ?_)
    refine wpAny_pure (wpAny_pure ?_)
    show wpAny _ _ (newTuple [x, y] >>= _) _ _ _
    refine wpAny_bind (wpAny_newTuple ?_)
    have hsz : h₃.objs.size = s.heap.objs.size := by rw [hs₃.1, hs₂.1, hs₀.1]
    have hz₃ : ZAt h₃ z TI TO f0 fb0 := hs₃.extBut _ _ D.i2z.symm (hs₂.extBut _ _ D.i1z.symm hz₀)
    have hTO₃ : IsPair h₃ TO a b := hs₃.extBut _ _ D.TOi2 (hs₂.extBut _ _ D.TOi1 (hs₀.extBut _ _ D.TOz hTO))
    have hk : ∀ c o, c ≠ z → c ≠ i1 → c ≠ i2 → s.heap.get? c = some o → h₃.get? c = some o := fun c o c1 c2 c3 e => hs₃.extBut _ _ c3 (hs₂.extBut _ _ c2 (hs₀.extBut _ _ c1 e))
    have h1₃ : h₃.IsTupleIter i1 l1 (k1 + 1) := h1₂.extBut hs₃.extBut D.i12
    refine wpAny_pure ⟨_, rfl, ?_⟩
    show Q (.ref h₃.objs.size) _
    have hp : IsPair (h₃.push { cls := .type "tuple", data := .seq #[x, y] }) h₃.objs.size x y := Heap.get?_push_size _ rfl
    have hz4 : (h₃.push { cls := .type "tuple", data := .seq #[x, y] }).objs.size = h₃.objs.size + 1 := Heap.size_push ..
    rw [hsz] at hp hz4 ⊢
    exact hQ _ _ _ _ _ (Heap.get?_push_of_some _ hz₃) hf0 (Heap.get?_push_of_some _ hTO₃) (h1₃.at fun o e => Heap.get?_push_of_some _ e) (h2₃.at fun o e => Heap.get?_push_of_some _ e) hp hz4 fun c o c1 _ c2 c3 e => Heap.get?_push_of_some _ (hk c o c1 c2 c3 e)
theorem z_end {z TI TO i1 i2 l1 l2 : Addr} {k1 k2 : Nat} {xs ys : Array Value} {a b f0 : Value} {fb : Bool} {Q : PySem.Fin → Shared → Prop} (hh : A.handled = none) (D : ZipApart z TI TO i1 i2 l1 l2)
    (hz : ZAt s.heap z TI TO f0 fb) (hf0 : Z0 f0) (hTI : IsPair s.heap TI (.ref i1) (.ref i2)) (hTO : IsPair s.heap TO a b)
    (h1 : s.heap.IsTupleIter i1 l1 k1) (h2 : s.heap.IsTupleIter i2 l2 k2) (hl1 : s.heap.IsTuple l1 xs) (hl2 : s.heap.IsTuple l2 ys) (hend : xs[k1]? = none ∨ ys[k2]? = none)
    (hE : ∀ h' e, (∀ c o, c ≠ z → c ≠ TO → c ≠ i1 → c ≠ i2 → s.heap.get? c = some o → h'.get? c = some o) → (∃ o, h'.get? e = some o ∧ o.cls = .type "StopIteration") → E (.ref e) { s with heap := h' }) :
    wpAny (model prog w) A (Builtin.«zip.__next__» ⟨[.ref z], []⟩) Q E s := by
  show wpAny _ _ (field (.ref z) 2 >>= _) _ _ _
  refine wpAny_bind (wpAny_field hz rfl (x := .bool false) rfl ?_)
  show wpAny _ _ (field (.ref z) 3 >>= _) _ _ _
  refine wpAny_bind (wpAny_field hz rfl (x := .ref TI) rfl ?_)
  refine wpAny_bind (wpAny_seqItems hTI rfl ?_)
  show wpAny _ _ (Builtin.SmallTypes.ownedTupleIsFree (.ref z) >>= _) _ _ _
  refine wpAny_bind (z_free hz hf0 fun r h₀ fb0 hz₀ hs₀ => ?_)
  cases r with
  | true =>
    simp only [if_true]
    refine wpAny_bind (wpAny_rule ?_)
    refine wpAny_bind (wpAny_field hz₀ rfl (x := .ref TO) rfl ?_)
    refine wpAny_bind (wpAny_setField_rec hz₀ (by simp) fun h₁ hz₁ hs₁0 => ?_)
    replace hz₁ : ZAt h₁ z TI TO .ellipsis fb0 := hz₁
    have hs₁ : Heap.SameBut z s.heap h₁ := ⟨hs₁0.1.trans hs₀.1, fun c hc => (hs₁0.2 c hc).trans (hs₀.2 c hc)⟩
    refine wpAny_bind ?_
    simp only [List.zipIdx_cons, List.zipIdx_nil, List.forIn_cons, List.forIn_nil]
    refine wpAny_bind (wpAny_bind (wpAny_onRaise ?_))
    show wpAny _ _ (Builtin.SmallTypes.nextOf (.ref i1) >>= _) _ _ _
    cases hx : xs[k1]? with
    | none =>
      refine wpAny_bind (nextOf_tuple_end hh (h1.extBut hs₁.extBut D.i1z) (hl1.extBut hs₁.extBut D.l1z) hx fun h₂ e hs₂ he => ?_)
      obtain ⟨oe, hoe, hce⟩ := he
      have hz₂ : ZAt h₂ z TI TO .ellipsis fb0 := hs₂ _ _ D.i1z.symm hz₁
      have hez : e ≠ z := fun x => by subst x; rw [hz₂] at hoe; cases hoe; simp at hce
      refine wpAny_setField_rec hz₂ (by simp) fun h₃ _ hs₃ => hE h₃ e (fun c o c1 _ c3 _ x => hs₃.extBut _ _ c1 (hs₂ _ _ c3 (hs₁.extBut _ _ c1 x))) ⟨oe, hs₃.extBut _ _ hez hoe, hce⟩
    | some x =>
      have hy : ys[k2]? = none := by rcases hend with h | h; rw [hx] at h; cases h; exact h
      refine wpAny_bind (nextOf_tuple_item (h1.extBut hs₁.extBut D.i1z) (hl1.extBut hs₁.extBut D.l1z) hx fun h₂ h1₂ hs₂ => wpAny_pure ?_)
      have hTO₂ : IsPair h₂ TO a b := hs₂.extBut _ _ D.TOi1 (hs₁.extBut _ _ D.TOz hTO)
      refine wpAny_bind (wpAny_seqItems hTO₂ rfl ?_)
      refine wpAny_bind (wpAny_updateSeq_pair hTO₂ fun h₃ hTO₃ hs₃ => ?_)
      refine wpAny_bind (wpAny_letGo (wpAny_pure ?_))
      refine wpAny_bind (wpAny_bind (wpAny_onRaise ?_))
      show wpAny _ _ (Builtin.SmallTypes.nextOf (.ref i2) >>= _) _ _ _
      refine wpAny_bind (nextOf_tuple_end hh (((h2.extBut hs₁.extBut D.i2z).extBut hs₂.extBut D.i12.symm).extBut hs₃.extBut D.TOi2.symm)
        (((hl2.extBut hs₁.extBut D.l2z).extBut hs₂.extBut D.l2i1).extBut hs₃.extBut D.l2TO) hy fun h₄ e hs₄ he => ?_)
      obtain ⟨oe, hoe, hce⟩ := he
      have hz₄ : ZAt h₄ z TI TO .ellipsis fb0 := hs₄ _ _ D.i2z.symm (hs₃.extBut _ _ D.TOz.symm (hs₂.extBut _ _ D.i1z.symm hz₁))
      have hez : e ≠ z := fun x => by subst x; rw [hz₄] at hoe; cases hoe; simp at hce
      refine wpAny_setField_rec hz₄ (by simp) fun h₅ _ hs₅ => hE h₅ e (fun c o c1 c2 c3 c4 x => hs₅.extBut _ _ c1 (hs₄ _ _ c4 (hs₃.extBut _ _ c2 (hs₂.extBut _ _ c3 (hs₁.extBut _ _ c1 x))))) ⟨oe, hs₅.extBut _ _ hez hoe, hce⟩
  | false =>
    simp only [Bool.false_eq_true, if_false]
    refine wpAny_bind ?_
    rw [← Array.forIn_toList]
    simp only [List.forIn_cons, List.forIn_nil]
    refine wpAny_bind (wpAny_bind (wpAny_holding ?_))
    show wpAny _ _ (Builtin.SmallTypes.nextOf (.ref i1) >>= _) _ _ _
    cases hx : xs[k1]? with
    | none =>
      refine wpAny_bind (nextOf_tuple_end (s := { s with heap := h₀ }) hh (h1.extBut hs₀.extBut D.i1z) (hl1.extBut hs₀.extBut D.l1z) hx fun h₂ e hs₂ he => ?_)
      exact hE h₂ e (fun c o c1 _ c2 _ x => hs₂ _ _ c2 (hs₀.extBut _ _ c1 x)) he
    | some x =>
      have hy : ys[k2]? = none := by rcases hend with h | h; rw [hx] at h; cases h; exact h
      refine wpAny_bind (nextOf_tuple_item (s := { s with heap := h₀ }) (h1.extBut hs₀.extBut D.i1z) (hl1.extBut hs₀.extBut D.l1z) hx fun h₂ h1₂ hs₂ => wpAny_pure ?_)
      refine wpAny_pure ?_
      refine wpAny_bind (wpAny_bind (wpAny_holding ?_))
      show wpAny _ _ (Builtin.SmallTypes.nextOf (.ref i2) >>= _) _ _ _
      refine wpAny_bind (nextOf_tuple_end (s := { s with heap := h₂ }) hh ((h2.extBut hs₀.extBut D.i2z).extBut hs₂.extBut D.i12.symm) ((hl2.extBut hs₀.extBut D.l2z).extBut hs₂.extBut D.l2i1) hy fun h₃ e hs₃ he => ?_)
      exact hE h₃ e (fun c o c1 _ c2 c3 x => hs₃ _ _ c3 (hs₂.extBut _ _ c2 (hs₀.extBut _ _ c1 x))) he
theorem zn_item {z TI TO i1 i2 l1 l2 : Addr} {k1 k2 : Nat} {xs ys : Array Value} {x y a b f0 : Value} {fb : Bool} {Q : Option Value → Shared → Prop} (D : ZipApart z TI TO i1 i2 l1 l2)
    (hz : ZAt s.heap z TI TO f0 fb) (hf0 : Z0 f0) (hTI : IsPair s.heap TI (.ref i1) (.ref i2)) (hTO : IsPair s.heap TO a b)
    (h1 : s.heap.IsTupleIter i1 l1 k1) (h2 : s.heap.IsTupleIter i2 l2 k2) (hl1 : s.heap.IsTuple l1 xs) (hl2 : s.heap.IsTuple l2 ys) (hx : xs[k1]? = some x) (hy : ys[k2]? = some y)
    (hQ : ∀ h' f0' fb' a' b', ZAt h' z TI TO f0' fb' → Z0 f0' → IsPair h' TO a' b' → h'.IsTupleIter i1 l1 (k1 + 1) → h'.IsTupleIter i2 l2 (k2 + 1) → IsPair h' s.heap.objs.size x y → h'.objs.size = s.heap.objs.size + 1 →
      (∀ c o, c ≠ z → c ≠ TO → c ≠ i1 → c ≠ i2 → s.heap.get? c = some o → h'.get? c = some o) → Q (some (.ref s.heap.objs.size)) { s with heap := h' }) :
    wpAny (model prog w) A (pyNext (.ref z)) Q E s := by
  have hT : s.TypeIs (.ref z) "zip" := ⟨_, hz, rfl⟩
  unfold pyNext
  exact wpAny_bind (wpAny_attempt (wpAny_callSpecial?_slot (name := Str.ofString "__next__") hT F.slot_zip_next
    (wpAny_call_entry F.slot_zip_next hT F.entry_zip_next
      (z_item D hz hf0 hTI hTO h1 h2 hl1 hl2 hx hy fun h' f' b' a1 a2 a3 a4 a5 a6 a7 a8 a9 a10 => wpAny_pure (hQ h' f' b' a1 a2 a3 a4 a5 a6 a7 a8 a9 a10)) (F.args_zip_next_1 _))))
theorem zn_end {z TI TO i1 i2 l1 l2 : Addr} {k1 k2 : Nat} {xs ys : Array Value} {a b f0 : Value} {fb : Bool} {Q : Option Value → Shared → Prop} (hh : A.handled = none) (D : ZipApart z TI TO i1 i2 l1 l2)
    (hz : ZAt s.heap z TI TO f0 fb) (hf0 : Z0 f0) (hTI : IsPair s.heap TI (.ref i1) (.ref i2)) (hTO : IsPair s.heap TO a b)
    (h1 : s.heap.IsTupleIter i1 l1 k1) (h2 : s.heap.IsTupleIter i2 l2 k2) (hl1 : s.heap.IsTuple l1 xs) (hl2 : s.heap.IsTuple l2 ys) (hend : xs[k1]? = none ∨ ys[k2]? = none)
    (hQ : ∀ h', (∀ c o, c ≠ z → c ≠ TO → c ≠ i1 → c ≠ i2 → s.heap.get? c = some o → h'.get? c = some o) → Q none { s with heap := h' }) : wpAny (model prog w) A (pyNext (.ref z)) Q E s := by
  have hT : s.TypeIs (.ref z) "zip" := ⟨_, hz, rfl⟩
  unfold pyNext
  refine wpAny_bind (wpAny_attempt (wpAny_callSpecial?_slot (name := Str.ofString "__next__") hT F.slot_zip_next
    (wpAny_call_entry F.slot_zip_next hT F.entry_zip_next (z_end hh D hz hf0 hTI hTO h1 h2 hl1 hl2 hend fun h' e hk he => ?_) (F.args_zip_next_1 _))))
  obtain ⟨o, ho, hc⟩ := he
  refine wpAny_bind (wpAny_isInstance (T := "StopIteration") (b := true) ⟨o, ho, hc⟩ isSubtype_stop ?_)
  exact wpAny_pure (hQ _ hk)
theorem zn_self {z TI TO : Addr} {f0 : Value} {fb : Bool} {Q : Value → Shared → Prop} (hz : ZAt s.heap z TI TO f0 fb) (h : Q (.ref z) s) : wpAny (model prog w) A (pyIter (.ref z)) Q E s := by
  have hT : s.TypeIs (.ref z) "zip" := ⟨_, hz, rfl⟩
  refine wpAny_pyIter_slot hT F.slot_zip_iter (wpAny_call_entry F.slot_zip_iter hT F.entry_zip_iter ?_ (F.args_zip_iter_1 _))
  show wpAny _ _ (ret (.ref z)) _ _ s
  exact wpAny_pure ⟨_, rfl, "zip", _, hT, F.slot_zip_next.lookup, h⟩
end
/-- zip of two tuples, a pair to one name -/
theorem turn_zN {P : Program} {w : World} {K : PySem.W.Frag} {x : Str} {px : Pos} {a b z TI TO i1 i2 : Addr} (D : ZipApart z TI TO i1 i2 a b) :
    Turn P w K (.Name x px) (ItzT K a b) [z, TI, TO, i1, i2] z (fun i h => (∃ f0 fb, ZAt h z TI TO f0 fb ∧ Z0 f0) ∧ IsPair h TI (.ref i1) (.ref i2) ∧ (∃ x y, IsPair h TO x y) ∧ h.IsTupleIter i1 a i ∧ h.IsTupleIter i2 b i) where
  mem := by simp
  obj := fun i h st c hc => by
    obtain ⟨⟨f0, fb, hz, _⟩, hTI, ⟨x, y, hTO⟩, ⟨o1, e1, _, d1⟩, ⟨o2, e2, _, d2⟩⟩ := st
    have e' : c = z ∨ c = TI ∨ c = TO ∨ c = i1 ∨ c = i2 := by simpa using hc
    rcases e' with q | q | q | q | q
    · rw [q]; exact ⟨_, hz, fun v q => nomatch q⟩
    · rw [q]; exact ⟨_, hTI, fun v q => nomatch q⟩
    · rw [q]; exact ⟨_, hTO, fun v q => nomatch q⟩
    · rw [q]; exact ⟨o1, e1, fun v q => by rw [d1] at q; cases q⟩
    · rw [q]; exact ⟨o2, e2, fun v q => by rw [d2] at q; cases q⟩
  keep := fun i h h' st k => by
    obtain ⟨⟨f0, fb, hz, hf⟩, hTI, ⟨x, y, hTO⟩, h1, h2⟩ := st
    exact ⟨⟨f0, fb, k z (by simp) _ hz, hf⟩, k TI (by simp) _ hTI, ⟨x, y, k TO (by simp) _ hTO⟩, h1.at fun o q => k i1 (by simp) o q, h2.at fun o q => k i2 (by simp) o q⟩
  item := by
    intro X hP hw hK hc i pins s σ H E I hf st hg
    subst hP hw hK
    obtain ⟨⟨f0, fb, hz, hf0⟩, hTI, ⟨x0, y0, hTO⟩, h1, h2⟩ := st
    obtain ⟨xs, ys, x, y, hqx, hqy, hx, hy⟩ := hg
    obtain ⟨its, rv, p, _⟩ := I.tuple hqx
    obtain ⟨its2, rv2, p2, _⟩ := I.tuple hqy
    obtain ⟨u, hu, ru⟩ := rv.get hx
    obtain ⟨u2, hu2, ru2⟩ := rv2.get hy
    have hzl : z < s.heap.objs.size := Heap.lt_size hz
    refine zn_item D hz hf0 hTI hTO h1 h2 p p2 (x := u) (y := u2) (by simpa using hu) (by simpa using hu2) fun h' f' b' a' c' z' z0' TO' h1' h2' hT hsz hk => ?_
    refine ⟨_, rfl, wpAny_pure ?_⟩
    have new : ObjOk X.prog X.w (upd H s.heap.objs.size (.tup [x, y])) h' s.heap.objs.size (.tup [x, y]) :=
      ⟨by show 2 ≤ sizeLine; decide, [u, u2], .cons ru (.cons ru2 .nil), ⟨_, hT, rfl, _, rfl⟩⟩
    have I1 : Inv X pins σ (upd H s.heap.objs.size (.tup [x, y])) { s with heap := h' } :=
      I.turnedNew (t' := s.toks) (ch := [z, TI, TO, i1, i2]) (fun c o hb q => hk c o (fun q' => hb (by simp [q'])) (fun q' => hb (by simp [q'])) (fun q' => hb (by simp [q'])) (fun q' => hb (by simp [q'])) q) hf (Nat.le_refl _) new
    refine ⟨.ref s.heap.objs.size, _, I1, rfl, ⟨_, x, y, rfl, I.hok.fresh (Nat.le_refl _), rfl, fun l hl => by rw [I.tuple_inj hl hqx]; exact hx, fun l hl => by rw [I.tuple_inj hl hqy]; exact hy⟩, ⟨⟨f', b', z', z0'⟩, ?_, ⟨a', c', TO'⟩, h1', h2'⟩, fun c hcm => ?_⟩
    · exact hk _ _ D.TIz D.TITO D.TIi1 D.TIi2 hTI
    · have hlt : c < s.heap.objs.size := by
        have e' : c = z ∨ c = TI ∨ c = TO ∨ c = i1 ∨ c = i2 := by simpa using hcm
        rcases e' with q | q | q | q | q
        · rw [q]; exact hzl
        · rw [q]; exact Heap.lt_size hTI
        · rw [q]; exact Heap.lt_size hTO
        · rw [q]; obtain ⟨_, e1, _⟩ := h1; exact Heap.lt_size e1
        · rw [q]; obtain ⟨_, e2, _⟩ := h2; exact Heap.lt_size e2
      rw [upd_ne (Nat.ne_of_lt hlt)]
      exact (hf c hcm).1
  done := by
    intro X hP hw hK hc i pins s σ H E I hf st hg
    subst hP hw hK
    obtain ⟨⟨f0, fb, hz, hf0⟩, hTI, ⟨x0, y0, hTO⟩, h1, h2⟩ := st
    obtain ⟨xs, ys, hqx, hqy, hend⟩ := hg
    obtain ⟨its, rv, p, _⟩ := I.tuple hqx
    obtain ⟨its2, rv2, p2, _⟩ := I.tuple hqy
    have l1 := rv.length
    have l2 := rv2.length
    have he : its.toArray[i]? = none ∨ its2.toArray[i]? = none := by
      rcases hend with q | q
      · exact .inl (by simp; omega)
      · exact .inr (by simp; omega)
    exact zn_end (I.ok.hd hc) D hz hf0 hTI hTO h1 h2 p p2 he fun h' hk => ⟨rfl, I.turnedL (t' := s.toks) (ch := [z, TI, TO, i1, i2]) (fun c o hb q =>
      hk c o (fun q' => hb (by simp [q'])) (fun q' => hb (by simp [q'])) (fun q' => hb (by simp [q'])) (fun q' => hb (by simp [q'])) q) hf⟩
  self := fun A i s Q E st h => by
    obtain ⟨⟨f0, fb, hz, _⟩, _⟩ := st
    exact zn_self hz h
def iZipN (K : PySem.W.Frag) (ta : TA) : TI := fun σ H R => ta σ H fun vs H1 => ∃ a b xs ys, vs = [.ref a, .ref b] ∧ SqT K H1 a xs ∧ SqT K H1 b ys ∧ R (ItzT K a b) H1
theorem pi_zipN {X : Cx} {e e2 : Expr} {ta : TA} {p pos px : Pos} {x : Str} (hg : Gl X "zip") (hm : X.mg "zip" = none) (ha : PA X [e, e2] ta)
    (hs : starEach [e, e2] X.env = (false, eval e X.env) :: starEach [e2] X.env := by rfl) (hpl : (backTo pos (starEach [e2] X.env)).any (·.1) = false := by rfl) :
    PI X (.Name x px) (.Call (.Name "zip" p) [e, e2] [] pos) (iZipN X.K ta) := by
  refine ⟨fun pins s σ H R I h => ?_⟩
  refine PyProof.Rows.Call_ (ld_blt I hg hm PyProof.Rows.boot_zip (PyProof.Rows.callWith_type1 (thn (ha.run pos pins s σ H _ I h) fun us s1 ⟨vs, H1, I1, r1, q1⟩ => ?_) hs hpl))
  obtain ⟨a, b, xs, ys, ex, q1⟩ := q1
  subst ex
  cases r1 with
  | cons r rr =>
    cases rr with
    | cons r' rr =>
      cases rr
      cases r
      cases r'
      have fresh5 : ∀ c, c ∈ [s1.heap.objs.size + 4, s1.heap.objs.size + 2, s1.heap.objs.size + 3, s1.heap.objs.size, s1.heap.objs.size + 1] → FpOk X pins H1 c := fun c hcm => by
        have e' : c = s1.heap.objs.size + 4 ∨ c = s1.heap.objs.size + 2 ∨ c = s1.heap.objs.size + 3 ∨ c = s1.heap.objs.size ∨ c = s1.heap.objs.size + 1 := by simpa using hcm
        have hle : s1.heap.objs.size ≤ c := by
          rcases e' with z | z | z | z | z <;> rw [z] <;> first | exact Nat.le_add_right _ _ | exact Nat.le_refl _
        exact I1.fpOk hle (I1.hok.fresh hle)
      obtain ⟨hqx, hqy, q⟩ := q1
      obtain ⟨its, rv, p1, _⟩ := I1.tuple hqx
      obtain ⟨its2, rv2, p2, _⟩ := I1.tuple hqy
      obtain ⟨o1, ho1, _⟩ := id p1
      obtain ⟨o2, ho2, _⟩ := id p2
      refine call_zipT (show s1.heap.IsTuple a its.toArray from p1) (show s1.heap.IsTuple b its2.toArray from p2) fun h' hz hTI hTO h1 h2 hsz hk => wpAny_pyIter_zip hz ?_
      have I2 : Inv X pins σ H1 { s1 with heap := h' } := I1.kept (t' := s1.toks) hk
      exact ⟨s1.heap.objs.size + 4, [s1.heap.objs.size + 4, s1.heap.objs.size + 2, s1.heap.objs.size + 3, s1.heap.objs.size, s1.heap.objs.size + 1], _, _, H1, rfl, I2, turn_zN (PySem.W.ktu_apart s1.heap.objs.size a b (Heap.lt_size ho1) (Heap.lt_size ho2)), ⟨⟨_, _, hz, .inl rfl⟩, hTI, ⟨_, _, hTO⟩, h1, h2⟩, fresh5, q⟩
section
variable {cl : Nat → Cl} {X : Cx} {pos p : Pos} {a b c e tg : Expr} {fa fb fc : FE} {es : List Expr} {fr : FA}
def iZpN (f : FA) : FI := fun env m => match f env m with
  | some ([.tup l, .tup l'], m1) => some (zipW l l', gT, m1)
  | _ => none
theorem iv_zipN {x : Str} {px : Pos} (hg : Gl X "zip") (hm : X.mg "zip" = none) (ha : AV cl X [a, b] fr) (hst : starEach [a, b] X.env = (false, eval a X.env) :: starEach [b] X.env := by rfl) (hpl : (backTo pos (starEach [b] X.env)).any (·.1) = false := by rfl) : IV cl X (.Name x px) (.Call (.Name "zip" p) [a, b] [] pos) (iZpN fr) :=
  ⟨PI.imp (pi_zipN hg hm ha.pa hst hpl) fun σ H R h => by
  obtain ⟨F, ρ, m, env, w, gd, m', s, er, e, k⟩ := h
  unfold iZpN at e
  split at e
  · rename_i l l' m1 e1
    cases e
    refine ⟨F, ρ, m, env, _, _, s, er, e1, fun F1 ρ1 H1 v1 A1 s1 r1 => ?_⟩
    cases r1 with
    | cons q r0 =>
      cases r0 with
      | cons q' r0 =>
        cases r0
        cases q with
        | tup q r =>
          cases q' with
          | tup q' r' =>
            exact ⟨_, _, _, _, rfl, seqT s1.sub q, seqT s1.sub q', k F1 ρ1 H1 _ A1 s1 (wk_pairs (walk_zipT rfl) (fun F1 ρ1 m1 H1 f s => ⟨seqT s.sub (seqT f q), seqT s.sub (seqT f q')⟩) r r')⟩
  · cases e⟩
/-- name = [..] where the list goes to the heap -/
theorem sv_setLcR {elt iter : Expr} {ifs : List Expr} {scope : Scope} {T : Tg} {fi : FI} {ft : FT} {fe : FE} {y : Str} {py : Pos} {spos : Pos} (i : Nat) (own : List (Str × Nat)) (hc : X.calm = true) (hN : X.N.Nodup) (hi : IV cl X tg iter fi) (ok : BlkOk X.N X.env.scope scope own)
    (hg : ∀ s H C cs fp, GV cl (Blk X scope s H C cs fp) tg T) (ht : ∀ s H C cs fp, CV cl (Blk X scope s H C cs fp) ifs ft) (he : ∀ s H C cs fp, EV cl (Blk X scope s H C cs fp) elt fe)
    (hy : X.N[i]? = some y := by rfl) (hyl : X.env.scope.names.lookup y = some .local := by rfl)
    (hsw : swapsWith (.ListComp elt [⟨tg, iter, ifs, 0⟩] scope pos) (some (.Name y py)) spos.line X.env = pure true := by exact sw_true rfl rfl rfl (by decide +kernel))
    (hT : (T.is.all fun i => (own.map (·.2)).contains i) = true := by rfl) (hs : ∀ x, foldedSetIterable iter X.env x = pure x := by intro _; rfl) : SV cl X (.Assign [.Name y py] (.ListComp elt [⟨tg, iter, ifs, 0⟩] scope pos) spos) (fSetZ i (eRef (eLC T (own.map (·.2)) fi ft fe))) :=
  ⟨PS.imp (ps_setLc hc hN hy hyl hsw hi.pi ok (fun s H C cs fp => (hg s H C cs fp).pg) (fun s H C cs fp => (ht s H C cs fp).pts) (fun s H C cs fp => (he s H C cs fp).pe) hs) fun D σ H q =>
    tLc_ok (fun i hi => by simpa using List.all_eq_true.mp hT i hi) (tE_ref (tS_setZ q))⟩
end
end M
namespace L2
open PySem PySem.Spec PyProof.Rows
section
variable {X : Cx} {CX : CXT} {k : Nat} {f C : Addr} {fd : FuncData} {ps : List Str} {sp : Sp} {E : St → XK} {x m : Str} {p pos apos : Pos} {e o : Expr} {es : List Expr} {ta : TE} {t : TA}
/-- a method's call, where what it raises is wished for at the caller's slots -/
def tMethM (C : Addr) (m : Str) (sp : Sp) (E : St → XK) (ta : TE) (t : TA) : TE := fun σ H Q => ta σ H fun x H1 => ∃ a dx fs, x = .ref a ∧ H1 a = some (.ins C dx fs) ∧ fs.lookup m = none ∧ t σ H1 fun vs H2 => sp (x :: vs) H2 Q (E σ)
theorem pe_methM {pl : Sem Bool} (he : PE X o ta) (c : Cls X.K C) (hm : Meth X.K C m f) (F : FnOk X.prog X.w X.K X.mg X.base CX k f fd ps sp) (hr : Room k X.A) (hb : Binds X.K fd ps []) (hx : ∀ σ, PassesAt CX X σ (E σ)) (ha : PA X (e :: es) t)
    (hst : starEach (e :: es) X.env = (false, eval e X.env) :: starEach es X.env := by rfl) (hpl : (backTo pos (starEach es X.env)).any (·.1) = false := by rfl)
    (ht : eval (.Call (.Attribute o m apos) (e :: es) [] pos) X.env = (do
      let ov ← eval o X.env
      standAt apos.atName
      let (f, first) ← holding [ov] (getMethod ov m pl)
      callWith pos f first (backTo pos (starEach (e :: es) X.env)) (backToKw pos (keywordEach [] X.env))) := by rfl) :
    PE X (.Call (.Attribute o m apos) (e :: es) [] pos) (tMethM C m sp E ta t) := by
  refine ⟨fun pins s σ H Q I h => ?_⟩
  refine PySem.W.methodCall_KW (pl := pl) (thn (he.run pins s σ H _ I h) fun u s1 ⟨x, H1, I1, rx, a, dx, fs, ex, ea, l, q⟩ => ?_) ht
  subst ex
  obtain rfl : u = Value.ref a := rx
  refine getmeth_ok I1 ea c hm l ?_
  refine PySem.W.callWith_K (first := [.ref a]) (h₀ := X.base) I.ok.mod.kin hm.kp (thn (ha.run pos pins s1 σ H1 _ I1 q) fun us s2 ⟨vs, H2, I2, r, q2⟩ => ⟨I2.kIn, ?_⟩) hst hpl
  exact run_fnS (us := .ref a :: us) (vs := .ref a :: vs) F hr hb (hx σ) I2 (.cons rfl r) q2
end
/-- isinstance(e, (C1, C2, ..)), e the exception that the suite holds -/
def rIsET (K : PySem.W.Frag) (D a : Addr) : List V → Hp → VK → Prop := fun xs H Q => ∃ (tp : Addr) (cs : List V) (us : List Value) (b : Bool), xs = [.ref a, .ref tp] ∧ H tp = some (.tup cs) ∧ Paired ClsV cs us ∧ PySem.W.kitAny K (.ref D) us = some b ∧ Q (.bl b) H
theorem call_isET {X : Cx} {a D : Addr} {oe : Obj} {pn : List (Addr × Obj)} (C : ExcC X.K D) (hz : Zc (.ref D) none oe) (hf : ∃ vs, oe.data = .fields vs) : CallR (X.suite a ((a, oe) :: pn)) (.builtin "isinstance") (rIsET X.K D a) := by
  intro pins s σ H xs us Q I r h
  obtain ⟨tp, cs, ws, b, rfl, hT, k, e, q⟩ := h
  obtain ⟨u1, u2, rfl, r1, r2⟩ := vals2 r
  cases (show u1 = Value.ref a from r1)
  cases (show u2 = Value.ref tp from r2)
  obtain ⟨hget, _⟩ := I.pin (a, oe) (List.mem_append.mpr (.inl List.mem_cons_self))
  obtain ⟨vs, hv⟩ := hf
  have J : PySem.W.InstAt s.heap a oe D none := by
    obtain ⟨oc, od, oda, osl⟩ := oe
    obtain ⟨h1, h2⟩ := hz
    dsimp only at h1 h2 hv
    subst h1 h2 hv
    exact ⟨hget, rfl, rfl, trivial⟩
  obtain ⟨_, its, rv, o, h1, h2, n, h3⟩ := (show ObjOk X.prog X.w H s.heap tp (.tup cs) from I.hok tp _ hT)
  have e3 := ClsV.all k rv
  subst e3
  obtain ⟨oc, od, dt, sl⟩ := o
  simp only at h2 h3
  subst h2 h3
  exact PySem.W.kia_tup (PySem.W.handS_kitx_exc C.hg C.hk C.hs C.hd C.ha C.hn C.ht C.hm) I.kIn J h1 e (fun z => nomatch z) fun tk => ⟨.bl b, H, I.tok tk, rfl, q⟩
end L2
namespace M
open PySem L2
/-! ### what raises: an exception of the class number c leaves -/
abbrev OpR := List W → MH → Option (Nat × MH)
abbrev FRE := En → MH → Option (Nat × MH)
abbrev FRS := En → MH → Option (Nat × En × MH)
def spR (xc : Nat → Addr) (g : G) (n : Nat) (φ : OpR) : Sp := fun vs H _ E => ∃ F ρ m ws c m', vs.length = n ∧ SR g F ρ m H ∧ RelWs g F ρ ws vs ∧ φ ws m = some (c, m') ∧ ∀ F' ρ' H', Adv F ρ H F' ρ' H' → SR g F' ρ' m' H' → E (.ref (xc c)) none H'
def tRE (xc : Nat → Addr) (g : G) (fx : FRE) (Wx : WX) : TE := fun σ H _ => ∃ F ρ m env c m', SR g F ρ m H ∧ ER g F ρ env σ H ∧ fx env m = some (c, m') ∧ ∀ F' ρ' H', Adv F ρ H F' ρ' H' → SR g F' ρ' m' H' → Wx (.ref (xc c)) none σ H'
structure RV (cl : Nat → Cl) (xc : Nat → Addr) (X : Cx) (e : Expr) (fx : FRE) : Prop where
  pe : ∀ Wx, Takes X Wx → PE X e (tRE xc ⟨X.K, cl⟩ fx Wx)
def tRS (xc : Nat → Addr) (g : G) (fx : FRS) (Wx : WX) : TS := fun _ σ H => ∃ F0 ρ0 H0 F ρ m env c env' m', SRel g F0 ρ0 H0 m env F ρ σ H ∧ fx env m = some (c, env', m') ∧
  ∀ F' ρ' σ' H', SRel g F0 ρ0 H0 m' env' F' ρ' σ' H' → Grow F ρ F' ρ' → Wx (.ref (xc c)) none σ' H'
structure RSV (cl : Nat → Cl) (xc : Nat → Addr) (X : Cx) (st : Stmt) (fx : FRS) : Prop where
  ps : ∀ Wx, Takes X Wx → PS X st (tRS xc ⟨X.K, cl⟩ fx Wx)
structure RSsV (cl : Nat → Cl) (xc : Nat → Addr) (X : Cx) (st : List Stmt) (fx : FRS) : Prop where
  ps : ∀ Wx, Takes X Wx → PSs X st (tRS xc ⟨X.K, cl⟩ fx Wx)
def OkFnR (P : Program) (w : World) (K : PySem.W.Frag) (mg : Str → Option Value) (base : Heap) (cl : Nat → Cl) (xc : Nat → Addr) (x : Str) (k n : Nat) (φ : OpR) : Prop :=
  ∃ f fd ps, FnOk P w K mg base (L2.CX P w) k f fd ps (spR xc ⟨K, cl⟩ n φ) ∧ mg x = some (.ref f) ∧ PySem.W.keepIn K (.ref f) = true ∧ Binds K fd ps []
def OkMeR (P : Program) (w : World) (K : PySem.W.Frag) (mg : Str → Option Value) (base : Heap) (cl : Nat → Cl) (xc : Nat → Addr) (c : Nat) (m : Str) (k n : Nat) (φ : OpR) : Prop :=
  ∃ f fd ps, FnOk P w K mg base (L2.CX P w) k f fd ps (spR xc ⟨K, cl⟩ n φ) ∧ Meth K (cl c).ad m f ∧ Binds K fd ps []
def oCallR (n : Nat) (φ : OpR) : OpR := fun ws m => if ws.length = n then φ ws m else none
def xArg (φ : OpR) (fr : FA) : FRE := fun env m => match fr env m with
  | some (xs, m1) => φ xs m1
  | none => none
def xMe (c n : Nat) (φ : OpR) (fo : FE) (fr : FA) : FRE := fun env m => match fo env m with
  | some (x, m1) => if isIns c m1 x = true then match fr env m1 with
      | some (xs, m2) => oCallR n φ (x :: xs) m2
      | none => none
    else none
  | none => none
def xDrop (fx : FRE) : FRS := fun env m => match fx env m with
  | some (c, m') => some (c, env, m')
  | none => none
def xRaise (c : Nat) : FRS := fun env m => some (c, env, m)
def xNever : FRS := fun _ _ => none
def xIf (t : FT) (f h : FRS) : FRS := fun env m => match t env m with
  | some (true, m') => f env m'
  | some (false, m') => h env m'
  | none => none
def xSeq (f : FS) (h : FRS) : FRS := fun env m => match f env m with
  | some (.nx, env', m') => h env' m'
  | _ => none
def xOr (f h : FRS) : FRS := fun env m => match f env m with
  | some r => some r
  | none => h env m
section
variable {cl : Nat → Cl} {xc : Nat → Addr} {X : Cx} {pos p : Pos} {a b c e o : Expr} {fa fo : FE} {fr : FA} {fx : FRE} {es : List Expr} {st : Stmt} {sts : List Stmt} {f h : FRS} {fn : FS} {x m : Str} {nm : List Str} {k j n : Nat} {φ : OpR}
theorem rv_fn (O : OkFnR X.prog X.w X.K X.mg X.base cl xc x k n φ) (hr : Room j X.A) (hkj : k ≤ j) (hg : Gl X x) (ha : AV cl X (e :: es) fr)
    (hdb : (x == ("__debug__" : Str)) = false := by decide) (he : starEach (e :: es) X.env = (false, eval e X.env) :: starEach es X.env := by rfl) (hpl : (backTo pos (starEach es X.env)).any (·.1) = false := by rfl) : RV cl xc X (.Call (.Name x p) (e :: es) [] pos) (xArg (oCallR n φ) fr) := by
  obtain ⟨f, fd, ps, D, hm, hk, hb⟩ := O
  refine ⟨fun Wx tk => PE.imp (pe_callS (E := WE Wx) D (hr.mono hkj) hg hm hk hb (fun σ => passAt tk σ) ha.pa hdb he hpl) fun σ H Q h => ?_⟩
  obtain ⟨F, ρ, m, env, c, m', s, er, e, k⟩ := h
  unfold xArg at e
  split at e
  · rename_i xs m1 e1
    refine ⟨F, ρ, m, env, _, _, s, er, e1, fun F1 ρ1 H1 vs A1 s1 r1 => ?_⟩
    unfold oCallR at e
    split at e
    · rename_i hn
      exact ⟨F1, ρ1, m1, xs, c, m', by rw [← r1.length]; exact hn, s1, r1, e, fun F' ρ' H' A s => k F' ρ' H' (A1.trans A) s⟩
    · cases e
  · cases e
theorem rv_meth (c : Nat) (O : OkMeR X.prog X.w X.K X.mg X.base cl xc c m k n φ) (T : ClT X.K X.mg (cl c) x nm) (hr : Room j X.A) (hkj : k ≤ j) (ho : EV cl X o fo) (ha : AV cl X (e :: es) fr) {apos : Pos} (hno : m ∉ nm := by decide +kernel)
    (hst : starEach (e :: es) X.env = (false, eval e X.env) :: starEach es X.env := by rfl) (hpl : (backTo pos (starEach es X.env)).any (·.1) = false := by rfl) {pl : Sem Bool}
    (ht : eval (.Call (.Attribute o m apos) (e :: es) [] pos) X.env = (do
      let ov ← eval o X.env
      standAt apos.atName
      let (f, first) ← holding [ov] (getMethod ov m pl)
      callWith pos f first (backTo pos (starEach (e :: es) X.env)) (backToKw pos (keywordEach [] X.env))) := by rfl) : RV cl xc X (.Call (.Attribute o m apos) (e :: es) [] pos) (xMe c n φ fo fr) := by
  obtain ⟨f, fd, ps, D, hm, hb⟩ := O
  refine ⟨fun Wx tk => PE.imp (pe_methM (E := WE Wx) ho.pe T.cl hm D (hr.mono hkj) hb (fun σ => passAt tk σ) ha.pa hst hpl ht) fun σ H Q h => ?_⟩
  have hno' : m ∉ (cl c).nm := by rw [T.names]; exact hno
  obtain ⟨F, ρ, mh, env, cc, m', s, er, e, k⟩ := h
  unfold xMe at e
  split at e
  · rename_i x m1 e1
    split at e
    · rename_i hI
      split at e
      · rename_i xs m2 e2
        refine ⟨F, ρ, mh, env, _, _, s, er, e1, fun F1 ρ1 H1 v1 A1 s1 r1 => ?_⟩
        unfold isIns at hI
        split at hI
        · rename_i n'
          cases r1 with
          | ref qo =>
            cases ef : insOf c n' m1 with
            | none => rw [ef] at hI; cases hI
            | some fs =>
              obtain ⟨dx, vs, h1, r, hl⟩ := insOf_rd s1 qo ef
              refine ⟨_, dx, _, rfl, h1, zip_none hno', ?_⟩
              refine ⟨F1, ρ1, m1, env, _, _, s1, er.adv A1, e2, fun F2 ρ2 H2 v2 A2 s2 r2 => ?_⟩
              unfold oCallR at e
              split at e
              · rename_i hn
                have rx2 : RelW ⟨X.K, cl⟩ F2 ρ2 (.ref n') _ := (RelW.ref qo).mono A2.f A2.r
                exact ⟨F2, ρ2, m2, _, cc, m', by rw [← (RelWs.cons rx2 r2).length]; exact hn, s2, .cons rx2 r2, e, fun F3 ρ3 H3 A3 s3 => k F3 ρ3 H3 ((A1.trans A2).trans A3) s3⟩
              · cases e
        · cases hI
      · cases e
    · cases e
  · cases e
theorem tR_of {Wx : WX} {σ : St} {H : Hp} {Q : VK} {g : G} {D : Ends} (h : tRS xc g (xDrop fx) Wx D σ H) : tRE xc g fx Wx σ H Q := by
  obtain ⟨F0, ρ0, H0, F, ρ, m, env, c, env', m', S, e, k⟩ := h
  unfold xDrop at e
  split at e
  · rename_i c1 m1 e1
    cases e
    exact ⟨F, ρ, m, env, _, _, S.sr, S.er, e1, fun F' ρ' H' A s => k F' ρ' σ H' (S.advd A s) A.grow⟩
  · cases e
theorem rs_drop (he : RV cl xc X e fx) (hs : swapsWith e none pos.line X.env = pure false := by rfl) : RSV cl xc X (.Expr e pos) (xDrop fx) := ⟨fun Wx tk => PS.imp (ps_expr (he.pe Wx tk) hs) fun D σ H q => tR_of (D := D) q⟩
theorem rs_ret (he : RV cl xc X e fx) : RSV cl xc X (.Return (some e) pos) (xDrop fx) := ⟨fun Wx tk => PS.imp (ps_ret (he.pe Wx tk)) fun D σ H q => tR_of (D := D) q⟩
theorem rs_set (i : Nat) (hN : X.N.Nodup) (he : RV cl xc X e fx) (hi : X.N[i]? = some x := by rfl) (hx : Loc X.env.scope x := by first | exact Or.inl rfl | exact Or.inr rfl) (hs : swapsWith e (some (.Name x p)) pos.line X.env = pure false := by rfl) (hf : X.fn x = true ∨ X.env.scope.names.lookup x = some .local := by first | exact .inl rfl | exact .inr rfl) :
    RSV cl xc X (.Assign [.Name x p] e pos) (xDrop fx) := ⟨fun Wx tk => PS.imp (ps_set hN hi hx (he.pe Wx tk) hs hf) fun D σ H q => tR_of (D := D) q⟩
theorem rs_never : RSV cl xc X st xNever := ⟨fun Wx tk => ⟨fun pins s σ H D I q => by
  obtain ⟨F0, ρ0, H0, F, ρ, m, env, c, env', m', S, e, k⟩ := q
  cases e⟩⟩
theorem rss_never : RSsV cl xc X sts xNever := ⟨fun Wx tk => ⟨fun pins s σ H D I q => by
  obtain ⟨F0, ρ0, H0, F, ρ, m, env, c, env', m', S, e, k⟩ := q
  cases e⟩⟩
theorem rs_if {t : FT} {sa sb : List Stmt} (hc : TV cl X c t) (ha : RSsV cl xc X sa f) (hb : RSsV cl xc X sb h) : RSV cl xc X (.If c sa sb pos) (xIf t f h) := ⟨fun Wx tk => PS.imp (ps_if hc.pt (ha.ps Wx tk) (hb.ps Wx tk)) fun D σ H q => by
  obtain ⟨F0, ρ0, H0, F, ρ, m, env, c, env', m', S, e, k⟩ := q
  unfold xIf at e
  split at e
  · rename_i m1 e1
    refine ⟨F, ρ, m, env, _, _, S.sr, S.er, e1, fun F1 ρ1 H1 A s => iteT ?_⟩
    exact ⟨F0, ρ0, H0, F1, ρ1, m1, env, c, env', m', S.advd A s, e, fun F' ρ' σ' H' S' G' => k F' ρ' σ' H' S' (A.grow.trans G')⟩
  · rename_i m1 e1
    refine ⟨F, ρ, m, env, _, _, S.sr, S.er, e1, fun F1 ρ1 H1 A s => iteF ?_⟩
    exact ⟨F0, ρ0, H0, F1, ρ1, m1, env, c, env', m', S.advd A s, e, fun F' ρ' σ' H' S' G' => k F' ρ' σ' H' S' (A.grow.trans G')⟩
  · cases e⟩
theorem pss_nev : PSs X sts (fun _ _ _ => False) := ⟨fun pins s σ H D I q => q.elim⟩
/-- the first one raises -/
theorem rss_head (h1 : RSV cl xc X st f) : RSsV cl xc X (st :: sts) f := ⟨fun Wx tk => PSs.imp (pss_cons (h1.ps Wx tk) (pss_nev (sts := sts))) fun D σ H q => q⟩
/-- the first one runs through, a later one raises -/
theorem rss_tail (h1 : SV cl X st fn) (h2 : RSsV cl xc X sts h) : RSsV cl xc X (st :: sts) (xSeq fn h) := ⟨fun Wx tk => PSs.imp (pss_cons h1.ps (h2.ps Wx tk)) fun D σ H q => by
  obtain ⟨F0, ρ0, H0, F, ρ, m, env, c, env', m', S, e, k⟩ := q
  unfold xSeq at e
  split at e
  · rename_i env1 m1 e1
    exact ⟨F0, ρ0, H0, F, ρ, m, env, _, _, _, S, e1, fun F' ρ' σ' H' S' G' => ⟨F0, ρ0, H0, F', ρ', m1, env1, c, env', m', S', e, fun F2 ρ2 σ2 H2 S2 G2 => k F2 ρ2 σ2 H2 S2 (G'.trans G2)⟩⟩
  · cases e⟩
theorem rss_or (h1 : RSsV cl xc X sts f) (h2 : RSsV cl xc X sts h) : RSsV cl xc X sts (xOr f h) := ⟨fun Wx tk => ⟨fun pins s σ H D I q => by
  obtain ⟨F0, ρ0, H0, F, ρ, m, env, c, env', m', S, e, k⟩ := q
  unfold xOr at e
  split at e
  · rename_i r e1
    cases e
    exact (h1.ps Wx tk).run pins s σ H D I ⟨F0, ρ0, H0, F, ρ, m, env, c, env', m', S, e1, k⟩
  · exact (h2.ps Wx tk).run pins s σ H D I ⟨F0, ρ0, H0, F, ρ, m, env, c, env', m', S, e, k⟩⟩⟩
end
/-! ### raise X('..') -/
/-- what a class over ValueError must say, to be raised -/
structure XcT (K : PySem.W.Frag) (mg : Str → Option Value) (C : Addr) (x : Str) : Prop where
  g : mg x = some (.ref C)
  x : PySem.W.excIn K C [.type "ValueError", .type "Exception", .type "BaseException", .type "object"] "ValueError.__new__" = true
  k : PySem.W.keepIn K (.ref C) = true
  b : PySem.W.subIn K (.ref C) (.type "BaseException") = some true
  t : PySem.W.typeIn K (.ref C) = some (.type "type")
theorem rs_raise {cl : Nat → Cl} {xc : Nat → Addr} {X : Cx} {x m : Str} {j : Nat} {p p2 pos pos' : Pos} (c : Nat) (T : XcT X.K X.mg (xc c) x) (hg : Gl X x) (hc : X.calm = true := by rfl) (hdb : (x == ("__debug__" : Str)) = false := by decide) :
    RSV cl xc X (.Raise (some (.Call (.Name x p) [.Constant (.str m) j p2] [] pos)) none pos') (xRaise c) := ⟨fun Wx tk => PS.imp (ps_raise hc tk (pmk_own PySem.F.excBase_ValueError T.x T.g T.k (raises_own T.b T.t) hg hdb)) fun D σ H q => by
  obtain ⟨F0, ρ0, H0, F, ρ, m, env, c, env', m', S, e, k⟩ := q
  cases e
  exact k F ρ σ H S .refl⟩
/-! ### a def that raises -/
theorem start_srel {g : G} {F : Hp} {ρ : List Addr} {m : MH} {H : Hp} {N : List Str} {ws : List W} {vs : List V} (sr : SR g F ρ m H) (r : RelWs g F ρ ws vs) : SRel g F ρ H m (startE N.length ws) F ρ (L2.start N vs) H := by
  have hle : ws.length = vs.length := r.length
  have own : ∀ {i w}, (startE N.length ws)[i]? = some (some w) → ws[i]? = some w := fun {i w} e => by
    unfold startE at e
    by_cases hi : i < ws.length
    · rw [List.getElem?_append_left (by simpa using hi), List.getElem?_map] at e
      cases q : ws[i]? with
      | none => rw [q] at e; cases e
      | some y => rw [q] at e; cases e; rfl
    · rw [List.getElem?_append_right (by simpa using Nat.le_of_not_lt hi), List.getElem?_replicate] at e
      split at e <;> cases e
  have er : ER g F ρ (startE N.length ws) (L2.start N vs) H := by
    refine ⟨by unfold startE L2.start; rw [List.length_append, List.length_append, List.length_map, List.length_map, List.length_replicate, List.length_replicate, hle], fun i w e => ?_, fun i j l l' e1 e2 ne => ?_⟩
    · obtain ⟨v, e2, q⟩ := r.get (own e)
      refine ⟨v, ?_, q.slot⟩
      unfold L2.start
      rw [List.getElem?_append_left (by simpa using (List.getElem?_eq_some_iff.mp e2).1), List.getElem?_map, e2]
      rfl
    · obtain ⟨v, e2, q⟩ := r.get (own e1)
      exact absurd rfl (q.notOwn l)
  exact ⟨sr, er, Adv.refl, fun i l a e1 e2 => by
    obtain ⟨v, e2, q⟩ := r.get (own e1)
    exact absurd rfl (q.notOwn l)⟩
def bodyX (n : Nat) (f : FRS) : OpR := fun ws m => match f (startE n ws) m with
  | some (c, _, m') => some (c, m')
  | none => none
section
variable {P : Program} {w : World} {K : PySem.W.Frag} {mg : Str → Option Value} {base : Heap} {cl : Nat → Cl} {xc : Nat → Addr} {x m qual : Str} {st : Stmt} {f : Addr} {fd : FuncData} {N ps : List Str} {k : Nat} {fb : FRS}
theorem fn_R (D : Fun K x qual st f fd) (S : FnScope N ps (defScope st))
    (hb : ∀ (cdv : Value) (A : Around) (outer : List Env) (s : Shared) (H : Hp) (E : XK), Room k (A.deeper (PyProof.Rows.envOfC qual (defScope st) s.heap.objs.size f cdv)) → RSsV cl xc (cxOf (L2.CX P w) P w K mg base N qual (defScope st) f cdv A outer s H E) (defBody st) fb) :
    FnOk P w K mg base (L2.CX P w) (k + 1) f fd ps (spR xc ⟨K, cl⟩ ps.length (bodyX N.length fb)) := by
  refine D.okX S (fun vs H Q E h => ?_) (fun cdv A outer s H vs Q E hr h => ?_)
  · obtain ⟨F, ρ, m, ws, w, m', hl, _⟩ := h
    exact hl
  · obtain ⟨F, ρ, m, ws, c, m', hl, sr, r, e, k⟩ := h
    refine ⟨_, (hb cdv A outer s H E hr).ps (fun cls d _ H => E cls d H) (takes_of rfl rfl rfl rfl), ?_⟩
    unfold bodyX at e
    split at e
    · rename_i c1 env1 m1 e1
      cases e
      exact ⟨F, ρ, H, F, ρ, m, _, _, _, _, start_srel sr r, e1, fun F' ρ' σ' H' S' _ => k F' ρ' H' S'.adv S'.sr⟩
    · cases e
theorem ok_fnR (D : DefAt K mg x st) (S : FnScope N ps (defScope st))
    (hbd : ∀ (kV doc pm : Value) (an : Option Addr) (cdv ct : Value) (us : List Value), us.length = ps.length → bindArgs (PySem.W.fnOf x x (defArgs st) (defBody st) (defScope st) .none kV doc pm an cdv ct) ⟨us, []⟩ = pure (ps.zip us))
    (hb : ∀ (f : Addr) (cdv : Value) (A : Around) (outer : List Env) (s : Shared) (H : Hp) (E : XK), Room k (A.deeper (PyProof.Rows.envOfC x (defScope st) s.heap.objs.size f cdv)) → RSsV cl xc (cxOf (L2.CX P w) P w K mg base N x (defScope st) f cdv A outer s H E) (defBody st) fb) :
    OkFnR P w K mg base cl xc x (k + 1) ps.length (bodyX N.length fb) := by
  obtain ⟨f, fd, F, hm⟩ := D
  exact ⟨f, fd, ps, fn_R F S (hb f), hm, F.kp, F.binds hbd⟩
theorem ok_meR (c : Nat) (D : MethAt K (cl c) m qual st) (S : FnScope N ps (defScope st))
    (hbd : ∀ (kV doc pm : Value) (an : Option Addr) (cdv ct : Value) (us : List Value), us.length = ps.length → bindArgs (PySem.W.fnOf m qual (defArgs st) (defBody st) (defScope st) .none kV doc pm an cdv ct) ⟨us, []⟩ = pure (ps.zip us))
    (hb : ∀ (f : Addr) (cdv : Value) (A : Around) (outer : List Env) (s : Shared) (H : Hp) (E : XK), Room k (A.deeper (PyProof.Rows.envOfC qual (defScope st) s.heap.objs.size f cdv)) → RSsV cl xc (cxOf (L2.CX P w) P w K mg base N qual (defScope st) f cdv A outer s H E) (defBody st) fb) :
    OkMeR P w K mg base cl xc c m (k + 1) ps.length (bodyX N.length fb) := by
  obtain ⟨f, fd, F, hm⟩ := D
  exact ⟨f, fd, ps, fn_R F S (hb f), hm, F.binds hbd⟩
end
end M
namespace M
open PySem L2
/-! ### try .. except X as e: names set to what isinstance(e, ..) tells -/
def setS : List (Nat × Bool) → St → St
  | [], σ => σ
  | (j, b) :: l, σ => setS l (σ.set j (some (.bl b)))
def setB : List (Nat × Bool) → En → En
  | [], env => env
  | (j, b) :: l, env => setB l (env.set j (some (.bl b)))
def fTry (i : Nat) (fx : FRS) (L : Nat → Option (List (Nat × Bool))) : FS := fun env m => match fx env m with
  | some (c, env1, m1) => match L c with
    | some l => if i < env1.length then some (.nx, (setB l (env1.set i none)).set i none, m1) else none
    | none => none
  | none => none
def tKV (i : Nat) (a : Addr) (g : G) (b : Bool) : TE := fun σ H Q => σ[i]? = some (some (.ref a)) ∧ ∃ F ρ m, SR g F ρ m H ∧ ∀ F' ρ' H', Adv F ρ H F' ρ' H' → SR g F' ρ' m H' → Q (.bl b) H'
def tSuite (i : Nat) (a : Addr) (g : G) (l : List (Nat × Bool)) : TS := fun D σ H => σ[i]? = some (some (.ref a)) ∧ ∃ F ρ m, SR g F ρ m H ∧ ∀ F' ρ' H', Adv F ρ H F' ρ' H' → SR g F' ρ' m H' → D.nx (setS l σ) H'
structure KV (cl : Nat → Cl) (X : Cx) (i : Nat) (a : Addr) (e : Expr) (b : Bool) : Prop where
  pe : PE X e (tKV i a ⟨X.K, cl⟩ b)
structure KSs (cl : Nat → Cl) (X : Cx) (i : Nat) (a : Addr) (sts : List Stmt) (l : List (Nat × Bool)) : Prop where
  ps : PSs X sts (tSuite i a ⟨X.K, cl⟩ l)
section
variable {cl : Nat → Cl} {X : Cx} {pos p : Pos} {i j : Nat} {a : Addr} {e e2 : Expr} {es : List Expr} {b b2 : Bool} {sts : List Stmt} {l : List (Nat × Bool)} {x y : Str}
theorem ks_nil : KSs cl X i a [] [] := ⟨PSs.imp pss_nil fun D σ H q => by
  obtain ⟨h, F, ρ, m, s, k⟩ := q
  exact k F ρ H Adv.refl s⟩
theorem ks_cons (j : Nat) (hN : X.N.Nodup) (he : KV cl X i a e b) (hr : KSs cl X i a sts l) (hij : j ≠ i := by decide) (hi : X.N[j]? = some x := by rfl) (hx : Loc X.env.scope x := by first | exact Or.inl rfl | exact Or.inr rfl) (hs : swapsWith e (some (.Name x p)) pos.line X.env = pure false := by rfl) (hf : X.fn x = true ∨ X.env.scope.names.lookup x = some .local := by first | exact .inl rfl | exact .inr rfl) :
    KSs cl X i a (.Assign [.Name x p] e pos :: sts) ((j, b) :: l) := ⟨PSs.imp (pss_cons (ps_set hN hi hx he.pe hs hf) hr.ps) fun D σ H q => by
  obtain ⟨h, F, ρ, m, s, k⟩ := q
  refine ⟨h, F, ρ, m, s, fun F1 ρ1 H1 A1 s1 => ?_⟩
  exact ⟨by rw [List.getElem?_set_ne hij]; exact h, F1, ρ1, m, s1, fun F2 ρ2 H2 A2 s2 => k F2 ρ2 H2 (A1.trans A2) s2⟩⟩
theorem kv_one {op} (ha : KV cl X i a e b) : KV cl X i a (.BoolOp op [e] pos) b := ⟨pe_one ha.pe⟩
theorem kv_and {rest : List Expr} (ha : KV cl X i a e b) (hb : KV cl X i a (.BoolOp .And (e2 :: rest) pos) b2) : KV cl X i a (.BoolOp .And (e :: e2 :: rest) pos) (b && b2) := ⟨PE.imp (pe_and ha.pe hb.pe) fun σ H Q q => by
  obtain ⟨h, F, ρ, m, s, k⟩ := q
  refine ⟨h, F, ρ, m, s, fun F1 ρ1 H1 A1 s1 => ⟨_, rfl, ?_⟩⟩
  cases b with
  | true =>
    rw [if_pos rfl]
    exact ⟨h, F1, ρ1, m, s1, fun F2 ρ2 H2 A2 s2 => k F2 ρ2 H2 (A1.trans A2) s2⟩
  | false =>
    rw [if_neg (by decide)]
    exact k F1 ρ1 H1 A1 s1⟩
theorem kv_not (ha : KV cl X i a e b) : KV cl X i a (.UnaryOp .Not e pos) (!b) := ⟨PE.imp (pe_not ha.pe) fun σ H Q q => by
  obtain ⟨h, F, ρ, m, s, k⟩ := q
  exact ⟨h, F, ρ, m, s, fun F1 ρ1 H1 A1 s1 => ⟨_, rfl, k F1 ρ1 H1 A1 s1⟩⟩⟩
end
/-- in a suite that holds an exception of the class D at a, isinstance is asked -/
structure Cau (X : Cx) (a D : Addr) : Prop where
  one : CallR X (.builtin "isinstance") (rIsE X.K D a)
  tup : CallR X (.builtin "isinstance") (rIsET X.K D a)
theorem cau_of {X : Cx} {a D : Addr} {oe : Obj} {pn : List (Addr × Obj)} (C : ExcC X.K D) (hz : Zc (.ref D) none oe) (hf : ∃ vs, oe.data = .fields vs) : Cau (X.suite a ((a, oe) :: pn)) a D := ⟨call_isE C hz hf, call_isET C hz hf⟩
section
variable {cl : Nat → Cl} {X : Cx} {pos p p1 p2 tpos : Pos} {i k : Nat} {a D C : Addr} {b : Bool} {x y : Str} {e : Expr} {es : List Expr} {cs : List Addr}
/-- isinstance(e, C), C a class of the program -/
theorem kv_own (hE : Cau X a D) (hb : PySem.W.kitOne X.K (.ref D) (.ref C) = some b) (hg : Gl X "isinstance") (hm : X.mg "isinstance" = none) (hgC : Gl X y) (hmC : X.mg y = some (.ref C))
    (hN : X.N[i]? = some x := by rfl) (hv : Vis X.env.scope x := by first | exact Or.inl rfl | exact Or.inr (Or.inl rfl) | exact Or.inr (Or.inr rfl)) (hd : (x == ("__debug__" : Str)) = false := by decide)
    (hcd : (x == ("__classdict__" : Str)) = false := by decide) (hdy : (y == ("__debug__" : Str)) = false := by decide)
    (hst : starEach [.Name x p1, .Name y p2] X.env = (false, eval (.Name x p1) X.env) :: starEach [.Name y p2] X.env := by rfl) : KV cl X i a (.Call (.Name "isinstance" p) [.Name x p1, .Name y p2] [] pos) b :=
  ⟨PE.imp (pe_callB hE.one hg hm (by decide +kernel) (pa_cons (pe_var hN hv hd hcd) (pa_cons (pe_glob (v := .ref C) hgC hmC rfl hdy) pa_nil rfl) hst) (by decide) (by decide) hst rfl) fun σ H Q q => by
    obtain ⟨h, F, ρ, m, s, k⟩ := q
    exact ⟨_, h, .ref C, .ref C, b, rfl, fun u r => r, hb, k F ρ H Adv.refl s⟩⟩
/-- isinstance(e, T), T a built-in class -/
theorem kv_blt (T : String) (hE : Cau X a D) (hb : PySem.W.kitOne X.K (.ref D) (.type T) = some b) (hg : Gl X "isinstance") (hm : X.mg "isinstance" = none) (hgC : Gl X y) (hmC : X.mg y = none) (hvT : bootBuiltins y = some (.type T))
    (hN : X.N[i]? = some x := by rfl) (hv : Vis X.env.scope x := by first | exact Or.inl rfl | exact Or.inr (Or.inl rfl) | exact Or.inr (Or.inr rfl)) (hd : (x == ("__debug__" : Str)) = false := by decide)
    (hcd : (x == ("__classdict__" : Str)) = false := by decide) (hn : y ≠ "__name__" := by decide) (hdy : (y == ("__debug__" : Str)) = false := by decide)
    (hst : starEach [.Name x p1, .Name y p2] X.env = (false, eval (.Name x p1) X.env) :: starEach [.Name y p2] X.env := by rfl) : KV cl X i a (.Call (.Name "isinstance" p) [.Name x p1, .Name y p2] [] pos) b :=
  ⟨PE.imp (pe_callB hE.one hg hm (by decide +kernel) (pa_cons (pe_var hN hv hd hcd) (pa_cons (pe_bltn (v := .ty T) hgC hmC hvT rfl hn hdy) pa_nil rfl) hst) (by decide) (by decide) hst rfl) fun σ H Q q => by
    obtain ⟨h, F, ρ, m, s, k⟩ := q
    exact ⟨_, h, .ty T, .type T, b, rfl, fun u r => r, hb, k F ρ H Adv.refl s⟩⟩
/-- the classes of a tuple -/
structure CsV (X : Cx) (es : List Expr) (cs : List Addr) : Prop where
  pa : PA X es (fun _ H Q => Q (cs.map V.ref) H)
theorem cs_nil : CsV X [] [] := ⟨PA.imp pa_nil fun σ H Q q => q⟩
theorem cs_cons (h : X.mg y = some (.ref C)) (hr : CsV X es cs) (hg : Gl X y) (hdy : (y == ("__debug__" : Str)) = false := by decide)
    (hst : starEach (.Name y p2 :: es) X.env = (false, eval (.Name y p2) X.env) :: starEach es X.env := by rfl) : CsV X (.Name y p2 :: es) (C :: cs) := ⟨PA.imp (pa_cons (pe_glob (v := .ref C) hg h rfl hdy) hr.pa hst) fun σ H Q q => q⟩
theorem paired_own : ∀ (cs : List Addr), Paired ClsV (cs.map V.ref) (cs.map Value.ref)
  | [] => .nil
  | c :: r => .cons (.own c) (paired_own r)
/-- isinstance(e, (C1, C2, ..)) -/
theorem kv_tup (hE : Cau X a D) (hc : CsV X (e :: es) cs) (hb : PySem.W.kitAny X.K (.ref D) (cs.map Value.ref) = some b) (hg : Gl X "isinstance") (hm : X.mg "isinstance" = none) (hl : cs.length ≤ 1000 := by first | decide | (simp only [List.length_cons, List.length_nil]; decide))
    (hN : X.N[i]? = some x := by rfl) (hv : Vis X.env.scope x := by first | exact Or.inl rfl | exact Or.inr (Or.inl rfl) | exact Or.inr (Or.inr rfl)) (hd : (x == ("__debug__" : Str)) = false := by decide)
    (hcd : (x == ("__classdict__" : Str)) = false := by decide)
    (hst : starEach [.Name x p1, .Tuple (e :: es) k tpos] X.env = (false, eval (.Name x p1) X.env) :: starEach [.Tuple (e :: es) k tpos] X.env := by rfl)
    (hst1 : starEach [.Tuple (e :: es) k tpos] X.env = (false, eval (.Tuple (e :: es) k tpos) X.env) :: starEach [] X.env := by rfl) : KV cl X i a (.Call (.Name "isinstance" p) [.Name x p1, .Tuple (e :: es) k tpos] [] pos) b :=
  ⟨PE.imp (pe_callB hE.tup hg hm (by decide +kernel) (pa_cons (pe_var hN hv hd hcd) (pa_cons (pe_tup hc.pa) pa_nil hst1) hst) (by decide) (by decide) hst rfl) fun σ H Q q => by
    obtain ⟨h, F, ρ, m, s, k⟩ := q
    refine ⟨_, h, ?_, fun q hq => ?_⟩
    · rw [List.length_map]; rw [sizeLine_eq]; omega
    · have A := Adv.laid (F := F) (ρ := ρ) (o := .tup (cs.map V.ref)) hq
      have s' := s.laid (o := .tup (cs.map V.ref)) hq
      exact ⟨q, cs.map V.ref, cs.map Value.ref, b, rfl, upd_same, paired_own cs, hb, k F ρ _ A s'⟩⟩
end
/-! ### the statement -/
theorem SRel.forget {g : G} {F0 : Hp} {ρ0 : List Addr} {H0 : Hp} {m : MH} {env : En} {F : Hp} {ρ : List Addr} {σ : St} {H : Hp} (S : SRel g F0 ρ0 H0 m env F ρ σ H) (i : Nat) (y : Option V) : SRel g F0 ρ0 H0 m (env.set i none) F ρ (σ.set i y) H := by
  have ne : ∀ {j w}, (env.set i none)[j]? = some (some w) → i ≠ j ∧ env[j]? = some (some w) := fun {j w} e => by
    by_cases z : i = j
    · subst z
      have hi := (List.getElem?_eq_some_iff.mp e).1
      rw [List.length_set] at hi
      rw [List.getElem?_set_self hi] at e
      cases e
    · rw [List.getElem?_set_ne z] at e
      exact ⟨z, e⟩
  refine ⟨S.sr, ⟨by rw [List.length_set, List.length_set]; exact S.er.len, fun j w e => ?_, fun j k l l' e1 e2 z => ?_⟩, S.adv, fun j l a e1 e2 => ?_⟩
  · obtain ⟨n, e⟩ := ne e
    rw [List.getElem?_set_ne n]
    exact S.er.slot j w e
  · obtain ⟨n1, e1⟩ := ne e1
    obtain ⟨n2, e2⟩ := ne e2
    rw [List.getElem?_set_ne n1, List.getElem?_set_ne n2]
    exact S.er.apart j k l l' e1 e2 z
  · obtain ⟨n, e1⟩ := ne e1
    rw [List.getElem?_set_ne n] at e2
    exact S.ownf j l a e1 e2
theorem SRel.setB {g : G} {F0 : Hp} {ρ0 : List Addr} {H0 : Hp} {m : MH} {F : Hp} {ρ : List Addr} {H : Hp} : ∀ {l : List (Nat × Bool)} {env : En} {σ : St}, SRel g F0 ρ0 H0 m env F ρ σ H → SRel g F0 ρ0 H0 m (setB l env) F ρ (setS l σ) H
  | [], _, _, S => S
  | (j, b) :: l, _, _, S => SRel.setB (l := l) (S.put (RelW.bl b))
section
variable {cl : Nat → Cl} {xc : Nat → Addr} {X : Cx} {x n : Str} {np pos pos' : Pos} {body suite : List Stmt} {b₀ : Stmt} {fx : FRS} {L : Nat → Option (List (Nat × Bool))}
theorem sv_try_as (i kx : Nat) (hN : X.N.Nodup) (hc : Names X x (.ref (xc kx))) (hx : ∀ c l, L c = some l → PySem.W.exmOne X.K (.ref (xc c)) (.ref (xc kx)) = some true)
    (hec : ∀ c l, L c = some l → ExcC X.K (xc c)) (hb : ∀ pn xe, RSsV cl xc (X.tr pn xe) body fx)
    (hsu : ∀ c l a pn, L c = some l → Cau (X.suite a pn) a (xc c) → KSs cl (X.suite a pn) i a (b₀ :: suite) l)
    (hs : X.stack = X.env :: X.outer := by rfl) (hf : X.env.frame = some X.env.locals := by rfl) (hi : X.N[i]? = some n := by rfl) (hln : X.env.kindOf n = some .local := by rfl) :
    SV cl X (.Try body [.ExceptHandler (some (.Name x np)) (some n) (b₀ :: suite) pos'] [] [] pos) (fTry i fx L) :=
  ⟨PS.imp (ps_try_as (i := i) (tb := fun Wx => tRS xc ⟨X.K, cl⟩ fx Wx) (ts := fun a cls d D σ H => ∃ c l, L c = some l ∧ cls = .ref (xc c) ∧ d = none ∧ tSuite i a ⟨X.K, cl⟩ l D σ H) (Wout := fun _ _ _ _ => False) hs hf hN hi hln hc takes0
     (fun Wx pn xe tk _ => (hb pn xe).ps Wx tk)
     (fun a oe cls d pn hz hf => ⟨fun pins s σ H D I q => by
        obtain ⟨c, l, hl, rfl, rfl, q⟩ := q
        exact (hsu c l a _ hl (cau_of (hec c l hl) hz hf)).ps.run pins s σ H D I q⟩))
   fun D σ H q => by
     obtain ⟨F0, ρ0, H0, F, ρ, m, env, o, env', m', S, e, k⟩ := q
     unfold fTry at e
     split at e
     · rename_i c env1 m1 e1
       split at e
       · rename_i l el
         split at e
         · rename_i hlt
           cases e
           refine ⟨F0, ρ0, H0, F, ρ, m, env, c, env1, m', S, e1, fun F' ρ' σ' H' S' G' => ?_⟩
           refine ⟨true, hx c l el, fun _ a ha => ⟨c, l, el, rfl, rfl, ?_⟩, fun z => nomatch z⟩
           refine ⟨List.getElem?_set_self (by rw [← S'.er.len]; exact hlt), F', ρ', m', S'.sr, fun F2 ρ2 H2 A2 s2 => ?_⟩
           exact k F2 ρ2 _ H2 (((((S'.forget i _).advd A2 s2).setB).forget i none)) (G'.trans A2.grow)
         · cases e
       · cases e
     · cases e⟩
end
end M
namespace M
def pickL : List (Nat × List (Nat × Bool)) → Nat → Option (List (Nat × Bool))
  | [], _ => none
  | (k, l) :: r, c => if c = k then some l else pickL r c
theorem pickL_or {k c : Nat} {l l' : List (Nat × Bool)} {r : List (Nat × List (Nat × Bool))} (h : pickL ((k, l) :: r) c = some l') : (c = k ∧ l' = l) ∨ pickL r c = some l' := by
  unfold pickL at h
  split at h
  · rename_i z
    cases h
    exact .inl ⟨z, rfl⟩
  · exact .inr h
theorem pickL_nil {c : Nat} {l : List (Nat × Bool)} (h : pickL [] c = some l) : False := by cases h
end M
namespace M
open PySem L2
section
variable {K : PySem.W.Frag} {S D : Addr} {b : Bool}
theorem kit_same {t : Value} : PySem.W.kitOne K t t = some true := by
  unfold PySem.W.kitOne
  rw [if_pos (by simp)]
theorem kcl_own {t : Value} (h2 : PySem.W.isClsIn K S = true) (h3 : PySem.W.typeIn K (.ref S) = some (.type "type")) (h4 : PySem.W.subIn K t (.ref S) = some b) : PySem.W.kitCls K t (.ref S) = some b := by
  have e2 : ((PySem.W.clsIn K S).isSome && PySem.W.typeIn K (.ref S) == some (.type "type")) = true := by
    have : (PySem.W.clsIn K S).isSome = true := h2
    rw [this, h3]; rfl
  show (if ((PySem.W.clsIn K S).isSome && PySem.W.typeIn K (.ref S) == some (.type "type")) = true then PySem.W.subIn K t (.ref S) else none) = some b
  rw [if_pos e2]; exact h4
theorem kit_own (h1 : (Value.ref D == Value.ref S) = false) (h2 : PySem.W.isClsIn K S = true) (h3 : PySem.W.typeIn K (.ref S) = some (.type "type")) (h4 : PySem.W.subIn K (.ref D) (.ref S) = some b) : PySem.W.kitOne K (.ref D) (.ref S) = some b := by
  unfold PySem.W.kitOne
  rw [if_neg (by rw [h1]; decide)]
  exact kcl_own h2 h3 h4
theorem exm_of {t : Value} (h1 : PySem.W.subIn K (.ref S) (.type "BaseException") = some true) (h2 : PySem.W.isClsIn K S = true) (h3 : PySem.W.typeIn K (.ref S) = some (.type "type")) (h4 : PySem.W.subIn K t (.ref S) = some b) : PySem.W.exmOne K t (.ref S) = some b := by
  unfold PySem.W.exmOne
  rw [if_pos (by rw [h1]; rfl)]
  exact kcl_own h2 h3 h4
theorem kit_blt {T : String} (h1 : PySem.W.kitMeta T = true) (h4 : PySem.W.subIn K (.ref D) (.type T) = some b) : PySem.W.kitOne K (.ref D) (.type T) = some b := by
  unfold PySem.W.kitOne
  rw [if_neg (show ¬ ((Value.ref D == Value.type T) = true) from by simp)]
  show (if PySem.W.kitMeta T = true then _ else _) = _
  rw [if_pos h1]; exact h4
end
end M
namespace M
open PySem L2
/-! ### running the small machine, step by step -/
def plain : W → Bool
  | .own _ => false
  | .bor _ => false
  | _ => true
theorem frz_plain {w : W} (h : plain w = true) : frz w = some w := by cases w <;> first | rfl | cases h
section
variable {env : En} {m m1 m2 m3 : MH} {fa fb fc : FE} {fr : FA} {x y z : W} {r : W × MH} {l : List W}
theorem r_C {w : W} : eC w env m = some (w, m) := rfl
theorem r_var {i : Nat} {w : W} (h : env[i]? = some (some w)) (hp : plain w = true) : eVar i env m = some (w, m) := by
  unfold eVar; rw [h]; cases w <;> first | rfl | cases hp
theorem r_varO {i : Nat} {l : List W} (h : env[i]? = some (some (.own l))) : eVar i env m = some (.bor l, m) := by
  unfold eVar; rw [h]
theorem r_bin {o : Op2} (h1 : fa env m = some (x, m1)) (h2 : fb env m1 = some (y, m2)) (h3 : o x y m2 = some r) : eBin o fa fb env m = some r := by
  unfold eBin; rw [h1]; simp only; rw [h2]; exact h3
theorem r_un {o : Op1} (h1 : fa env m = some (x, m1)) (h3 : o x m1 = some r) : eUn o fa env m = some r := by
  unfold eUn; rw [h1]; exact h3
theorem r_arg {o : OpN} (h1 : fr env m = some (l, m1)) (h3 : o l m1 = some r) : eArg o fr env m = some r := by
  unfold eArg; rw [h1]; exact h3
theorem r_nil : aNil env m = some ([], m) := rfl
theorem r_cons {x' : W} (h1 : fa env m = some (x, m1)) (h2 : frz x = some x') (h3 : fr env m1 = some (l, m2)) : aCons fa fr env m = some (x' :: l, m2) := by
  unfold aCons; rw [h1]; simp only; rw [h2]; simp only; rw [h3]
theorem r_call {n : Nat} {φ : OpN} (hn : l.length = n) (h : φ l m = some r) : oCall n φ l m = some r := by
  unfold oCall; rw [if_pos hn]; exact h
theorem r_tup {n : Nat} (hn : l.length = n) : oTup n l m = some (.tup l, m) := by unfold oTup; rw [if_pos hn]
theorem r_own {n : Nat} (hn : l.length = n) : oOwn n l m = some (.own l, m) := by unfold oOwn; rw [if_pos hn]
/-! ints -/
variable {i j : Int}
theorem mulOk_small (hi : -(2 ^ 500) < i ∧ i < 2 ^ 500) (hj : -(2 ^ 500) < j ∧ j < 2 ^ 500) : mulOk i j = true := by
  have l : ∀ {x : Int}, (-(2 ^ 500) < x ∧ x < 2 ^ 500) → x.natAbs.log2 < 500 := fun {x} h => by
    have : x.natAbs < 2 ^ 500 := by omega
    by_cases z : x.natAbs = 0
    · rw [z]; decide
    · exact (Nat.log2_lt z).mpr this
  have := l hi
  have := l hj
  exact decide_eq_true (by omega)
theorem r_addI : oAdd (.int i) (.int j) m = some (.int (i + j), m) := rfl
theorem r_subI : oSub (.int i) (.int j) m = some (.int (i - j), m) := rfl
theorem r_mul (h : mulOk i j = true) : oMul (.int i) (.int j) m = some (.int (i * j), m) := by unfold oMul oI2c; simp only [h, if_true]
theorem r_div (h : 0 < j ∧ j < 1073741824) : oDiv (.int i) (.int j) m = some (.int (i / j), m) := by unfold oDiv oI2c; simp only [decide_eq_true h, if_true]
theorem r_mod (h : 0 < j) : oMod (.int i) (.int j) m = some (.int (i % j), m) := by unfold oMod oI2c; simp only [decide_eq_true h, if_true]
theorem r_pow (h : 0 ≤ j ∧ j ≤ 1000 ∧ i.natAbs < 10000000000) : oPow (.int i) (.int j) m = some (.int (i ^ j.toNat), m) := by unfold oPow oI2c; simp only [decide_eq_true h, if_true]
theorem r_lt : oLt (.int i) (.int j) m = some (.bl (decide (i < j)), m) := rfl
theorem r_le : oLe (.int i) (.int j) m = some (.bl (decide (i ≤ j)), m) := rfl
theorem r_gt : oGt (.int i) (.int j) m = some (.bl (decide (j < i)), m) := rfl
theorem r_ge : oGe (.int i) (.int j) m = some (.bl (decide (j ≤ i)), m) := rfl
theorem r_neg : oNeg (.int i) m = some (.int (-i), m) := rfl
theorem r_min : oMin (.int i) (.int j) m = some (.int (if j < i then j else i), m) := rfl
theorem r_max : oMax (.int i) (.int j) m = some (.int (if j > i then j else i), m) := rfl
theorem r_intI : oInt (.int i) m = some (.int i, m) := rfl
theorem r_intB {b : Bool} : oInt (.bl b) m = some (.int (if b then 1 else 0), m) := rfl
theorem r_eqI : oEq (.int i) (.int j) m = some (.bl (decide (i = j)), m) := rfl
theorem r_neI : oNe (.int i) (.int j) m = some (.bl (!decide (i = j)), m) := rfl
theorem r_eqB {b c : Bool} : oEq (.bl b) (.bl c) m = some (.bl (decide (b = c)), m) := rfl
theorem r_neB {b c : Bool} : oNe (.bl b) (.bl c) m = some (.bl (!decide (b = c)), m) := rfl
theorem r_eqIN : oEq (.int i) .non m = some (.bl false, m) := rfl
theorem r_neIN : oNe (.int i) .non m = some (.bl true, m) := rfl
theorem r_isN : oIs x .non m = some (.bl (isNon x), m) := rfl
theorem r_isNotN : oIsNot x .non m = some (.bl (!isNon x), m) := rfl
theorem r_isB {b c : Bool} : oIs (.bl b) (.bl c) m = some (.bl (decide (b = c)), m) := rfl
theorem r_isNotB {b c : Bool} : oIsNot (.bl b) (.bl c) m = some (.bl (!decide (b = c)), m) := rfl
/-! lists, tuples -/
theorem r_ix (h : sqOf m x = some l) (e : L2.atI l i = some y) (hs : ∀ z, x ≠ .str z) : oIx x (.int i) m = some (y, m) := by
  unfold oIx
  split
  · rename_i i' hi
    cases hi
    split
    · exact absurd rfl (hs _)
    · rw [h]; simp only; rw [e]; rfl
  · rename_i h'; exact absurd rfl (h' i)
theorem r_len (h : sqOf m x = some l) (hs : ∀ z, x ≠ .str z) : oLen x m = some (.int l.length, m) := by
  unfold oLen
  split
  · exact absurd rfl (hs _)
  · rw [h]
theorem r_tupleT : oTuple (.tup l) m = some (.tup l, m) := rfl
theorem r_tupleL (h : lsOf m x = some l) (hs : ∀ z, x ≠ .tup z) : oTuple x m = some (.tup l, m) := by
  unfold oTuple
  split
  · exact absurd rfl (hs _)
  · rw [h]
theorem r_list (h : sqOf m x = some l) : oList x m = some (.own l, m) := by unfold oList; rw [h]
theorem r_rev (h : lsOf m x = some l) : oRev x m = some (.own l.reverse, m) := by unfold oRev; rw [h]
theorem r_in {b : Bool} (h : sqOf m y = some l) (hx : flatW x = true) (hl : l.all flatW = true) : oIn b x y m = some (.bl (if b then !inW x l else inW x l), m) := by
  unfold oIn; rw [h]; simp only; rw [hx, hl]; rfl
theorem r_cut {fl fh : FO} {lo hi : Option Int} (h1 : fa env m = some (x, m1)) (h2 : fl env m1 = some (lo, m2)) (h3 : fh env m2 = some (hi, m3)) (h4 : oCut x lo hi m3 = some r) : eCut fa fl fh env m = some r := by
  unfold eCut; rw [h1]; simp only; rw [h2]; simp only; rw [h3]; exact h4
theorem r_no : oNo env m = some (none, m) := rfl
theorem r_at (h : fa env m = some (.int i, m1)) : oAt fa env m = some (some i, m1) := by unfold oAt; rw [h]
theorem r_cutT {lo hi : Option Int} : oCut (.tup l) lo hi m = some (.tup (cutG l lo hi), m) := rfl
theorem r_cutL {lo hi : Option Int} (h : lsOf m x = some l) (hs : ∀ z, x ≠ .tup z) (ht : ∀ z, x ≠ .str z) : oCut x lo hi m = some (.own (cutG l lo hi), m) := by
  unfold oCut
  split
  · exact absurd rfl (hs _)
  · exact absurd rfl (ht _)
  · rw [h]
theorem r_addT {l l' : List W} (h : l.length + l'.length ≤ sizeLine) : oAdd (.tup l) (.tup l') m = some (.tup (l ++ l'), m) := by
  show (if l.length + l'.length ≤ sizeLine then some (W.tup (l ++ l'), m) else none) = _
  rw [if_pos h]
theorem r_addL {l l' : List W} (h1 : lstOf m x = some l) (h2 : lstOf m y = some l') (h : l.length + l'.length ≤ sizeLine) : oAdd x y m = some (.own (l ++ l'), m) := by
  unfold oAdd
  split
  · cases h1
  · cases h1
  · cases h1
  · rw [h1, h2]; simp only; rw [if_pos h]
/-! truths -/
variable {b c : Bool}
theorem r_and (h1 : fa env m = some (.bl b, m1)) (h2 : b = true → fb env m1 = some (.bl c, m2)) (h3 : b = false → m2 = m1 ∧ c = false) : eAnd fa fb env m = some (.bl c, m2) := by
  unfold eAnd; rw [h1]
  cases b with
  | true => exact h2 rfl
  | false => obtain ⟨rfl, rfl⟩ := h3 rfl; rfl
theorem r_or (h1 : fa env m = some (.bl b, m1)) (h2 : b = false → fb env m1 = some (.bl c, m2)) (h3 : b = true → m2 = m1 ∧ c = true) : eOr fa fb env m = some (.bl c, m2) := by
  unfold eOr; rw [h1]
  cases b with
  | false => exact h2 rfl
  | true => obtain ⟨rfl, rfl⟩ := h3 rfl; rfl
/-- where nothing is turned -/
theorem r_and0 (h1 : fa env m = some (.bl b, m)) (h2 : b = true → fb env m = some (.bl c, m)) : eAnd fa fb env m = some (.bl (b && c), m) := by
  unfold eAnd; rw [h1]
  cases b with
  | true => exact h2 rfl
  | false => rfl
theorem r_or0 (h1 : fa env m = some (.bl b, m)) (h2 : b = false → fb env m = some (.bl c, m)) : eOr fa fb env m = some (.bl (b || c), m) := by
  unfold eOr; rw [h1]
  cases b with
  | false => exact h2 rfl
  | true => rfl
theorem r_not (h1 : fa env m = some (.bl b, m1)) : eNot fa env m = some (.bl (!b), m1) := by unfold eNot; rw [h1]
theorem r_chain {o o' : Op2} (h1 : fa env m = some (x, m1)) (h2 : fb env m1 = some (y, m1)) (h3 : o x y m1 = some (.bl b, m1)) (h4 : b = true → fc env m1 = some (z, m1)) (h5 : b = true → o' y z m1 = some (.bl c, m1)) : eChain o o' fa fb fc env m = some (.bl (b && c), m1) := by
  unfold eChain; rw [h1]; simp only; rw [h2]; simp only; rw [h3]
  cases b with
  | true => simp only; rw [h4 rfl]; exact h5 rfl
  | false => rfl
theorem r_andF (h1 : fa env m = some (.bl b, m)) (h2 : b = false) : eAnd fa fb env m = some (.bl false, m) := by subst h2; unfold eAnd; rw [h1]
theorem r_orT (h1 : fa env m = some (.bl b, m)) (h2 : b = true) : eOr fa fb env m = some (.bl true, m) := by subst h2; unfold eOr; rw [h1]
theorem r_chainF {o o' : Op2} (h1 : fa env m = some (x, m1)) (h2 : fb env m1 = some (y, m1)) (h3 : o x y m1 = some (.bl b, m1)) (h4 : b = false) : eChain o o' fa fb fc env m = some (.bl false, m1) := by
  subst h4; unfold eChain; rw [h1]; simp only; rw [h2]; simp only; rw [h3]
variable {ft fu : FT}
theorem r_tOf (h1 : fa env m = some (.bl b, m1)) : tOf fa env m = some (b, m1) := by unfold tOf; rw [h1]
theorem r_tAnd (h1 : ft env m = some (b, m)) (h2 : b = true → fu env m = some (c, m)) : tAndF ft fu env m = some (b && c, m) := by
  unfold tAndF; rw [h1]
  cases b with
  | true => exact h2 rfl
  | false => rfl
theorem r_tOr (h1 : ft env m = some (b, m)) (h2 : b = false → fu env m = some (c, m)) : tOrF ft fu env m = some (b || c, m) := by
  unfold tOrF; rw [h1]
  cases b with
  | false => exact h2 rfl
  | true => rfl
theorem r_tAndF (h1 : ft env m = some (b, m)) (h2 : b = false) : tAndF ft fu env m = some (false, m) := by subst h2; unfold tAndF; rw [h1]
theorem r_tOrT (h1 : ft env m = some (b, m)) (h2 : b = true) : tOrF ft fu env m = some (true, m) := by subst h2; unfold tOrF; rw [h1]
theorem r_tNot (h1 : ft env m = some (b, m1)) : tNotF ft env m = some (!b, m1) := by unfold tNotF; rw [h1]
theorem r_tTrue : tTrue env m = some (true, m) := rfl
/-! what is walked -/
theorem r_rg1 {j : Int} (h1 : fa env m = some (.int j, m1)) (h : -(2 ^ 62) ≤ j ∧ j < 2 ^ 62) : iRg1 fa env m = some (rangeW 0 j.toNat, gT, m1) := by unfold iRg1; rw [h1]; simp only; rw [if_pos h]
theorem r_rg2 (h1 : fa env m = some (.int i, m1)) (h2 : fb env m1 = some (.int j, m2)) (h : -(2 ^ 62) ≤ i ∧ i < 2 ^ 62 ∧ -(2 ^ 62) ≤ j ∧ j < 2 ^ 62) : iRg2 fa fb env m = some (rangeW i (j - i).toNat, gT, m2) := by
  unfold iRg2; rw [h1]; simp only; rw [h2]; simp only; rw [if_pos h]
theorem r_seqT (h1 : fa env m = some (.tup l, m1)) : iSeq fa env m = some (l, gT, m1) := by unfold iSeq; rw [h1]; rfl
theorem r_seqL (h1 : fa env m = some (.lst l, m1)) : iSeq fa env m = some (l, gT, m1) := by unfold iSeq; rw [h1]; rfl
theorem r_seqF (h1 : fa env m = some (.fro l, m1)) : iSeq fa env m = some (l, gT, m1) := by unfold iSeq; rw [h1]; rfl
theorem r_seqO (h1 : fa env m = some (.own l, m1)) : iSeq fa env m = some (l, gT, m1) := by unfold iSeq; rw [h1]; rfl
theorem r_enu (h1 : fr env m = some ([.lst l], m1)) : iEnu fr env m = some (enumW l, gT, m1) := by unfold iEnu; rw [h1]
theorem r_zipL {l' : List W} (h1 : fr env m = some ([.lst l, .lst l'], m1)) : iZp fr env m = some (zipW l l', gT, m1) := by unfold iZp; rw [h1]
theorem r_zipT {l' : List W} (h1 : fr env m = some ([.tup l, .tup l'], m1)) : iZp fr env m = some (zipW l l', gT, m1) := by unfold iZp; rw [h1]
end
theorem r_seqRf {fa : FE} {env : En} {m m1 : MH} {n : Nat} {l : List W} (h1 : fa env m = some (.ref n, m1)) (h2 : m1[n]? = some (.lst l)) : iSeq fa env m = some (l, gL n l, m1) := by unfold iSeq; rw [h1]; simp only [frz]; rw [h2]
/-! ### comprehensions -/
theorem loopC_map {step : W → MH → Option (Option W × MH)} {m : MH} {g : W → Option W} {gd : Gd} (hg : gd m) : ∀ {ws : List W}, (∀ w ∈ ws, step w m = some (g w, m)) → loopC step gd ws m = some (ws.filterMap g, m)
  | [], _ => by unfold loopC; rw [if_pos hg]; rfl
  | w :: ws, h => by
    unfold loopC
    rw [if_pos hg, h w List.mem_cons_self]
    simp only
    rw [loopC_map hg fun w' hw => h w' (List.mem_cons_of_mem _ hw)]
    rw [List.filterMap_cons]
    cases g w <;> rfl
theorem r_lc {T : Tg} {vs : List Nat} {fi : FI} {ft : FT} {fe : FE} {env : En} {m m1 : MH} {ws : List W} {g : W → Option W} {gd : Gd} (h1 : fi env m = some (ws, gd, m1)) (hz : ws.length ≤ sizeLine) (h : ∀ w ∈ ws, stepC T vs ft fe env w m1 = some (g w, m1)) (hg : gd m1 := by trivial) :
    eLC T vs fi ft fe env m = some (.own (ws.filterMap g), m1) := by
  unfold eLC; rw [h1]; simp only; rw [if_pos hz, loopC_map hg h]
theorem r_stepC {T : Tg} {vs : List Nat} {ft : FT} {fe : FE} {env env' : En} {m : MH} {w x x' : W} {b : Bool} (h1 : setT T w (wipeE env vs) = some env') (h2 : ft env' m = some (b, m)) (h3 : b = true → fe env' m = some (x, m)) (h4 : b = true → frz x = some x') :
    stepC T vs ft fe env w m = some (if b = true then some x' else none, m) := by
  unfold stepC; rw [h1]; simp only; rw [h2]
  cases b with
  | true => simp only; rw [h3 rfl]; simp only; rw [h4 rfl]; rfl
  | false => rfl
/-! ### statements -/
section
variable {env env1 env2 : En} {m m1 m2 : MH} {fa : FE} {ft : FT} {f h : FS} {x x' : W} {r : Out × En × MH} {b : Bool} {i : Nat} {l : List W}
theorem r_seq (h1 : f env m = some (.nx, env1, m1)) (h2 : h env1 m1 = some r) : fSeq f h env m = some r := by unfold fSeq; rw [h1]; exact h2
theorem r_seqR (h1 : f env m = some (.rt x, env1, m1)) : fSeq f h env m = some (.rt x, env1, m1) := by unfold fSeq; rw [h1]
theorem r_next : fNext env m = some (.nx, env, m) := rfl
theorem r_setZ (h1 : fa env m = some (x, m1)) (h2 : frz x = some x') : fSetZ i fa env m = some (.nx, env.set i (some x'), m1) := by unfold fSetZ; rw [h1]; simp only; rw [h2]
theorem r_set (h1 : fa env m = some (x, m1)) (h2 : ∀ l, x ≠ .bor l) : fSet i fa env m = some (.nx, env.set i (some x), m1) := by
  unfold fSet; rw [h1]
  cases x <;> first | rfl | exact absurd rfl (h2 _)
theorem r_tgt {T : Tg} (h1 : fa env m = some (x, m1)) (h2 : frz x = some x') (h3 : setT T x' env = some env1) : fTup T fa env m = some (.nx, env1, m1) := by unfold fTup; rw [h1]; simp only; rw [h2]; simp only; rw [h3]
theorem r_if (h1 : ft env m = some (b, m1)) (h2 : (if b = true then f env m1 else h env m1) = some r) : fIf ft f h env m = some r := by
  unfold fIf; rw [h1]
  cases b with
  | true => exact h2
  | false => exact h2
/-- a branch, what is behind it within -/
theorem r_seqIf {k : FS} (h1 : ft env m = some (b, m1)) (h2 : b = true → fSeq f k env m1 = some r) (h3 : b = false → fSeq h k env m1 = some r) : fSeq (fIf ft f h) k env m = some r := by
  unfold fSeq fIf; rw [h1]
  cases b with
  | true => exact h2 rfl
  | false => exact h3 rfl
theorem r_ifL (h1 : ft env m = some (b, m1)) (h2 : b = true → f env m1 = some r) (h3 : b = false → h env m1 = some r) : fIf ft f h env m = some r := by
  unfold fIf; rw [h1]
  cases b with
  | true => exact h2 rfl
  | false => exact h3 rfl
theorem r_seqNext {k : FS} (h : k env m = some r) : fSeq fNext k env m = some r := h
theorem r_seqSeq {f g k : FS} (h : fSeq f (fSeq g k) env m = some r) : fSeq (fSeq f g) k env m = some r := by
  unfold fSeq at h
  unfold fSeq
  cases q : f env m with
  | none => rw [q] at h; cases h
  | some p =>
    obtain ⟨o, e1, m1⟩ := p
    rw [q] at h
    cases o with
    | nx => exact h
    | bk | ct | rt => exact h
theorem r_ret (h1 : fa env m = some (x, m1)) (h2 : ∀ l, x ≠ .bor l) : fRet fa env m = some (.rt x, env, m1) := by
  unfold fRet; rw [h1]
  cases x <;> first | rfl | exact absurd rfl (h2 _)
theorem r_retV (h1 : env[i]? = some (some x)) : fRetV i env m = some (.rt x, env, m) := by unfold fRetV; rw [h1]
theorem r_drop (h1 : fa env m = some (x, m1)) : fDrop fa env m = some (.nx, env, m1) := by unfold fDrop; rw [h1]
theorem r_frz (h1 : env[i]? = some (some (.own l))) (h2 : f (env.set i (some (.lst l))) m = some r) : fFrz i f env m = some r := by unfold fFrz; rw [h1]; exact h2
theorem r_append (h1 : env[i]? = some (some (.own l))) (h2 : fa env m = some (x, m1)) (h3 : frz x = some x') (h4 : l.length < sizeLine) : fAppend i fa env m = some (.nx, env.set i (some (.own (l ++ [x']))), m1) := by
  unfold fAppend; rw [h1]; simp only; rw [h2]; simp only; rw [h3]; simp only; rw [if_pos h4]
theorem r_aug {o : Op2} {y z : W} (h1 : env[i]? = some (some x)) (h2 : fa env m = some (y, m1)) (h3 : o x y m1 = some (z, m2)) (h4 : plain z = true) : fAug i o fa env m = some (.nx, env.set i (some z), m2) := by
  unfold fAug; rw [h1]; simp only; rw [h2]; simp only; rw [h3]
  cases z <;> first | rfl | cases h4
theorem r_for {T : Tg} {fi : FI} {ws : List W} {gd : Gd} (h1 : fi env m = some (ws, gd, m1)) (h2 : loopF T gd f ws env m1 = some r) : fFor T fi f env m = some r := by unfold fFor; rw [h1]; exact h2
theorem r_brk : fBrk env m = some (.bk, env, m) := rfl
theorem r_cnt : fCnt env m = some (.ct, env, m) := rfl
/-- a def's body -/
theorem r_body {n : Nat} {ws : List W} (h1 : f (startE n ws) m = some (.rt x, env1, m1)) (h2 : ∀ l, x ≠ .bor l) : bodyF n f ws m = some (x, m1) := by
  unfold bodyF; rw [h1]
  cases x <;> first | rfl | exact absurd rfl (h2 _)
theorem r_bodyN {n : Nat} {ws : List W} (h1 : f (startE n ws) m = some (.nx, env1, m1)) : bodyF n f ws m = some (.non, m1) := by
  unfold bodyF; rw [h1]
/-! loops -/
/-- more fuel does no harm -/
theorem loopW_more {t : FT} : ∀ {k n : Nat} {env : En} {m : MH}, loopW t f k env m = some r → k ≤ n → loopW t f n env m = some r
  | 0, _, _, _, h, _ => by cases h
  | k + 1, 0, _, _, _, hl => by omega
  | k + 1, n + 1, env, m, h, hl => by
    unfold loopW at h ⊢
    split at h
    · rename_i m1 e1
      try simp only [e1]
      split at h
      · rename_i env2 m2 e2
        try simp only [e2]
        exact loopW_more h (by omega)
      · rename_i env2 m2 e2
        try simp only [e2]
        exact loopW_more h (by omega)
      · rename_i env2 m2 e2
        try simp only [e2]
        exact h
      · rename_i n1 n2 n3
        exact h
    · rename_i m1 e1
      try simp only [e1]
      exact h
    · cases h
end
theorem rangeW_split {n : Nat} {lo : Int} {pr post : List W} {w : W} (h : rangeW lo n = pr ++ w :: post) : w = .int (lo + pr.length) ∧ pr.length < n := by
  have h1 := congrArg List.length h
  have h2 : (rangeW lo n)[pr.length]? = some w := by rw [h]; simp
  unfold rangeW at h1 h2
  simp at h1
  have hl : pr.length < n := by omega
  rw [List.getElem?_map, List.getElem?_range hl] at h2
  simp at h2
  exact ⟨h2.symm, hl⟩
theorem rangeW_len {n : Nat} {lo : Int} : (rangeW lo n).length = n := by unfold rangeW; simp
theorem zipW_len {l l' : List W} : (zipW l l').length = min l.length l'.length := by unfold zipW; simp
theorem zipW_split {l l' pr post : List W} {w : W} (h : zipW l l' = pr ++ w :: post) (hl : l.length = l'.length) : ∃ (h1 : pr.length < l.length), w = .tup [l[pr.length], l'[pr.length]'(by omega)] := by
  have h1 := congrArg List.length h
  have h2 : (zipW l l')[pr.length]? = some w := by rw [h]; simp
  rw [zipW_len] at h1
  simp at h1
  have hl2 : pr.length < l.length := by omega
  refine ⟨hl2, ?_⟩
  unfold zipW at h2
  rw [List.getElem?_map, List.getElem?_range (by omega)] at h2
  simp only [Option.map_some, Option.some.injEq] at h2
  rw [← h2]
  simp [List.getD_eq_getElem?_getD, hl2, show pr.length < l'.length by omega]
/-! ### what holds behind a statement -/
abbrev QS := Out → En → MH → Prop
def wp (f : FS) (env : En) (m : MH) (Q : QS) : Prop := ∃ o e m', f env m = some (o, e, m') ∧ Q o e m'
def seqQ (h : FS) (Q : QS) : QS := fun o e m => match o with
  | .nx => wp h e m Q
  | o => Q o e m
def loopQ (I : En → MH → Prop) (Q : QS) : QS := fun o e m => match o with
  | .nx => I e m
  | .ct => I e m
  | .bk => Q .nx e m
  | .rt w => Q (.rt w) e m
def retQ (P : W → MH → Prop) : QS := fun o _ m => match o with
  | .rt w => (∀ l, w ≠ .bor l) ∧ P w m
  | .nx => P .non m
  | _ => False
section
variable {env env1 : En} {m m1 m' : MH} {fa : FE} {ft : FT} {f h k : FS} {x x' y z : W} {b : Bool} {i : Nat} {l : List W} {Q Q' : QS} {P : W → MH → Prop} {T : Tg}
theorem wp_mono (w : wp f env m Q) (k : ∀ o e m, Q o e m → Q' o e m) : wp f env m Q' := by
  obtain ⟨o, e, m1, h1, h2⟩ := w
  exact ⟨o, e, m1, h1, k _ _ _ h2⟩
theorem wp_seq (w : wp f env m (seqQ h Q)) : wp (fSeq f h) env m Q := by
  obtain ⟨o, e, m1, h1, h2⟩ := w
  cases o with
  | nx =>
    obtain ⟨o, e2, m2, h3, h4⟩ := h2
    exact ⟨o, e2, m2, r_seq h1 h3, h4⟩
  | bk => exact ⟨.bk, e, m1, by unfold fSeq; rw [h1], h2⟩
  | ct => exact ⟨.ct, e, m1, by unfold fSeq; rw [h1], h2⟩
  | rt w => exact ⟨.rt w, e, m1, by unfold fSeq; rw [h1], h2⟩
theorem wp_nx (h1 : f env m = some (.nx, env1, m1)) (h2 : Q .nx env1 m1) : wp f env m Q := ⟨_, _, _, h1, h2⟩
/-- a simple statement, what is behind it -/
theorem wp_st (h1 : f env m = some (.nx, env1, m1)) (h2 : wp h env1 m1 Q) : wp f env m (seqQ h Q) := ⟨_, _, _, h1, h2⟩
theorem wp_if (h1 : ft env m = some (b, m1)) (h2 : b = true → wp f env m1 Q) (h3 : b = false → wp h env m1 Q) : wp (fIf ft f h) env m Q := by
  cases b with
  | true =>
    obtain ⟨o, e, m2, q, r⟩ := h2 rfl
    exact ⟨o, e, m2, r_ifL h1 (fun _ => q) (fun z => by cases z), r⟩
  | false =>
    obtain ⟨o, e, m2, q, r⟩ := h3 rfl
    exact ⟨o, e, m2, r_ifL h1 (fun z => by cases z) fun _ => q, r⟩
theorem wp_next (h : Q .nx env m) : wp fNext env m Q := ⟨_, _, _, rfl, h⟩
theorem wp_brk (h : Q .bk env m) : wp fBrk env m Q := ⟨_, _, _, rfl, h⟩
theorem wp_cnt (h : Q .ct env m) : wp fCnt env m Q := ⟨_, _, _, rfl, h⟩
theorem wp_ret (h1 : fa env m = some (y, m')) (h2 : ∀ l, y ≠ .bor l) (h3 : Q (.rt y) env m') : wp (fRet fa) env m Q := ⟨_, _, _, r_ret h1 h2, h3⟩
theorem wp_retV (h1 : env[i]? = some (some y)) (h3 : Q (.rt y) env m) : wp (fRetV i) env m Q := ⟨_, _, _, r_retV h1, h3⟩
theorem wp_frz (h1 : env[i]? = some (some (.own l))) (h2 : wp f (env.set i (some (.lst l))) m Q) : wp (fFrz i f) env m Q := by
  obtain ⟨o, e, m2, q, r⟩ := h2
  exact ⟨o, e, m2, r_frz h1 q, r⟩
theorem wp_body {n : Nat} {ws : List W} (w : wp f (startE n ws) m (retQ P)) : ∃ x m', bodyF n f ws m = some (x, m') ∧ P x m' := by
  obtain ⟨o, e, m1, h1, h2⟩ := w
  cases o with
  | rt x => exact ⟨x, m1, r_body h1 h2.1, h2.2⟩
  | nx => exact ⟨.non, m1, r_bodyN h1, h2⟩
  | bk => exact h2.elim
  | ct => exact h2.elim
/-- .. one answer -/
theorem wp_body1 {n : Nat} {ws : List W} (w : wp f (startE n ws) m (retQ fun y m2 => y = x ∧ m2 = m')) : bodyF n f ws m = some (x, m') := by
  obtain ⟨x', m1, h1, rfl, rfl⟩ := wp_body w
  exact h1
theorem wp_loopF {gd : Gd} (I : List W → En → MH → Prop) (hgd : ∀ pr e m, I pr e m → gd m) : ∀ {ws pre : List W} {env : En} {m : MH}, I pre env m → (∀ pr w post, pre ++ ws = pr ++ w :: post → ∀ e m, I pr e m → ∃ e1, setT T w e = some e1 ∧ wp f e1 m (loopQ (I (pr ++ [w])) Q)) →
    (∀ e m, I (pre ++ ws) e m → Q .nx e m) → wp (loopF T gd f ws) env m Q
  | [], pre, env, m, h, _, d => ⟨.nx, env, m, by unfold loopF; rw [if_pos (hgd _ _ _ h)], d env m (by simpa using h)⟩
  | w :: ws, pre, env, m, h, k, d => by
    obtain ⟨e1, h1, o, e2, m2, h2, h3⟩ := k pre w ws rfl env m h
    have next : I (pre ++ [w]) e2 m2 → wp (loopF T gd f ws) e2 m2 Q := fun hI => wp_loopF I hgd hI (fun pr w' post e => k pr w' post (by rw [← e]; simp)) (fun e m q => d e m (by simpa using q))
    have go : ∀ r, (match f e1 m with
      | some (.nx, env2, m2) => loopF T gd f ws env2 m2
      | some (.ct, env2, m2) => loopF T gd f ws env2 m2
      | some (.bk, env2, m2) => some (.nx, env2, m2)
      | r => r) = some r → loopF T gd f (w :: ws) env m = some r := fun r q => by unfold loopF; rw [if_pos (hgd _ _ _ h), h1]; exact q
    rw [h2] at go
    cases o with
    | nx =>
      obtain ⟨o, e3, m3, q, r⟩ := next h3
      exact ⟨o, e3, m3, go _ q, r⟩
    | ct =>
      obtain ⟨o, e3, m3, q, r⟩ := next h3
      exact ⟨o, e3, m3, go _ q, r⟩
    | bk => exact ⟨.nx, e2, m2, go _ rfl, h3⟩
    | rt w => exact ⟨.rt w, e2, m2, go _ rfl, h3⟩
/-- a for: I speaks of what has been taken -/
theorem wp_forG {fi : FI} {ws : List W} {gd : Gd} (I : List W → En → MH → Prop) (h1 : fi env m = some (ws, gd, m1)) (h0 : I [] env m1) (hgd : ∀ pr e m, I pr e m → gd m) (h2 : ∀ pr w post, ws = pr ++ w :: post → ∀ e m, I pr e m → ∃ e1, setT T w e = some e1 ∧ wp f e1 m (loopQ (I (pr ++ [w])) Q))
    (h3 : ∀ e m, I ws e m → Q .nx e m) : wp (fFor T fi f) env m Q := by
  obtain ⟨o, e, m2, q, r⟩ := wp_loopF (Q := Q) I hgd h0 (fun pr w post e => h2 pr w post (by simpa using e)) (fun e m q => h3 e m (by simpa using q))
  exact ⟨o, e, m2, r_for h1 q, r⟩
theorem wp_for {fi : FI} {ws : List W} (I : List W → En → MH → Prop) (h1 : fi env m = some (ws, gT, m1)) (h0 : I [] env m1) (h2 : ∀ pr w post, ws = pr ++ w :: post → ∀ e m, I pr e m → ∃ e1, setT T w e = some e1 ∧ wp f e1 m (loopQ (I (pr ++ [w])) Q))
    (h3 : ∀ e m, I ws e m → Q .nx e m) : wp (fFor T fi f) env m Q := wp_forG I h1 h0 (fun _ _ _ _ => trivial) h2 h3
/-- a while: I holds at its head, the number falls -/
theorem wp_while {n : Nat} (I : En → MH → Prop) (μ : En → MH → Nat) (h0 : I env m) (hn : μ env m < n) (h2 : ∀ e m, I e m → ∃ b m1, ft e m = some (b, m1) ∧ (b = true → wp f e m1 (loopQ (fun e2 m2 => I e2 m2 ∧ μ e2 m2 < μ e m) Q)) ∧ (b = false → Q .nx e m1)) : wp (loopW ft f n) env m Q := by
  induction n generalizing env m with
  | zero => omega
  | succ n ih =>
    obtain ⟨b, m1, h3, h4, h5⟩ := h2 env m h0
    have go : ∀ r, (match (some (b, m1) : Option (Bool × MH)) with
      | some (true, m1) => (match f env m1 with
        | some (.nx, env2, m2) => loopW ft f n env2 m2
        | some (.ct, env2, m2) => loopW ft f n env2 m2
        | some (.bk, env2, m2) => some (.nx, env2, m2)
        | r => r)
      | some (false, m1) => some (.nx, env, m1)
      | none => none) = some r → loopW ft f (n + 1) env m = some r := fun r q => by unfold loopW; rw [h3]; exact q
    cases b with
    | false => exact ⟨.nx, env, m1, go _ rfl, h5 rfl⟩
    | true =>
      obtain ⟨o, e2, m2, q, r⟩ := h4 rfl
      simp only [q] at go
      cases o with
      | nx =>
        obtain ⟨o, e3, m3, q, r⟩ := ih r.1 (Nat.lt_of_lt_of_le r.2 (Nat.le_of_lt_succ hn))
        exact ⟨o, e3, m3, go _ q, r⟩
      | ct =>
        obtain ⟨o, e3, m3, q, r⟩ := ih r.1 (Nat.lt_of_lt_of_le r.2 (Nat.le_of_lt_succ hn))
        exact ⟨o, e3, m3, go _ q, r⟩
      | bk => exact ⟨.nx, e2, m2, go _ rfl, r⟩
      | rt w => exact ⟨.rt w, e2, m2, go _ rfl, r⟩
theorem fuel_big {n : Nat} (h : n < 1099511627776) : n < fuel := h
/-! isinstance -/
theorem r_isi {T tn : String} (h1 : tyN m x = some tn) (h2 : kitB tn T = some b) : oIsi T x m = some (.bl b, m) := by
  unfold oIsi; rw [h1]; simp only; rw [h2]; rfl
theorem kit_ii : kitB "int" "int" = some true := by decide +kernel
theorem kit_ib : kitB "int" "bool" = some false := by decide +kernel
theorem kit_bb : kitB "bool" "bool" = some true := by decide +kernel
theorem kit_bi : kitB "bool" "int" = some true := by decide +kernel
theorem kit_ni : kitB "NoneType" "int" = some false := by decide +kernel
theorem kit_nb : kitB "NoneType" "bool" = some false := by decide +kernel
theorem kit_tt : kitB "tuple" "tuple" = some true := by decide +kernel
theorem kit_it : kitB "int" "tuple" = some false := by decide +kernel
theorem kit_nt : kitB "NoneType" "tuple" = some false := by decide +kernel
theorem kit_lt : kitB "list" "tuple" = some false := by decide +kernel
theorem kit_st : kitB "str" "tuple" = some false := by decide +kernel
theorem kit_bt : kitB "bool" "tuple" = some false := by decide +kernel
theorem kit_ll : kitB "list" "list" = some true := by decide +kernel
theorem kit_tl : kitB "tuple" "list" = some false := by decide +kernel
theorem kit_il : kitB "int" "list" = some false := by decide +kernel
theorem kit_nl : kitB "NoneType" "list" = some false := by decide +kernel
theorem kit_sl : kitB "str" "list" = some false := by decide +kernel
theorem kit_ss : kitB "str" "str" = some true := by decide +kernel
theorem kit_is : kitB "int" "str" = some false := by decide +kernel
theorem kit_ts : kitB "tuple" "str" = some false := by decide +kernel
theorem kit_ns : kitB "NoneType" "str" = some false := by decide +kernel
/-- ints of a list that a comprehension keeps -/
theorem r_lcI {vs : List Nat} {fi : FI} {fe : FE} {is : List Int} {p : Int → Bool} {q : Int → W} (h1 : fi env m = some (is.map W.int, gT, m1)) (hz : is.length ≤ sizeLine)
    (h : ∀ i ∈ is, stepC T vs ft fe env (.int i) m1 = some (if p i = true then some (q i) else none, m1)) : eLC T vs fi ft fe env m = some (.own ((is.filter p).map q), m1) := by
  have e : (is.filter p).map q = (is.map W.int).filterMap fun w => match w with
      | .int i => if p i = true then some (q i) else none
      | _ => none := by
    clear h1 hz h
    induction is with
    | nil => rfl
    | cons i is ih =>
      rw [List.map_cons, List.filterMap_cons, List.filter_cons]
      simp only
      by_cases hp : p i = true
      · rw [if_pos hp, if_pos hp, List.map_cons, ih]
      · rw [if_neg hp, if_neg hp, ih]
  rw [e]
  refine r_lc h1 (by rw [List.length_map]; exact hz) fun w hw => ?_
  obtain ⟨i, hi, rfl⟩ := List.mem_map.mp hw
  exact h i hi
theorem r_revI {ks : List Int} (h : lsOf m x = some (ks.map W.int)) : oRev x m = some (.own (ks.reverse.map W.int), m) := by rw [r_rev h, List.map_reverse]
theorem cutG_map {α β : Type} (f : α → β) (l : List α) (lo hi : Option Int) : cutG (l.map f) lo hi = (cutG l lo hi).map f := by
  unfold cutG; rw [List.length_map, ← List.map_drop, ← List.map_take]
theorem r_cutLI {ks : List Int} {lo hi : Option Int} (h : lsOf m x = some (ks.map W.int)) (hs : ∀ z, x ≠ .tup z) (ht : ∀ z, x ≠ .str z) : oCut x lo hi m = some (.own ((cutG ks lo hi).map W.int), m) := by
  rw [r_cutL h hs ht, cutG_map]
theorem r_addLI {ks ls : List Int} (h1 : lstOf m x = some (ks.map W.int)) (h2 : lstOf m y = some (ls.map W.int)) (h : ks.length + ls.length ≤ sizeLine) : oAdd x y m = some (.own ((ks ++ ls).map W.int), m) := by
  rw [r_addL h1 h2 (by rw [List.length_map, List.length_map]; exact h), List.map_append]
theorem r_lenI {ks : List Int} (h : sqOf m x = some (ks.map W.int)) (hs : ∀ z, x ≠ .str z) : oLen x m = some (.int ks.length, m) := by rw [r_len h hs, List.length_map]
theorem atI_map {α β : Type} {f : α → β} {l : List α} {i : Int} {v : α} (h : L2.atI l i = some v) : L2.atI (l.map f) i = some (f v) := by
  unfold L2.atI at *
  rw [List.length_map]
  cases q : ixN l.length i with
  | none => rw [q] at h; cases h
  | some j =>
    rw [q] at h
    have h' : l[j]? = some v := h
    show (l.map f)[j]? = _
    rw [List.getElem?_map, h']; rfl
theorem r_ixI {ks : List Int} {i v : Int} (h : sqOf m x = some (ks.map W.int)) (e : L2.atI ks i = some v) (hs : ∀ z, x ≠ .str z) : oIx x (.int i) m = some (.int v, m) := r_ix h (atI_map e) hs
theorem r_pow_10_7 : oPow (.int 10) (.int 7) m = some (.int 10000000, m) := by rw [r_pow (by decide)]; exact congrArg (fun z : Int => some (W.int z, m)) (by decide)
theorem r_pow_10_9 : oPow (.int 10) (.int 9) m = some (.int 1000000000, m) := by rw [r_pow (by decide)]; exact congrArg (fun z : Int => some (W.int z, m)) (by decide)
theorem r_pow_10_13 : oPow (.int 10) (.int 13) m = some (.int 10000000000000, m) := by rw [r_pow (by decide)]; exact congrArg (fun z : Int => some (W.int z, m)) (by decide)
theorem r_pow_10_19 : oPow (.int 10) (.int 19) m = some (.int 10000000000000000000, m) := by rw [r_pow (by decide)]; exact congrArg (fun z : Int => some (W.int z, m)) (by decide)
theorem r_pow_10_21 : oPow (.int 10) (.int 21) m = some (.int 1000000000000000000000, m) := by rw [r_pow (by decide)]; exact congrArg (fun z : Int => some (W.int z, m)) (by decide)
theorem r_pow_10_22 : oPow (.int 10) (.int 22) m = some (.int 10000000000000000000000, m) := by rw [r_pow (by decide)]; exact congrArg (fun z : Int => some (W.int z, m)) (by decide)
theorem r_pow_10_28 : oPow (.int 10) (.int 28) m = some (.int 10000000000000000000000000000, m) := by rw [r_pow (by decide)]; exact congrArg (fun z : Int => some (W.int z, m)) (by decide)
theorem r_pow_10_30 : oPow (.int 10) (.int 30) m = some (.int 1000000000000000000000000000000, m) := by rw [r_pow (by decide)]; exact congrArg (fun z : Int => some (W.int z, m)) (by decide)
theorem r_pow_10_40 : oPow (.int 10) (.int 40) m = some (.int 10000000000000000000000000000000000000000, m) := by rw [r_pow (by decide)]; exact congrArg (fun z : Int => some (W.int z, m)) (by decide)
theorem r_pow_10_60 : oPow (.int 10) (.int 60) m = some (.int 1000000000000000000000000000000000000000000000000000000000000, m) := by rw [r_pow (by decide)]; exact congrArg (fun z : Int => some (W.int z, m)) (by decide)
theorem r_pow_1000000007_3 : oPow (.int 1000000007) (.int 3) m = some (.int 1000000021000000147000000343, m) := by rw [r_pow (by decide)]; exact congrArg (fun z : Int => some (W.int z, m)) (by decide)
theorem filter_tt {α : Type} (l : List α) : l.filter (fun _ => true) = l := List.filter_eq_self.mpr fun _ _ => rfl
end
/-! ### data, equal or not -/
/-- data, at most k deep -/
def Dk (k : Nat) (w : W) : Prop := ∃ d, dOf w = some d ∧ d.canLay0 = true ∧ d.depth ≤ k
def Dks (k : Nat) (l : List W) : Prop := ∃ ds, dsOf l = some ds ∧ PyData.canLayAll0 ds = true ∧ PyData.depthAll ds ≤ k
section
variable {k : Nat} {w : W} {l : List W} {m : MH} {x y : W}
theorem Dks.nil : Dks k [] := ⟨[], rfl, rfl, Nat.zero_le _⟩
theorem Dks.cons (h : Dk k w) (t : Dks k l) : Dks k (w :: l) := by
  obtain ⟨d, h1, h2, h3⟩ := h
  obtain ⟨ds, t1, t2, t3⟩ := t
  refine ⟨d :: ds, ?_, ?_, ?_⟩
  · unfold dsOf; rw [h1, t1]
  · unfold PyData.canLayAll0; rw [h2, t2]; rfl
  · unfold PyData.depthAll; omega
theorem Dks.of : ∀ {l : List W}, (∀ w ∈ l, Dk k w) → Dks k l
  | [], _ => .nil
  | w :: l, h => .cons (h w List.mem_cons_self) (Dks.of fun w' hw => h w' (List.mem_cons_of_mem _ hw))
theorem Dk.int {i : Int} : Dk k (.int i) := ⟨_, rfl, rfl, Nat.zero_le _⟩
theorem Dk.non : Dk k .non := ⟨_, rfl, rfl, Nat.zero_le _⟩
theorem Dk.bl {b : Bool} : Dk k (.bl b) := ⟨_, rfl, rfl, Nat.zero_le _⟩
theorem Dk.str {z : Str} (h : PyData.strOk z = true) : Dk k (.str z) := ⟨_, rfl, h, Nat.zero_le _⟩
theorem Dk.tup (h : Dks k l) : Dk (k + 1) (.tup l) := by
  obtain ⟨ds, t1, t2, t3⟩ := h
  exact ⟨.tuple ds, by unfold dOf; rw [t1]; rfl, t2, by unfold PyData.depth; omega⟩
theorem Dk.lst (h : Dks k l) : Dk (k + 1) (.lst l) := by
  obtain ⟨ds, t1, t2, t3⟩ := h
  exact ⟨.list ds, by unfold dOf; rw [t1]; rfl, t2, by unfold PyData.depth; omega⟩
theorem Dk.mono {k' : Nat} (h : Dk k w) (hk : k ≤ k') : Dk k' w := by
  obtain ⟨d, h1, h2, h3⟩ := h
  exact ⟨d, h1, h2, by omega⟩
theorem Dks.ints {ks : List Int} : Dks k (ks.map W.int) := Dks.of fun w h => by
  obtain ⟨i, _, rfl⟩ := List.mem_map.mp h
  exact .int
theorem Dk.shaped (h : Dk 64 w) : ∃ d, dOf w = some d ∧ SeqAt.shaped d = true ∧ d.canLay0 = true := by
  obtain ⟨d, h1, h2, h3⟩ := h
  exact ⟨d, h1, by unfold SeqAt.shaped; rw [h2, decide_eq_true h3]; rfl, h2⟩
theorem eqB_data {d e : PyData} (hx : dOfM m x = some d) (hy : dOfM m y = some e) (sd : SeqAt.shaped d = true) (se : SeqAt.shaped e = true) : oEqB x y m = some (PyData.eqv d e) := by
  have gen : (match dOfM m x, dOfM m y with
    | some d, some e => if SeqAt.shaped d && SeqAt.shaped e then some (PyData.eqv d e) else none
    | _, _ => none) = some (PyData.eqv d e) := by rw [hx, hy]; simp only; rw [sd, se]; rfl
  unfold oEqB
  split
  · cases hx; cases hy; unfold PyData.eqv; simp [Bool.beq_eq_decide_eq]
  · cases hx; cases hy; unfold PyData.eqv; simp [Bool.beq_eq_decide_eq]
  · cases hx; cases hy; unfold PyData.eqv; simp [Bool.beq_eq_decide_eq]
  · cases hx; cases hy; rfl
  · cases hx; cases hy; rfl
  · cases hx; cases hy; rfl
  · exact gen
theorem dOfM_of (h : dOf x = some d) : dOfM m x = some d := by
  cases x <;> first | exact h | cases h
/-- the same data -/
theorem eqB_same (h : Dk 64 x) : oEqB x x m = some true := by
  obtain ⟨d, h1, h2, h3⟩ := h.shaped
  rw [eqB_data (dOfM_of h1) (dOfM_of h1) h2 h2]
  rw [SeqAt.eqv_refl d h3]
theorem r_eqSame (h : Dk 64 x) : oEq x x m = some (.bl true, m) := by unfold oEq; rw [eqB_same h]; rfl
theorem r_neSame (h : Dk 64 x) : oNe x x m = some (.bl false, m) := by unfold oNe; rw [eqB_same h]; rfl
theorem eqB_nilI {ks : List Int} (h : dOfM m x = (dsOf (ks.map W.int)).map PyData.list) : oEqB x (.own []) m = some ks.isEmpty := by
  obtain ⟨ds, h1, h2, h3⟩ := Dks.ints (k := 60) (ks := ks)
  rw [h1] at h
  rw [eqB_data h (e := .list []) rfl (by unfold SeqAt.shaped; rw [show PyData.canLay0 (.list ds) = true from h2, decide_eq_true (by unfold PyData.depth; omega)]; rfl) (by decide)]
  cases ks with
  | nil => cases h1; rfl
  | cons i ks =>
    unfold List.map dsOf at h1
    split at h1
    · cases h1; rfl
    · cases h1
theorem r_neNilI {ks : List Int} (h : dOfM m x = (dsOf (ks.map W.int)).map PyData.list) : oNe x (.own []) m = some (.bl (!ks.isEmpty), m) := by unfold oNe; rw [eqB_nilI h]; rfl
theorem r_eqNilI {ks : List Int} (h : dOfM m x = (dsOf (ks.map W.int)).map PyData.list) : oEq x (.own []) m = some (.bl ks.isEmpty, m) := by unfold oEq; rw [eqB_nilI h]; rfl
end
def optW : Option Int → W
  | none => .non
  | some i => .int i
end M
namespace M
open PySem L2
/-! ### running: lists, dicts, objects of the heap -/
section
variable {env : En} {m m1 m2 m3 : MH} {fa fb fc fo fi fv : FE} {fr : FA} {x y z v v' w : W} {r : W × MH} {l l' xs : List W} {n c i : Nat} {kvs : List (Key × W)} {k : Key} {fs : List W}
theorem isLst_of (h : m[n]? = some (.lst l)) : isLst m (.ref n) = true := by simp only [isLst, h]
theorem dctOf_of (h : m[n]? = some (.dct kvs)) : dctOf m (.ref n) = some (n, kvs) := by simp only [dctOf, h]
theorem insOf_of (h : m[n]? = some (.ins c fs)) : insOf c n m = some fs := by unfold insOf; rw [h]; simp
theorem lstOf_of (h : m[n]? = some (.lst l)) : lstOf m (.ref n) = some l := by simp only [lstOf, h]
theorem lsOf_of (h : m[n]? = some (.lst l)) : lsOf m (.ref n) = some l := lstOf_of h
theorem sqOf_of (h : m[n]? = some (.lst l)) : sqOf m (.ref n) = some l := lstOf_of h
theorem r_ref (h : fa env m = some (.own l, m1)) : eRef fa env m = some (.ref m1.length, m1 ++ [.lst l]) := by unfold eRef; rw [h]
theorem r_met {op : OpM} (h1 : fo env m = some (.ref n, m1)) (h2 : m1[n]? = some (.lst l)) (h3 : fr env m1 = some (xs, m2)) (h4 : op (.ref n) xs m2 = some r) : eMet op fo fr env m = some r := by
  unfold eMet; rw [h1]; simp only; rw [if_pos (isLst_of h2), h3]; exact h4
theorem r_met0 {op : OpM} (h1 : fo env m = some (.ref n, m1)) (h2 : m1[n]? = some (.lst l)) (h4 : op (.ref n) [] m1 = some r) : eMet0 op fo env m = some r := by
  unfold eMet0; rw [h1]; simp only; rw [if_pos (isLst_of h2)]; exact h4
theorem r_oApp (h : m[n]? = some (.lst l)) (hz : l.length < sizeLine) : oApp (.ref n) [y] m = some (.non, m.set n (.lst (l ++ [y]))) := by unfold oApp; simp only; rw [h]; simp only; rw [if_pos hz]
theorem r_oIns {j : Int} (h : m[n]? = some (.lst l)) (hz : l.length < sizeLine ∧ 0 ≤ j ∧ j < 2 ^ 63) : oIns (.ref n) [.int j, y] m = some (.non, m.set n (.lst (l.take j.toNat ++ [y] ++ l.drop j.toNat))) := by unfold oIns; simp only; rw [h]; simp only; rw [if_pos hz]
theorem r_oClr (h : m[n]? = some (.lst l)) : oClr (.ref n) [] m = some (.non, m.set n (.lst [])) := by unfold oClr; simp only; rw [h]
theorem r_oExtT (h : m[n]? = some (.lst l)) (hz : l.length + l'.length ≤ sizeLine) : oExt (.ref n) [.tup l'] m = some (.non, m.set n (.lst (l ++ l'))) := by unfold oExt; simp only; rw [h]; simp only; rw [if_pos hz]
theorem r_oExtL (h : m[n]? = some (.lst l)) (hz : l.length + l'.length ≤ sizeLine) : oExt (.ref n) [.lst l'] m = some (.non, m.set n (.lst (l ++ l'))) := by unfold oExt; simp only; rw [h]; simp only [lstOf]; rw [if_pos hz]
theorem r_store {j : Int} {q : Nat} (h1 : fv env m = some (v, m1)) (h2 : frz v = some v') (h3 : fo env m1 = some (.ref n, m2)) (h4 : fi env m2 = some (.int j, m3)) (h5 : m3[n]? = some (.lst l)) (h6 : ixN l.length j = some q) :
    fStore fo fi fv env m = some (.nx, env, m3.set n (.lst (l.set q v'))) := by
  unfold fStore; rw [h1]; simp only; rw [h2]; simp only; rw [h3]; simp only; rw [h4]; simp only; rw [h5]; simp only; rw [h6]
theorem r_ixR {j : Int} (h : m[n]? = some (.lst l)) (e : L2.atI l j = some y) : oIx (.ref n) (.int j) m = some (y, m) := r_ix (sqOf_of h) e nofun
theorem r_lenR (h : m[n]? = some (.lst l)) : oLen (.ref n) m = some (.int l.length, m) := r_len (sqOf_of h) nofun
theorem r_tupleR (h : m[n]? = some (.lst l)) : oTuple (.ref n) m = some (.tup l, m) := r_tupleL (lsOf_of h) nofun
theorem r_listR (h : m[n]? = some (.lst l)) : oList (.ref n) m = some (.own l, m) := r_list (sqOf_of h)
theorem r_cutR {lo hi : Option Int} (h : m[n]? = some (.lst l)) : oCut (.ref n) lo hi m = some (.own (cutG l lo hi), m) := r_cutL (lsOf_of h) nofun nofun
/-! dicts -/
theorem r_dnew : eDNew env m = some (.ref m.length, m ++ [.dct []]) := rfl
theorem r_dget (h1 : fo env m = some (.ref n, m1)) (h2 : fa env m1 = some (y, m2)) (h3 : m2[n]? = some (.dct kvs)) (h4 : keyW y = some k) (h5 : valW kvs k = some w) : eDGet fo fa env m = some (w, m2) := by
  unfold eDGet eBin; rw [h1]; simp only; rw [h2]; simp only; rw [dctOf_of h3, h4]; simp only; rw [h5]; rfl
theorem r_dgetT {ps : List (Key × W)} (h1 : fo env m = some (.ref n, m1)) (h2 : fa env m1 = some (y, m2)) (h3 : m2[n]? = some (.dct kvs)) (h4 : keyW y = some k) (h5 : valW kvs k = some w) : eDGet fo fa env m = some (w, m2) := r_dget h1 h2 h3 h4 h5
theorem r_din {b : Bool} (h : m[n]? = some (.dct kvs)) (hk : keyW y = some k) : oDIn b y (.ref n) m = some (.bl (if b then !(valW kvs k).isSome else (valW kvs k).isSome), m) := by
  unfold oDIn; rw [dctOf_of h, hk]
theorem r_dput (h1 : fv env m = some (v, m1)) (h2 : frz v = some v') (h3 : fo env m1 = some (.ref n, m2)) (h4 : fi env m2 = some (y, m3)) (h5 : m3[n]? = some (.dct kvs)) (h6 : keyW y = some k) (h7 : kvs.length < sizeLine) :
    fDPut fo fi fv env m = some (.nx, env, m3.set n (.dct (putW kvs k v'))) := by
  unfold fDPut; rw [h1]; simp only; rw [h2]; simp only; rw [h3]; simp only; rw [h4]; simp only; rw [dctOf_of h5, h6]; simp only; rw [if_pos h7]
theorem r_d2 {op : W → W → MH → Option (W × MH)} (h1 : fo env m = some (.ref n, m1)) (h2 : m1[n]? = some (.dct kvs)) (h3 : fa env m1 = some (y, m2)) (h4 : op (.ref n) y m2 = some r) : eD2 op fo fa env m = some r := by
  unfold eD2; rw [h1]; simp only; rw [dctOf_of h2]; simp only [Option.isSome_some, if_true]; rw [h3]; exact h4
theorem r_d3 {op : W → W → W → MH → Option (W × MH)} (h1 : fo env m = some (.ref n, m1)) (h2 : m1[n]? = some (.dct kvs)) (h3 : fa env m1 = some (y, m2)) (h4 : fb env m2 = some (z, m3)) (h5 : op (.ref n) y z m3 = some r) : eD3 op fo fa fb env m = some r := by
  unfold eD3; rw [h1]; simp only; rw [dctOf_of h2]; simp only [Option.isSome_some, if_true]; rw [h3]; simp only; rw [h4]; exact h5
theorem r_get1 (h : m[n]? = some (.dct kvs)) (hk : keyW y = some k) : oGet1 (.ref n) y m = some ((valW kvs k).getD .non, m) := by unfold oGet1; rw [dctOf_of h, hk]
theorem r_get1v (h : m[n]? = some (.dct kvs)) (hk : keyW y = some k) (hv : (valW kvs k).getD .non = w) : oGet1 (.ref n) y m = some (w, m) := by rw [r_get1 h hk, hv]
theorem r_get2v (h : m[n]? = some (.dct kvs)) (hk : keyW y = some k) (hv : (valW kvs k).getD z = w) : oGet2 (.ref n) y z m = some (w, m) := by unfold oGet2; rw [dctOf_of h, hk]; simp only; rw [hv]
theorem r_dinT {b : Bool} (h : m[n]? = some (.dct kvs)) (hk : keyW y = some k) (hv : valW kvs k = some w) : oDIn b y (.ref n) m = some (.bl (!b), m) := by unfold oDIn; rw [dctOf_of h, hk]; simp only; rw [hv]; cases b <;> rfl
theorem r_dinF {b : Bool} (h : m[n]? = some (.dct kvs)) (hk : keyW y = some k) (hv : valW kvs k = none) : oDIn b y (.ref n) m = some (.bl b, m) := by unfold oDIn; rw [dctOf_of h, hk]; simp only; rw [hv]; cases b <;> rfl
theorem r_get2 (h : m[n]? = some (.dct kvs)) (hk : keyW y = some k) : oGet2 (.ref n) y z m = some ((valW kvs k).getD z, m) := by unfold oGet2; rw [dctOf_of h, hk]
theorem r_pop1 (h : m[n]? = some (.dct kvs)) (hk : keyW y = some k) (hv : valW kvs k = some w) : oPop1 (.ref n) y m = some (w, m.set n (.dct (dropW kvs k))) := by unfold oPop1; rw [dctOf_of h, hk]; simp only; rw [hv]
theorem r_pop2S (h : m[n]? = some (.dct kvs)) (hk : keyW y = some k) (hv : valW kvs k = some w) : oPop2 (.ref n) y z m = some (w, m.set n (.dct (dropW kvs k))) := by unfold oPop2; rw [dctOf_of h, hk]; simp only; rw [hv]
theorem r_pop2N (h : m[n]? = some (.dct kvs)) (hk : keyW y = some k) (hv : valW kvs k = none) (hz : eltOk z = true) : oPop2 (.ref n) y z m = some (z, m) := by unfold oPop2; rw [dctOf_of h, hk]; simp only; rw [hv]; simp only; rw [if_pos hz]
theorem r_lenD (h : m[n]? = some (.dct kvs)) : oLenD (.ref n) m = some (.int kvs.length, m) := by unfold oLenD; rw [dctOf_of h]
theorem r_sortD {ks : List Int} (h : m[n]? = some (.dct kvs)) (hk : keysI kvs = some ks) (hz : ks.length ≤ sizeLine) : oSorted (.ref n) m = some (.own ((sortI ks).map W.int), m) := by
  unfold oSorted; rw [dctOf_of h]; simp only; rw [hk]; simp only; rw [if_pos hz]
theorem r_sortL {ks : List Int} (hd : dctOf m x = none) (h : lsOf m x = some (ks.map W.int)) : oSorted x m = some (.own ((sortI ks).map W.int), m) := by
  unfold oSorted; rw [hd]; simp only; rw [h]; simp only; rw [intsW_map]
/-! objects -/
theorem r_fld (h1 : fo env m = some (.ref n, m1)) (h2 : m1[n]? = some (.ins c fs)) (h3 : fs[i]? = some w) : eUn (oFld c i) fo env m = some (w, m1) := by
  unfold eUn; rw [h1]; unfold oFld; simp only; rw [insOf_of h2]; simp only; rw [h3]; rfl
theorem r_fFld {fs' : List W} (h1 : fv env m = some (v, m1)) (h2 : frz v = some v') (h3 : fo env m1 = some (.ref n, m2)) (h4 : m2[n]? = some (.ins c fs)) (h5 : putFs i v' fs = some fs') : fFld c i fo fv env m = some (.nx, env, m2.set n (.ins c fs')) := by
  unfold fFld; rw [h1]; simp only; rw [h2]; simp only; rw [h3]; simp only; rw [insOf_of h4]; simp only; rw [h5]
theorem r_fFldAug {op : Op2} {fs' : List W} (h1 : fo env m = some (.ref n, m1)) (h2 : m1[n]? = some (.ins c fs)) (h3 : fs[i]? = some x) (h4 : fv env m1 = some (y, m2)) (h5 : op x y m2 = some (z, m3)) (h6 : frz z = some v') (h7 : m3[n]? = some (.ins c fs')) (h8 : i < fs'.length) :
    fFldAug c i op fo fv env m = some (.nx, env, m3.set n (.ins c (fs'.set i v'))) := by
  unfold fFldAug; rw [h1]; simp only; rw [insOf_of h2]; simp only; rw [h3]; simp only; rw [h4]; simp only; rw [h5]; simp only; rw [h6]; simp only; rw [insOf_of h7]; simp only; rw [if_pos h8]
theorem r_me {φ : OpN} {q : Nat} (h1 : fo env m = some (.ref n, m1)) (h2 : m1[n]? = some (.ins c fs)) (h3 : fr env m1 = some (xs, m2)) (hq : (W.ref n :: xs).length = q) (h4 : φ (.ref n :: xs) m2 = some r) : eMe c q φ fo fr env m = some r := by
  unfold eMe; rw [h1]; simp only
  rw [if_pos (show isIns c m1 (.ref n) = true by unfold isIns; simp only; rw [insOf_of h2]; rfl), h3]
  simp only
  unfold oCall; rw [if_pos hq]; exact h4
theorem r_mk {φ : OpN} {q : Nat} (h3 : fr env m = some (xs, m1)) (hq : (W.ref m1.length :: xs).length = q) (h4 : φ (.ref m1.length :: xs) (m1 ++ [.ins c []]) = some (.non, m2)) : eMk c q φ fr env m = some (.ref m1.length, m2) := by
  unfold eMk; rw [h3]; simp only; unfold oCall; rw [if_pos hq, h4]
theorem r_ifE {t : FT} {b : Bool} (h1 : t env m = some (b, m1)) (h2 : b = true → fa env m1 = some r) (h3 : b = false → fb env m1 = some r) : eIfE t fa fb env m = some r := by
  unfold eIfE; rw [h1]
  cases b with
  | true => exact h2 rfl
  | false => exact h3 rfl
theorem r_eqS {a b : Str} : oEq (.str a) (.str b) m = some (.bl (decide (a = b)), m) := rfl
theorem r_tAndT {ft fu : FT} {b d : Bool} (h1 : ft env m = some (b, m1)) (hb : b = true) (h2 : fu env m1 = some (d, m2)) : tAndF ft fu env m = some (d, m2) := by subst hb; unfold tAndF; rw [h1]; exact h2
theorem r_tOrN {ft fu : FT} {b d : Bool} (h1 : ft env m = some (b, m1)) (hb : b = false) (h2 : fu env m1 = some (d, m2)) : tOrF ft fu env m = some (d, m2) := by subst hb; unfold tOrF; rw [h1]; exact h2
theorem r_andT {b : Bool} (h1 : fa env m = some (.bl b, m1)) (hb : b = true) (h2 : fb env m1 = some (w, m2)) : eAnd fa fb env m = some (w, m2) := by subst hb; unfold eAnd; rw [h1]; exact h2
theorem r_orN {b : Bool} (h1 : fa env m = some (.bl b, m1)) (hb : b = false) (h2 : fb env m1 = some (w, m2)) : eOr fa fb env m = some (w, m2) := by subst hb; unfold eOr; rw [h1]; exact h2
theorem r_eqST {a : Str} : oEq (.str a) (.str a) m = some (.bl true, m) := by rw [r_eqS, decide_eq_true rfl]
theorem r_eqSF {a b : Str} (h : a ≠ b) : oEq (.str a) (.str b) m = some (.bl false, m) := by rw [r_eqS, decide_eq_false h]
theorem r_neST {a : Str} : oNe (.str a) (.str a) m = some (.bl false, m) := by show some (W.bl (!decide (a = a)), m) = _; rw [decide_eq_true rfl]; rfl
theorem r_neSF {a b : Str} (h : a ≠ b) : oNe (.str a) (.str b) m = some (.bl true, m) := by show some (W.bl (!decide (a = b)), m) = _; rw [decide_eq_false h]; rfl
theorem r_neS {a b : Str} : oNe (.str a) (.str b) m = some (.bl (!decide (a = b)), m) := rfl
theorem r_eqNN : oEq .non .non m = some (.bl true, m) := rfl
theorem r_eqNI {j : Int} : oEq .non (.int j) m = some (.bl false, m) := rfl
theorem r_neNN : oNe .non .non m = some (.bl false, m) := rfl
theorem r_neNI {j : Int} : oNe .non (.int j) m = some (.bl true, m) := rfl
end
def rangeI (lo : Int) (n : Nat) : List Int := (List.range n).map fun (i : Nat) => lo + (i : Int)
theorem rangeW_I (lo : Int) (n : Nat) : rangeW lo n = (rangeI lo n).map W.int := by unfold rangeW rangeI; rw [List.map_map]; rfl
theorem rangeI_len (lo : Int) (n : Nat) : (rangeI lo n).length = n := by unfold rangeI; rw [List.length_map, List.length_range]
theorem rangeI_mem {lo : Int} {n : Nat} {i : Int} (h : i ∈ rangeI lo n) : lo ≤ i ∧ i < lo + n := by
  unfold rangeI at h
  obtain ⟨j, hj, rfl⟩ := List.mem_map.mp h
  have := List.mem_range.mp hj
  omega
theorem r_rg1I {fa : FE} {env : En} {m m1 : MH} {j : Int} (h1 : fa env m = some (.int j, m1)) (h : -(2 ^ 62) ≤ j ∧ j < 2 ^ 62) : iRg1 fa env m = some ((rangeI 0 j.toNat).map W.int, gT, m1) := by rw [← rangeW_I]; exact r_rg1 h1 h
theorem r_rg2I {fa fb : FE} {env : En} {m m1 m2 : MH} {i j : Int} (h1 : fa env m = some (.int i, m1)) (h2 : fb env m1 = some (.int j, m2)) (h : -(2 ^ 62) ≤ i ∧ i < 2 ^ 62 ∧ -(2 ^ 62) ≤ j ∧ j < 2 ^ 62) : iRg2 fa fb env m = some ((rangeI i (j - i).toNat).map W.int, gT, m2) := by rw [← rangeW_I]; exact r_rg2 h1 h2 h
/-- a statement that goes on, of which only P is kept -/
theorem wp_cut {f : FS} {env : En} {m : MH} {Q : Out → En → MH → Prop} (P : En → MH → Prop) (h : wp f env m (fun o e m' => o = .nx ∧ P e m')) (k : ∀ e m', P e m' → Q .nx e m') : wp f env m Q := by
  obtain ⟨o, e, m1, h1, rfl, h2⟩ := h
  exact ⟨.nx, e, m1, h1, k e m1 h2⟩
/-- a statement, of whose heap only P is kept -/
theorem wp_stP {f : FS} {env env1 : En} {m m1 : MH} {Q : Out → En → MH → Prop} (P : MH → Prop) (h1 : f env m = some (.nx, env1, m1)) (hP : P m1) (k : ∀ m', P m' → Q .nx env1 m') : wp f env m Q := ⟨.nx, env1, m1, h1, k m1 hP⟩
/-! what a set leaves -/
theorem set_at {α : Type} {l : List α} {n : Nat} {x y : α} (h : l[n]? = some y) : (l.set n x)[n]? = some x := List.getElem?_set_self (List.getElem?_eq_some_iff.mp h).1
theorem set_ne {α : Type} {l : List α} {n k : Nat} {x : α} (h : n ≠ k) : (l.set n x)[k]? = l[k]? := List.getElem?_set_ne h
theorem app_at {α : Type} {l : List α} {x : α} : (l ++ [x])[l.length]? = some x := by simp
theorem app_old {α : Type} {l t : List α} {n : Nat} {y : α} (h : l[n]? = some y) : (l ++ t)[n]? = some y := getApp h
theorem lt_of_get {α : Type} {l : List α} {n : Nat} {y : α} (h : l[n]? = some y) : n < l.length := (List.getElem?_eq_some_iff.mp h).1
end M
namespace Q
open PySem L2 M
def top (i : Nat) : Stmt := PySem.Challenge.pw_sidelink_k12_no_page.main.body.getD i (.Pass ⟨0, 0, 0, 0⟩)
structure TX (K : PySem.W.Frag) (mg : Str → Option Value) (cl : Nat → Cl) (xc : Nat → Addr) : Prop where
  b_ValueError : mg "ValueError" = none
  b_isinstance : mg "isinstance" = none
  b_len : mg "len" = none
  b_range : mg "range" = none
  c_Shelf : ClT K mg (cl 0) "Shelf" ["most_keys", "held", "top", "reads", "writes"]
  g_EMPTY_LEAF : GlobW K cl mg "EMPTY_LEAF" (.tup [(.int 0), (.tup []), (.tup []), .non, .non])
  r_NoPage : XcT K mg (xc 0) "NoPage"
  i_NoPage : ExcC K (xc 0)
  e_SideError : mg "SideError" = some (.ref (xc 1))
  e_NoRow : mg "NoRow" = some (.ref (xc 2))
  q_NoPage_NoRow : PySem.W.kitOne K (.ref (xc 0)) (.ref (xc 2)) = some false
  e_NoHand : mg "NoHand" = some (.ref (xc 3))
  q_NoPage_NoHand : PySem.W.kitOne K (.ref (xc 0)) (.ref (xc 3)) = some false
  e_NoDeed : mg "NoDeed" = some (.ref (xc 4))
  q_NoPage_NoDeed : PySem.W.kitOne K (.ref (xc 0)) (.ref (xc 4)) = some false
  e_Busy : mg "Busy" = some (.ref (xc 5))
  q_NoPage_Busy : PySem.W.kitOne K (.ref (xc 0)) (.ref (xc 5)) = some false
  q_NoPage_ValueError : PySem.W.kitOne K (.ref (xc 0)) (.type "ValueError") = some true
  e_NoPage : mg "NoPage" = some (.ref (xc 0))
  q_NoPage_NoPage : PySem.W.kitOne K (.ref (xc 0)) (.ref (xc 0)) = some true
  m_NoPage_SideError : PySem.W.exmOne K (.ref (xc 0)) (.ref (xc 1)) = some true
abbrev c_Shelf : Nat := 0
section
variable {P : Program} {w : World} {K : PySem.W.Frag} {mg : Str → Option Value} {base : Heap} {cl : Nat → Cl} {xc : Nat → Addr}
abbrev s_Shelf_init : Stmt := inClass (top 9) 0
abbrev Shelf_init_N : List Str := ["self", "room"]
theorem Shelf_init_sc : FnScope Shelf_init_N ["self", "room"] (defScope s_Shelf_init) := ⟨rfl, rfl, rfl, by decide +kernel, rfl, by decide +kernel, by decide +kernel⟩
noncomputable def Shelf_init_sem : FS :=
    (fSeq (fFld 0 0 (eVar 0) (eVar 1))
    (fSeq (fFld 0 1 (eVar 0) (eRef (eArg (oOwn 1) (aCons (eC (.tup [(.int 0), (.tup []), (.tup []), .non, .non])) aNil))))
    (fSeq (fFld 0 2 (eVar 0) (eC (.int 0)))
    (fSeq (fFld 0 3 (eVar 0) (eC (.int 0)))
    (fFld 0 4 (eVar 0) (eC (.int 0)))))))
noncomputable def Shelf_init_raw : OpN := bodyF 2 Shelf_init_sem
theorem Shelf_init_ok (D : InitAt K (cl 0) "Shelf.__init__" s_Shelf_init) (T : TX K mg cl xc)  : OkMk P w K mg base cl 0 1 2 Shelf_init_raw :=
  ok_mk (N := Shelf_init_N) 0 D Shelf_init_sc (fun _ _ _ _ _ _ us hl => match us, hl with | [_, _], _ => rfl) fun f cdv A outer s H E hr =>
    (ss_cons (sv_fld 0 0 T.c_Shelf (ev_var 0) (ev_var 1))
    (ss_cons (sv_fld 0 1 T.c_Shelf (ev_var 0) (ev_ref (ev_lst 1 (av_cons (ev_glob T.g_EMPTY_LEAF rfl) av_nil))))
    (ss_cons (sv_fld 0 2 T.c_Shelf (ev_var 0) ev_int)
    (ss_cons (sv_fld 0 3 T.c_Shelf (ev_var 0) ev_int)
    (ss_one (sv_fld 0 4 T.c_Shelf (ev_var 0) ev_int))))))

abbrev s_law_pick : Stmt := top 12
abbrev law_pick_N : List Str := ["cell", "prime", "many", "low"]
theorem law_pick_sc : FnScope law_pick_N ["cell", "prime", "many"] (defScope s_law_pick) := ⟨rfl, rfl, rfl, by decide +kernel, rfl, by decide +kernel, by decide +kernel⟩
noncomputable def law_pick_sem : FS :=
    (fSeq (fSetZ 3 (eBin oMod (eBin oAdd (eVar 0) (eBin oDiv (eVar 1) (eC (.int 3)))) (eVar 1)))
    (fRet (eBin oMod (eBin oMod (eBin oMul (eBin oMod (eBin oMul (eVar 3) (eVar 3)) (eVar 1)) (eVar 3)) (eVar 1)) (eVar 2))))
noncomputable def law_pick_raw : OpN := bodyF 4 law_pick_sem
theorem law_pick_ok (D : DefAt K mg "_law_pick" s_law_pick) (T : TX K mg cl xc)  : OkFn P w K mg base cl "_law_pick" 1 3 law_pick_raw :=
  ok_fn (N := law_pick_N) D law_pick_sc (fun _ _ _ _ _ _ us hl => match us, hl with | [_, _, _], _ => rfl) fun f cdv A outer s H E hr =>
    (ss_cons (sv_setZ 3 law_pick_sc.nd (ev_mod (ev_add (ev_var 0) (ev_div (ev_var 1) ev_int)) (ev_var 1)))
    (ss_one (sv_ret (ev_mod (ev_mod (ev_mul (ev_mod (ev_mul (ev_var 3) (ev_var 3)) (ev_var 1)) (ev_var 3)) (ev_var 1)) (ev_var 2)))))

abbrev s_law_bad : Stmt := top 17
abbrev law_bad_N : List Str := ["cell", "many", "far"]
theorem law_bad_sc : FnScope law_bad_N ["cell", "many"] (defScope s_law_bad) := ⟨rfl, rfl, rfl, by decide +kernel, rfl, by decide +kernel, by decide +kernel⟩
noncomputable def law_bad_sem : FS :=
    (fSeq (fSetZ 2 (eBin oAdd (eC (.int 2)) (eBin oMod (eVar 0) (eBin oPow (eC (.int 10)) (eC (.int 30))))))
    (fRet (eBin oIx (eArg (oOwn 6) (aCons (eUn oNeg (eC (.int 1))) (aCons (eUn oNeg (eC (.int 2))) (aCons (eVar 1) (aCons (eBin oAdd (eVar 1) (eC (.int 1))) (aCons (eBin oAdd (eVar 1) (eVar 2)) (aCons (eBin oSub (eC (.int 0)) (eVar 2)) aNil))))))) (eArg (oCall 3 law_pick_raw) (aCons (eVar 0) (aCons (eC (.int 10067)) (aCons (eC (.int 6)) aNil)))))))
noncomputable def law_bad_raw : OpN := bodyF 3 law_bad_sem
theorem law_bad_ok (D : DefAt K mg "_law_bad" s_law_bad) (T : TX K mg cl xc) (O_law_pick : OkFn P w K mg base cl "_law_pick" 1 3 law_pick_raw) : OkFn P w K mg base cl "_law_bad" 2 2 law_bad_raw :=
  ok_fn (N := law_bad_N) D law_bad_sc (fun _ _ _ _ _ _ us hl => match us, hl with | [_, _], _ => rfl) fun f cdv A outer s H E hr =>
    (ss_cons (sv_setZ 2 law_bad_sc.nd (ev_add ev_int (ev_mod (ev_var 0) (ev_pow ev_int ev_int))))
    (ss_one (sv_ret (ev_ix (ev_lst 6 (av_cons (ev_neg ev_int) (av_cons (ev_neg ev_int) (av_cons (ev_var 1) (av_cons (ev_add (ev_var 1) ev_int) (av_cons (ev_add (ev_var 1) (ev_var 2)) (av_cons (ev_sub ev_int (ev_var 2)) av_nil))))))) (ev_fn O_law_pick hr (by decide) rfl (av_cons (ev_var 0) (av_cons ev_int (av_cons ev_int av_nil))))))))

abbrev s_Shelf_pages : Stmt := inClass (top 9) 9
abbrev Shelf_pages_N : List Str := ["self"]
theorem Shelf_pages_sc : FnScope Shelf_pages_N ["self"] (defScope s_Shelf_pages) := ⟨rfl, rfl, rfl, by decide +kernel, rfl, by decide +kernel, by decide +kernel⟩
noncomputable def Shelf_pages_sem : FS :=
    (fRet (eUn oLen (eUn (oFld 0 1) (eVar 0))))
noncomputable def Shelf_pages_raw : OpN := bodyF 1 Shelf_pages_sem
theorem Shelf_pages_ok (D : MethAt K (cl 0) "pages" "Shelf.pages" s_Shelf_pages) (T : TX K mg cl xc)  : OkMe P w K mg base cl 0 "pages" 1 1 Shelf_pages_raw :=
  ok_me (N := Shelf_pages_N) 0 D Shelf_pages_sc (fun _ _ _ _ _ _ us hl => match us, hl with | [_], _ => rfl) fun f cdv A outer s H E hr =>
    (ss_one (sv_ret (ev_len rfl T.b_len (ev_fld 0 1 T.c_Shelf (ev_var 0)))))

abbrev s_Shelf_root : Stmt := inClass (top 9) 5
abbrev Shelf_root_N : List Str := ["self"]
theorem Shelf_root_sc : FnScope Shelf_root_N ["self"] (defScope s_Shelf_root) := ⟨rfl, rfl, rfl, by decide +kernel, rfl, by decide +kernel, by decide +kernel⟩
noncomputable def Shelf_root_sem : FS :=
    (fRet (eUn (oFld 0 2) (eVar 0)))
noncomputable def Shelf_root_raw : OpN := bodyF 1 Shelf_root_sem
theorem Shelf_root_ok (D : MethAt K (cl 0) "root" "Shelf.root" s_Shelf_root) (T : TX K mg cl xc)  : OkMe P w K mg base cl 0 "root" 1 1 Shelf_root_raw :=
  ok_me (N := Shelf_root_N) 0 D Shelf_root_sc (fun _ _ _ _ _ _ us hl => match us, hl with | [_], _ => rfl) fun f cdv A outer s H E hr =>
    (ss_one (sv_ret (ev_fld 0 2 T.c_Shelf (ev_var 0))))

abbrev s_Shelf_readings : Stmt := inClass (top 9) 10
abbrev Shelf_readings_N : List Str := ["self"]
theorem Shelf_readings_sc : FnScope Shelf_readings_N ["self"] (defScope s_Shelf_readings) := ⟨rfl, rfl, rfl, by decide +kernel, rfl, by decide +kernel, by decide +kernel⟩
noncomputable def Shelf_readings_sem : FS :=
    (fRet (eUn (oFld 0 3) (eVar 0)))
noncomputable def Shelf_readings_raw : OpN := bodyF 1 Shelf_readings_sem
theorem Shelf_readings_ok (D : MethAt K (cl 0) "readings" "Shelf.readings" s_Shelf_readings) (T : TX K mg cl xc)  : OkMe P w K mg base cl 0 "readings" 1 1 Shelf_readings_raw :=
  ok_me (N := Shelf_readings_N) 0 D Shelf_readings_sc (fun _ _ _ _ _ _ us hl => match us, hl with | [_], _ => rfl) fun f cdv A outer s H E hr =>
    (ss_one (sv_ret (ev_fld 0 3 T.c_Shelf (ev_var 0))))

abbrev s_Shelf_writings : Stmt := inClass (top 9) 11
abbrev Shelf_writings_N : List Str := ["self"]
theorem Shelf_writings_sc : FnScope Shelf_writings_N ["self"] (defScope s_Shelf_writings) := ⟨rfl, rfl, rfl, by decide +kernel, rfl, by decide +kernel, by decide +kernel⟩
noncomputable def Shelf_writings_sem : FS :=
    (fRet (eUn (oFld 0 4) (eVar 0)))
noncomputable def Shelf_writings_raw : OpN := bodyF 1 Shelf_writings_sem
theorem Shelf_writings_ok (D : MethAt K (cl 0) "writings" "Shelf.writings" s_Shelf_writings) (T : TX K mg cl xc)  : OkMe P w K mg base cl 0 "writings" 1 1 Shelf_writings_raw :=
  ok_me (N := Shelf_writings_N) 0 D Shelf_writings_sc (fun _ _ _ _ _ _ us hl => match us, hl with | [_], _ => rfl) fun f cdv A outer s H E hr =>
    (ss_one (sv_ret (ev_fld 0 4 T.c_Shelf (ev_var 0))))

abbrev s_Shelf_room : Stmt := inClass (top 9) 8
abbrev Shelf_room_N : List Str := ["self"]
theorem Shelf_room_sc : FnScope Shelf_room_N ["self"] (defScope s_Shelf_room) := ⟨rfl, rfl, rfl, by decide +kernel, rfl, by decide +kernel, by decide +kernel⟩
noncomputable def Shelf_room_sem : FS :=
    (fRet (eUn (oFld 0 0) (eVar 0)))
noncomputable def Shelf_room_raw : OpN := bodyF 1 Shelf_room_sem
theorem Shelf_room_ok (D : MethAt K (cl 0) "room" "Shelf.room" s_Shelf_room) (T : TX K mg cl xc)  : OkMe P w K mg base cl 0 "room" 1 1 Shelf_room_raw :=
  ok_me (N := Shelf_room_N) 0 D Shelf_room_sc (fun _ _ _ _ _ _ us hl => match us, hl with | [_], _ => rfl) fun f cdv A outer s H E hr =>
    (ss_one (sv_ret (ev_fld 0 0 T.c_Shelf (ev_var 0))))

abbrev s_law_counts : Stmt := top 16
abbrev law_counts_N : List Str := ["shelf"]
theorem law_counts_sc : FnScope law_counts_N ["shelf"] (defScope s_law_counts) := ⟨rfl, rfl, rfl, by decide +kernel, rfl, by decide +kernel, by decide +kernel⟩
noncomputable def law_counts_sem : FS :=
    (fRet (eArg (oTup 5) (aCons (eMe 0 1 Shelf_pages_raw (eVar 0) aNil) (aCons (eMe 0 1 Shelf_root_raw (eVar 0) aNil) (aCons (eMe 0 1 Shelf_readings_raw (eVar 0) aNil) (aCons (eMe 0 1 Shelf_writings_raw (eVar 0) aNil) (aCons (eMe 0 1 Shelf_room_raw (eVar 0) aNil) aNil)))))))
noncomputable def law_counts_raw : OpN := bodyF 1 law_counts_sem
theorem law_counts_ok (D : DefAt K mg "_law_counts" s_law_counts) (T : TX K mg cl xc) (O_Shelf_pages : OkMe P w K mg base cl 0 "pages" 1 1 Shelf_pages_raw) (O_Shelf_root : OkMe P w K mg base cl 0 "root" 1 1 Shelf_root_raw) (O_Shelf_readings : OkMe P w K mg base cl 0 "readings" 1 1 Shelf_readings_raw) (O_Shelf_writings : OkMe P w K mg base cl 0 "writings" 1 1 Shelf_writings_raw) (O_Shelf_room : OkMe P w K mg base cl 0 "room" 1 1 Shelf_room_raw) : OkFn P w K mg base cl "_law_counts" 2 1 law_counts_raw :=
  ok_fn (N := law_counts_N) D law_counts_sc (fun _ _ _ _ _ _ us hl => match us, hl with | [_], _ => rfl) fun f cdv A outer s H E hr =>
    (ss_one (sv_ret (ev_tup 5 (av_cons (ev_meth0 0 O_Shelf_pages T.c_Shelf hr (by decide) (ev_var 0)) (av_cons (ev_meth0 0 O_Shelf_root T.c_Shelf hr (by decide) (ev_var 0)) (av_cons (ev_meth0 0 O_Shelf_readings T.c_Shelf hr (by decide) (ev_var 0)) (av_cons (ev_meth0 0 O_Shelf_writings T.c_Shelf hr (by decide) (ev_var 0)) (av_cons (ev_meth0 0 O_Shelf_room T.c_Shelf hr (by decide) (ev_var 0)) av_nil))))))))

abbrev s_Shelf_need : Stmt := inClass (top 9) 1
abbrev Shelf_need_N : List Str := ["self", "number"]
theorem Shelf_need_sc : FnScope Shelf_need_N ["self", "number"] (defScope s_Shelf_need) := ⟨rfl, rfl, rfl, by decide +kernel, rfl, by decide +kernel, by decide +kernel⟩
noncomputable def Shelf_need_sem : FS :=
    (fIf (tOrF (tOf (eBin oLt (eVar 1) (eC (.int 0)))) (tOf (eBin oGe (eVar 1) (eUn oLen (eUn (oFld 0 1) (eVar 0)))))) fNever fNext)
noncomputable def Shelf_need_raw : OpN := bodyF 2 Shelf_need_sem
theorem Shelf_need_ok (D : MethAt K (cl 0) "need" "Shelf.need" s_Shelf_need) (T : TX K mg cl xc)  : OkMe P w K mg base cl 0 "need" 1 2 Shelf_need_raw :=
  ok_me (N := Shelf_need_N) 0 D Shelf_need_sc (fun _ _ _ _ _ _ us hl => match us, hl with | [_, _], _ => rfl) fun f cdv A outer s H E hr =>
    (ss_one (sv_if (WV.tv (wv_or (tv_cm cm_lt (ev_var 1) ev_int) (wv_or1 (tv_cm cm_ge (ev_var 1) (ev_len rfl T.b_len (ev_fld 0 1 T.c_Shelf (ev_var 0))))))) (ss_one sv_never) ss_nil))
noncomputable def Shelf_need_semx : FRS :=
    (xIf (tOrF (tOf (eBin oLt (eVar 1) (eC (.int 0)))) (tOf (eBin oGe (eVar 1) (eUn oLen (eUn (oFld 0 1) (eVar 0)))))) (xRaise 0) xNever)
noncomputable def Shelf_need_rawx : OpR := bodyX 2 Shelf_need_semx
theorem Shelf_need_okx (D : MethAt K (cl 0) "need" "Shelf.need" s_Shelf_need) (T : TX K mg cl xc)   : OkMeR P w K mg base cl xc 0 "need" 1 2 Shelf_need_rawx :=
  ok_meR (N := Shelf_need_N) 0 D Shelf_need_sc (fun _ _ _ _ _ _ us hl => match us, hl with | [_, _], _ => rfl) fun f cdv A outer s H E hr =>
    (rss_head (rs_if (WV.tv (wv_or (tv_cm cm_lt (ev_var 1) ev_int) (wv_or1 (tv_cm cm_ge (ev_var 1) (ev_len rfl T.b_len (ev_fld 0 1 T.c_Shelf (ev_var 0))))))) (rss_head (rs_raise 0 T.r_NoPage rfl)) rss_never))

abbrev s_Shelf_lay : Stmt := inClass (top 9) 4
abbrev Shelf_lay_N : List Str := ["self", "page"]
theorem Shelf_lay_sc : FnScope Shelf_lay_N ["self", "page"] (defScope s_Shelf_lay) := ⟨rfl, rfl, rfl, by decide +kernel, rfl, by decide +kernel, by decide +kernel⟩
noncomputable def Shelf_lay_sem : FS :=
    (fSeq (fFldAug 0 4 oAddI (eVar 0) (eC (.int 1)))
    (fSeq (fDrop (eMet oApp (eUn (oFld 0 1) (eVar 0)) (aCons (eVar 1) aNil)))
    (fRet (eBin oSub (eUn oLen (eUn (oFld 0 1) (eVar 0))) (eC (.int 1))))))
noncomputable def Shelf_lay_raw : OpN := bodyF 2 Shelf_lay_sem
theorem Shelf_lay_ok (D : MethAt K (cl 0) "lay" "Shelf.lay" s_Shelf_lay) (T : TX K mg cl xc)  : OkMe P w K mg base cl 0 "lay" 1 2 Shelf_lay_raw :=
  ok_me (N := Shelf_lay_N) 0 D Shelf_lay_sc (fun _ _ _ _ _ _ us hl => match us, hl with | [_, _], _ => rfl) fun f cdv A outer s H E hr =>
    (ss_cons (sv_fldaug 0 4 T.c_Shelf iop_add (oI2_ok (by intros; exact RelW.int _)) (ev_var 0) ev_int)
    (ss_cons (sv_drop (ev_append (ev_fld 0 1 T.c_Shelf (ev_var 0)) (av_cons (ev_var 1) av_nil)))
    (ss_one (sv_ret (ev_sub (ev_len rfl T.b_len (ev_fld 0 1 T.c_Shelf (ev_var 0))) ev_int)))))

abbrev s_Shelf_raise_root : Stmt := inClass (top 9) 7
abbrev Shelf_raise_root_N : List Str := ["self", "key", "number", "level"]
theorem Shelf_raise_root_sc : FnScope Shelf_raise_root_N ["self", "key", "number"] (defScope s_Shelf_raise_root) := ⟨rfl, rfl, rfl, by decide +kernel, rfl, by decide +kernel, by decide +kernel⟩
noncomputable def Shelf_raise_root_sem : FS :=
    (fSeq (fDrop (eMe 0 2 Shelf_need_raw (eVar 0) (aCons (eVar 2) aNil)))
    (fSeq (fSetZ 3 (eBin oAdd (eBin oIx (eBin oIx (eUn (oFld 0 1) (eVar 0)) (eUn (oFld 0 2) (eVar 0))) (eC (.int 0))) (eC (.int 1))))
    (fSeq (fFld 0 2 (eVar 0) (eMe 0 2 Shelf_lay_raw (eVar 0) (aCons (eArg (oTup 5) (aCons (eVar 3) (aCons (eArg (oTup 1) (aCons (eVar 1) aNil)) (aCons (eArg (oTup 2) (aCons (eUn (oFld 0 2) (eVar 0)) (aCons (eVar 2) aNil))) (aCons (eC .non) (aCons (eC .non) aNil)))))) aNil)))
    (fRet (eUn (oFld 0 2) (eVar 0))))))
noncomputable def Shelf_raise_root_raw : OpN := bodyF 4 Shelf_raise_root_sem
theorem Shelf_raise_root_ok (D : MethAt K (cl 0) "raise_root" "Shelf.raise_root" s_Shelf_raise_root) (T : TX K mg cl xc) (O_Shelf_need : OkMe P w K mg base cl 0 "need" 1 2 Shelf_need_raw) (O_Shelf_lay : OkMe P w K mg base cl 0 "lay" 1 2 Shelf_lay_raw) : OkMe P w K mg base cl 0 "raise_root" 2 3 Shelf_raise_root_raw :=
  ok_me (N := Shelf_raise_root_N) 0 D Shelf_raise_root_sc (fun _ _ _ _ _ _ us hl => match us, hl with | [_, _, _], _ => rfl) fun f cdv A outer s H E hr =>
    (ss_cons (sv_drop (ev_meth 0 O_Shelf_need T.c_Shelf hr (by decide) (ev_var 0) (av_cons (ev_var 2) av_nil)))
    (ss_cons (sv_setZ 3 Shelf_raise_root_sc.nd (ev_add (ev_ix (ev_ix (ev_fld 0 1 T.c_Shelf (ev_var 0)) (ev_fld 0 2 T.c_Shelf (ev_var 0))) ev_int) ev_int))
    (ss_cons (sv_fld 0 2 T.c_Shelf (ev_var 0) (ev_meth 0 O_Shelf_lay T.c_Shelf hr (by decide) (ev_var 0) (av_cons (ev_tup 5 (av_cons (ev_var 3) (av_cons (ev_tup 1 (av_cons (ev_var 1) av_nil)) (av_cons (ev_tup 2 (av_cons (ev_fld 0 2 T.c_Shelf (ev_var 0)) (av_cons (ev_var 2) av_nil))) (av_cons ev_non (av_cons ev_non av_nil)))))) av_nil)))
    (ss_one (sv_ret (ev_fld 0 2 T.c_Shelf (ev_var 0)))))))
noncomputable def Shelf_raise_root_semx : FRS :=
    (xDrop (xMe 0 2 Shelf_need_rawx (eVar 0) (aCons (eVar 2) aNil)))
noncomputable def Shelf_raise_root_rawx : OpR := bodyX 4 Shelf_raise_root_semx
theorem Shelf_raise_root_okx (D : MethAt K (cl 0) "raise_root" "Shelf.raise_root" s_Shelf_raise_root) (T : TX K mg cl xc) (O_Shelf_need : OkMe P w K mg base cl 0 "need" 1 2 Shelf_need_raw) (O_Shelf_lay : OkMe P w K mg base cl 0 "lay" 1 2 Shelf_lay_raw) (Ox_Shelf_need : OkMeR P w K mg base cl xc 0 "need" 1 2 Shelf_need_rawx) : OkMeR P w K mg base cl xc 0 "raise_root" 2 3 Shelf_raise_root_rawx :=
  ok_meR (N := Shelf_raise_root_N) 0 D Shelf_raise_root_sc (fun _ _ _ _ _ _ us hl => match us, hl with | [_, _, _], _ => rfl) fun f cdv A outer s H E hr =>
    (rss_head (rs_drop (rv_meth 0 Ox_Shelf_need T.c_Shelf hr (by decide) (by exact (ev_var 0)) (by exact (av_cons (ev_var 2) av_nil)))))

abbrev s_Shelf_read : Stmt := inClass (top 9) 2
abbrev Shelf_read_N : List Str := ["self", "number"]
theorem Shelf_read_sc : FnScope Shelf_read_N ["self", "number"] (defScope s_Shelf_read) := ⟨rfl, rfl, rfl, by decide +kernel, rfl, by decide +kernel, by decide +kernel⟩
noncomputable def Shelf_read_sem : FS :=
    (fSeq (fDrop (eMe 0 2 Shelf_need_raw (eVar 0) (aCons (eVar 1) aNil)))
    (fSeq (fFldAug 0 3 oAddI (eVar 0) (eC (.int 1)))
    (fRet (eBin oIx (eUn (oFld 0 1) (eVar 0)) (eVar 1)))))
noncomputable def Shelf_read_raw : OpN := bodyF 2 Shelf_read_sem
theorem Shelf_read_ok (D : MethAt K (cl 0) "read" "Shelf.read" s_Shelf_read) (T : TX K mg cl xc) (O_Shelf_need : OkMe P w K mg base cl 0 "need" 1 2 Shelf_need_raw) : OkMe P w K mg base cl 0 "read" 2 2 Shelf_read_raw :=
  ok_me (N := Shelf_read_N) 0 D Shelf_read_sc (fun _ _ _ _ _ _ us hl => match us, hl with | [_, _], _ => rfl) fun f cdv A outer s H E hr =>
    (ss_cons (sv_drop (ev_meth 0 O_Shelf_need T.c_Shelf hr (by decide) (ev_var 0) (av_cons (ev_var 1) av_nil)))
    (ss_cons (sv_fldaug 0 3 T.c_Shelf iop_add (oI2_ok (by intros; exact RelW.int _)) (ev_var 0) ev_int)
    (ss_one (sv_ret (ev_ix (ev_fld 0 1 T.c_Shelf (ev_var 0)) (ev_var 1))))))
noncomputable def Shelf_read_semx : FRS :=
    (xDrop (xMe 0 2 Shelf_need_rawx (eVar 0) (aCons (eVar 1) aNil)))
noncomputable def Shelf_read_rawx : OpR := bodyX 2 Shelf_read_semx
theorem Shelf_read_okx (D : MethAt K (cl 0) "read" "Shelf.read" s_Shelf_read) (T : TX K mg cl xc) (O_Shelf_need : OkMe P w K mg base cl 0 "need" 1 2 Shelf_need_raw) (Ox_Shelf_need : OkMeR P w K mg base cl xc 0 "need" 1 2 Shelf_need_rawx) : OkMeR P w K mg base cl xc 0 "read" 2 2 Shelf_read_rawx :=
  ok_meR (N := Shelf_read_N) 0 D Shelf_read_sc (fun _ _ _ _ _ _ us hl => match us, hl with | [_, _], _ => rfl) fun f cdv A outer s H E hr =>
    (rss_head (rs_drop (rv_meth 0 Ox_Shelf_need T.c_Shelf hr (by decide) (by exact (ev_var 0)) (by exact (av_cons (ev_var 1) av_nil)))))

abbrev s_Shelf_write : Stmt := inClass (top 9) 3
abbrev Shelf_write_N : List Str := ["self", "number", "page"]
theorem Shelf_write_sc : FnScope Shelf_write_N ["self", "number", "page"] (defScope s_Shelf_write) := ⟨rfl, rfl, rfl, by decide +kernel, rfl, by decide +kernel, by decide +kernel⟩
noncomputable def Shelf_write_sem : FS :=
    (fSeq (fDrop (eMe 0 2 Shelf_need_raw (eVar 0) (aCons (eVar 1) aNil)))
    (fSeq (fFldAug 0 4 oAddI (eVar 0) (eC (.int 1)))
    (fStore (eUn (oFld 0 1) (eVar 0)) (eVar 1) (eVar 2))))
noncomputable def Shelf_write_raw : OpN := bodyF 3 Shelf_write_sem
theorem Shelf_write_ok (D : MethAt K (cl 0) "write" "Shelf.write" s_Shelf_write) (T : TX K mg cl xc) (O_Shelf_need : OkMe P w K mg base cl 0 "need" 1 2 Shelf_need_raw) : OkMe P w K mg base cl 0 "write" 2 3 Shelf_write_raw :=
  ok_me (N := Shelf_write_N) 0 D Shelf_write_sc (fun _ _ _ _ _ _ us hl => match us, hl with | [_, _, _], _ => rfl) fun f cdv A outer s H E hr =>
    (ss_cons (sv_drop (ev_meth 0 O_Shelf_need T.c_Shelf hr (by decide) (ev_var 0) (av_cons (ev_var 1) av_nil)))
    (ss_cons (sv_fldaug 0 4 T.c_Shelf iop_add (oI2_ok (by intros; exact RelW.int _)) (ev_var 0) ev_int)
    (ss_one (sv_store (ev_fld 0 1 T.c_Shelf (ev_var 0)) (ev_var 1) (ev_var 2)))))
noncomputable def Shelf_write_semx : FRS :=
    (xDrop (xMe 0 2 Shelf_need_rawx (eVar 0) (aCons (eVar 1) aNil)))
noncomputable def Shelf_write_rawx : OpR := bodyX 3 Shelf_write_semx
theorem Shelf_write_okx (D : MethAt K (cl 0) "write" "Shelf.write" s_Shelf_write) (T : TX K mg cl xc) (O_Shelf_need : OkMe P w K mg base cl 0 "need" 1 2 Shelf_need_raw) (Ox_Shelf_need : OkMeR P w K mg base cl xc 0 "need" 1 2 Shelf_need_rawx) : OkMeR P w K mg base cl xc 0 "write" 2 3 Shelf_write_rawx :=
  ok_meR (N := Shelf_write_N) 0 D Shelf_write_sc (fun _ _ _ _ _ _ us hl => match us, hl with | [_, _, _], _ => rfl) fun f cdv A outer s H E hr =>
    (rss_head (rs_drop (rv_meth 0 Ox_Shelf_need T.c_Shelf hr (by decide) (by exact (ev_var 0)) (by exact (av_cons (ev_var 1) av_nil)))))

abbrev s_Shelf_make_root : Stmt := inClass (top 9) 6
abbrev Shelf_make_root_N : List Str := ["self", "number"]
theorem Shelf_make_root_sc : FnScope Shelf_make_root_N ["self", "number"] (defScope s_Shelf_make_root) := ⟨rfl, rfl, rfl, by decide +kernel, rfl, by decide +kernel, by decide +kernel⟩
noncomputable def Shelf_make_root_sem : FS :=
    (fSeq (fDrop (eMe 0 2 Shelf_need_raw (eVar 0) (aCons (eVar 1) aNil)))
    (fFld 0 2 (eVar 0) (eVar 1)))
noncomputable def Shelf_make_root_raw : OpN := bodyF 2 Shelf_make_root_sem
theorem Shelf_make_root_ok (D : MethAt K (cl 0) "make_root" "Shelf.make_root" s_Shelf_make_root) (T : TX K mg cl xc) (O_Shelf_need : OkMe P w K mg base cl 0 "need" 1 2 Shelf_need_raw) : OkMe P w K mg base cl 0 "make_root" 2 2 Shelf_make_root_raw :=
  ok_me (N := Shelf_make_root_N) 0 D Shelf_make_root_sc (fun _ _ _ _ _ _ us hl => match us, hl with | [_, _], _ => rfl) fun f cdv A outer s H E hr =>
    (ss_cons (sv_drop (ev_meth 0 O_Shelf_need T.c_Shelf hr (by decide) (ev_var 0) (av_cons (ev_var 1) av_nil)))
    (ss_one (sv_fld 0 2 T.c_Shelf (ev_var 0) (ev_var 1))))
noncomputable def Shelf_make_root_semx : FRS :=
    (xDrop (xMe 0 2 Shelf_need_rawx (eVar 0) (aCons (eVar 1) aNil)))
noncomputable def Shelf_make_root_rawx : OpR := bodyX 2 Shelf_make_root_semx
theorem Shelf_make_root_okx (D : MethAt K (cl 0) "make_root" "Shelf.make_root" s_Shelf_make_root) (T : TX K mg cl xc) (O_Shelf_need : OkMe P w K mg base cl 0 "need" 1 2 Shelf_need_raw) (Ox_Shelf_need : OkMeR P w K mg base cl xc 0 "need" 1 2 Shelf_need_rawx) : OkMeR P w K mg base cl xc 0 "make_root" 2 2 Shelf_make_root_rawx :=
  ok_meR (N := Shelf_make_root_N) 0 D Shelf_make_root_sc (fun _ _ _ _ _ _ us hl => match us, hl with | [_, _], _ => rfl) fun f cdv A outer s H E hr =>
    (rss_head (rs_drop (rv_meth 0 Ox_Shelf_need T.c_Shelf hr (by decide) (by exact (ev_var 0)) (by exact (av_cons (ev_var 1) av_nil)))))

abbrev s_law_leaf : Stmt := top 13
abbrev law_leaf_N : List Str := ["cell", "key"]
theorem law_leaf_sc : FnScope law_leaf_N ["cell"] (defScope s_law_leaf) := ⟨rfl, rfl, rfl, by decide +kernel, rfl, by decide +kernel, by decide +kernel⟩
noncomputable def law_leaf_sem : FS :=
    (fSeq (fSetZ 1 (eBin oAdd (eBin oSub (eBin oMod (eBin oAdd (eBin oMul (eBin oMod (eVar 0) (eBin oPow (eC (.int 10)) (eC (.int 40)))) (eC (.int 1000000000039))) (eC (.int 7))) (eBin oSub (eBin oMul (eC (.int 2)) (eBin oPow (eC (.int 10)) (eC (.int 30)))) (eC (.int 1999)))) (eBin oPow (eC (.int 10)) (eC (.int 30)))) (eC (.int 999))))
    (fSeq (fIf (tOf (eBin oEq (eArg (oCall 3 law_pick_raw) (aCons (eVar 0) (aCons (eC (.int 10007)) (aCons (eC (.int 2)) aNil)))) (eC (.int 0)))) (fRet (eArg (oTup 5) (aCons (eC (.int 0)) (aCons (eArg (oTup 1) (aCons (eVar 1) aNil)) (aCons (eArg (oTup 1) (aCons (eBin oSub (eArg (oCall 3 law_pick_raw) (aCons (eVar 0) (aCons (eC (.int 10009)) (aCons (eC (.int 100)) aNil)))) (eC (.int 50))) aNil)) (aCons (eC .non) (aCons (eC .non) aNil))))))) fNext)
    (fRet (eArg (oTup 5) (aCons (eC (.int 0)) (aCons (eArg (oTup 1) (aCons (eVar 1) aNil)) (aCons (eArg (oTup 1) (aCons (eC (.int 0)) aNil)) (aCons (eBin oAdd (eBin oAdd (eVar 1) (eC (.int 1))) (eArg (oCall 3 law_pick_raw) (aCons (eVar 0) (aCons (eC (.int 10037)) (aCons (eC (.int 9)) aNil))))) (aCons (eArg (oCall 3 law_pick_raw) (aCons (eVar 0) (aCons (eC (.int 10039)) (aCons (eC (.int 50)) aNil)))) aNil)))))))))
noncomputable def law_leaf_raw : OpN := bodyF 2 law_leaf_sem
theorem law_leaf_ok (D : DefAt K mg "_law_leaf" s_law_leaf) (T : TX K mg cl xc) (O_law_pick : OkFn P w K mg base cl "_law_pick" 1 3 law_pick_raw) : OkFn P w K mg base cl "_law_leaf" 2 1 law_leaf_raw :=
  ok_fn (N := law_leaf_N) D law_leaf_sc (fun _ _ _ _ _ _ us hl => match us, hl with | [_], _ => rfl) fun f cdv A outer s H E hr =>
    (ss_cons (sv_setZ 1 law_leaf_sc.nd (ev_add (ev_sub (ev_mod (ev_add (ev_mul (ev_mod (ev_var 0) (ev_pow ev_int ev_int)) ev_int) ev_int) (ev_sub (ev_mul ev_int (ev_pow ev_int ev_int)) ev_int)) (ev_pow ev_int ev_int)) ev_int))
    (ss_cons (sv_if (tv_cm (cm_eq hr.units) (ev_fn O_law_pick hr (by decide) rfl (av_cons (ev_var 0) (av_cons ev_int (av_cons ev_int av_nil)))) ev_int) (ss_one (sv_ret (ev_tup 5 (av_cons ev_int (av_cons (ev_tup 1 (av_cons (ev_var 1) av_nil)) (av_cons (ev_tup 1 (av_cons (ev_sub (ev_fn O_law_pick hr (by decide) rfl (av_cons (ev_var 0) (av_cons ev_int (av_cons ev_int av_nil)))) ev_int) av_nil)) (av_cons ev_non (av_cons ev_non av_nil)))))))) ss_nil)
    (ss_one (sv_ret (ev_tup 5 (av_cons ev_int (av_cons (ev_tup 1 (av_cons (ev_var 1) av_nil)) (av_cons (ev_tup 1 (av_cons ev_int av_nil)) (av_cons (ev_add (ev_add (ev_var 1) ev_int) (ev_fn O_law_pick hr (by decide) rfl (av_cons (ev_var 0) (av_cons ev_int (av_cons ev_int av_nil))))) (av_cons (ev_fn O_law_pick hr (by decide) rfl (av_cons (ev_var 0) (av_cons ev_int (av_cons ev_int av_nil)))) av_nil))))))))))

abbrev s_law_handed : Stmt := top 14
abbrev law_handed_N : List Str := ["shelf", "way", "number", "cell"]
theorem law_handed_sc : FnScope law_handed_N ["shelf", "way", "number", "cell"] (defScope s_law_handed) := ⟨rfl, rfl, rfl, by decide +kernel, rfl, by decide +kernel, by decide +kernel⟩
noncomputable def law_handed_sem : FS :=
    (fSeq (fIf (tOf (eBin oEq (eVar 1) (eC (.int 0)))) (fRet (eMe 0 2 Shelf_read_raw (eVar 0) (aCons (eVar 2) aNil))) fNext)
    (fSeq (fIf (tOf (eBin oEq (eVar 1) (eC (.int 1)))) (fRet (eMe 0 3 Shelf_write_raw (eVar 0) (aCons (eVar 2) (aCons (eArg (oCall 1 law_leaf_raw) (aCons (eVar 3) aNil)) aNil)))) fNext)
    (fSeq (fIf (tOf (eBin oEq (eVar 1) (eC (.int 2)))) (fRet (eMe 0 2 Shelf_make_root_raw (eVar 0) (aCons (eVar 2) aNil))) fNext)
    (fRet (eMe 0 3 Shelf_raise_root_raw (eVar 0) (aCons (eArg (oCall 3 law_pick_raw) (aCons (eVar 3) (aCons (eC (.int 10061)) (aCons (eC (.int 99)) aNil)))) (aCons (eVar 2) aNil)))))))
noncomputable def law_handed_raw : OpN := bodyF 4 law_handed_sem
theorem law_handed_ok (D : DefAt K mg "_law_handed" s_law_handed) (T : TX K mg cl xc) (O_Shelf_raise_root : OkMe P w K mg base cl 0 "raise_root" 2 3 Shelf_raise_root_raw) (O_Shelf_read : OkMe P w K mg base cl 0 "read" 2 2 Shelf_read_raw) (O_Shelf_write : OkMe P w K mg base cl 0 "write" 2 3 Shelf_write_raw) (O_Shelf_make_root : OkMe P w K mg base cl 0 "make_root" 2 2 Shelf_make_root_raw) (O_law_pick : OkFn P w K mg base cl "_law_pick" 1 3 law_pick_raw) (O_law_leaf : OkFn P w K mg base cl "_law_leaf" 2 1 law_leaf_raw) : OkFn P w K mg base cl "_law_handed" 3 4 law_handed_raw :=
  ok_fn (N := law_handed_N) D law_handed_sc (fun _ _ _ _ _ _ us hl => match us, hl with | [_, _, _, _], _ => rfl) fun f cdv A outer s H E hr =>
    (ss_cons (sv_if (tv_cm (cm_eq hr.units) (ev_var 1) ev_int) (ss_one (sv_ret (ev_meth 0 O_Shelf_read T.c_Shelf hr (by decide) (ev_var 0) (av_cons (ev_var 2) av_nil)))) ss_nil)
    (ss_cons (sv_if (tv_cm (cm_eq hr.units) (ev_var 1) ev_int) (ss_one (sv_ret (ev_meth 0 O_Shelf_write T.c_Shelf hr (by decide) (ev_var 0) (av_cons (ev_var 2) (av_cons (ev_fn O_law_leaf hr (by decide) rfl (av_cons (ev_var 3) av_nil)) av_nil))))) ss_nil)
    (ss_cons (sv_if (tv_cm (cm_eq hr.units) (ev_var 1) ev_int) (ss_one (sv_ret (ev_meth 0 O_Shelf_make_root T.c_Shelf hr (by decide) (ev_var 0) (av_cons (ev_var 2) av_nil)))) ss_nil)
    (ss_one (sv_ret (ev_meth 0 O_Shelf_raise_root T.c_Shelf hr (by decide) (ev_var 0) (av_cons (ev_fn O_law_pick hr (by decide) rfl (av_cons (ev_var 3) (av_cons ev_int (av_cons ev_int av_nil)))) (av_cons (ev_var 2) av_nil))))))))
noncomputable def law_handed_semx : FRS :=
    (xOr (xIf (tOf (eBin oEq (eVar 1) (eC (.int 0)))) (xDrop (xMe 0 2 Shelf_read_rawx (eVar 0) (aCons (eVar 2) aNil))) xNever)
    (xSeq (fIf (tOf (eBin oEq (eVar 1) (eC (.int 0)))) (fRet (eMe 0 2 Shelf_read_raw (eVar 0) (aCons (eVar 2) aNil))) fNext)
    (xOr (xIf (tOf (eBin oEq (eVar 1) (eC (.int 1)))) (xDrop (xMe 0 3 Shelf_write_rawx (eVar 0) (aCons (eVar 2) (aCons (eArg (oCall 1 law_leaf_raw) (aCons (eVar 3) aNil)) aNil)))) xNever)
    (xSeq (fIf (tOf (eBin oEq (eVar 1) (eC (.int 1)))) (fRet (eMe 0 3 Shelf_write_raw (eVar 0) (aCons (eVar 2) (aCons (eArg (oCall 1 law_leaf_raw) (aCons (eVar 3) aNil)) aNil)))) fNext)
    (xOr (xIf (tOf (eBin oEq (eVar 1) (eC (.int 2)))) (xDrop (xMe 0 2 Shelf_make_root_rawx (eVar 0) (aCons (eVar 2) aNil))) xNever)
    (xSeq (fIf (tOf (eBin oEq (eVar 1) (eC (.int 2)))) (fRet (eMe 0 2 Shelf_make_root_raw (eVar 0) (aCons (eVar 2) aNil))) fNext)
    (xDrop (xMe 0 3 Shelf_raise_root_rawx (eVar 0) (aCons (eArg (oCall 3 law_pick_raw) (aCons (eVar 3) (aCons (eC (.int 10061)) (aCons (eC (.int 99)) aNil)))) (aCons (eVar 2) aNil))))))))))
noncomputable def law_handed_rawx : OpR := bodyX 4 law_handed_semx
theorem law_handed_okx (D : DefAt K mg "_law_handed" s_law_handed) (T : TX K mg cl xc) (O_Shelf_raise_root : OkMe P w K mg base cl 0 "raise_root" 2 3 Shelf_raise_root_raw) (O_Shelf_read : OkMe P w K mg base cl 0 "read" 2 2 Shelf_read_raw) (O_Shelf_write : OkMe P w K mg base cl 0 "write" 2 3 Shelf_write_raw) (O_Shelf_make_root : OkMe P w K mg base cl 0 "make_root" 2 2 Shelf_make_root_raw) (O_law_pick : OkFn P w K mg base cl "_law_pick" 1 3 law_pick_raw) (O_law_leaf : OkFn P w K mg base cl "_law_leaf" 2 1 law_leaf_raw) (Ox_Shelf_raise_root : OkMeR P w K mg base cl xc 0 "raise_root" 2 3 Shelf_raise_root_rawx) (Ox_Shelf_read : OkMeR P w K mg base cl xc 0 "read" 2 2 Shelf_read_rawx) (Ox_Shelf_write : OkMeR P w K mg base cl xc 0 "write" 2 3 Shelf_write_rawx) (Ox_Shelf_make_root : OkMeR P w K mg base cl xc 0 "make_root" 2 2 Shelf_make_root_rawx) : OkFnR P w K mg base cl xc "_law_handed" 3 4 law_handed_rawx :=
  ok_fnR (N := law_handed_N) D law_handed_sc (fun _ _ _ _ _ _ us hl => match us, hl with | [_, _, _, _], _ => rfl) fun f cdv A outer s H E hr =>
    (rss_or (rss_head (rs_if (tv_cm (cm_eq hr.units) (ev_var 1) ev_int) (rss_head (rs_ret (rv_meth 0 Ox_Shelf_read T.c_Shelf hr (by decide) (by exact (ev_var 0)) (by exact (av_cons (ev_var 2) av_nil))))) rss_never))
    (rss_tail (sv_if (tv_cm (cm_eq hr.units) (ev_var 1) ev_int) (ss_one (sv_ret (ev_meth 0 O_Shelf_read T.c_Shelf hr (by decide) (ev_var 0) (av_cons (ev_var 2) av_nil)))) ss_nil)
    (rss_or (rss_head (rs_if (tv_cm (cm_eq hr.units) (ev_var 1) ev_int) (rss_head (rs_ret (rv_meth 0 Ox_Shelf_write T.c_Shelf hr (by decide) (by exact (ev_var 0)) (by exact (av_cons (ev_var 2) (av_cons (ev_fn O_law_leaf hr (by decide) rfl (av_cons (ev_var 3) av_nil)) av_nil)))))) rss_never))
    (rss_tail (sv_if (tv_cm (cm_eq hr.units) (ev_var 1) ev_int) (ss_one (sv_ret (ev_meth 0 O_Shelf_write T.c_Shelf hr (by decide) (ev_var 0) (av_cons (ev_var 2) (av_cons (ev_fn O_law_leaf hr (by decide) rfl (av_cons (ev_var 3) av_nil)) av_nil))))) ss_nil)
    (rss_or (rss_head (rs_if (tv_cm (cm_eq hr.units) (ev_var 1) ev_int) (rss_head (rs_ret (rv_meth 0 Ox_Shelf_make_root T.c_Shelf hr (by decide) (by exact (ev_var 0)) (by exact (av_cons (ev_var 2) av_nil))))) rss_never))
    (rss_tail (sv_if (tv_cm (cm_eq hr.units) (ev_var 1) ev_int) (ss_one (sv_ret (ev_meth 0 O_Shelf_make_root T.c_Shelf hr (by decide) (ev_var 0) (av_cons (ev_var 2) av_nil)))) ss_nil)
    (rss_head (rs_ret (rv_meth 0 Ox_Shelf_raise_root T.c_Shelf hr (by decide) (by exact (ev_var 0)) (by exact (av_cons (ev_fn O_law_pick hr (by decide) rfl (av_cons (ev_var 3) (av_cons ev_int (av_cons ev_int av_nil)))) (av_cons (ev_var 2) av_nil))))))))))))

abbrev s_law_refused : Stmt := top 15
abbrev law_refused_N : List Str := ["shelf", "way", "number", "cell", "right", "other", "e"]
theorem law_refused_sc : FnScope law_refused_N ["shelf", "way", "number", "cell"] (defScope s_law_refused) := ⟨rfl, rfl, rfl, by decide +kernel, rfl, by decide +kernel, by decide +kernel⟩
noncomputable def law_refused_sem : FS :=
    (fSeq (fSetZ 4 (eC (.bl false)))
    (fSeq (fSetZ 5 (eC (.bl false)))
    (fSeq (fTry 6 (xDrop (xArg (oCallR 4 law_handed_rawx) (aCons (eVar 0) (aCons (eVar 1) (aCons (eVar 2) (aCons (eVar 3) aNil)))))) (pickL [(0, [(4, true), (5, false)])]))
    (fRet (eAnd (eVar 4) (eNot (eVar 5)))))))
noncomputable def law_refused_raw : OpN := bodyF 7 law_refused_sem
theorem law_refused_ok (D : DefAt K mg "_law_refused" s_law_refused) (T : TX K mg cl xc) (O_law_handed : OkFn P w K mg base cl "_law_handed" 3 4 law_handed_raw) (Ox_law_handed : OkFnR P w K mg base cl xc "_law_handed" 3 4 law_handed_rawx) : OkFn P w K mg base cl "_law_refused" 4 4 law_refused_raw :=
  ok_fn (N := law_refused_N) D law_refused_sc (fun _ _ _ _ _ _ us hl => match us, hl with | [_, _, _, _], _ => rfl) fun f cdv A outer s H E hr =>
    (ss_cons (sv_setZ 4 law_refused_sc.nd ev_bl)
    (ss_cons (sv_setZ 5 law_refused_sc.nd ev_bl)
    (ss_cons (sv_try_as (xc := xc) 6 1 law_refused_sc.nd ⟨rfl, by decide, .inl T.e_SideError⟩ (fun c l h => by
      rcases pickL_or h with ⟨rfl, rfl⟩ | h
      · exact T.m_NoPage_SideError
      · exact (pickL_nil h).elim)
    (fun c l h => by
      rcases pickL_or h with ⟨rfl, rfl⟩ | h
      · exact T.i_NoPage
      · exact (pickL_nil h).elim)
    (fun pn xe => (rss_head (rs_drop (rv_fn Ox_law_handed hr (by decide) (by rfl) (by exact (av_cons (ev_var 0) (av_cons (ev_var 1) (av_cons (ev_var 2) (av_cons (ev_var 3) av_nil)))))))))
    (fun c l a pn h hE => by
      rcases pickL_or h with ⟨rfl, rfl⟩ | h
      · exact (ks_cons 4 law_refused_sc.nd (kv_and (kv_own hE T.q_NoPage_NoPage (by rfl) T.b_isinstance (by rfl) T.e_NoPage) (kv_one (kv_blt "ValueError" hE T.q_NoPage_ValueError (by rfl) T.b_isinstance (by rfl) T.b_ValueError (by rfl)))) (ks_cons 5 law_refused_sc.nd (kv_tup hE (cs_cons T.e_Busy (cs_cons T.e_NoDeed (cs_cons T.e_NoHand (cs_cons T.e_NoRow cs_nil (by rfl)) (by rfl)) (by rfl)) (by rfl)) (kitAny_cons T.q_NoPage_Busy (fun _ => (kitAny_cons T.q_NoPage_NoDeed (fun _ => (kitAny_cons T.q_NoPage_NoHand (fun _ => (kitAny_cons T.q_NoPage_NoRow (fun _ => rfl) (fun h => by first | rfl | cases h))) (fun h => by first | rfl | cases h))) (fun h => by first | rfl | cases h))) (fun h => by first | rfl | cases h)) (by rfl) T.b_isinstance) ks_nil))
      · exact (pickL_nil h).elim))
    (ss_one (sv_ret (ev_and (ev_var 4) (ev_one (ev_not (ev_var 5)))))))))

abbrev s_law_cell_at : Stmt := top 11
abbrev law_cell_at_N : List Str := ["script", "k"]
theorem law_cell_at_sc : FnScope law_cell_at_N ["script", "k"] (defScope s_law_cell_at) := ⟨rfl, rfl, rfl, by decide +kernel, rfl, by decide +kernel, by decide +kernel⟩
noncomputable def law_cell_at_sem : FS :=
    (fSeq (fIf (tOf (eBin oLt (eVar 1) (eUn oLen (eVar 0)))) (fRet (eBin oIx (eVar 0) (eVar 1))) fNext)
    (fRet (eC (.int 0))))
noncomputable def law_cell_at_raw : OpN := bodyF 2 law_cell_at_sem
theorem law_cell_at_ok (D : DefAt K mg "_law_cell_at" s_law_cell_at) (T : TX K mg cl xc)  : OkFn P w K mg base cl "_law_cell_at" 1 2 law_cell_at_raw :=
  ok_fn (N := law_cell_at_N) D law_cell_at_sc (fun _ _ _ _ _ _ us hl => match us, hl with | [_, _], _ => rfl) fun f cdv A outer s H E hr =>
    (ss_cons (sv_if (tv_cm cm_lt (ev_var 1) (ev_len rfl T.b_len (ev_var 0))) (ss_one (sv_ret (ev_ix (ev_var 0) (ev_var 1)))) ss_nil)
    (ss_one (sv_ret ev_int)))

abbrev s_law : Stmt := top 18
abbrev law_N : List Str := ["script", "shelf", "pages", "root", "cell", "way", "number", "ahead", "k", "last", "told"]
theorem law_sc : FnScope law_N ["script"] (defScope s_law) := ⟨rfl, rfl, rfl, by decide +kernel, rfl, by decide +kernel, by decide +kernel⟩
noncomputable def law_sem : FS :=
    (fSeq (fSetZ 1 (eMk 0 2 Shelf_init_raw (aCons (eBin oAdd (eC (.int 2)) (eArg (oCall 3 law_pick_raw) (aCons (eArg (oCall 2 law_cell_at_raw) (aCons (eVar 0) (aCons (eC (.int 0)) aNil))) (aCons (eC (.int 10069)) (aCons (eC (.int 7)) aNil))))) aNil)))
    (fSeq (fSetZ 2 (eRef (eArg (oOwn 1) (aCons (eArg (oTup 5) (aCons (eC (.int 0)) (aCons (eArg (oTup 0) aNil) (aCons (eArg (oTup 0) aNil) (aCons (eC .non) (aCons (eC .non) aNil)))))) aNil))))
    (fSeq (fSetZ 3 (eC (.int 0)))
    (fSeq (fFor (.nm 4) (iSeq (eCut (eVar 0) (oAt (eC (.int 1))) (oAt (eC (.int 81))))) (fSeq (fSetZ 5 (eArg (oCall 3 law_pick_raw) (aCons (eVar 4) (aCons (eC (.int 10079)) (aCons (eC (.int 4)) aNil)))))
    (fSeq (fSetZ 6 (eArg (oCall 2 law_bad_raw) (aCons (eVar 4) (aCons (eUn oLen (eVar 2)) aNil))))
    (fSeq (fSetZ 7 (eArg (oCall 1 law_counts_raw) (aCons (eVar 1) aNil)))
    (fSeq (fFor (.nm 8) (iRg1 (eC (.int 2))) (fIf (tOrF (tNotF (tOf (eArg (oCall 4 law_refused_raw) (aCons (eVar 1) (aCons (eVar 5) (aCons (eVar 6) (aCons (eBin oAdd (eBin oAdd (eVar 4) (eC (.int 2))) (eVar 8)) aNil))))))) (tOf (eBin oNe (eArg (oCall 1 law_counts_raw) (aCons (eVar 1) aNil)) (eVar 7)))) (fRet (eC (.bl false))) fNext))
    (fSeq (fSetZ 9 (eBin oSub (eUn oLen (eVar 2)) (eC (.int 1))))
    (fSeq (fIf (tOf (eBin oEq (eVar 5) (eC (.int 1)))) (fStore (eVar 2) (eVar 9) (eArg (oCall 1 law_leaf_raw) (aCons (eVar 4) aNil))) fNext)
    (fSeq (fSetZ 10 (eArg (oCall 4 law_handed_raw) (aCons (eVar 1) (aCons (eVar 5) (aCons (eVar 9) (aCons (eVar 4) aNil))))))
    (fSeq (fIf (tOrF (tAndF (tOf (eBin oEq (eVar 5) (eC (.int 0)))) (tOf (eBin oNe (eVar 10) (eBin oIx (eVar 2) (eVar 9))))) (tOrF (tAndF (tOf (eBin oEq (eVar 5) (eC (.int 1)))) (tOf (eBin oIsNot (eVar 10) (eC .non)))) (tAndF (tOf (eBin oEq (eVar 5) (eC (.int 2)))) (tOf (eBin oIsNot (eVar 10) (eC .non)))))) (fRet (eC (.bl false))) fNext)
    (fSeq (fIf (tAndF (tOf (eBin oEq (eVar 5) (eC (.int 3)))) (tOf (eBin oNe (eVar 10) (eBin oAdd (eVar 9) (eC (.int 1)))))) (fRet (eC (.bl false))) fNext)
    (fSeq (fIf (tOf (eBin oEq (eVar 5) (eC (.int 2)))) (fSetZ 3 (eVar 9)) fNext)
    (fSeq (fIf (tOf (eBin oEq (eVar 5) (eC (.int 3)))) (fSeq (fDrop (eMet oApp (eVar 2) (aCons (eArg (oTup 5) (aCons (eBin oAdd (eBin oIx (eBin oIx (eVar 2) (eVar 3)) (eC (.int 0))) (eC (.int 1))) (aCons (eArg (oTup 1) (aCons (eArg (oCall 3 law_pick_raw) (aCons (eVar 4) (aCons (eC (.int 10061)) (aCons (eC (.int 99)) aNil)))) aNil)) (aCons (eArg (oTup 2) (aCons (eVar 3) (aCons (eVar 9) aNil))) (aCons (eC .non) (aCons (eC .non) aNil)))))) aNil)))
    (fSetZ 3 (eVar 10))) fNext)
    (fSeq (fIf (tOf (eBin oNe (eMe 0 2 Shelf_lay_raw (eVar 1) (aCons (eArg (oCall 1 law_leaf_raw) (aCons (eBin oAdd (eVar 4) (eC (.int 1))) aNil)) aNil)) (eUn oLen (eVar 2)))) (fRet (eC (.bl false))) fNext)
    (fDrop (eMet oApp (eVar 2) (aCons (eArg (oCall 1 law_leaf_raw) (aCons (eBin oAdd (eVar 4) (eC (.int 1))) aNil)) aNil))))))))))))))))
    (fSeq (fFor (.nm 6) (iRg1 (eUn oLen (eVar 2))) (fIf (tOf (eBin oNe (eMe 0 2 Shelf_read_raw (eVar 1) (aCons (eVar 6) aNil)) (eBin oIx (eVar 2) (eVar 6)))) (fRet (eC (.bl false))) fNext))
    (fRet (eAnd (eBin oEq (eMe 0 1 Shelf_root_raw (eVar 1) aNil) (eVar 3)) (eArg (oCall 4 law_refused_raw) (aCons (eVar 1) (aCons (eC (.int 0)) (aCons (eUn oLen (eVar 2)) (aCons (eC (.int 0)) aNil))))))))))))
noncomputable def law_raw : OpN := bodyF 11 law_sem
theorem law_okF {f : Addr} {fd : FuncData} (D : Fun K "law" "law" s_law f fd) (T : TX K mg cl xc) (O_Shelf_init : OkMk P w K mg base cl 0 1 2 Shelf_init_raw) (O_law_pick : OkFn P w K mg base cl "_law_pick" 1 3 law_pick_raw) (O_law_bad : OkFn P w K mg base cl "_law_bad" 2 2 law_bad_raw) (O_law_counts : OkFn P w K mg base cl "_law_counts" 2 1 law_counts_raw) (O_law_handed : OkFn P w K mg base cl "_law_handed" 3 4 law_handed_raw) (O_law_refused : OkFn P w K mg base cl "_law_refused" 4 4 law_refused_raw) (O_law_leaf : OkFn P w K mg base cl "_law_leaf" 2 1 law_leaf_raw) (O_Shelf_lay : OkMe P w K mg base cl 0 "lay" 1 2 Shelf_lay_raw) (O_Shelf_read : OkMe P w K mg base cl 0 "read" 2 2 Shelf_read_raw) (O_Shelf_root : OkMe P w K mg base cl 0 "root" 1 1 Shelf_root_raw) (O_law_cell_at : OkFn P w K mg base cl "_law_cell_at" 1 2 law_cell_at_raw) : FnOk P w K mg base CX0 5 f fd ["script"] (spW ⟨K, cl⟩ 1 law_raw) :=
  fn_W (N := law_N) D law_sc fun cdv A outer s H E hr =>
    (ss_cons (sv_setZ 1 law_sc.nd (ev_make 0 O_Shelf_init T.c_Shelf hr (by decide) rfl (av_cons (ev_add ev_int (ev_fn O_law_pick hr (by decide) rfl (av_cons (ev_fn O_law_cell_at hr (by decide) rfl (av_cons (ev_var 0) (av_cons ev_int av_nil))) (av_cons ev_int (av_cons ev_int av_nil))))) av_nil)))
    (ss_cons (sv_setZ 2 law_sc.nd (ev_ref (ev_lst 1 (av_cons (ev_tup 5 (av_cons ev_int (av_cons (ev_tup 0 av_nil) (av_cons (ev_tup 0 av_nil) (av_cons ev_non (av_cons ev_non av_nil)))))) av_nil))))
    (ss_cons (sv_setZ 3 law_sc.nd ev_int)
    (ss_cons (sv_for PassesOwn.never rfl (iv_seq (ev_cut (ev_var 0) (ov_some ev_int) (ov_some ev_int))) (gv_name 4 law_sc.nd) (ss_cons (sv_setZ 5 law_sc.nd (ev_fn O_law_pick hr (by decide) rfl (av_cons (ev_var 4) (av_cons ev_int (av_cons ev_int av_nil)))))
    (ss_cons (sv_setZ 6 law_sc.nd (ev_fn O_law_bad hr (by decide) rfl (av_cons (ev_var 4) (av_cons (ev_len rfl T.b_len (ev_var 2)) av_nil))))
    (ss_cons (sv_setZ 7 law_sc.nd (ev_fn O_law_counts hr (by decide) rfl (av_cons (ev_var 1) av_nil)))
    (ss_cons (sv_for PassesOwn.never rfl (iv_range1 rfl T.b_range ev_int) (gv_name 8 law_sc.nd) (ss_one (sv_if (WV.tv (wv_or (tv_not (tv_val (ev_fn O_law_refused hr (by decide) rfl (av_cons (ev_var 1) (av_cons (ev_var 5) (av_cons (ev_var 6) (av_cons (ev_add (ev_add (ev_var 4) ev_int) (ev_var 8)) av_nil))))))) (wv_or1 (tv_cm (cm_ne hr.units) (ev_fn O_law_counts hr (by decide) rfl (av_cons (ev_var 1) av_nil)) (ev_var 7))))) (ss_one (sv_ret ev_bl)) ss_nil)))
    (ss_cons (sv_setZ 9 law_sc.nd (ev_sub (ev_len rfl T.b_len (ev_var 2)) ev_int))
    (ss_cons (sv_if (tv_cm (cm_eq hr.units) (ev_var 5) ev_int) (ss_one (sv_store (ev_var 2) (ev_var 9) (ev_fn O_law_leaf hr (by decide) rfl (av_cons (ev_var 4) av_nil)))) ss_nil)
    (ss_cons (sv_setZ 10 law_sc.nd (ev_fn O_law_handed hr (by decide) rfl (av_cons (ev_var 1) (av_cons (ev_var 5) (av_cons (ev_var 9) (av_cons (ev_var 4) av_nil))))))
    (ss_cons (sv_if (WV.tv (wv_or (WV.tv (wv_and (tv_cm (cm_eq hr.units) (ev_var 5) ev_int) (wv_and1 (tv_cm (cm_ne hr.units) (ev_var 10) (ev_ix (ev_var 2) (ev_var 9)))))) (wv_or (WV.tv (wv_and (tv_cm (cm_eq hr.units) (ev_var 5) ev_int) (wv_and1 (tv_cm cm_isnot (ev_var 10) ev_non)))) (wv_or1 (WV.tv (wv_and (tv_cm (cm_eq hr.units) (ev_var 5) ev_int) (wv_and1 (tv_cm cm_isnot (ev_var 10) ev_non)))))))) (ss_one (sv_ret ev_bl)) ss_nil)
    (ss_cons (sv_if (WV.tv (wv_and (tv_cm (cm_eq hr.units) (ev_var 5) ev_int) (wv_and1 (tv_cm (cm_ne hr.units) (ev_var 10) (ev_add (ev_var 9) ev_int))))) (ss_one (sv_ret ev_bl)) ss_nil)
    (ss_cons (sv_if (tv_cm (cm_eq hr.units) (ev_var 5) ev_int) (ss_one (sv_setZ 3 law_sc.nd (ev_var 9))) ss_nil)
    (ss_cons (sv_if (tv_cm (cm_eq hr.units) (ev_var 5) ev_int) (ss_cons (sv_drop (ev_append (ev_var 2) (av_cons (ev_tup 5 (av_cons (ev_add (ev_ix (ev_ix (ev_var 2) (ev_var 3)) ev_int) ev_int) (av_cons (ev_tup 1 (av_cons (ev_fn O_law_pick hr (by decide) rfl (av_cons (ev_var 4) (av_cons ev_int (av_cons ev_int av_nil)))) av_nil)) (av_cons (ev_tup 2 (av_cons (ev_var 3) (av_cons (ev_var 9) av_nil))) (av_cons ev_non (av_cons ev_non av_nil)))))) av_nil)))
    (ss_one (sv_setZ 3 law_sc.nd (ev_var 10)))) ss_nil)
    (ss_cons (sv_if (tv_cm (cm_ne hr.units) (ev_meth 0 O_Shelf_lay T.c_Shelf hr (by decide) (ev_var 1) (av_cons (ev_fn O_law_leaf hr (by decide) rfl (av_cons (ev_add (ev_var 4) ev_int) av_nil)) av_nil)) (ev_len rfl T.b_len (ev_var 2))) (ss_one (sv_ret ev_bl)) ss_nil)
    (ss_one (sv_drop (ev_append (ev_var 2) (av_cons (ev_fn O_law_leaf hr (by decide) rfl (av_cons (ev_add (ev_var 4) ev_int) av_nil)) av_nil)))))))))))))))))
    (ss_cons (sv_for PassesOwn.never rfl (iv_range1 rfl T.b_range (ev_len rfl T.b_len (ev_var 2))) (gv_name 6 law_sc.nd) (ss_one (sv_if (tv_cm (cm_ne hr.units) (ev_meth 0 O_Shelf_read T.c_Shelf hr (by decide) (ev_var 1) (av_cons (ev_var 6) av_nil)) (ev_ix (ev_var 2) (ev_var 6))) (ss_one (sv_ret ev_bl)) ss_nil)))
    (ss_one (sv_ret (ev_and (ev_cm (cm_eq hr.units) (ev_meth0 0 O_Shelf_root T.c_Shelf hr (by decide) (ev_var 1)) (ev_var 3)) (ev_one (ev_fn O_law_refused hr (by decide) rfl (av_cons (ev_var 1) (av_cons ev_int (av_cons (ev_len rfl T.b_len (ev_var 2)) (av_cons ev_int av_nil))))))))))))))
end
end Q
namespace Q
open PySem L2 M
/-! ### lists of pairs whose keys rise -/
abbrev Al := List (Int × Int)
def keysA (S : Al) : List Int := S.map (·.1)
def valsA (S : Al) : List Int := S.map (·.2)
def RiseA (S : Al) : Prop := S.Pairwise (fun a b => a.1 < b.1)
def findA : Al → Int → Option Int
  | [], _ => none
  | (a, b) :: S, k => if a = k then some b else findA S k
def putA : Al → Int → Int → Al
  | [], k, v => [(k, v)]
  | (a, b) :: S, k, v => if a < k then (a, b) :: putA S k v else if a = k then (k, v) :: S else (k, v) :: (a, b) :: S
def cutA (S : Al) (k : Int) : Al := S.filter fun p => decide (p.1 ≠ k)
/-- how many keys are not above k -/
def cntA (S : Al) (k : Int) : Nat := (S.filter fun p => decide (p.1 ≤ k)).length
def insA (S : Al) (k v : Int) : Al := S.take (cntA S k) ++ (k, v) :: S.drop (cntA S k)
theorem RiseA.cons {p : Int × Int} {S : Al} : RiseA (p :: S) ↔ (∀ q ∈ S, p.1 < q.1) ∧ RiseA S := List.pairwise_cons
theorem RiseA.nil : RiseA [] := List.Pairwise.nil
theorem RiseA.tail {p : Int × Int} {S : Al} (h : RiseA (p :: S)) : RiseA S := (RiseA.cons.mp h).2
theorem RiseA.app {S T : Al} : RiseA (S ++ T) ↔ RiseA S ∧ RiseA T ∧ ∀ p ∈ S, ∀ q ∈ T, p.1 < q.1 := List.pairwise_append
theorem RiseA.sub {S T : Al} (h : RiseA T) (s : List.Sublist S T) : RiseA S := List.Pairwise.sublist s h
theorem RiseA.take {S : Al} (h : RiseA S) (n : Nat) : RiseA (S.take n) := h.sub (List.take_sublist n S)
theorem RiseA.drop {S : Al} (h : RiseA S) (n : Nat) : RiseA (S.drop n) := h.sub (List.drop_sublist n S)
theorem RiseA.cut {S : Al} (h : RiseA S) (k : Int) : RiseA (cutA S k) := h.sub List.filter_sublist
theorem RiseA.get {S : Al} (h : RiseA S) {i j : Nat} {a b : Int × Int} (hij : i < j) (ha : S[i]? = some a) (hb : S[j]? = some b) : a.1 < b.1 := by
  obtain ⟨hi, rfl⟩ := List.getElem?_eq_some_iff.mp ha
  obtain ⟨hj, rfl⟩ := List.getElem?_eq_some_iff.mp hb
  exact List.pairwise_iff_getElem.mp h i j hi hj hij
theorem cut_mem {S : Al} {k : Int} {p : Int × Int} : p ∈ cutA S k ↔ p ∈ S ∧ p.1 ≠ k := by simp [cutA]
theorem cut_cons (p : Int × Int) (S : Al) (k : Int) : cutA (p :: S) k = if p.1 = k then cutA S k else p :: cutA S k := by
  unfold cutA
  rw [List.filter_cons]
  by_cases h : p.1 = k <;> simp [h]
theorem cut_none {S : Al} {k : Int} (h : ∀ p ∈ S, p.1 ≠ k) : cutA S k = S := by
  unfold cutA
  rw [List.filter_eq_self]
  intro p hp
  simp [h p hp]
theorem cut_app (S T : Al) (k : Int) : cutA (S ++ T) k = cutA S k ++ cutA T k := List.filter_append ..
theorem find_none {S : Al} {k : Int} : findA S k = none ↔ ∀ p ∈ S, p.1 ≠ k := by
  induction S with
  | nil => simp [findA]
  | cons p S ih =>
    obtain ⟨a, b⟩ := p
    unfold findA
    by_cases h : a = k
    · simp [h]
    · simp [h, ih]
theorem find_app (S T : Al) (k : Int) : findA (S ++ T) k = (findA S k).or (findA T k) := by
  induction S with
  | nil => rfl
  | cons p S ih =>
    obtain ⟨a, b⟩ := p
    show findA ((a, b) :: (S ++ T)) k = _
    rw [findA, findA]
    by_cases h : a = k
    · simp [h]
    · simp only [h, if_false]; exact ih
theorem find_mem {S : Al} {k v : Int} (h : findA S k = some v) : (k, v) ∈ S := by
  induction S with
  | nil => cases h
  | cons p S ih =>
    obtain ⟨a, b⟩ := p
    unfold findA at h
    by_cases e : a = k
    · simp [e] at h; simp [e, h]
    · simp only [e, if_false] at h
      exact List.mem_cons_of_mem _ (ih h)
theorem mem_find {S : Al} {k v : Int} (h : RiseA S) (m : (k, v) ∈ S) : findA S k = some v := by
  induction S with
  | nil => cases m
  | cons p S ih =>
    obtain ⟨a, b⟩ := p
    obtain ⟨h1, h2⟩ := RiseA.cons.mp h
    unfold findA
    rcases List.mem_cons.mp m with e | m
    · cases e; simp
    · have := h1 _ m
      have ne : a ≠ k := by
        intro z
        rw [z] at this
        exact absurd this (Int.lt_irrefl _)
      simp only [ne, if_false]
      exact ih h2 m
theorem put_mem {S : Al} {k v : Int} (h : RiseA S) {p : Int × Int} : p ∈ putA S k v ↔ p = (k, v) ∨ (p ∈ S ∧ p.1 ≠ k) := by
  induction S with
  | nil => simp [putA]
  | cons q S ih =>
    obtain ⟨a, b⟩ := q
    obtain ⟨h1, h2⟩ := RiseA.cons.mp h
    unfold putA
    by_cases ha : a < k
    · simp only [ha, if_true, List.mem_cons, ih h2]
      constructor
      · rintro (e | e | e)
        · subst e; exact .inr ⟨.inl rfl, by simp; omega⟩
        · exact .inl e
        · exact .inr ⟨.inr e.1, e.2⟩
      · rintro (e | ⟨e | e, n⟩)
        · exact .inr (.inl e)
        · exact .inl e
        · exact .inr (.inr ⟨e, n⟩)
    · simp only [ha, if_false]
      by_cases hb : a = k
      · subst hb
        simp only [if_true, List.mem_cons]
        constructor
        · rintro (e | e)
          · exact .inl e
          · have := h1 _ e
            exact .inr ⟨.inr e, by intro z; rw [z] at this; exact absurd this (Int.lt_irrefl _)⟩
        · rintro (e | ⟨e | e, n⟩)
          · exact .inl e
          · subst e; exact absurd rfl n
          · exact .inr e
      · simp only [hb, if_false, List.mem_cons]
        constructor
        · rintro (e | e | e)
          · exact .inl e
          · subst e; exact .inr ⟨.inl rfl, hb⟩
          · have := h1 _ e
            refine .inr ⟨.inr e, ?_⟩
            have h3 : a < p.1 := this
            intro z
            omega
        · rintro (e | ⟨e | e, n⟩)
          · exact .inl e
          · exact .inr (.inl e)
          · exact .inr (.inr e)
theorem put_rise {S : Al} (h : RiseA S) (k v : Int) : RiseA (putA S k v) := by
  induction S with
  | nil => exact List.pairwise_singleton _ _
  | cons q S ih =>
    obtain ⟨a, b⟩ := q
    obtain ⟨h1, h2⟩ := RiseA.cons.mp h
    unfold putA
    by_cases ha : a < k
    · simp only [ha, if_true]
      refine RiseA.cons.mpr ⟨fun p hp => ?_, ih h2⟩
      rcases (put_mem h2).mp hp with e | e
      · subst e; exact ha
      · exact h1 p e.1
    · simp only [ha, if_false]
      by_cases hb : a = k
      · subst hb
        simp only [if_true]
        exact RiseA.cons.mpr ⟨fun p hp => h1 p hp, h2⟩
      · simp only [hb, if_false]
        refine RiseA.cons.mpr ⟨fun p hp => ?_, h⟩
        rcases List.mem_cons.mp hp with e | e
        · subst e; show k < a; omega
        · have h3 : a < p.1 := h1 p e
          show k < p.1
          omega
theorem find_put {S : Al} (h : RiseA S) (k v x : Int) : findA (putA S k v) x = if x = k then some v else findA S x := by
  by_cases hx : x = k
  · subst hx
    simp only [if_true]
    exact mem_find (put_rise h x v) ((put_mem h).mpr (.inl rfl))
  · simp only [hx, if_false]
    cases e : findA S x with
    | some w => exact mem_find (put_rise h k v) ((put_mem h).mpr (.inr ⟨find_mem e, hx⟩))
    | none =>
      rw [find_none] at e ⊢
      intro p hp
      rcases (put_mem h).mp hp with q | q
      · subst q; exact fun z => hx z.symm
      · exact e p q.1
theorem find_cut {S : Al} (h : RiseA S) (k x : Int) : findA (cutA S k) x = if x = k then none else findA S x := by
  by_cases hx : x = k
  · subst hx
    simp only [if_true]
    rw [find_none]
    exact fun p hp => (cut_mem.mp hp).2
  · simp only [hx, if_false]
    cases e : findA S x with
    | some w => exact mem_find (h.cut k) (cut_mem.mpr ⟨find_mem e, hx⟩)
    | none =>
      rw [find_none] at e ⊢
      exact fun p hp => e p (cut_mem.mp hp).1
theorem put_app_left {S T : Al} {k v : Int} (h : ∀ p ∈ T, k < p.1) : putA (S ++ T) k v = putA S k v ++ T := by
  induction S with
  | nil =>
    cases T with
    | nil => rfl
    | cons q T =>
      obtain ⟨a, b⟩ := q
      have : k < a := h (a, b) List.mem_cons_self
      show putA ((a, b) :: T) k v = _
      unfold putA
      rw [if_neg (by omega), if_neg (by omega)]
      rfl
  | cons q S ih =>
    obtain ⟨a, b⟩ := q
    show putA ((a, b) :: (S ++ T)) k v = putA ((a, b) :: S) k v ++ T
    unfold putA
    rw [ih]
    split
    · rfl
    · split <;> rfl
theorem put_app_right {S T : Al} {k v : Int} (h : ∀ p ∈ S, p.1 < k) : putA (S ++ T) k v = S ++ putA T k v := by
  induction S with
  | nil => rfl
  | cons q S ih =>
    obtain ⟨a, b⟩ := q
    have : a < k := h (a, b) List.mem_cons_self
    show putA ((a, b) :: (S ++ T)) k v = _
    rw [putA, if_pos this, ih fun p hp => h p (List.mem_cons_of_mem _ hp)]
    rfl
theorem cnt_cons (p : Int × Int) (S : Al) (k : Int) : cntA (p :: S) k = if p.1 ≤ k then cntA S k + 1 else cntA S k := by
  unfold cntA
  rw [List.filter_cons]
  by_cases h : p.1 ≤ k <;> simp [h]
theorem cnt_zero {S : Al} {k : Int} (h : ∀ p ∈ S, k < p.1) : cntA S k = 0 := by
  unfold cntA
  rw [List.length_eq_zero_iff, List.filter_eq_nil_iff]
  intro p hp
  have := h p hp
  simp only [decide_eq_true_eq]
  omega
theorem cntA_le (S : Al) (k : Int) : cntA S k ≤ S.length := List.length_filter_le _ _
theorem cnt_take {S : Al} (h : RiseA S) (k : Int) : ∀ p ∈ S.take (cntA S k), p.1 ≤ k := by
  induction S with
  | nil => intro p hp; simp at hp
  | cons q S ih =>
    obtain ⟨h1, h2⟩ := RiseA.cons.mp h
    rw [cnt_cons]
    by_cases hq : q.1 ≤ k
    · simp only [hq, if_true, List.take_succ_cons, List.mem_cons]
      rintro p (rfl | hp)
      · exact hq
      · exact ih h2 p hp
    · rw [if_neg hq, cnt_zero (fun p hp => by have := h1 p hp; omega)]
      intro p hp
      simp at hp
theorem cnt_drop {S : Al} (h : RiseA S) (k : Int) : ∀ p ∈ S.drop (cntA S k), k < p.1 := by
  induction S with
  | nil => intro p hp; simp at hp
  | cons q S ih =>
    obtain ⟨h1, h2⟩ := RiseA.cons.mp h
    rw [cnt_cons]
    by_cases hq : q.1 ≤ k
    · simp only [hq, if_true, List.drop_succ_cons]
      exact ih h2
    · rw [if_neg hq, cnt_zero (fun p hp => by have := h1 p hp; omega)]
      simp only [List.drop_zero, List.mem_cons]
      rintro p (rfl | hp)
      · omega
      · have := h1 p hp; omega
/-- a new key goes to its place -/
theorem ins_put {S : Al} (h : RiseA S) {k v : Int} (hk : ∀ p ∈ S, p.1 ≠ k) : insA S k v = putA S k v := by
  unfold insA
  induction S with
  | nil => rfl
  | cons q S ih =>
    obtain ⟨a, b⟩ := q
    obtain ⟨h1, h2⟩ := RiseA.cons.mp h
    have ne : a ≠ k := hk (a, b) List.mem_cons_self
    rw [cnt_cons]
    by_cases hq : a ≤ k
    · simp only [hq, if_true, List.take_succ_cons, List.drop_succ_cons, List.cons_append]
      rw [ih h2 fun p hp => hk p (List.mem_cons_of_mem _ hp)]
      rw [putA, if_pos (by omega)]
    · have : cntA S k = 0 := cnt_zero fun p hp => by have h3 : a < p.1 := h1 p hp; omega
      simp only [hq, if_false, this, List.take_zero, List.drop_zero, List.nil_append]
      rw [putA, if_neg (by omega), if_neg ne]
theorem put_cut {S : Al} (h : RiseA S) (k v : Int) : putA (cutA S k) k v = putA S k v := by
  induction S with
  | nil => rfl
  | cons q S ih =>
    obtain ⟨a, b⟩ := q
    obtain ⟨h1, h2⟩ := RiseA.cons.mp h
    rw [cut_cons]
    by_cases hk : a = k
    · subst hk
      simp only [if_true]
      rw [cut_none fun p hp => by have h3 : a < p.1 := h1 p hp; omega]
      show putA S a v = if a < a then _ else if a = a then (a, v) :: S else _
      rw [if_neg (Int.lt_irrefl a), if_pos rfl]
      cases S with
      | nil => rfl
      | cons r S =>
        obtain ⟨c, d⟩ := r
        have h3 : a < c := h1 (c, d) List.mem_cons_self
        rw [putA, if_neg (by omega), if_neg (by omega)]
    · simp only [hk, if_false]
      rw [putA, putA, ih h2]
      split
      · rfl
      · rename_i h4
        rw [cut_none fun p hp => by have h3 : a < p.1 := h1 p hp; omega]
/-- the place of a key that is there -/
theorem cnt_find {S : Al} (h : RiseA S) {k : Int} (h0 : 0 < cntA S k) : ∃ p, S[cntA S k - 1]? = some p ∧ p.1 ≤ k ∧ findA S k = (if p.1 = k then some p.2 else none) := by
  have hl := cntA_le S k
  obtain ⟨p, hp⟩ : ∃ p, S[cntA S k - 1]? = some p := ⟨S[cntA S k - 1], by simp [show cntA S k - 1 < S.length by omega]⟩
  have hle : p.1 ≤ k := cnt_take h k p (by
    rw [List.mem_take_iff_getElem]
    obtain ⟨h1, h2⟩ := List.getElem?_eq_some_iff.mp hp
    exact ⟨cntA S k - 1, by omega, h2⟩)
  refine ⟨p, hp, hle, ?_⟩
  by_cases e : p.1 = k
  · rw [if_pos e]
    exact mem_find h (by rw [← e]; exact List.mem_of_getElem? hp)
  · rw [if_neg e, find_none]
    intro q hq z
    obtain ⟨i, hi⟩ := List.mem_iff_getElem?.mp hq
    by_cases hc : i < cntA S k
    · by_cases hc2 : i = cntA S k - 1
      · subst hc2; rw [hi] at hp; cases hp; exact e z
      · have := h.get (show i < cntA S k - 1 by omega) hi hp
        omega
    · have hm : q ∈ S.drop (cntA S k) := List.mem_drop_iff_getElem.mpr ⟨i - cntA S k, by
        have := (List.getElem?_eq_some_iff.mp hi).1
        omega, by
        obtain ⟨h1, h2⟩ := List.getElem?_eq_some_iff.mp hi
        have e3 : cntA S k + (i - cntA S k) = i := by omega
        simp only [e3]
        exact h2⟩
      have := cnt_drop h k q hm
      omega
theorem cnt_find0 {S : Al} (h : RiseA S) {k : Int} (h0 : cntA S k = 0) : findA S k = none := by
  rw [find_none]
  intro p hp z
  have := cnt_drop h k p (by rw [h0]; exact hp)
  omega
theorem cut_at {S : Al} (h : RiseA S) {k : Int} (h0 : 0 < cntA S k) {p : Int × Int} (hp : S[cntA S k - 1]? = some p) (e : p.1 = k) : S.take (cntA S k - 1) ++ S.drop (cntA S k) = cutA S k := by
  have hl := cntA_le S k
  obtain ⟨hi, he⟩ := List.getElem?_eq_some_iff.mp hp
  have hs : S = S.take (cntA S k - 1) ++ p :: S.drop (cntA S k) := by
    have h1 := List.take_append_drop (cntA S k - 1) S
    rw [List.drop_eq_getElem_cons hi, he] at h1
    have : cntA S k - 1 + 1 = cntA S k := by omega
    rw [this] at h1
    exact h1.symm
  conv => rhs; rw [hs]
  have hr := h
  rw [hs] at hr
  obtain ⟨r1, r2, r3⟩ := RiseA.app.mp hr
  rw [cut_app, cut_cons, if_pos e, cut_none, cut_none]
  · intro q hq
    have := (RiseA.cons.mp r2).1 q hq
    omega
  · intro q hq
    have := r3 q hq p List.mem_cons_self
    omega
theorem cnt_keys (S : Al) (k : Int) : ((keysA S).filter fun x => decide (x ≤ k)).length = cntA S k := by
  unfold keysA cntA
  rw [List.filter_map, List.length_map]
  rfl
theorem keys_len (S : Al) : (keysA S).length = S.length := List.length_map ..
theorem vals_len (S : Al) : (valsA S).length = S.length := List.length_map ..
theorem put_len {S : Al} (k v : Int) : (putA S k v).length ≤ S.length + 1 := by
  induction S with
  | nil => exact Nat.le_refl _
  | cons q S ih =>
    obtain ⟨a, b⟩ := q
    unfold putA
    split
    · simp only [List.length_cons]; omega
    · split <;> simp
theorem cut_len (S : Al) (k : Int) : (cutA S k).length ≤ S.length := List.length_filter_le _ _
/-- rising lists with the same answers are the same -/
theorem rise_ext : ∀ {S T : Al}, RiseA S → RiseA T → (∀ p, p ∈ S ↔ p ∈ T) → S = T
  | [], [], _, _, _ => rfl
  | [], q :: T, _, _, h => absurd ((h q).mpr List.mem_cons_self) (by simp)
  | p :: S, [], _, _, h => absurd ((h p).mp List.mem_cons_self) (by simp)
  | p :: S, q :: T, hs, ht, h => by
    obtain ⟨s1, s2⟩ := RiseA.cons.mp hs
    obtain ⟨t1, t2⟩ := RiseA.cons.mp ht
    have e : p = q := by
      rcases List.mem_cons.mp ((h p).mp List.mem_cons_self) with e | e
      · exact e
      · rcases List.mem_cons.mp ((h q).mpr List.mem_cons_self) with e2 | e2
        · exact e2.symm
        · have a := t1 p e
          have b := s1 q e2
          omega
    subst e
    rw [rise_ext s2 t2 fun r => ?_]
    constructor
    · intro hr
      rcases List.mem_cons.mp ((h r).mp (List.mem_cons_of_mem _ hr)) with e | e
      · subst e; exact absurd (s1 r hr) (Int.lt_irrefl _)
      · exact e
    · intro hr
      rcases List.mem_cons.mp ((h r).mpr (List.mem_cons_of_mem _ hr)) with e | e
      · subst e; exact absurd (t1 r hr) (Int.lt_irrefl _)
      · exact e
/-! ### dicts: what is found behind a put, a drop -/
theorem valW_cons {α : Type} (a : Key) (b : α) (kvs : List (Key × α)) (k : Key) : valW ((a, b) :: kvs) k = if a = k then some b else valW kvs k := by
  unfold valW
  rw [List.find?_cons]
  by_cases h : a = k
  · simp [h]
  · simp [h]
theorem valW_nil {α : Type} (k : Key) : valW ([] : List (Key × α)) k = none := rfl
theorem valW_app {α : Type} (l t : List (Key × α)) (k : Key) : valW (l ++ t) k = (valW l k).or (valW t k) := by
  induction l with
  | nil => rw [List.nil_append, valW_nil]; rfl
  | cons x l ih =>
    obtain ⟨a, b⟩ := x
    rw [List.cons_append, valW_cons, valW_cons, ih]
    by_cases h : a = k
    · simp [h]
    · simp only [h, if_false]
theorem valW_any {α : Type} (kvs : List (Key × α)) (k : Key) : (kvs.any fun kv => decide (kv.1 = k)) = (valW kvs k).isSome := by
  induction kvs with
  | nil => rfl
  | cons x l ih =>
    obtain ⟨a, b⟩ := x
    rw [List.any_cons, valW_cons, ih]
    by_cases h : a = k <;> simp [h]
theorem valW_repl {α : Type} (kvs : List (Key × α)) (k k' : Key) (v : α) : valW (kvs.map fun kv => if kv.1 = k then (kv.1, v) else kv) k' = if k' = k then (valW kvs k).map (fun _ => v) else valW kvs k' := by
  induction kvs with
  | nil => by_cases h : k' = k <;> simp [h, valW_nil]
  | cons x l ih =>
    obtain ⟨a, b⟩ := x
    rw [List.map_cons]
    by_cases h : a = k
    · subst h
      simp only [if_true]
      rw [valW_cons, valW_cons, valW_cons, ih]
      by_cases h2 : a = k'
      · subst h2; simp
      · simp only [h2, if_false, if_true]
        rw [if_neg (Ne.symm h2), if_neg (Ne.symm h2)]
    · simp only [h, if_false]
      rw [valW_cons, valW_cons, valW_cons, ih]
      by_cases h2 : a = k'
      · subst h2; simp [h]
      · simp [h, h2]
theorem val_put {α : Type} (kvs : List (Key × α)) (k k' : Key) (v : α) : valW (putW kvs k v) k' = if k' = k then some v else valW kvs k' := by
  unfold putW
  rw [valW_any]
  split
  · rename_i h
    rw [valW_repl]
    by_cases e : k' = k
    · simp only [e, if_true]
      cases q : valW kvs k with
      | none => rw [q] at h; cases h
      | some w => rfl
    · simp only [e, if_false]
  · rename_i h
    rw [valW_app]
    by_cases e : k' = k
    · subst e
      cases q : valW kvs k' with
      | none => simp [valW_cons]
      | some w => rw [q] at h; exact absurd rfl h
    · have : ¬ k = k' := fun z => e z.symm
      rw [valW_cons, if_neg this, valW_nil, if_neg e]
      cases valW kvs k' <;> rfl
theorem val_drop {α : Type} (kvs : List (Key × α)) (k k' : Key) : valW (dropW kvs k) k' = if k' = k then none else valW kvs k' := by
  unfold dropW
  induction kvs with
  | nil => by_cases h : k' = k <;> simp [h, valW_nil]
  | cons x l ih =>
    obtain ⟨a, b⟩ := x
    rw [List.filter_cons]
    by_cases h : a = k
    · subst h
      simp only [ne_eq, not_true_eq_false, decide_false, Bool.false_eq_true, if_false]
      rw [ih, valW_cons]
      by_cases e : k' = a
      · simp [e]
      · simp only [e, if_false]; rw [if_neg (fun z => e z.symm)]
    · simp only [ne_eq, h, not_false_eq_true, decide_true, if_true]
      rw [valW_cons, valW_cons, ih]
      by_cases e : a = k'
      · subst e; simp [h]
      · simp [e]
theorem len_put {α : Type} (kvs : List (Key × α)) (k : Key) (v : α) : (putW kvs k v).length ≤ kvs.length + 1 := by
  unfold putW
  split
  · rw [List.length_map]; omega
  · rw [List.length_append]; exact Nat.le_refl _
local macro_rules | `(tactic| walk_at "pl") => `(tactic| first | rfl | with_reducible assumption)
local macro_rules | `(tactic| walk_at "side") => `(tactic| first | with_reducible assumption | omega | decide | (refine mulOk_small ?_ ?_ <;> omega) | (simp only [List.length_map, List.length_append, List.length_cons, List.length_nil, List.length_reverse, List.length_singleton, rangeW_len, sizeLine_eq] at *; omega))
local macro_rules | `(tactic| walk_at "nb") => `(tactic| (intro _ hq; cases hq))
local macro_rules | `(tactic| walk_at "fz") => `(tactic| first | rfl | exact frz_plain (by with_reducible assumption))
local macro_rules | `(tactic| walk_at "at") => `(tactic| first | with_reducible assumption | rfl)
local macro_rules | `(tactic| walk_at "call") => `(tactic| with_reducible assumption)
local macro_rules | `(tactic| walk_at "bf") => `(tactic| first | rfl | with_reducible assumption | (simp only [decide_eq_false_iff_not, decide_eq_true_eq]; omega))
local macro_rules | `(tactic| walk_at "op") => `(tactic| first
  | with_reducible assumption
  | with_reducible exact r_pow_10_7 | with_reducible exact r_pow_10_9 | with_reducible exact r_pow_10_13 | with_reducible exact r_pow_10_19 | with_reducible exact r_pow_10_21 | with_reducible exact r_pow_10_22 | with_reducible exact r_pow_10_28 | with_reducible exact r_pow_10_30 | with_reducible exact r_pow_10_40 | with_reducible exact r_pow_10_60 | with_reducible exact r_pow_1000000007_3
  | with_reducible exact r_addI | with_reducible exact r_subI | with_reducible exact r_lt | with_reducible exact r_le | with_reducible exact r_gt | with_reducible exact r_ge
  | with_reducible exact r_neg | with_reducible exact r_min | with_reducible exact r_max | with_reducible exact r_intI | with_reducible exact r_intB
  | with_reducible exact r_eqI | with_reducible exact r_neI | with_reducible exact r_eqB | with_reducible exact r_neB | with_reducible exact r_eqIN | with_reducible exact r_neIN
  | ((with_reducible apply r_neNilI); (focus rfl)) | ((with_reducible apply r_eqNilI); (focus rfl))
  | with_reducible exact r_isN | with_reducible exact r_isNotN | with_reducible exact r_isB | with_reducible exact r_isNotB
  | with_reducible exact r_tupleT
  | ((with_reducible apply r_mul); (focus walk_at "side"))
  | ((with_reducible apply r_div); (focus walk_at "side"))
  | ((with_reducible apply r_mod); (focus walk_at "side"))
  | ((with_reducible apply r_pow); (focus walk_at "side"))
  | ((with_reducible apply r_call); (focus rfl); (focus walk_at "call"))
  | ((with_reducible apply r_tup); (focus rfl))
  | ((with_reducible apply r_own); (focus rfl))
  | ((with_reducible apply r_ix); (focus rfl); (focus walk_at "at"); (focus walk_at "nb"))
  | ((with_reducible apply r_ixI); (focus rfl); (focus with_reducible assumption); (focus walk_at "nb"))
  | ((with_reducible apply r_lenI); (focus rfl); (focus walk_at "nb"))
  | ((with_reducible apply r_revI); (focus rfl))
  | ((with_reducible apply r_cutLI); (focus rfl); (focus walk_at "nb"); (focus walk_at "nb"))
  | ((with_reducible apply r_addLI); (focus rfl); (focus rfl); (focus walk_at "side"))
  | ((with_reducible apply r_len); (focus rfl); (focus walk_at "nb"))
  | ((with_reducible apply r_tupleL); (focus rfl); (focus walk_at "nb"))
  | ((with_reducible apply r_list); (focus rfl))
  | ((with_reducible apply r_rev); (focus rfl))
  | ((with_reducible apply r_in); (focus rfl); (focus walk_at "pl"); (focus walk_at "side"))
  | with_reducible exact r_cutT
  | ((with_reducible apply r_cutL); (focus rfl); (focus walk_at "nb"); (focus walk_at "nb"))
  | ((with_reducible apply r_addT); (focus walk_at "side"))
  | ((with_reducible apply r_addL); (focus rfl); (focus rfl); (focus walk_at "side"))
  | ((with_reducible apply r_isi); (focus rfl); (focus walk_at "kit"))
  | rfl)
local macro_rules | `(tactic| walk_at "ev") => `(tactic| first
  | with_reducible exact r_C
  | ((with_reducible apply r_var); (focus rfl); (focus walk_at "pl"))
  | ((with_reducible apply r_varO); (focus rfl))
  | ((with_reducible apply r_bin); (focus walk_at "ev"); (focus walk_at "ev"); (focus walk_at "op"))
  | ((with_reducible apply r_un); (focus walk_at "ev"); (focus walk_at "op"))
  | ((with_reducible apply r_arg); (focus walk_at "ev"); (focus walk_at "op"))
  | with_reducible exact r_nil
  | ((with_reducible apply r_cons); (focus walk_at "ev"); (focus walk_at "fz"); (focus walk_at "ev"))
  | ((with_reducible apply r_cut); (focus walk_at "ev"); (focus walk_at "ev"); (focus walk_at "ev"); (focus walk_at "op"))
  | with_reducible exact r_no
  | ((with_reducible apply r_at); (focus walk_at "ev"))
  | ((with_reducible apply r_tOf); (focus walk_at "ev"))
  | ((with_reducible apply r_tAnd); (focus walk_at "ev"); (focus intro _; walk_at "ev"))
  | ((with_reducible apply r_tOr); (focus walk_at "ev"); (focus intro _; walk_at "ev"))
  | ((with_reducible apply r_tNot); (focus walk_at "ev"))
  | with_reducible exact r_tTrue
  | ((with_reducible apply r_and0); (focus walk_at "ev"); (focus intro _; walk_at "ev"))
  | ((with_reducible apply r_or0); (focus walk_at "ev"); (focus intro _; walk_at "ev"))
  | ((with_reducible apply r_tAndF); (focus walk_at "ev"); (focus walk_at "bf"))
  | ((with_reducible apply r_tOrT); (focus walk_at "ev"); (focus walk_at "bf"))
  | ((with_reducible apply r_andF); (focus walk_at "ev"); (focus walk_at "bf"))
  | ((with_reducible apply r_orT); (focus walk_at "ev"); (focus walk_at "bf"))
  | ((with_reducible apply r_tAndT); (focus walk_at "ev"); (focus walk_at "bf"); (focus walk_at "ev"))
  | ((with_reducible apply r_tOrN); (focus walk_at "ev"); (focus walk_at "bf"); (focus walk_at "ev"))
  | ((with_reducible apply r_andT); (focus walk_at "ev"); (focus walk_at "bf"); (focus walk_at "ev"))
  | ((with_reducible apply r_orN); (focus walk_at "ev"); (focus walk_at "bf"); (focus walk_at "ev"))
  | ((with_reducible apply r_chainF); (focus walk_at "ev"); (focus walk_at "ev"); (focus walk_at "op"); (focus walk_at "bf"))
  | ((with_reducible apply r_not); (focus walk_at "ev"))
  | ((with_reducible apply r_chain); (focus walk_at "ev"); (focus walk_at "ev"); (focus walk_at "op"); (focus intro _; walk_at "ev"); (focus intro _; walk_at "op"))
  | ((with_reducible apply r_lcI); (focus walk_at "ev"); (focus walk_at "side"); (focus (intro i hi; (with_reducible apply r_stepC); (focus rfl); (focus walk_at "ev"); (focus (intro _; walk_at "ev")); (focus (intro _; walk_at "fz")))))
  | ((with_reducible apply r_rg1); (focus walk_at "ev"); (focus walk_at "side"))
  | ((with_reducible apply r_rg2); (focus walk_at "ev"); (focus walk_at "ev"); (focus walk_at "side"))
  | ((with_reducible apply r_seqT); (focus walk_at "ev"))
  | ((with_reducible apply r_seqL); (focus walk_at "ev"))
  | ((with_reducible apply r_seqF); (focus walk_at "ev"))
  | ((with_reducible apply r_seqO); (focus walk_at "ev"))
  | ((with_reducible apply r_zipT); (focus walk_at "ev"))
  | ((with_reducible apply r_zipL); (focus walk_at "ev"))
  | ((with_reducible apply r_enu); (focus walk_at "ev")))
local macro_rules | `(tactic| walk_at "st1") => `(tactic| first
  | with_reducible exact r_next
  | ((with_reducible apply r_setZ); (focus walk_at "ev"); (focus walk_at "fz"))
  | ((with_reducible apply r_set); (focus walk_at "ev"); (focus walk_at "nb"))
  | ((with_reducible apply r_tgt); (focus walk_at "ev"); (focus walk_at "fz"); (focus rfl))
  | ((with_reducible apply r_drop); (focus walk_at "ev"))
  | ((with_reducible apply r_append); (focus rfl); (focus walk_at "ev"); (focus walk_at "fz"); (focus walk_at "side"))
  | ((with_reducible apply r_aug); (focus rfl); (focus walk_at "ev"); (focus walk_at "op"); (focus walk_at "pl"))
  | with_reducible exact r_brk
  | with_reducible exact r_cnt
  | ((with_reducible apply r_seq); (focus walk_at "st1"); (focus walk_at "st1")))
local macro_rules | `(tactic| walk_at "wp") => `(tactic| first
  | ((with_reducible apply wp_seq); walk_at "wp")
  | ((with_reducible apply wp_st); (focus walk_at "st1"); walk_at "wp")
  | ((with_reducible apply wp_if); (focus walk_at "ev"); all_goals (intro hb; (try simp only [decide_eq_true_eq, decide_eq_false_iff_not, M.isNon, false_and, and_false, true_and, and_true, true_or, or_true, false_or, or_false, not_true_eq_false, not_false_eq_true, Bool.false_and, Bool.true_and, Bool.and_false, Bool.and_true, Bool.false_or, Bool.or_false, Bool.true_or, Bool.or_true, Bool.not_true, Bool.not_false, Bool.true_eq_false, Bool.false_eq_true, Bool.and_eq_true, Bool.or_eq_true, Bool.not_eq_true', Bool.not_eq_false', Bool.and_eq_false_imp, Bool.or_eq_false_iff, reduceCtorEq, Int.not_lt, Int.not_le, optW, Int.lt_irrefl] at hb) <;> first | (exfalso; omega) | walk_at "wp"))
  | ((with_reducible apply wp_ret); (focus walk_at "ev"); (focus walk_at "nb"); walk_at "end")
  | ((with_reducible apply wp_retV); (focus rfl); walk_at "end")
  | ((with_reducible apply wp_frz); (focus rfl); walk_at "wp")
  | ((with_reducible apply wp_next); walk_at "nxt")
  | ((with_reducible apply wp_brk); walk_at "nxt")
  | ((with_reducible apply wp_cnt); walk_at "nxt")
  | ((with_reducible apply wp_nx); (focus walk_at "st1"); walk_at "nxt")
  | skip)
local macro_rules | `(tactic| walk_at "nxt") => `(tactic| first | ((show wp _ _ _ _); walk_at "wp") | skip)
local macro_rules | `(tactic| walk_at "end") => `(tactic| first | exact ⟨(by intro _ q; cases q), rfl, rfl⟩ | skip)
local macro_rules | `(tactic| walk_at "kit") => `(tactic| first | exact kit_ii | exact kit_ib | exact kit_bb | exact kit_bi | exact kit_ni | exact kit_nb | exact kit_tt | exact kit_it | exact kit_nt | exact kit_lt | exact kit_st | exact kit_bt | exact kit_ll | exact kit_tl | exact kit_il | exact kit_nl | exact kit_sl | exact kit_ss | exact kit_is | exact kit_ts | exact kit_ns)
local macro_rules | `(tactic| walk_at "ne") => `(tactic| first | with_reducible assumption | (apply Ne.symm; with_reducible assumption) | omega | decide)
local macro_rules | `(tactic| walk_at "hp") => `(tactic| first | with_reducible assumption | with_reducible exact app_at | (with_reducible apply set_at; walk_at "hp") | (with_reducible refine Eq.trans (set_ne ?_) ?_; (focus walk_at "ne"); walk_at "hp") | (with_reducible refine app_old ?_; walk_at "hp") | rfl)
local macro_rules | `(tactic| walk_at "op") => `(tactic| first
  | with_reducible assumption
  | with_reducible exact r_eqST | (with_reducible apply r_eqSF; focus (decide +kernel)) | with_reducible exact r_neST | (with_reducible apply r_neSF; focus (decide +kernel))
  | with_reducible exact r_eqNN | with_reducible exact r_eqNI | with_reducible exact r_neNN | with_reducible exact r_neNI
  | ((with_reducible apply r_oApp); (focus walk_at "hp"); (focus walk_at "side"))
  | ((with_reducible apply r_oIns); (focus walk_at "hp"); (focus walk_at "side"))
  | ((with_reducible apply r_oClr); (focus walk_at "hp"))
  | ((with_reducible apply r_oExtT); (focus walk_at "hp"); (focus walk_at "side"))
  | ((with_reducible apply r_oExtL); (focus walk_at "hp"); (focus walk_at "side"))
  | ((with_reducible apply r_ixR); (focus walk_at "hp"); (focus walk_at "at"))
  | ((with_reducible apply r_lenR); (focus walk_at "hp"))
  | ((with_reducible apply r_tupleR); (focus walk_at "hp"))
  | ((with_reducible apply r_listR); (focus walk_at "hp"))
  | ((with_reducible apply r_cutR); (focus walk_at "hp"))
  | ((with_reducible apply r_lenD); (focus walk_at "hp"))
  | ((with_reducible apply r_sortD); (focus walk_at "hp"); (focus with_reducible assumption); (focus walk_at "side"))
  | ((with_reducible apply r_sortL); (focus rfl); (focus rfl))
  | ((with_reducible apply r_dinT); (focus walk_at "hp"); (focus rfl); (focus with_reducible assumption))
  | ((with_reducible apply r_dinF); (focus walk_at "hp"); (focus rfl); (focus with_reducible assumption))
  | ((with_reducible apply r_din); (focus walk_at "hp"); (focus rfl))
  | ((with_reducible apply r_get1v); (focus walk_at "hp"); (focus rfl); (focus with_reducible assumption))
  | ((with_reducible apply r_get2v); (focus walk_at "hp"); (focus rfl); (focus with_reducible assumption))
  | ((with_reducible apply r_pop1); (focus walk_at "hp"); (focus rfl); (focus with_reducible assumption))
  | ((with_reducible apply r_pop2S); (focus walk_at "hp"); (focus rfl); (focus with_reducible assumption))
  | ((with_reducible apply r_pop2N); (focus walk_at "hp"); (focus rfl); (focus with_reducible assumption); (focus rfl)))
local macro_rules | `(tactic| walk_at "ev") => `(tactic| first
  | ((with_reducible apply r_ref); (focus walk_at "ev"))
  | ((with_reducible apply r_met); (focus walk_at "ev"); (focus walk_at "hp"); (focus walk_at "ev"); (focus walk_at "op"))
  | ((with_reducible apply r_met0); (focus walk_at "ev"); (focus walk_at "hp"); (focus walk_at "op"))
  | with_reducible exact r_dnew
  | ((with_reducible apply r_dget); (focus walk_at "ev"); (focus walk_at "ev"); (focus walk_at "hp"); (focus rfl); (focus with_reducible assumption))
  | ((with_reducible apply r_d2); (focus walk_at "ev"); (focus walk_at "hp"); (focus walk_at "ev"); (focus walk_at "op"))
  | ((with_reducible apply r_d3); (focus walk_at "ev"); (focus walk_at "hp"); (focus walk_at "ev"); (focus walk_at "ev"); (focus walk_at "op"))
  | ((with_reducible apply r_fld); (focus walk_at "ev"); (focus walk_at "hp"); (focus rfl))
  | ((with_reducible apply r_me); (focus walk_at "ev"); (focus walk_at "hp"); (focus walk_at "ev"); (focus rfl); (focus walk_at "call"))
  | ((with_reducible apply r_mk); (focus walk_at "ev"); (focus rfl); (focus walk_at "call"))
  | ((with_reducible apply r_rg1I); (focus walk_at "ev"); (focus walk_at "side"))
  | ((with_reducible apply r_rg2I); (focus walk_at "ev"); (focus walk_at "ev"); (focus walk_at "side"))
  | ((with_reducible apply r_seqRf); (focus walk_at "ev"); (focus walk_at "hp")))
local macro_rules | `(tactic| walk_at "st1") => `(tactic| first
  | ((with_reducible apply r_dput); (focus walk_at "ev"); (focus walk_at "fz"); (focus walk_at "ev"); (focus walk_at "ev"); (focus walk_at "hp"); (focus rfl); (focus walk_at "side"))
  | ((with_reducible apply r_store); (focus walk_at "ev"); (focus walk_at "fz"); (focus walk_at "ev"); (focus walk_at "ev"); (focus walk_at "hp"); (focus walk_at "at"))
  | ((with_reducible apply r_fFld); (focus walk_at "ev"); (focus walk_at "fz"); (focus walk_at "ev"); (focus walk_at "hp"); (focus rfl))
  | ((with_reducible apply r_fFldAug); (focus walk_at "ev"); (focus walk_at "hp"); (focus rfl); (focus walk_at "ev"); (focus walk_at "op"); (focus walk_at "fz"); (focus walk_at "hp"); (focus walk_at "side")))
/-! ### pages by pairs -/
abbrev pg (lv : Int) (ks : List Int) (ps : List Int) (hi si : Option Int) : W := .tup [.int lv, .tup (ks.map W.int), .tup (ps.map W.int), optW hi, optW si]
abbrev leafW (L : Al) (hi si : Option Int) : W := pg 0 (keysA L) (valsA L) hi si
abbrev forkW (lv c : Int) (L : Al) (hi si : Option Int) : W := pg lv (keysA L) (c :: valsA L) hi si
def bey (hi : Option Int) (k : Int) : Bool := match hi with
  | none => false
  | some h => decide (h ≤ k)
theorem cutG_to {α : Type} (l : List α) (n : Nat) : cutG l none (some (n : Int)) = l.take n := by
  unfold cutG
  rw [HT.sIx_none, HT.sIx_nat, List.drop_zero, Nat.sub_zero]
  by_cases h : n ≤ l.length
  · rw [Nat.min_eq_left h]
  · rw [Nat.min_eq_right (by omega), List.take_of_length_le (Nat.le_refl _), List.take_of_length_le (by omega)]
theorem cutG_from {α : Type} (l : List α) (n : Nat) : cutG l (some (n : Int)) none = l.drop n := by
  unfold cutG
  rw [HT.sIx_nat, HT.sIx_none]
  by_cases h : n ≤ l.length
  · rw [Nat.min_eq_left h, List.take_of_length_le (by rw [List.length_drop]; omega)]
  · rw [Nat.min_eq_right (by omega), Nat.sub_self, List.take_zero, List.drop_eq_nil_of_le (by omega)]
theorem keys_take (L : Al) (n : Nat) : (keysA L).take n = keysA (L.take n) := by unfold keysA; rw [List.map_take]
theorem keys_drop (L : Al) (n : Nat) : (keysA L).drop n = keysA (L.drop n) := by unfold keysA; rw [List.map_drop]
theorem vals_take (L : Al) (n : Nat) : (valsA L).take n = valsA (L.take n) := by unfold valsA; rw [List.map_take]
theorem vals_drop (L : Al) (n : Nat) : (valsA L).drop n = valsA (L.drop n) := by unfold valsA; rw [List.map_drop]
theorem keys_app (L T : Al) : keysA (L ++ T) = keysA L ++ keysA T := List.map_append
theorem vals_app (L T : Al) : valsA (L ++ T) = valsA L ++ valsA T := List.map_append
theorem atI_of {α : Type} {l : List α} {j : Nat} (h : j < l.length) : L2.atI l (j : Int) = some l[j] := L2.atI_nat (by simp [h])
theorem atI_get {α : Type} {l : List α} {j : Nat} {x : α} (h : l[j]? = some x) : L2.atI l (j : Int) = some x := L2.atI_nat h
theorem keys_get {L : Al} {i : Nat} {p : Int × Int} (h : L[i]? = some p) : (keysA L)[i]? = some p.1 := by unfold keysA; rw [List.getElem?_map, h]; rfl
theorem vals_get {L : Al} {i : Nat} {p : Int × Int} (h : L[i]? = some p) : (valsA L)[i]? = some p.2 := by unfold valsA; rw [List.getElem?_map, h]; rfl
theorem plain_opt (h : Option Int) : plain (optW h) = true := by cases h <;> rfl
/-! ### a shelf: the object at s, its list at h -/
structure Sh where
  room : Int
  top : Int
  r : Int
  w : Int
  ps : List W
abbrev shI (h : Nat) (S : Sh) : MO := .ins c_Shelf [.int S.room, .ref h, .int S.top, .int S.r, .int S.w]
structure ShAt (s h : Nat) (S : Sh) (m : MH) : Prop where
  ob : m[s]? = some (shI h S)
  ls : m[h]? = some (.lst S.ps)
  ne : s ≠ h
theorem ShAt.set {s h : Nat} {S S' : Sh} {m : MH} (A : ShAt s h S m) (e : S'.ps = S.ps) : ShAt s h S' (m.set s (shI h S')) := ⟨set_at A.ob, by rw [set_ne A.ne, A.ls, e], A.ne⟩
theorem ShAt.set2 {s h : Nat} {S S' : Sh} {m : MH} (A : ShAt s h S m) : ShAt s h S' ((m.set s (shI h S')).set h (.lst S'.ps)) := ⟨by rw [set_ne A.ne.symm]; exact set_at A.ob, set_at (y := .lst S.ps) (by rw [set_ne A.ne]; exact A.ls), A.ne⟩
theorem ShAt.of {s h : Nat} {S : Sh} {m m' : MH} (A : ShAt s h S m) (e : m'[s]? = m[s]?) (e2 : m'[h]? = m[h]?) : ShAt s h S m' := ⟨by rw [e]; exact A.ob, by rw [e2]; exact A.ls, A.ne⟩
section
variable {s h : Nat} {S : Sh} {m : MH}
theorem need_run (A : ShAt s h S m) {n : Nat} (hn : n < S.ps.length) : Shelf_need_raw [.ref s, .int n] m = some (.non, m) := by
  refine wp_body1 ?_
  unfold Shelf_need_sem
  have h1 := A.ob
  have h2 := A.ls
  apply wp_if
  focus walk_at "ev"
  · intro hb
    simp only [Bool.or_eq_true, decide_eq_true_eq] at hb
    omega
  · intro _
    walk_at "wp"
    exact ⟨rfl, rfl⟩
theorem read_run (A : ShAt s h S m) {n : Nat} {p : W} (hn : S.ps[n]? = some p) (hp : plain p = true) : Shelf_read_raw [.ref s, .int n] m = some (p, m.set s (shI h { S with r := S.r + 1 })) := by
  refine wp_body1 ?_
  unfold Shelf_read_sem
  have h1 := A.ob
  have h2 := A.ls
  have h3 := A.ne
  have h4 := need_run A (List.getElem?_eq_some_iff.mp hn).1
  have h5 : L2.atI S.ps (n : Int) = some p := L2.atI_nat hn
  apply wp_seq
  apply wp_st
  focus walk_at "st1"
  apply wp_seq
  apply wp_st
  focus walk_at "st1"
  apply wp_ret
  focus walk_at "ev"
  · intro l z; rw [z] at hp; cases hp
  · exact ⟨(fun l z => by rw [z] at hp; cases hp), rfl, rfl⟩
theorem ixN_nat {L j : Nat} (hj : j < L) : ixN L (j : Int) = some j := by
  unfold ixN
  rw [if_pos (by omega), if_pos (by omega)]
  exact congrArg some (Int.toNat_natCast j)
theorem write_run (A : ShAt s h S m) {n : Nat} {p : W} (hn : n < S.ps.length) (hp : plain p = true) : Shelf_write_raw [.ref s, .int n, p] m = some (.non, (m.set s (shI h { S with w := S.w + 1 })).set h (.lst (S.ps.set n p))) := by
  refine wp_body1 ?_
  unfold Shelf_write_sem
  have h1 := A.ob
  have h2 := A.ls
  have h3 := A.ne
  have h4 := need_run A hn
  have h5 : ixN S.ps.length (n : Int) = some n := ixN_nat hn
  walk_at "wp"
  exact ⟨rfl, rfl⟩
theorem lay_run (A : ShAt s h S m) {p : W} (hp : plain p = true) (hz : S.ps.length < 1000000) : Shelf_lay_raw [.ref s, p] m = some (.int S.ps.length, (m.set s (shI h { S with w := S.w + 1 })).set h (.lst (S.ps ++ [p]))) := by
  refine wp_body1 ?_
  unfold Shelf_lay_sem
  have h1 := A.ob
  have h2 := A.ls
  have h3 := A.ne
  walk_at "wp"
  exact ⟨nofun, by rw [List.length_append, List.length_singleton]; congr 1; omega, rfl⟩
theorem make_root_run (A : ShAt s h S m) {n : Nat} (hn : n < S.ps.length) : Shelf_make_root_raw [.ref s, .int n] m = some (.non, m.set s (shI h { S with top := n })) := by
  refine wp_body1 ?_
  unfold Shelf_make_root_sem
  have h1 := A.ob
  have h4 := need_run A hn
  walk_at "wp"
  exact ⟨rfl, rfl⟩
theorem root_run (A : ShAt s h S m) : Shelf_root_raw [.ref s] m = some (.int S.top, m) := by
  refine wp_body1 ?_
  unfold Shelf_root_sem
  have h1 := A.ob
  walk_at "wp"
theorem room_run (A : ShAt s h S m) : Shelf_room_raw [.ref s] m = some (.int S.room, m) := by
  refine wp_body1 ?_
  unfold Shelf_room_sem
  have h1 := A.ob
  walk_at "wp"
theorem pages_run (A : ShAt s h S m) : Shelf_pages_raw [.ref s] m = some (.int S.ps.length, m) := by
  refine wp_body1 ?_
  unfold Shelf_pages_sem
  have h1 := A.ob
  have h2 := A.ls
  walk_at "wp"
theorem readings_run (A : ShAt s h S m) : Shelf_readings_raw [.ref s] m = some (.int S.r, m) := by
  refine wp_body1 ?_
  unfold Shelf_readings_sem
  have h1 := A.ob
  walk_at "wp"
theorem writings_run (A : ShAt s h S m) : Shelf_writings_raw [.ref s] m = some (.int S.w, m) := by
  refine wp_body1 ?_
  unfold Shelf_writings_sem
  have h1 := A.ob
  walk_at "wp"
end
abbrev emptyLeaf : W := .tup [.int 0, .tup [], .tup [], .non, .non]
def newSh (room : Int) : Sh := ⟨room, 0, 0, 0, [emptyLeaf]⟩
theorem shelf_init (room : Int) (m : MH) : Shelf_init_raw [.ref m.length, .int room] (m ++ [.ins c_Shelf []]) = some (.non, m ++ [shI (m.length + 1) (newSh room), .lst [emptyLeaf]]) := by
  refine wp_body1 ?_
  unfold Shelf_init_sem
  have h1 : (m ++ [MO.ins c_Shelf []])[m.length]? = some (.ins c_Shelf []) := app_at
  have e1 : ∀ (x y : MO), (m ++ [x]).set m.length y = m ++ [y] := fun x y => by simp
  have e2 : ∀ (x y z : MO), (m ++ [x, z]).set m.length y = m ++ [y, z] := fun x y z => by simp
  have h3 : ∀ (x y : MO), (m ++ [x, y])[m.length]? = some x := fun x y => by simp
  have h4 := h3 (.ins c_Shelf [.int room, .ref (m.length + 1)]) (.lst [emptyLeaf])
  have h5 := h3 (.ins c_Shelf [.int room, .ref (m.length + 1), .int 0]) (.lst [emptyLeaf])
  have h6 := h3 (.ins c_Shelf [.int room, .ref (m.length + 1), .int 0, .int 0]) (.lst [emptyLeaf])
  apply wp_seq
  apply wp_st
  focus walk_at "st1"
  simp only [e1, e2, List.nil_append, List.cons_append, List.append_assoc, List.length_append, List.length_singleton]
  have h2 : (m ++ [MO.ins c_Shelf [W.int room]] ++ [MO.lst [emptyLeaf]])[m.length]? = some (.ins c_Shelf [.int room]) := app_old app_at
  apply wp_seq
  apply wp_st
  focus walk_at "st1"
  simp only [e1, e2, List.nil_append, List.cons_append, List.append_assoc, List.length_append, List.length_singleton]
  apply wp_seq
  apply wp_st
  focus walk_at "st1"
  simp only [e1, e2, List.nil_append, List.cons_append, List.append_assoc, List.length_append, List.length_singleton]
  apply wp_seq
  apply wp_st
  focus walk_at "st1"
  simp only [e1, e2, List.nil_append, List.cons_append, List.append_assoc, List.length_append, List.length_singleton]
  walk_at "wp"
  refine ⟨rfl, ?_⟩
  simp only [e1, e2, List.nil_append, List.cons_append, List.append_assoc, List.length_append, List.length_singleton]
  rfl
/-- a page: its level stands first -/
def Lvl (p : W) (lv : Int) : Prop := ∃ l, p = .tup (.int lv :: l)
theorem Lvl.ix {p : W} {lv : Int} (h : Lvl p lv) (m : MH) : oIx p (.int 0) m = some (.int lv, m) := by obtain ⟨l, rfl⟩ := h; exact r_ix (l := .int lv :: l) rfl (L2.atI_nat (xs := W.int lv :: l) (j := 0) rfl) nofun
abbrev rootP (lv k t n : Int) : W := .tup [.int lv, .tup [.int k], .tup [.int t, .int n], .non, .non]
theorem raise_run {s h : Nat} {S : Sh} {m : MH} (A : ShAt s h S m) {k : Int} {n t : Nat} (hn : n < S.ps.length) {p : W} {lv : Int} (ht : S.top = t) (hp : S.ps[t]? = some p) (hl : Lvl p lv) (hpl : plain p = true) (hz : S.ps.length < 1000000) :
    ∃ m', Shelf_raise_root_raw [.ref s, .int k, .int n] m = some (.int S.ps.length, m') ∧ ShAt s h { S with w := S.w + 1, top := S.ps.length, ps := S.ps ++ [rootP (lv + 1) k S.top n] } m' ∧ ∀ i, i ≠ s → i ≠ h → m'[i]? = m[i]? := by
  have key : wp Shelf_raise_root_sem (startE 4 [.ref s, .int k, .int n]) m (retQ fun x m' => x = .int S.ps.length ∧ ShAt s h { S with w := S.w + 1, top := S.ps.length, ps := S.ps ++ [rootP (lv + 1) k S.top n] } m' ∧ ∀ i, i ≠ s → i ≠ h → m'[i]? = m[i]?) := by
    unfold Shelf_raise_root_sem
    have h1 := A.ob
    have h2 := A.ls
    have h3 := A.ne
    have h4 := need_run A hn
    have h5 : L2.atI S.ps S.top = some p := by rw [ht]; exact L2.atI_nat hp
    have h6 := hl.ix m
    have hlay := lay_run A (p := rootP (lv + 1) k S.top n) rfl hz
    have A2 := A.set2 (S' := { S with w := S.w + 1, ps := S.ps ++ [rootP (lv + 1) k S.top n] })
    apply wp_seq
    apply wp_st
    focus walk_at "st1"
    apply wp_seq
    apply wp_st
    focus walk_at "st1"
    obtain ⟨m2, hm2⟩ : ∃ x, x = (m.set s (shI h { S with w := S.w + 1 })).set h (.lst (S.ps ++ [rootP (lv + 1) k S.top n])) := ⟨_, rfl⟩
    rw [← hm2] at hlay
    have A2' : ShAt s h { S with w := S.w + 1, ps := S.ps ++ [rootP (lv + 1) k S.top n] } m2 := by rw [hm2]; exact A2
    have hob := A2'.ob
    have A3 := A2'.set (S' := { S with w := S.w + 1, top := S.ps.length, ps := S.ps ++ [rootP (lv + 1) k S.top n] }) rfl
    walk_at "wp"
    exact ⟨nofun, rfl, A3, fun i i1 i2 => by rw [set_ne i1.symm, hm2, set_ne i2.symm, set_ne i1.symm]⟩
  obtain ⟨x, m', g1, rfl, g2, g3⟩ := wp_body key
  exact ⟨m', g1, g2, g3⟩
/-! ### numbers drawn -/
def pick (c p n : Int) : Int := (c + p / 3) % p * ((c + p / 3) % p) % p * ((c + p / 3) % p) % p % n
theorem pick_lo (c p n : Int) (hn : 0 < n) : 0 ≤ pick c p n := Int.emod_nonneg _ (by omega)
theorem pick_hi (c p n : Int) (hn : 0 < n) : pick c p n < n := Int.emod_lt_of_pos _ hn
theorem pick_run (c p n : Int) (m : MH) (hp : 0 < p) (hp2 : p < 100000) (hn : 0 < n) : law_pick_raw [.int c, .int p, .int n] m = some (.int (pick c p n), m) := by
  refine wp_body1 ?_
  unfold law_pick_sem
  have h1 : 0 ≤ (c + p / 3) % p := Int.emod_nonneg _ (by omega)
  have h2 : (c + p / 3) % p < p := Int.emod_lt_of_pos _ hp
  have h3 : 0 ≤ (c + p / 3) % p * ((c + p / 3) % p) % p := Int.emod_nonneg _ (by omega)
  have h4 : (c + p / 3) % p * ((c + p / 3) % p) % p < p := Int.emod_lt_of_pos _ hp
  walk_at "wp"
local macro_rules | `(tactic| walk_at "call") => `(tactic| first | with_reducible assumption | (with_reducible apply pick_run <;> omega))
/-! ### how a raising def runs -/
section
variable {env env1 : En} {m m1 m2 : MH} {f h : FRS} {fx : FRE} {t : FT} {fn : FS} {fr : FA} {fo : FE} {φ : OpR} {xs : List W} {r : Nat × MH} {rs : Nat × En × MH} {c n k : Nat} {fs : List W}
theorem x_drop (h : fx env m = some (c, m1)) : xDrop fx env m = some (c, env, m1) := by unfold xDrop; rw [h]
theorem x_arg (h1 : fr env m = some (xs, m1)) (hq : xs.length = n) (h2 : φ xs m1 = some r) : xArg (oCallR n φ) fr env m = some r := by
  unfold xArg; rw [h1]; show oCallR n φ xs m1 = some r; unfold oCallR; rw [if_pos hq]; exact h2
theorem x_me (h1 : fo env m = some (.ref k, m1)) (h2 : m1[k]? = some (.ins c fs)) (h3 : fr env m1 = some (xs, m2)) (hq : (W.ref k :: xs).length = n) (h4 : φ (.ref k :: xs) m2 = some r) : xMe c n φ fo fr env m = some r := by
  unfold xMe; rw [h1]
  show (if isIns c m1 (.ref k) = true then _ else _) = _
  have hi : isIns c m1 (.ref k) = true := by show (insOf c k m1).isSome = true; rw [insOf_of h2]; rfl
  rw [if_pos hi, h3]
  show oCallR n φ (.ref k :: xs) m2 = some r
  unfold oCallR; rw [if_pos hq]; exact h4
theorem x_ifT (h1 : t env m = some (true, m1)) (h2 : f env m1 = some rs) : xIf t f h env m = some rs := by unfold xIf; rw [h1]; exact h2
theorem x_ifF (h1 : t env m = some (false, m1)) (h2 : h env m1 = some rs) : xIf t f h env m = some rs := by unfold xIf; rw [h1]; exact h2
theorem x_ifN (h1 : t env m = some (false, m1)) : xIf t f xNever env m = none := by unfold xIf; rw [h1]; rfl
theorem x_seq (h1 : fn env m = some (.nx, env1, m1)) (h2 : h env1 m1 = some rs) : xSeq fn h env m = some rs := by unfold xSeq; rw [h1]; exact h2
theorem x_orL (h1 : f env m = some rs) : xOr f h env m = some rs := by unfold xOr; rw [h1]
theorem x_orR (h1 : f env m = none) (h2 : h env m = some rs) : xOr f h env m = some rs := by unfold xOr; rw [h1]; exact h2
theorem x_body {N : Nat} (h1 : f (startE N xs) m = some (c, env, m1)) : bodyX N f xs m = some (c, m1) := by unfold bodyX; rw [h1]
theorem r_try {i : Nat} {L : Nat → Option (List (Nat × Bool))} {l : List (Nat × Bool)} (h1 : f env m = some (c, env1, m1)) (h2 : L c = some l) (h3 : i < env1.length) : fTry i f L env m = some (.nx, (setB l (env1.set i none)).set i none, m1) := by
  unfold fTry; rw [h1]; simp only [h2]; rw [if_pos h3]
end
section
variable {s h : Nat} {S : Sh} {m : MH}
theorem need_bad (A : ShAt s h S m) {n : Int} (hn : n < 0 ∨ (S.ps.length : Int) ≤ n) : Shelf_need_rawx [.ref s, .int n] m = some (0, m) := by
  unfold Shelf_need_rawx
  refine x_body (env := startE 2 [.ref s, .int n]) ?_
  unfold Shelf_need_semx
  have h1 := A.ob
  have h2 := A.ls
  refine x_ifT (m1 := m) ?_ rfl
  have e : (true : Bool) = (decide (n < 0) || decide (n ≥ (S.ps.length : Int))) := by
    rcases hn with z | z <;> simp [z]
  rw [e]
  focus walk_at "ev"
theorem read_bad (A : ShAt s h S m) {n : Int} (hn : n < 0 ∨ (S.ps.length : Int) ≤ n) : Shelf_read_rawx [.ref s, .int n] m = some (0, m) := by
  unfold Shelf_read_rawx
  refine x_body (env := startE 2 [.ref s, .int n]) ?_
  unfold Shelf_read_semx
  have h1 := A.ob
  refine x_drop (x_me (k := s) (m1 := m) (m2 := m) (xs := [.int n]) ?_ h1 ?_ rfl (need_bad A hn))
  focus walk_at "ev"
  focus walk_at "ev"
theorem write_bad (A : ShAt s h S m) {n : Int} {p : W} (hn : n < 0 ∨ (S.ps.length : Int) ≤ n) : Shelf_write_rawx [.ref s, .int n, p] m = some (0, m) := by
  unfold Shelf_write_rawx
  refine x_body (env := startE 3 [.ref s, .int n, p]) ?_
  unfold Shelf_write_semx
  have h1 := A.ob
  refine x_drop (x_me (k := s) (m1 := m) (m2 := m) (xs := [.int n]) ?_ h1 ?_ rfl (need_bad A hn))
  focus walk_at "ev"
  focus walk_at "ev"
theorem make_root_bad (A : ShAt s h S m) {n : Int} (hn : n < 0 ∨ (S.ps.length : Int) ≤ n) : Shelf_make_root_rawx [.ref s, .int n] m = some (0, m) := by
  unfold Shelf_make_root_rawx
  refine x_body (env := startE 2 [.ref s, .int n]) ?_
  unfold Shelf_make_root_semx
  have h1 := A.ob
  refine x_drop (x_me (k := s) (m1 := m) (m2 := m) (xs := [.int n]) ?_ h1 ?_ rfl (need_bad A hn))
  focus walk_at "ev"
  focus walk_at "ev"
theorem raise_bad (A : ShAt s h S m) {n : Int} {k : W} (hn : n < 0 ∨ (S.ps.length : Int) ≤ n) : Shelf_raise_root_rawx [.ref s, k, .int n] m = some (0, m) := by
  unfold Shelf_raise_root_rawx
  refine x_body (env := startE 4 [.ref s, k, .int n]) ?_
  unfold Shelf_raise_root_semx
  have h1 := A.ob
  refine x_drop (x_me (k := s) (m1 := m) (m2 := m) (xs := [.int n]) ?_ h1 ?_ rfl (need_bad A hn))
  focus walk_at "ev"
  focus walk_at "ev"
end
/-- the pages of this law -/
def PgK (p : W) : Prop := Dk 8 p ∧ plain p = true ∧ ∃ lv, Lvl p lv
theorem leaf_run (c : Int) : ∃ p, PgK p ∧ ∀ m, law_leaf_raw [.int c] m = some (p, m) := by
  obtain ⟨key, hk⟩ : ∃ key, key = (c % 10000000000000000000000000000000000000000 * 1000000000039 + 7) % (2 * 1000000000000000000000000000000 - 1999) - 1000000000000000000000000000000 + 999 := ⟨_, rfl⟩
  by_cases hb : pick c 10007 2 = 0
  · refine ⟨.tup [.int 0, .tup [.int key], .tup [.int (pick c 10009 100 - 50)], .non, .non], ⟨.tup (.cons .int (.cons (.tup (.cons .int .nil)) (.cons (.tup (.cons .int .nil)) (.cons .non (.cons .non .nil))))), rfl, 0, _, rfl⟩, fun m => ?_⟩
    refine wp_body1 ?_
    unfold law_leaf_sem
    have hq : 0 ≤ c % 10000000000000000000000000000000000000000 := Int.emod_nonneg _ (by decide)
    have hq2 : c % 10000000000000000000000000000000000000000 < 10000000000000000000000000000000000000000 := Int.emod_lt_of_pos _ (by decide)
    apply wp_seq
    apply wp_st
    focus walk_at "st1"
    rw [← hk]
    walk_at "wp"
  · refine ⟨.tup [.int 0, .tup [.int key], .tup [.int 0], .int (key + 1 + pick c 10037 9), .int (pick c 10039 50)], ⟨.tup (.cons .int (.cons (.tup (.cons .int .nil)) (.cons (.tup (.cons .int .nil)) (.cons .int (.cons .int .nil))))), rfl, 0, _, rfl⟩, fun m => ?_⟩
    refine wp_body1 ?_
    unfold law_leaf_sem
    have hq : 0 ≤ c % 10000000000000000000000000000000000000000 := Int.emod_nonneg _ (by decide)
    have hq2 : c % 10000000000000000000000000000000000000000 < 10000000000000000000000000000000000000000 := Int.emod_lt_of_pos _ (by decide)
    apply wp_seq
    apply wp_st
    focus walk_at "st1"
    rw [← hk]
    walk_at "wp"
section
variable {s h : Nat} {S : Sh} {m : MH}
theorem handed_bad (A : ShAt s h S m) {n way c : Int} (hn : n < 0 ∨ (S.ps.length : Int) ≤ n) : law_handed_rawx [.ref s, .int way, .int n, .int c] m = some (0, m) := by
  unfold law_handed_rawx
  refine x_body (env := startE 4 [.ref s, .int way, .int n, .int c]) ?_
  unfold law_handed_semx
  have h1 := A.ob
  obtain ⟨p, hp, hl⟩ := leaf_run c
  have hl := hl m
  have hpl := hp.2.1
  have t0 : ∀ (j : Int), way ≠ j → tOf (eBin oEq (eVar 1) (eC (.int j))) (startE 4 [.ref s, .int way, .int n, .int c]) m = some (false, m) := fun j hj => by
    have e : (false : Bool) = decide (way = j) := by simp [hj]
    rw [e]
    focus walk_at "ev"
  have t1 : ∀ (j : Int), way = j → tOf (eBin oEq (eVar 1) (eC (.int j))) (startE 4 [.ref s, .int way, .int n, .int c]) m = some (true, m) := fun j hj => by
    have e : (true : Bool) = decide (way = j) := by simp [hj]
    rw [e]
    focus walk_at "ev"
  have nx : ∀ (j : Int) (f : FS), way ≠ j → fIf (tOf (eBin oEq (eVar 1) (eC (.int j)))) f fNext (startE 4 [.ref s, .int way, .int n, .int c]) m = some (.nx, startE 4 [.ref s, .int way, .int n, .int c], m) := fun j f hj => by
    unfold fIf; rw [t0 j hj]; rfl
  by_cases w0 : way = 0
  · refine x_orL (x_ifT (t1 0 w0) (x_drop (x_me (k := s) (m1 := m) (m2 := m) (xs := [.int n]) ?_ h1 ?_ rfl (read_bad A hn))))
    focus walk_at "ev"
    focus walk_at "ev"
  refine x_orR (x_ifN (t0 0 w0)) (x_seq (nx 0 _ w0) ?_)
  by_cases w1 : way = 1
  · refine x_orL (x_ifT (t1 1 w1) (x_drop (x_me (k := s) (m1 := m) (m2 := m) (xs := [.int n, p]) ?_ h1 ?_ rfl (write_bad A hn))))
    focus walk_at "ev"
    focus walk_at "ev"
  refine x_orR (x_ifN (t0 1 w1)) (x_seq (nx 1 _ w1) ?_)
  by_cases w2 : way = 2
  · refine x_orL (x_ifT (t1 2 w2) (x_drop (x_me (k := s) (m1 := m) (m2 := m) (xs := [.int n]) ?_ h1 ?_ rfl (make_root_bad A hn))))
    focus walk_at "ev"
    focus walk_at "ev"
  refine x_orR (x_ifN (t0 2 w2)) (x_seq (nx 2 _ w2) ?_)
  refine x_drop (x_me (k := s) (m1 := m) (m2 := m) (xs := [.int (pick c 10061 99), .int n]) ?_ h1 ?_ rfl (raise_bad A hn))
  focus walk_at "ev"
  focus walk_at "ev"
theorem refused_run (A : ShAt s h S m) {n way c : Int} (hn : n < 0 ∨ (S.ps.length : Int) ≤ n) : law_refused_raw [.ref s, .int way, .int n, .int c] m = some (.bl true, m) := by
  refine wp_body1 ?_
  unfold law_refused_sem
  apply wp_seq
  apply wp_st
  focus walk_at "st1"
  apply wp_seq
  apply wp_st
  focus walk_at "st1"
  apply wp_seq
  apply wp_st
  focus
    refine r_try (c := 0) (l := [(4, true), (5, false)]) (x_drop (x_arg (m1 := m) (xs := [.ref s, .int way, .int n, .int c]) ?_ rfl (handed_bad A hn))) rfl (show 6 < 7 by decide)
    focus walk_at "ev"
  show wp _ _ _ _
  walk_at "wp"
theorem counts_run (A : ShAt s h S m) : law_counts_raw [.ref s] m = some (.tup [.int S.ps.length, .int S.top, .int S.r, .int S.w, .int S.room], m) := by
  refine wp_body1 ?_
  unfold law_counts_sem
  have h1 := A.ob
  have g1 := pages_run A
  have g2 := root_run A
  have g3 := readings_run A
  have g4 := writings_run A
  have g5 := room_run A
  walk_at "wp"
end
theorem bad_run (c : Int) (k : Nat) (m : MH) : ∃ n : Int, law_bad_raw [.int c, .int k] m = some (.int n, m) ∧ (n < 0 ∨ (k : Int) ≤ n) := by
  obtain ⟨far, hf⟩ : ∃ far, far = 2 + c % 1000000000000000000000000000000 := ⟨_, rfl⟩
  have hq : 0 ≤ c % 1000000000000000000000000000000 := Int.emod_nonneg _ (by decide)
  have hp := pick_lo c 10067 6 (by decide)
  have hp2 := pick_hi c 10067 6 (by decide)
  have key : ∀ (j : Nat) (n : Int), pick c 10067 6 = j → [W.int (-1), W.int (-2), W.int k, W.int (k + 1), W.int (k + far), W.int (0 - far)][j]? = some (.int n) → (n < 0 ∨ (k : Int) ≤ n) → ∃ n : Int, law_bad_raw [.int c, .int k] m = some (.int n, m) ∧ (n < 0 ∨ (k : Int) ≤ n) := fun j n hj hg hn => by
    refine ⟨n, ?_, hn⟩
    have hat : L2.atI [W.int (-1), W.int (-2), W.int k, W.int (k + 1), W.int (k + far), W.int (0 - far)] (pick c 10067 6) = some (.int n) := by rw [hj]; exact L2.atI_nat hg
    refine wp_body1 ?_
    unfold law_bad_sem
    apply wp_seq
    apply wp_st
    focus walk_at "st1"
    rw [← hf]
    walk_at "wp"
  have : pick c 10067 6 = 0 ∨ pick c 10067 6 = 1 ∨ pick c 10067 6 = 2 ∨ pick c 10067 6 = 3 ∨ pick c 10067 6 = 4 ∨ pick c 10067 6 = 5 := by omega
  rcases this with e | e | e | e | e | e
  · exact key 0 _ e rfl (by omega)
  · exact key 1 _ e rfl (by omega)
  · exact key 2 _ e rfl (by omega)
  · exact key 3 _ e rfl (by omega)
  · exact key 4 _ e rfl (by omega)
  · exact key 5 _ e rfl (by omega)
/-- a number of so many bits at most -/
def Few (c : Int) : Prop := c.natAbs.log2 < 2000000
theorem mulOk_few {c j : Int} (h : Few c) (hj : -(2 ^ 500) < j ∧ j < 2 ^ 500) : mulOk c j = true := by
  have l : ∀ {x : Int}, (-(2 ^ 500) < x ∧ x < 2 ^ 500) → x.natAbs.log2 < 500 := fun {x} h => by
    have : x.natAbs < 2 ^ 500 := by omega
    by_cases z : x.natAbs = 0
    · rw [z]; decide
    · exact (Nat.log2_lt z).mpr this
  have := l hj
  unfold Few at h
  exact decide_eq_true (by omega)
theorem Few.bits {c : Int} (h : Builtin.Int.intBits c ≤ 1048576) : Few c := by
  unfold Few
  by_cases hz : c = 0
  · subst hz; decide
  · unfold Builtin.Int.intBits at h
    split at h
    · simp_all
    · omega
def cellAt (ns : List Int) (j : Nat) : Int := ns.getD j 0
theorem cell_at_run (ns : List Int) (j : Nat) (m : MH) (hz : ns.length ≤ 1000) : law_cell_at_raw [.fro (ns.map W.int), .int j] m = some (.int (cellAt ns j), m) := by
  refine wp_body1 ?_
  unfold law_cell_at_sem
  apply wp_seq
  apply wp_if
  focus walk_at "ev"
  · intro hb
    simp only [decide_eq_true_eq] at hb
    have h : j < ns.length := by omega
    have h2 : L2.atI ns (j : Int) = some ns[j] := L2.atI_nat (by simp [h])
    walk_at "wp"
    exact ⟨nofun, by unfold cellAt; rw [List.getD_eq_getElem?_getD]; simp [h], rfl⟩
  · intro hb
    simp only [decide_eq_false_iff_not] at hb
    walk_at "wp"
    exact ⟨nofun, by unfold cellAt; rw [List.getD_eq_getElem?_getD, List.getElem?_eq_none (by omega)]; rfl, rfl⟩
theorem cellAt_few {ns : List Int} {j : Nat} (hb : ∀ n ∈ ns, Few n) : Few (cellAt ns j) := by
  unfold cellAt
  by_cases h : j < ns.length
  · rw [List.getD_eq_getElem?_getD, List.getElem?_eq_getElem h]; exact hb _ (List.getElem_mem h)
  · rw [List.getD_eq_getElem?_getD, List.getElem?_eq_none (by omega)]; exact (by decide : (0 : Int).natAbs.log2 < 2000000)
/-- a shelf at b, its list at b + 1, the law's list at b + 2 -/
structure Thr (b : Nat) (S : Sh) (m : MH) : Prop where
  sh : ShAt b (b + 1) S m
  ls : m[b + 2]? = some (.lst S.ps)
  pg : ∀ p ∈ S.ps, PgK p
  top : ∃ t : Nat, S.top = t ∧ t < S.ps.length
theorem root_pg (lv k t n : Int) : PgK (rootP lv k t n) := ⟨.tup (.cons .int (.cons (.tup (.cons .int .nil)) (.cons (.tup (.cons .int (.cons .int .nil))) (.cons .non (.cons .non .nil))))), rfl, lv, _, rfl⟩
theorem empty_pg : PgK emptyLeaf := ⟨.tup (.cons .int (.cons (.tup .nil) (.cons (.tup .nil) (.cons .non (.cons .non .nil))))), rfl, 0, _, rfl⟩
/-- a page laid at last, in both -/
theorem laid_run {b : Nat} {S : Sh} {m : MH} (T : Thr b S m) (hz : S.ps.length < 1000) {p : W} (hp : PgK p) : Shelf_lay_raw [.ref b, p] m = some (.int S.ps.length, (m.set b (shI (b + 1) { S with w := S.w + 1 })).set (b + 1) (.lst (S.ps ++ [p]))) ∧
    ∀ m1, m1 = (m.set b (shI (b + 1) { S with w := S.w + 1 })).set (b + 1) (.lst (S.ps ++ [p])) → m1[b + 2]? = some (.lst S.ps) ∧ Thr b { S with w := S.w + 1, ps := S.ps ++ [p] } (m1.set (b + 2) (.lst (S.ps ++ [p]))) := by
  obtain ⟨A, hl, hpg, t, ht1, ht2⟩ := T
  refine ⟨lay_run A hp.2.1 (by omega), fun m1 e => ?_⟩
  have A2 := A.set2 (S' := { S with w := S.w + 1, ps := S.ps ++ [p] })
  have l1 : m1[b + 2]? = some (.lst S.ps) := by rw [e, set_ne (by omega), set_ne (by omega)]; exact hl
  rw [← e] at A2
  refine ⟨l1, A2.of (set_ne (by omega)) (set_ne (by omega)), set_at l1, fun q hq => ?_, t, ht1, ?_⟩
  · rcases List.mem_append.mp hq with z | z
    · exact hpg q z
    · rw [List.mem_singleton] at z; rw [z]; exact hp
  · show t < (S.ps ++ [p]).length
    rw [List.length_append]; omega
theorem law_run (ns : List Int) (hn : ns.length ≤ 63) (hb : ∀ n ∈ ns, Few n) (m : MH) : ∃ m', law_raw [.fro (ns.map W.int)] m = some (.bl true, m') := by
  have key : wp law_sem (startE 11 [.fro (ns.map W.int)]) m (retQ fun x m' => x = .bl true) := by
    unfold law_sem
    generalize hB : m.length = B
    have hca : law_cell_at_raw [.fro (ns.map W.int), .int 0] m = some (.int (cellAt ns 0), m) := cell_at_run ns 0 m (by omega)
    have hini := shelf_init (2 + pick (cellAt ns 0) 10069 7) m
    apply wp_seq
    apply wp_st
    focus walk_at "st1"
    generalize 2 + pick (cellAt ns 0) 10069 7 = room at *
    apply wp_seq
    apply wp_stP (fun m' => Thr B (newSh room) m')
    focus walk_at "st1"
    focus
      rw [List.append_assoc]
      have at' : ∀ (j : Nat) (a b c : MO), (m ++ [a, b, c])[B + j]? = [a, b, c][j]? := fun j a b c => by
        rw [List.getElem?_append_right (by omega), hB]
        congr 1
        omega
      refine ⟨⟨(at' 0 _ _ _).trans (by rw [hB]; rfl), at' 1 _ _ _, by omega⟩, at' 2 _ _ _, fun p hp => ?_, ⟨0, rfl, (by show 0 < 1; decide)⟩⟩
      have : p = emptyLeaf := by simpa [newSh] using hp
      rw [this]
      exact empty_pg
    rintro m1 T1
    have hcl : (cutG ns (some 1) (some 81)).length ≤ 63 := by unfold cutG; rw [List.length_take, List.length_drop]; omega
    have e1 : (m ++ [shI (B + 1) (newSh room), MO.lst [emptyLeaf]]).length = B + 2 := by rw [List.length_append, hB]; rfl
    rw [hB, e1]
    show wp _ _ _ _
    apply wp_seq
    apply wp_st
    focus walk_at "st1"
    apply wp_seq
    apply wp_for (fun pr e m' => ∃ (v4 v5 v6 v7 v8 v9 v10 : Option W) (S : Sh), e = [some (.fro (ns.map W.int)), some (.ref B), some (.ref (B + 2)), some (.int S.top), v4, v5, v6, v7, v8, v9, v10] ∧ Thr B S m' ∧ S.ps.length ≤ 1 + 2 * pr.length) (ws := (cutG ns (some 1) (some 81)).map W.int)
    · walk_at "ev"
    · exact ⟨_, _, _, _, _, _, _, newSh room, rfl, T1, (by show 1 ≤ _; omega)⟩
    · rintro pr w post hw e m' ⟨v4, v5, v6, v7, v8, v9, v10, S, rfl, T, hS⟩
      have hl := congrArg List.length hw
      simp only [List.length_append, List.length_map, List.length_cons] at hl
      have hwm : w ∈ (cutG ns (some 1) (some 81)).map W.int := by rw [hw]; simp
      obtain ⟨c, hc, rfl⟩ := List.mem_map.mp hwm
      refine ⟨_, rfl, ?_⟩
      have hlen : S.ps.length < 1000 := by omega
      rw [List.length_append, List.length_singleton]
      obtain ⟨q, hq⟩ : ∃ q, q = 1 + 2 * pr.length := ⟨_, rfl⟩
      rw [← hq] at hS
      have hq2 : 1 + 2 * (pr.length + 1) = q + 2 := by omega
      rw [hq2]
      have hqz : q ≤ 127 := by omega
      clear hq hq2 hl hcl hw hwm hc e1 hini hca
      obtain ⟨A, hls, hpg, t, ht1, ht2⟩ := id T
      obtain ⟨n, hbad, hnb⟩ := bad_run c S.ps.length m'
      have hzl : S.ps.length < sizeLine := by rw [sizeLine_eq]; omega
      have hcnt := counts_run A
      have w1 := pick_lo c 10079 4 (by decide)
      have w2 := pick_hi c 10079 4 (by decide)
      apply wp_seq
      apply wp_st
      focus walk_at "st1"
      generalize pick c 10079 4 = way at *
      apply wp_seq
      apply wp_st
      focus walk_at "st1"
      apply wp_seq
      apply wp_st
      focus walk_at "st1"
      show wp _ _ _ _
      apply wp_seq
      apply wp_for (fun _ e m2 => ∃ (v : Option W), e = [some (.fro (ns.map W.int)), some (.ref B), some (.ref (B + 2)), some (.int S.top), some (.int c), some (.int way), some (.int n), some (.tup [.int S.ps.length, .int S.top, .int S.r, .int S.w, .int S.room]), v, v9, v10] ∧ m2 = m') (ws := (rangeI 0 (2 : Int).toNat).map W.int)
      · walk_at "ev"
      · exact ⟨_, rfl, rfl⟩
      · rintro pr2 w2 post2 hw2 e m2 ⟨v, rfl, rfl⟩
        have hwm : w2 ∈ (rangeI 0 (2 : Int).toNat).map W.int := by rw [hw2]; simp
        obtain ⟨k, hk, rfl⟩ := List.mem_map.mp hwm
        refine ⟨_, rfl, ?_⟩
        have hr := refused_run A (n := n) (way := way) (c := c + 2 + k) hnb
        have hne : oNe (.tup [.int S.ps.length, .int S.top, .int S.r, .int S.w, .int S.room]) (.tup [.int S.ps.length, .int S.top, .int S.r, .int S.w, .int S.room]) m2 = some (.bl false, m2) := r_neSame (Dk.tup (.cons .int (.cons .int (.cons .int (.cons .int (.cons .int .nil))))))
        walk_at "wp"
        exact ⟨_, rfl, rfl⟩
      rintro e m2 ⟨v, rfl, rfl⟩
      show wp _ _ _ _
      obtain ⟨last, hlast⟩ : ∃ last : Nat, last + 1 = S.ps.length := ⟨S.ps.length - 1, by omega⟩
      have hlz : (S.ps.length : Int) - 1 = last := by omega
      have hll : last < S.ps.length := by omega
      obtain ⟨p, hp, hleaf⟩ := leaf_run c
      have hlf := hleaf m2
      have hpp := hp.2.1
      apply wp_seq
      apply wp_st
      focus walk_at "st1"
      rw [hlz]
      obtain ⟨x, hx⟩ : ∃ x, S.ps[last]? = some x := ⟨_, List.getElem?_eq_getElem hll⟩
      have hxk := hpg x (List.mem_of_getElem? hx)
      have hxp := hxk.2.1
      -- the law's own page
      apply wp_seq
      apply wp_cut (fun e m3 => e = [some (.fro (ns.map W.int)), some (.ref B), some (.ref (B + 2)), some (.int S.top), some (.int c), some (.int way), some (.int n), some (.tup [.int S.ps.length, .int S.top, .int S.r, .int S.w, .int S.room]), v, some (.int last), v10] ∧ ShAt B (B + 1) S m3 ∧ m3[B + 2]? = some (.lst (if way = 1 then S.ps.set last p else S.ps)))
      · have hix : ixN S.ps.length (last : Int) = some last := ixN_nat hll
        apply wp_if
        focus walk_at "ev"
        · intro hb
          have hb1 : way = 1 := by simpa using hb
          rw [if_pos hb1]
          apply wp_nx
          focus walk_at "st1"
          exact ⟨rfl, rfl, A.of (set_ne (by omega)) (set_ne (by omega)), set_at hls⟩
        · intro hb
          have hb1 : ¬ way = 1 := by simpa using hb
          rw [if_neg hb1]
          apply wp_next
          exact ⟨rfl, rfl, A, hls⟩
      rintro e m3 ⟨rfl, A3, l3⟩
      show wp _ _ _ _
      clear hbad hcnt T hls hlf A
      obtain ⟨told, m4, S4, hh, A4, l4, hS4⟩ : ∃ told m4, ∃ S4 : Sh, law_handed_raw [.ref B, .int way, .int last, .int c] m3 = some (told, m4) ∧ ShAt B (B + 1) S4 m4 ∧ m4[B + 2]? = some (.lst (if way = 1 then S.ps.set last p else S.ps)) ∧
          ((way = 0 ∧ told = x ∧ S4.ps = S.ps ∧ S4.top = S.top) ∨ (way = 1 ∧ told = .non ∧ S4.ps = S.ps.set last p ∧ S4.top = S.top) ∨ (way = 2 ∧ told = .non ∧ S4.ps = S.ps ∧ S4.top = last) ∨
            (way = 3 ∧ told = .int S.ps.length ∧ S4.top = S.ps.length ∧ ∃ lv y, S.ps[t]? = some y ∧ Lvl y lv ∧ S4.ps = S.ps ++ [rootP (lv + 1) (pick c 10061 99) S.top last])) := by
        have h1 := A3.ob
        have hl3 := hleaf m3
        have g : ∀ (told : W) (m4 : MH), wp law_handed_sem (startE 4 [.ref B, .int way, .int last, .int c]) m3 (retQ fun y m' => y = told ∧ m' = m4) → law_handed_raw [.ref B, .int way, .int last, .int c] m3 = some (told, m4) := fun told m4 h => by
          obtain ⟨y, m', h1, rfl, rfl⟩ := wp_body h
          exact h1
        by_cases hw0 : way = 0
        · have hr := read_run A3 hx hxp
          refine ⟨x, m3.set B (shI (B + 1) { S with r := S.r + 1 }), { S with r := S.r + 1 }, g _ _ ?_, A3.set rfl, by rw [set_ne (by omega)]; exact l3, .inl ⟨hw0, rfl, rfl, rfl⟩⟩
          unfold law_handed_sem
          apply wp_seq
          apply wp_if
          focus walk_at "ev"
          · intro _
            apply wp_ret
            focus walk_at "ev"
            · intro l z; rw [z] at hxp; cases hxp
            · exact ⟨(fun l z => by rw [z] at hxp; cases hxp), rfl, rfl⟩
          · intro hb
            simp [hw0] at hb
        by_cases hw1 : way = 1
        · have hr := write_run A3 hll hpp
          refine ⟨.non, _, { S with w := S.w + 1, ps := S.ps.set last p }, g _ _ ?_, A3.set2 (S' := { S with w := S.w + 1, ps := S.ps.set last p }), by rw [set_ne (by omega), set_ne (by omega)]; exact l3, .inr (.inl ⟨hw1, rfl, rfl, rfl⟩)⟩
          unfold law_handed_sem
          walk_at "wp"
        by_cases hw2 : way = 2
        · have hr := make_root_run A3 hll
          refine ⟨.non, _, { S with top := last }, g _ _ ?_, A3.set (S' := { S with top := (last : Int) }) rfl, by rw [set_ne (by omega)]; exact l3, .inr (.inr (.inl ⟨hw2, rfl, rfl, rfl⟩))⟩
          unfold law_handed_sem
          walk_at "wp"
        have hw3 : way = 3 := by omega
        obtain ⟨y, hy⟩ : ∃ y, S.ps[t]? = some y := ⟨_, List.getElem?_eq_getElem ht2⟩
        obtain ⟨hyd, hyp, lv, hlv⟩ := hpg y (List.mem_of_getElem? hy)
        obtain ⟨m4, r1, r2, r3⟩ := raise_run A3 (k := pick c 10061 99) hll ht1 hy hlv hyp (by omega)
        refine ⟨.int S.ps.length, m4, _, g _ _ ?_, r2, by rw [r3 _ (by omega) (by omega)]; exact l3, .inr (.inr (.inr ⟨hw3, rfl, rfl, lv, y, hy, hlv, rfl⟩))⟩
        unfold law_handed_sem
        walk_at "wp"
      have hob := A4.ob
      have htp : plain told = true := by
        rcases hS4 with ⟨w, rfl, _, _⟩ | ⟨w, rfl, _, _⟩ | ⟨w, rfl, _, _⟩ | ⟨w, rfl, _, _⟩
        · exact hxp
        · rfl
        · rfl
        · rfl
      apply wp_seq
      apply wp_st
      focus walk_at "st1"
      show wp _ _ _ _
      -- behind it: the told, the law's root and pages
      apply wp_seq
      apply wp_cut (fun e m' => e = [some (.fro (ns.map W.int)), some (.ref B), some (.ref (B + 2)), some (.int S.top), some (.int c), some (.int way), some (.int n), some (.tup [.int S.ps.length, .int S.top, .int S.r, .int S.w, .int S.room]), v, some (.int last), some told] ∧ m' = m4)
      · rcases hS4 with ⟨w, rfl, _, _⟩ | ⟨w, rfl, _, _⟩ | ⟨w, rfl, _, _⟩ | ⟨w, rfl, _, _⟩
        · have hx2 : L2.atI (if way = 1 then S.ps.set last p else S.ps) (last : Int) = some told := by
            rw [if_neg (by omega)]
            exact L2.atI_nat hx
          have hne : oNe told told m4 = some (.bl false, m4) := r_neSame (hxk.1.mono (by decide))
          walk_at "wp"
          exact ⟨rfl, rfl, rfl⟩
        · walk_at "wp"
          exact ⟨rfl, rfl, rfl⟩
        · walk_at "wp"
          exact ⟨rfl, rfl, rfl⟩
        · walk_at "wp"
          exact ⟨rfl, rfl, rfl⟩
      rintro e m5 ⟨rfl, rfl⟩
      show wp _ _ _ _
      apply wp_seq
      apply wp_cut (fun e m' => e = [some (.fro (ns.map W.int)), some (.ref B), some (.ref (B + 2)), some (.int S.top), some (.int c), some (.int way), some (.int n), some (.tup [.int S.ps.length, .int S.top, .int S.r, .int S.w, .int S.room]), v, some (.int last), some told] ∧ m' = m5)
      · rcases hS4 with ⟨w, rfl, _, _⟩ | ⟨w, rfl, _, _⟩ | ⟨w, rfl, _, _⟩ | ⟨w, rfl, _, _⟩
        · walk_at "wp"
          exact ⟨rfl, rfl, rfl⟩
        · walk_at "wp"
          exact ⟨rfl, rfl, rfl⟩
        · walk_at "wp"
          exact ⟨rfl, rfl, rfl⟩
        · have e1 : (last : Int) + 1 = S.ps.length := by omega
          have hne : oNe (.int S.ps.length) (.int ((last : Int) + 1)) m5 = some (.bl false, m5) := by rw [e1]; exact r_neSame Dk.int
          walk_at "wp"
          exact ⟨rfl, rfl, rfl⟩
      rintro e m6 ⟨rfl, rfl⟩
      show wp _ _ _ _
      -- the law's root and pages are the shelf's
      apply wp_seq
      apply wp_cut (fun e m' => e = [some (.fro (ns.map W.int)), some (.ref B), some (.ref (B + 2)), some (.int (if way = 2 then (last : Int) else S.top)), some (.int c), some (.int way), some (.int n), some (.tup [.int S.ps.length, .int S.top, .int S.r, .int S.w, .int S.room]), v, some (.int last), some told] ∧ m' = m6)
      · apply wp_if
        focus walk_at "ev"
        · intro hb
          have hb1 : way = 2 := by simpa using hb
          rw [if_pos hb1]
          apply wp_nx
          focus walk_at "st1"
          exact ⟨rfl, rfl, rfl⟩
        · intro hb
          have hb1 : ¬ way = 2 := by simpa using hb
          rw [if_neg hb1]
          apply wp_next
          exact ⟨rfl, rfl, rfl⟩
      rintro e m7 ⟨rfl, rfl⟩
      show wp _ _ _ _
      apply wp_seq
      apply wp_cut (fun e m' => e = [some (.fro (ns.map W.int)), some (.ref B), some (.ref (B + 2)), some (.int S4.top), some (.int c), some (.int way), some (.int n), some (.tup [.int S.ps.length, .int S.top, .int S.r, .int S.w, .int S.room]), v, some (.int last), some told] ∧ Thr B S4 m' ∧ S4.ps.length ≤ q + 1)
      · rcases hS4 with ⟨w, rfl, e1, e2⟩ | ⟨w, rfl, e1, e2⟩ | ⟨w, rfl, e1, e2⟩ | ⟨w, rfl, e2, lv, y, hy, hlv, e1⟩
        · rw [if_neg (by omega)]
          rw [if_neg (by omega)] at l4
          walk_at "wp"
          exact ⟨rfl, by rw [e2], ⟨A4, by rw [e1]; exact l4, by rw [e1]; exact hpg, ⟨t, by rw [e2]; exact ht1, by rw [e1]; exact ht2⟩⟩, by rw [e1]; omega⟩
        · rw [if_neg (by omega)]
          rw [if_pos w] at l4
          walk_at "wp"
          refine ⟨rfl, by rw [e2], ⟨A4, by rw [e1]; exact l4, fun z hz => ?_, ⟨t, by rw [e2]; exact ht1, by rw [e1, List.length_set]; exact ht2⟩⟩, by rw [e1, List.length_set]; omega⟩
          rw [e1] at hz
          rcases List.mem_or_eq_of_mem_set hz with z | z
          · exact hpg _ z
          · rw [z]; exact hp
        · rw [if_pos w]
          rw [if_neg (by omega)] at l4
          walk_at "wp"
          exact ⟨rfl, by rw [e2], ⟨A4, by rw [e1]; exact l4, by rw [e1]; exact hpg, ⟨last, e2, by rw [e1]; exact hll⟩⟩, by rw [e1]; omega⟩
        · rw [if_neg (by omega)]
          rw [if_neg (by omega)] at l4
          have hat : L2.atI S.ps S.top = some y := by rw [ht1]; exact L2.atI_nat hy
          have hix := hlv.ix m7
          apply wp_if
          focus walk_at "ev"
          · intro _
            apply wp_seq
            apply wp_st
            focus walk_at "st1"
            apply wp_nx
            focus walk_at "st1"
            refine ⟨rfl, by rw [e2]; rfl, ⟨A4.of (set_ne (by omega)) (set_ne (by omega)), by rw [e1]; exact set_at l4, fun z hz => ?_, ⟨S.ps.length, e2, by rw [e1, List.length_append, List.length_singleton]; omega⟩⟩, by rw [e1, List.length_append, List.length_singleton]; omega⟩
            rw [e1] at hz
            rcases List.mem_append.mp hz with z | z
            · exact hpg _ z
            · rw [List.mem_singleton] at z; rw [z]; exact root_pg _ _ _ _
          · intro hb
            simp [w] at hb
      rintro e m8 ⟨rfl, T4, hlen4⟩
      clear hS4 A4 l4 hh hob
      show wp _ _ _ _
      obtain ⟨p2, hp2, hleaf2⟩ := leaf_run (c + 1)
      have hlf2 := hleaf2 m8
      have hp2p := hp2.2.1
      obtain ⟨hlay, hafter⟩ := laid_run T4 (by omega) hp2
      have hob := T4.sh.ob
      have hls4 := T4.ls
      obtain ⟨hl9, T9⟩ := hafter _ rfl
      have hzl4 : S4.ps.length < sizeLine := by rw [sizeLine_eq]; omega
      have hne : oNe (.int S4.ps.length) (.int S4.ps.length) ((m8.set B (shI (B + 1) { S4 with w := S4.w + 1 })).set (B + 1) (.lst (S4.ps ++ [p2]))) = some (.bl false, (m8.set B (shI (B + 1) { S4 with w := S4.w + 1 })).set (B + 1) (.lst (S4.ps ++ [p2]))) := r_neSame Dk.int
      have hlf3 := hleaf2 ((m8.set B (shI (B + 1) { S4 with w := S4.w + 1 })).set (B + 1) (.lst (S4.ps ++ [p2])))
      apply wp_seq
      apply wp_if
      focus walk_at "ev"
      · intro hb; simp at hb
      intro _
      apply wp_next
      show wp _ _ _ _
      apply wp_nx
      focus walk_at "st1"
      exact ⟨_, _, _, _, _, _, _, { S4 with w := S4.w + 1, ps := S4.ps ++ [p2] }, rfl, T9, by show (S4.ps ++ [p2]).length ≤ _; rw [List.length_append, List.length_singleton]; omega⟩
    · rintro e m' ⟨v4, v5, v6, v7, v8, v9, v10, S, rfl, T, hS⟩
      rw [List.length_map] at hS
      have hls := T.ls
      show wp _ _ _ _
      apply wp_seq
      apply wp_for (fun pr e m2 => ∃ (v : Option W) (r : Int), e = [some (.fro (ns.map W.int)), some (.ref B), some (.ref (B + 2)), some (.int S.top), v4, v5, v, v7, v8, v9, v10] ∧ ShAt B (B + 1) { S with r := r } m2 ∧ m2[B + 2]? = some (.lst S.ps)) (ws := rangeW 0 (S.ps.length : Int).toNat)
      · walk_at "ev"
      · exact ⟨_, S.r, rfl, T.sh, hls⟩
      · rintro pr w post hw e m2 ⟨v, r, rfl, A, l2⟩
        obtain ⟨rfl, hlt⟩ := rangeW_split hw
        have hlt2 : pr.length < S.ps.length := by omega
        rw [Int.zero_add]
        refine ⟨_, rfl, ?_⟩
        obtain ⟨x, hx⟩ : ∃ x, S.ps[pr.length]? = some x := ⟨_, List.getElem?_eq_getElem hlt2⟩
        have hxl := T.pg x (List.mem_of_getElem? hx)
        have hxp := hxl.2.1
        have hr := read_run A (n := pr.length) hx hxp
        have hob := A.ob
        have l3 : (m2.set B (shI (B + 1) { S with r := r + 1 }))[B + 2]? = some (.lst S.ps) := by rw [set_ne (by omega)]; exact l2
        have hget : L2.atI S.ps (pr.length : Int) = some x := L2.atI_nat hx
        have hne : oNe x x (m2.set B (shI (B + 1) { S with r := r + 1 })) = some (.bl false, m2.set B (shI (B + 1) { S with r := r + 1 })) := r_neSame (hxl.1.mono (by decide))
        walk_at "wp"
        exact ⟨_, r + 1, rfl, A.set rfl, l3⟩
      · rintro e m2 ⟨v, r, rfl, A, l2⟩
        have hob := A.ob
        have g1 := root_run A
        have hr : law_refused_raw [.ref B, .int 0, .int S.ps.length, .int 0] m2 = some (.bl true, m2) := refused_run A (.inr (Int.le_refl _))
        show wp _ _ _ _
        walk_at "wp"
        exact ⟨nofun, by simp⟩
  obtain ⟨x, m', h1, rfl⟩ := wp_body key
  exact ⟨m', h1⟩
def spLaw (K : PySem.W.Frag) : Sp := fun vs H Q _ => ∃ (a : Addr) (ns : List Int), vs = [.ref a] ∧ SqL K H a (ns.map V.int) ∧ ns.length ≤ 63 ∧ (∀ z ∈ ns, Builtin.Int.intBits z ≤ 1048576) ∧ ∀ H', Q (.bl true) H'
theorem law_sp {K : PySem.W.Frag} {cl : Nat → Cl} {vs : List V} {H : Hp} {Q : VK} {E : XK} (h : spLaw K vs H Q E) : spW ⟨K, cl⟩ 1 law_raw vs H Q E := by
  obtain ⟨a, ns, rfl, hS, hl, hb, k⟩ := h
  obtain ⟨m', hr⟩ := law_run ns hl (fun n hn => Few.bits (hb n hn)) []
  exact ⟨H, [], [], _, _, m', rfl, ⟨Same.refl _, rfl, List.nodup_nil, fun n o a e => by simp at e⟩, .cons (.fro hS (RelWs.of_ints ns)) .nil, hr, fun F' ρ' H' v A s r => by cases r; exact k H'⟩
theorem def_at {K : PySem.W.Frag} {h : Heap} {mg : Str → Option Value} {x : Str} {st : Stmt} (X : K.In h) (G : h.Ns mainGlobals mg) {f : Addr} {oc : Value} {od an : Option Addr} {sl : Array (Option Value)} {kV dc pm cd ct : Value} (a : PySem.W.nsIn K mainGlobals x = some (some (.ref f)))
    (l : K.lookup f = some ⟨oc, od, .func (PySem.W.fnOf x x (defArgs st) (defBody st) (defScope st) .none kV dc pm an cd ct), sl⟩) (c : PySem.W.codeIn K cd x = true) (k : PySem.W.keepIn K (.ref f) = true) : DefAt K mg x st := ⟨f, _, fun_mk l c k, PySem.W.mg_of X G a⟩
theorem all_mk {l : PySem.W.OpenLaw} {w : World} {K : PySem.W.Frag} {h : Heap} {mg : Str → Option Value} {fa C_Shelf f0 f1 f2 f3 f4 f5 f6 f7 f8 f9 f10 f11 f12 f13 f14 f15 f16 f17 f18 f19 X_NoPage X_SideError X_NoRow X_NoHand X_NoDeed X_Busy e_EMPTY_LEAF_1 e_EMPTY_LEAF_3 e_EMPTY_LEAF_4 : Addr} (X : K.In h) (G : h.Ns mainGlobals mg) (hfa : mg "law" = some (.ref fa))
    (A_Shelf : PySem.W.nsIn K mainGlobals "Shelf" = some (some (.ref C_Shelf)))
    {oc0 kV0 dc0 pm0 cd0 ct0 : Value} {od0 an0 : Option Addr} {sl0 : Array (Option Value)} (a0 : PySem.W.findIn K (.ref C_Shelf) "__init__" = some (some (.ref f0))) (i0 : PySem.W.isFn K (.ref f0) = true) (l0 : K.lookup f0 = some ⟨oc0, od0, .func (PySem.W.fnOf "__init__" "Shelf.__init__" (defArgs s_Shelf_init) (defBody s_Shelf_init) (defScope s_Shelf_init) .none kV0 dc0 pm0 an0 cd0 ct0), sl0⟩) (c0 : PySem.W.codeIn K cd0 "Shelf.__init__" = true) (k0 : PySem.W.keepIn K (.ref f0) = true)
    {oc1 kV1 dc1 pm1 cd1 ct1 : Value} {od1 an1 : Option Addr} {sl1 : Array (Option Value)} (a1 : PySem.W.nsIn K mainGlobals "_law_pick" = some (some (.ref f1))) (l1 : K.lookup f1 = some ⟨oc1, od1, .func (PySem.W.fnOf "_law_pick" "_law_pick" (defArgs s_law_pick) (defBody s_law_pick) (defScope s_law_pick) .none kV1 dc1 pm1 an1 cd1 ct1), sl1⟩) (c1 : PySem.W.codeIn K cd1 "_law_pick" = true) (k1 : PySem.W.keepIn K (.ref f1) = true)
    {oc2 kV2 dc2 pm2 cd2 ct2 : Value} {od2 an2 : Option Addr} {sl2 : Array (Option Value)} (a2 : PySem.W.nsIn K mainGlobals "_law_bad" = some (some (.ref f2))) (l2 : K.lookup f2 = some ⟨oc2, od2, .func (PySem.W.fnOf "_law_bad" "_law_bad" (defArgs s_law_bad) (defBody s_law_bad) (defScope s_law_bad) .none kV2 dc2 pm2 an2 cd2 ct2), sl2⟩) (c2 : PySem.W.codeIn K cd2 "_law_bad" = true) (k2 : PySem.W.keepIn K (.ref f2) = true)
    {oc3 kV3 dc3 pm3 cd3 ct3 : Value} {od3 an3 : Option Addr} {sl3 : Array (Option Value)} (a3 : PySem.W.findIn K (.ref C_Shelf) "pages" = some (some (.ref f3))) (i3 : PySem.W.isFn K (.ref f3) = true) (l3 : K.lookup f3 = some ⟨oc3, od3, .func (PySem.W.fnOf "pages" "Shelf.pages" (defArgs s_Shelf_pages) (defBody s_Shelf_pages) (defScope s_Shelf_pages) .none kV3 dc3 pm3 an3 cd3 ct3), sl3⟩) (c3 : PySem.W.codeIn K cd3 "Shelf.pages" = true) (k3 : PySem.W.keepIn K (.ref f3) = true)
    {oc4 kV4 dc4 pm4 cd4 ct4 : Value} {od4 an4 : Option Addr} {sl4 : Array (Option Value)} (a4 : PySem.W.findIn K (.ref C_Shelf) "root" = some (some (.ref f4))) (i4 : PySem.W.isFn K (.ref f4) = true) (l4 : K.lookup f4 = some ⟨oc4, od4, .func (PySem.W.fnOf "root" "Shelf.root" (defArgs s_Shelf_root) (defBody s_Shelf_root) (defScope s_Shelf_root) .none kV4 dc4 pm4 an4 cd4 ct4), sl4⟩) (c4 : PySem.W.codeIn K cd4 "Shelf.root" = true) (k4 : PySem.W.keepIn K (.ref f4) = true)
    {oc5 kV5 dc5 pm5 cd5 ct5 : Value} {od5 an5 : Option Addr} {sl5 : Array (Option Value)} (a5 : PySem.W.findIn K (.ref C_Shelf) "readings" = some (some (.ref f5))) (i5 : PySem.W.isFn K (.ref f5) = true) (l5 : K.lookup f5 = some ⟨oc5, od5, .func (PySem.W.fnOf "readings" "Shelf.readings" (defArgs s_Shelf_readings) (defBody s_Shelf_readings) (defScope s_Shelf_readings) .none kV5 dc5 pm5 an5 cd5 ct5), sl5⟩) (c5 : PySem.W.codeIn K cd5 "Shelf.readings" = true) (k5 : PySem.W.keepIn K (.ref f5) = true)
    {oc6 kV6 dc6 pm6 cd6 ct6 : Value} {od6 an6 : Option Addr} {sl6 : Array (Option Value)} (a6 : PySem.W.findIn K (.ref C_Shelf) "writings" = some (some (.ref f6))) (i6 : PySem.W.isFn K (.ref f6) = true) (l6 : K.lookup f6 = some ⟨oc6, od6, .func (PySem.W.fnOf "writings" "Shelf.writings" (defArgs s_Shelf_writings) (defBody s_Shelf_writings) (defScope s_Shelf_writings) .none kV6 dc6 pm6 an6 cd6 ct6), sl6⟩) (c6 : PySem.W.codeIn K cd6 "Shelf.writings" = true) (k6 : PySem.W.keepIn K (.ref f6) = true)
    {oc7 kV7 dc7 pm7 cd7 ct7 : Value} {od7 an7 : Option Addr} {sl7 : Array (Option Value)} (a7 : PySem.W.findIn K (.ref C_Shelf) "room" = some (some (.ref f7))) (i7 : PySem.W.isFn K (.ref f7) = true) (l7 : K.lookup f7 = some ⟨oc7, od7, .func (PySem.W.fnOf "room" "Shelf.room" (defArgs s_Shelf_room) (defBody s_Shelf_room) (defScope s_Shelf_room) .none kV7 dc7 pm7 an7 cd7 ct7), sl7⟩) (c7 : PySem.W.codeIn K cd7 "Shelf.room" = true) (k7 : PySem.W.keepIn K (.ref f7) = true)
    {oc8 kV8 dc8 pm8 cd8 ct8 : Value} {od8 an8 : Option Addr} {sl8 : Array (Option Value)} (a8 : PySem.W.nsIn K mainGlobals "_law_counts" = some (some (.ref f8))) (l8 : K.lookup f8 = some ⟨oc8, od8, .func (PySem.W.fnOf "_law_counts" "_law_counts" (defArgs s_law_counts) (defBody s_law_counts) (defScope s_law_counts) .none kV8 dc8 pm8 an8 cd8 ct8), sl8⟩) (c8 : PySem.W.codeIn K cd8 "_law_counts" = true) (k8 : PySem.W.keepIn K (.ref f8) = true)
    {oc9 kV9 dc9 pm9 cd9 ct9 : Value} {od9 an9 : Option Addr} {sl9 : Array (Option Value)} (a9 : PySem.W.findIn K (.ref C_Shelf) "need" = some (some (.ref f9))) (i9 : PySem.W.isFn K (.ref f9) = true) (l9 : K.lookup f9 = some ⟨oc9, od9, .func (PySem.W.fnOf "need" "Shelf.need" (defArgs s_Shelf_need) (defBody s_Shelf_need) (defScope s_Shelf_need) .none kV9 dc9 pm9 an9 cd9 ct9), sl9⟩) (c9 : PySem.W.codeIn K cd9 "Shelf.need" = true) (k9 : PySem.W.keepIn K (.ref f9) = true)
    {oc10 kV10 dc10 pm10 cd10 ct10 : Value} {od10 an10 : Option Addr} {sl10 : Array (Option Value)} (a10 : PySem.W.findIn K (.ref C_Shelf) "lay" = some (some (.ref f10))) (i10 : PySem.W.isFn K (.ref f10) = true) (l10 : K.lookup f10 = some ⟨oc10, od10, .func (PySem.W.fnOf "lay" "Shelf.lay" (defArgs s_Shelf_lay) (defBody s_Shelf_lay) (defScope s_Shelf_lay) .none kV10 dc10 pm10 an10 cd10 ct10), sl10⟩) (c10 : PySem.W.codeIn K cd10 "Shelf.lay" = true) (k10 : PySem.W.keepIn K (.ref f10) = true)
    {oc11 kV11 dc11 pm11 cd11 ct11 : Value} {od11 an11 : Option Addr} {sl11 : Array (Option Value)} (a11 : PySem.W.findIn K (.ref C_Shelf) "raise_root" = some (some (.ref f11))) (i11 : PySem.W.isFn K (.ref f11) = true) (l11 : K.lookup f11 = some ⟨oc11, od11, .func (PySem.W.fnOf "raise_root" "Shelf.raise_root" (defArgs s_Shelf_raise_root) (defBody s_Shelf_raise_root) (defScope s_Shelf_raise_root) .none kV11 dc11 pm11 an11 cd11 ct11), sl11⟩) (c11 : PySem.W.codeIn K cd11 "Shelf.raise_root" = true) (k11 : PySem.W.keepIn K (.ref f11) = true)
    {oc12 kV12 dc12 pm12 cd12 ct12 : Value} {od12 an12 : Option Addr} {sl12 : Array (Option Value)} (a12 : PySem.W.findIn K (.ref C_Shelf) "read" = some (some (.ref f12))) (i12 : PySem.W.isFn K (.ref f12) = true) (l12 : K.lookup f12 = some ⟨oc12, od12, .func (PySem.W.fnOf "read" "Shelf.read" (defArgs s_Shelf_read) (defBody s_Shelf_read) (defScope s_Shelf_read) .none kV12 dc12 pm12 an12 cd12 ct12), sl12⟩) (c12 : PySem.W.codeIn K cd12 "Shelf.read" = true) (k12 : PySem.W.keepIn K (.ref f12) = true)
    {oc13 kV13 dc13 pm13 cd13 ct13 : Value} {od13 an13 : Option Addr} {sl13 : Array (Option Value)} (a13 : PySem.W.findIn K (.ref C_Shelf) "write" = some (some (.ref f13))) (i13 : PySem.W.isFn K (.ref f13) = true) (l13 : K.lookup f13 = some ⟨oc13, od13, .func (PySem.W.fnOf "write" "Shelf.write" (defArgs s_Shelf_write) (defBody s_Shelf_write) (defScope s_Shelf_write) .none kV13 dc13 pm13 an13 cd13 ct13), sl13⟩) (c13 : PySem.W.codeIn K cd13 "Shelf.write" = true) (k13 : PySem.W.keepIn K (.ref f13) = true)
    {oc14 kV14 dc14 pm14 cd14 ct14 : Value} {od14 an14 : Option Addr} {sl14 : Array (Option Value)} (a14 : PySem.W.findIn K (.ref C_Shelf) "make_root" = some (some (.ref f14))) (i14 : PySem.W.isFn K (.ref f14) = true) (l14 : K.lookup f14 = some ⟨oc14, od14, .func (PySem.W.fnOf "make_root" "Shelf.make_root" (defArgs s_Shelf_make_root) (defBody s_Shelf_make_root) (defScope s_Shelf_make_root) .none kV14 dc14 pm14 an14 cd14 ct14), sl14⟩) (c14 : PySem.W.codeIn K cd14 "Shelf.make_root" = true) (k14 : PySem.W.keepIn K (.ref f14) = true)
    {oc15 kV15 dc15 pm15 cd15 ct15 : Value} {od15 an15 : Option Addr} {sl15 : Array (Option Value)} (a15 : PySem.W.nsIn K mainGlobals "_law_leaf" = some (some (.ref f15))) (l15 : K.lookup f15 = some ⟨oc15, od15, .func (PySem.W.fnOf "_law_leaf" "_law_leaf" (defArgs s_law_leaf) (defBody s_law_leaf) (defScope s_law_leaf) .none kV15 dc15 pm15 an15 cd15 ct15), sl15⟩) (c15 : PySem.W.codeIn K cd15 "_law_leaf" = true) (k15 : PySem.W.keepIn K (.ref f15) = true)
    {oc16 kV16 dc16 pm16 cd16 ct16 : Value} {od16 an16 : Option Addr} {sl16 : Array (Option Value)} (a16 : PySem.W.nsIn K mainGlobals "_law_handed" = some (some (.ref f16))) (l16 : K.lookup f16 = some ⟨oc16, od16, .func (PySem.W.fnOf "_law_handed" "_law_handed" (defArgs s_law_handed) (defBody s_law_handed) (defScope s_law_handed) .none kV16 dc16 pm16 an16 cd16 ct16), sl16⟩) (c16 : PySem.W.codeIn K cd16 "_law_handed" = true) (k16 : PySem.W.keepIn K (.ref f16) = true)
    {oc17 kV17 dc17 pm17 cd17 ct17 : Value} {od17 an17 : Option Addr} {sl17 : Array (Option Value)} (a17 : PySem.W.nsIn K mainGlobals "_law_refused" = some (some (.ref f17))) (l17 : K.lookup f17 = some ⟨oc17, od17, .func (PySem.W.fnOf "_law_refused" "_law_refused" (defArgs s_law_refused) (defBody s_law_refused) (defScope s_law_refused) .none kV17 dc17 pm17 an17 cd17 ct17), sl17⟩) (c17 : PySem.W.codeIn K cd17 "_law_refused" = true) (k17 : PySem.W.keepIn K (.ref f17) = true)
    {oc18 kV18 dc18 pm18 cd18 ct18 : Value} {od18 an18 : Option Addr} {sl18 : Array (Option Value)} (a18 : PySem.W.nsIn K mainGlobals "_law_cell_at" = some (some (.ref f18))) (l18 : K.lookup f18 = some ⟨oc18, od18, .func (PySem.W.fnOf "_law_cell_at" "_law_cell_at" (defArgs s_law_cell_at) (defBody s_law_cell_at) (defScope s_law_cell_at) .none kV18 dc18 pm18 an18 cd18 ct18), sl18⟩) (c18 : PySem.W.codeIn K cd18 "_law_cell_at" = true) (k18 : PySem.W.keepIn K (.ref f18) = true)
    {oc19 kV19 dc19 pm19 cd19 ct19 : Value} {od19 an19 : Option Addr} {sl19 : Array (Option Value)} (a19 : PySem.W.nsIn K mainGlobals "law" = some (some (.ref f19))) (l19 : K.lookup f19 = some ⟨oc19, od19, .func (PySem.W.fnOf "law" "law" (defArgs s_law) (defBody s_law) (defScope s_law) .none kV19 dc19 pm19 an19 cd19 ct19), sl19⟩) (c19 : PySem.W.codeIn K cd19 "law" = true) (k19 : PySem.W.keepIn K (.ref f19) = true)
    (pg_Shelf : PySem.W.plainGet K C_Shelf Str.empty = true) (hd_Shelf : PySem.W.hasDictIn K C_Shelf = true) (po_Shelf : PySem.W.plainOver K C_Shelf = true) (sa_Shelf : PySem.W.findIn K (.ref C_Shelf) "__setattr__" = some (some (.builtin "object.__setattr__"))) (mk_Shelf : PySem.W.makesIn K C_Shelf = true) (kc_Shelf : PySem.W.keepIn K (.ref C_Shelf) = true)
    (n_Shelf_0 : PySem.W.findIn K (.ref C_Shelf) "most_keys" = some none)
    (n_Shelf_1 : PySem.W.findIn K (.ref C_Shelf) "held" = some none)
    (n_Shelf_2 : PySem.W.findIn K (.ref C_Shelf) "top" = some none)
    (n_Shelf_3 : PySem.W.findIn K (.ref C_Shelf) "reads" = some none)
    (n_Shelf_4 : PySem.W.findIn K (.ref C_Shelf) "writes" = some none)
    (eA_NoPage : PySem.W.nsIn K mainGlobals "NoPage" = some (some (.ref X_NoPage)))
    (eb_NoPage : PySem.W.subIn K (.ref X_NoPage) (.type "BaseException") = some true) (ei_NoPage : PySem.W.isClsIn K X_NoPage = true) (et_NoPage : PySem.W.typeIn K (.ref X_NoPage) = some (.type "type"))
    (ex_NoPage : PySem.W.excIn K X_NoPage [.type "ValueError", .type "Exception", .type "BaseException", .type "object"] "ValueError.__new__" = true) (ek_NoPage : PySem.W.keepIn K (.ref X_NoPage) = true)
    (eg_NoPage : PySem.W.findIn K (.ref X_NoPage) "__getattribute__" = some (some (.builtin "BaseException.__getattribute__"))) (eh_NoPage : PySem.W.findIn K (.ref X_NoPage) "__getattr__" = some none) (ed_NoPage : PySem.W.hasDictIn K X_NoPage = true) (ec_NoPage : PySem.W.findIn K (.ref X_NoPage) "__class__" = some (some (.builtin "object.__class__"))) (en_NoPage : PySem.W.specialIn K (.builtin "object.__class__") "__get__" = some (some (.builtin "getset_descriptor.__get__"))) (eu_NoPage : PySem.W.takesIn K (.builtin "object.__class__") = some true) (em_NoPage : PySem.W.mroIn K X_NoPage (.type "object") = some true)
    (eA_SideError : PySem.W.nsIn K mainGlobals "SideError" = some (some (.ref X_SideError)))
    (eb_SideError : PySem.W.subIn K (.ref X_SideError) (.type "BaseException") = some true) (ei_SideError : PySem.W.isClsIn K X_SideError = true) (et_SideError : PySem.W.typeIn K (.ref X_SideError) = some (.type "type"))
    (eA_NoRow : PySem.W.nsIn K mainGlobals "NoRow" = some (some (.ref X_NoRow)))
    (eb_NoRow : PySem.W.subIn K (.ref X_NoRow) (.type "BaseException") = some true) (ei_NoRow : PySem.W.isClsIn K X_NoRow = true) (et_NoRow : PySem.W.typeIn K (.ref X_NoRow) = some (.type "type"))
    (eA_NoHand : PySem.W.nsIn K mainGlobals "NoHand" = some (some (.ref X_NoHand)))
    (eb_NoHand : PySem.W.subIn K (.ref X_NoHand) (.type "BaseException") = some true) (ei_NoHand : PySem.W.isClsIn K X_NoHand = true) (et_NoHand : PySem.W.typeIn K (.ref X_NoHand) = some (.type "type"))
    (eA_NoDeed : PySem.W.nsIn K mainGlobals "NoDeed" = some (some (.ref X_NoDeed)))
    (eb_NoDeed : PySem.W.subIn K (.ref X_NoDeed) (.type "BaseException") = some true) (ei_NoDeed : PySem.W.isClsIn K X_NoDeed = true) (et_NoDeed : PySem.W.typeIn K (.ref X_NoDeed) = some (.type "type"))
    (eA_Busy : PySem.W.nsIn K mainGlobals "Busy" = some (some (.ref X_Busy)))
    (eb_Busy : PySem.W.subIn K (.ref X_Busy) (.type "BaseException") = some true) (ei_Busy : PySem.W.isClsIn K X_Busy = true) (et_Busy : PySem.W.typeIn K (.ref X_Busy) = some (.type "type"))
    (sq_NoPage_NoRow : PySem.W.subIn K (.ref X_NoPage) (.ref X_NoRow) = some false)
    (vq_NoPage_NoRow : (Value.ref X_NoPage == Value.ref X_NoRow) = false)
    (sq_NoPage_NoHand : PySem.W.subIn K (.ref X_NoPage) (.ref X_NoHand) = some false)
    (vq_NoPage_NoHand : (Value.ref X_NoPage == Value.ref X_NoHand) = false)
    (sq_NoPage_NoDeed : PySem.W.subIn K (.ref X_NoPage) (.ref X_NoDeed) = some false)
    (vq_NoPage_NoDeed : (Value.ref X_NoPage == Value.ref X_NoDeed) = false)
    (sq_NoPage_Busy : PySem.W.subIn K (.ref X_NoPage) (.ref X_Busy) = some false)
    (vq_NoPage_Busy : (Value.ref X_NoPage == Value.ref X_Busy) = false)
    (sq_NoPage_ValueError : PySem.W.subIn K (.ref X_NoPage) (.type "ValueError") = some true)
    (sq_NoPage_NoPage : PySem.W.subIn K (.ref X_NoPage) (.ref X_NoPage) = some true)
    (sm_NoPage_SideError : PySem.W.subIn K (.ref X_NoPage) (.ref X_SideError) = some true)
    (z_ValueError : PySem.W.nsIn K mainGlobals "ValueError" = some none)
    (z_isinstance : PySem.W.nsIn K mainGlobals "isinstance" = some none)
    (z_len : PySem.W.nsIn K mainGlobals "len" = some none)
    (z_range : PySem.W.nsIn K mainGlobals "range" = some none)
    {tk_EMPTY_LEAF_2 : Tok} (ge_EMPTY_LEAF : PySem.W.nsIn K mainGlobals "EMPTY_LEAF" = some (some (.ref e_EMPTY_LEAF_1)))
    {oe_EMPTY_LEAF_1 : Option Addr} {ne_EMPTY_LEAF_1 : Nat} {se_EMPTY_LEAF_1 : Array (Option Value)} (le_EMPTY_LEAF_1 : K.lookup e_EMPTY_LEAF_1 = some ⟨.type "tuple", oe_EMPTY_LEAF_1, .seq #[(.int 0 tk_EMPTY_LEAF_2), (.ref e_EMPTY_LEAF_3), (.ref e_EMPTY_LEAF_4), .none, .none] ne_EMPTY_LEAF_1, se_EMPTY_LEAF_1⟩)
    {oe_EMPTY_LEAF_4 : Option Addr} {ne_EMPTY_LEAF_4 : Nat} {se_EMPTY_LEAF_4 : Array (Option Value)} (le_EMPTY_LEAF_4 : K.lookup e_EMPTY_LEAF_4 = some ⟨.type "tuple", oe_EMPTY_LEAF_4, .seq #[] ne_EMPTY_LEAF_4, se_EMPTY_LEAF_4⟩)
    {oe_EMPTY_LEAF_3 : Option Addr} {ne_EMPTY_LEAF_3 : Nat} {se_EMPTY_LEAF_3 : Array (Option Value)} (le_EMPTY_LEAF_3 : K.lookup e_EMPTY_LEAF_3 = some ⟨.type "tuple", oe_EMPTY_LEAF_3, .seq #[] ne_EMPTY_LEAF_3, se_EMPTY_LEAF_3⟩) :
    ∃ fd : FuncData, (∀ (s : Shared) (v : Value), BindsTo s fd ⟨[v], []⟩ [("script", v)]) ∧ ∀ base : Heap, K.In base → base.Ns mainGlobals mg → FnOk l.prog w K mg base CX0 5 fa fd ["script"] (spLaw K) := by
  have e := hfa.symm.trans (PySem.W.mg_of X G a19)
  cases e
  let cl : Nat → Cl := clsOf [⟨C_Shelf, ["most_keys", "held", "top", "reads", "writes"]⟩]
  let xc : Nat → Addr := fun i => [X_NoPage, X_SideError, X_NoRow, X_NoHand, X_NoDeed, X_Busy].getD i 0
  have T : TX K mg cl xc := ⟨PySem.W.mg_none_of X G z_ValueError, PySem.W.mg_none_of X G z_isinstance, PySem.W.mg_none_of X G z_len, PySem.W.mg_none_of X G z_range, ⟨rfl, by decide +kernel, by decide, ⟨pg_Shelf, hd_Shelf, po_Shelf, sa_Shelf⟩, fun f hf => by
      simp only [List.mem_cons, List.not_mem_nil, or_false] at hf
      rcases hf with rfl | rfl | rfl | rfl | rfl
      all_goals first | exact n_Shelf_0 | exact n_Shelf_1 | exact n_Shelf_2 | exact n_Shelf_3 | exact n_Shelf_4, PySem.W.mg_of X G A_Shelf⟩, ⟨_, (.ref e_EMPTY_LEAF_1), PySem.W.mg_of X G ge_EMPTY_LEAF, rfl, fun _ _ => (rw_tup (xs := [(.int 0), (.ref e_EMPTY_LEAF_3), (.ref e_EMPTY_LEAF_4), .non, .non]) (.inr ⟨_, _, _, le_EMPTY_LEAF_1, rfl, rfl, (show 5 ≤ sizeLine by decide), (.cons ⟨_, rfl⟩ (.cons rfl (.cons rfl (.cons rfl (.cons rfl .nil)))))⟩) (.cons (.int _) (.cons (rw_tup (xs := []) (.inr ⟨_, _, _, le_EMPTY_LEAF_3, rfl, rfl, (show 0 ≤ sizeLine by decide), .nil⟩) .nil) (.cons (rw_tup (xs := []) (.inr ⟨_, _, _, le_EMPTY_LEAF_4, rfl, rfl, (show 0 ≤ sizeLine by decide), .nil⟩) .nil) (.cons .non (.cons .non .nil))))))⟩, ⟨PySem.W.mg_of X G eA_NoPage, ex_NoPage, ek_NoPage, eb_NoPage, et_NoPage⟩, ⟨eg_NoPage, eh_NoPage, eb_NoPage, ed_NoPage, ec_NoPage, en_NoPage, eu_NoPage, em_NoPage⟩, PySem.W.mg_of X G eA_SideError, PySem.W.mg_of X G eA_NoRow, kit_own vq_NoPage_NoRow ei_NoRow et_NoRow sq_NoPage_NoRow, PySem.W.mg_of X G eA_NoHand, kit_own vq_NoPage_NoHand ei_NoHand et_NoHand sq_NoPage_NoHand, PySem.W.mg_of X G eA_NoDeed, kit_own vq_NoPage_NoDeed ei_NoDeed et_NoDeed sq_NoPage_NoDeed, PySem.W.mg_of X G eA_Busy, kit_own vq_NoPage_Busy ei_Busy et_Busy sq_NoPage_Busy, kit_blt (by decide +kernel) sq_NoPage_ValueError, PySem.W.mg_of X G eA_NoPage, kit_same, exm_of eb_SideError ei_SideError et_SideError sm_NoPage_SideError⟩
  refine ⟨PySem.W.fnOf "law" "law" (defArgs s_law) (defBody s_law) (defScope s_law) .none kV19 dc19 pm19 an19 cd19 ct19, fun s v => .of_eq rfl, fun base _ _ => ?_⟩
  have O_Shelf_init := Shelf_init_ok (P := l.prog) (w := w) (base := base) (cl := cl) ⟨_, _, fun_mk (st := s_Shelf_init) l0 c0 k0, ⟨mk_Shelf, a0, i0, kc_Shelf⟩⟩ T 
  have O_law_pick := law_pick_ok (P := l.prog) (w := w) (base := base) (cl := cl) (def_at X G a1 l1 c1 k1) T 
  have O_law_bad := law_bad_ok (P := l.prog) (w := w) (base := base) (cl := cl) (def_at X G a2 l2 c2 k2) T O_law_pick
  have O_Shelf_pages := Shelf_pages_ok (P := l.prog) (w := w) (base := base) (cl := cl) ⟨_, _, fun_mk (st := s_Shelf_pages) l3 c3 k3, ⟨a3, i3, k3⟩⟩ T 
  have O_Shelf_root := Shelf_root_ok (P := l.prog) (w := w) (base := base) (cl := cl) ⟨_, _, fun_mk (st := s_Shelf_root) l4 c4 k4, ⟨a4, i4, k4⟩⟩ T 
  have O_Shelf_readings := Shelf_readings_ok (P := l.prog) (w := w) (base := base) (cl := cl) ⟨_, _, fun_mk (st := s_Shelf_readings) l5 c5 k5, ⟨a5, i5, k5⟩⟩ T 
  have O_Shelf_writings := Shelf_writings_ok (P := l.prog) (w := w) (base := base) (cl := cl) ⟨_, _, fun_mk (st := s_Shelf_writings) l6 c6 k6, ⟨a6, i6, k6⟩⟩ T 
  have O_Shelf_room := Shelf_room_ok (P := l.prog) (w := w) (base := base) (cl := cl) ⟨_, _, fun_mk (st := s_Shelf_room) l7 c7 k7, ⟨a7, i7, k7⟩⟩ T 
  have O_law_counts := law_counts_ok (P := l.prog) (w := w) (base := base) (cl := cl) (def_at X G a8 l8 c8 k8) T O_Shelf_pages O_Shelf_root O_Shelf_readings O_Shelf_writings O_Shelf_room
  have O_Shelf_need := Shelf_need_ok (P := l.prog) (w := w) (base := base) (cl := cl) ⟨_, _, fun_mk (st := s_Shelf_need) l9 c9 k9, ⟨a9, i9, k9⟩⟩ T 
  have Ox_Shelf_need := Shelf_need_okx (P := l.prog) (w := w) (base := base) (cl := cl) ⟨_, _, fun_mk (st := s_Shelf_need) l9 c9 k9, ⟨a9, i9, k9⟩⟩ T  
  have O_Shelf_lay := Shelf_lay_ok (P := l.prog) (w := w) (base := base) (cl := cl) ⟨_, _, fun_mk (st := s_Shelf_lay) l10 c10 k10, ⟨a10, i10, k10⟩⟩ T 
  have O_Shelf_raise_root := Shelf_raise_root_ok (P := l.prog) (w := w) (base := base) (cl := cl) ⟨_, _, fun_mk (st := s_Shelf_raise_root) l11 c11 k11, ⟨a11, i11, k11⟩⟩ T O_Shelf_need O_Shelf_lay
  have Ox_Shelf_raise_root := Shelf_raise_root_okx (P := l.prog) (w := w) (base := base) (cl := cl) ⟨_, _, fun_mk (st := s_Shelf_raise_root) l11 c11 k11, ⟨a11, i11, k11⟩⟩ T O_Shelf_need O_Shelf_lay Ox_Shelf_need
  have O_Shelf_read := Shelf_read_ok (P := l.prog) (w := w) (base := base) (cl := cl) ⟨_, _, fun_mk (st := s_Shelf_read) l12 c12 k12, ⟨a12, i12, k12⟩⟩ T O_Shelf_need
  have Ox_Shelf_read := Shelf_read_okx (P := l.prog) (w := w) (base := base) (cl := cl) ⟨_, _, fun_mk (st := s_Shelf_read) l12 c12 k12, ⟨a12, i12, k12⟩⟩ T O_Shelf_need Ox_Shelf_need
  have O_Shelf_write := Shelf_write_ok (P := l.prog) (w := w) (base := base) (cl := cl) ⟨_, _, fun_mk (st := s_Shelf_write) l13 c13 k13, ⟨a13, i13, k13⟩⟩ T O_Shelf_need
  have Ox_Shelf_write := Shelf_write_okx (P := l.prog) (w := w) (base := base) (cl := cl) ⟨_, _, fun_mk (st := s_Shelf_write) l13 c13 k13, ⟨a13, i13, k13⟩⟩ T O_Shelf_need Ox_Shelf_need
  have O_Shelf_make_root := Shelf_make_root_ok (P := l.prog) (w := w) (base := base) (cl := cl) ⟨_, _, fun_mk (st := s_Shelf_make_root) l14 c14 k14, ⟨a14, i14, k14⟩⟩ T O_Shelf_need
  have Ox_Shelf_make_root := Shelf_make_root_okx (P := l.prog) (w := w) (base := base) (cl := cl) ⟨_, _, fun_mk (st := s_Shelf_make_root) l14 c14 k14, ⟨a14, i14, k14⟩⟩ T O_Shelf_need Ox_Shelf_need
  have O_law_leaf := law_leaf_ok (P := l.prog) (w := w) (base := base) (cl := cl) (def_at X G a15 l15 c15 k15) T O_law_pick
  have O_law_handed := law_handed_ok (P := l.prog) (w := w) (base := base) (cl := cl) (def_at X G a16 l16 c16 k16) T O_Shelf_raise_root O_Shelf_read O_Shelf_write O_Shelf_make_root O_law_pick O_law_leaf
  have Ox_law_handed := law_handed_okx (P := l.prog) (w := w) (base := base) (cl := cl) (def_at X G a16 l16 c16 k16) T O_Shelf_raise_root O_Shelf_read O_Shelf_write O_Shelf_make_root O_law_pick O_law_leaf Ox_Shelf_raise_root Ox_Shelf_read Ox_Shelf_write Ox_Shelf_make_root
  have O_law_refused := law_refused_ok (P := l.prog) (w := w) (base := base) (cl := cl) (def_at X G a17 l17 c17 k17) T O_law_handed Ox_law_handed
  have O_law_cell_at := law_cell_at_ok (P := l.prog) (w := w) (base := base) (cl := cl) (def_at X G a18 l18 c18 k18) T 
  exact (law_okF (cl := cl) (fun_mk (st := s_law) l19 c19 k19) T O_Shelf_init O_law_pick O_law_bad O_law_counts O_law_handed O_law_refused O_law_leaf O_Shelf_lay O_Shelf_read O_Shelf_root O_law_cell_at).imp fun vs H Q E h => law_sp h
theorem walk {l : PySem.W.OpenLaw} {q : Program} {loose : List Str} {XP : (Str → Option Value) → Heap → Prop} {YP : World → Heap → Prop} {d : DefRec} {K : Params → PySem.W.Frag} (hn : l.most = some 63) (hdf : d.params.defaults = [])
    (hY : ∀ (w : World) (h : Heap), YP w h → (K w.params).In h)
    (F : ∀ (w : World) (mg : Str → Option Value) (fa : Addr) (h : Heap), (K w.params).In h → h.Ns mainGlobals mg → mg d.name = some (.ref fa) →
      ∃ fd : FuncData, (∀ (s : Shared) (u : Value), BindsTo s fd ⟨[u], []⟩ [("script", u)]) ∧ ∀ base : Heap, (K w.params).In base → base.Ns mainGlobals mg → FnOk l.prog w (K w.params) mg base CX0 5 fa fd ["script"] (spLaw (K w.params))) :
    PySem.W.WalkO q loose XP YP l.row.toRowW d [] (fun f vs => PySem.call f vs) :=
  L2.walk_ofB (n := 63) (k := 5) (x := "script") (CX := fun _ => CX0) (sp := fun w => spLaw (K w.params)) hn (by decide) hdf ⟨rfl, by decide, by decide⟩ hY F (fun _ _ a ns hl hb _ hS => ⟨a, ns, rfl, hS, hl, hb, fun _ => rfl⟩) fun _ _ _ _ _ z => z
end Q
open PySem PySem.W PyProof.Rows in
set_option maxRecDepth 100000 in
set_option maxHeartbeats 0 in
theorem PySem.Challenge.cw_sidelink_k12_no_page_holds : PySem.Challenge.rw_sidelink_k12_no_page.Holds := by
  w_on; o_law; k_head; (case hw => w_witness2)
  k_fill
  refine Q.walk (l := PySem.Challenge.rw_sidelink_k12_no_page) rfl rfl (fun w h Y => PySem.W.kIn_of Y) ?F
  case F =>
    intro w mg fa h KX G hmg
    refine' Q.all_mk KX G hmg ?A_Shelf ?a0 ?i0 ?l0 ?c0 ?k0 ?a1 ?l1 ?c1 ?k1 ?a2 ?l2 ?c2 ?k2 ?a3 ?i3 ?l3 ?c3 ?k3 ?a4 ?i4 ?l4 ?c4 ?k4 ?a5 ?i5 ?l5 ?c5 ?k5 ?a6 ?i6 ?l6 ?c6 ?k6 ?a7 ?i7 ?l7 ?c7 ?k7 ?a8 ?l8 ?c8 ?k8 ?a9 ?i9 ?l9 ?c9 ?k9 ?a10 ?i10 ?l10 ?c10 ?k10 ?a11 ?i11 ?l11 ?c11 ?k11 ?a12 ?i12 ?l12 ?c12 ?k12 ?a13 ?i13 ?l13 ?c13 ?k13 ?a14 ?i14 ?l14 ?c14 ?k14 ?a15 ?l15 ?c15 ?k15 ?a16 ?l16 ?c16 ?k16 ?a17 ?l17 ?c17 ?k17 ?a18 ?l18 ?c18 ?k18 ?a19 ?l19 ?c19 ?k19 ?pg_Shelf ?hd_Shelf ?po_Shelf ?sa_Shelf ?mk_Shelf ?kc_Shelf ?n_Shelf_0 ?n_Shelf_1 ?n_Shelf_2 ?n_Shelf_3 ?n_Shelf_4 ?eA_NoPage ?eb_NoPage ?ei_NoPage ?et_NoPage ?ex_NoPage ?ek_NoPage ?eg_NoPage ?eh_NoPage ?ed_NoPage ?ec_NoPage ?en_NoPage ?eu_NoPage ?em_NoPage ?eA_SideError ?eb_SideError ?ei_SideError ?et_SideError ?eA_NoRow ?eb_NoRow ?ei_NoRow ?et_NoRow ?eA_NoHand ?eb_NoHand ?ei_NoHand ?et_NoHand ?eA_NoDeed ?eb_NoDeed ?ei_NoDeed ?et_NoDeed ?eA_Busy ?eb_Busy ?ei_Busy ?et_Busy ?sq_NoPage_NoRow ?vq_NoPage_NoRow ?sq_NoPage_NoHand ?vq_NoPage_NoHand ?sq_NoPage_NoDeed ?vq_NoPage_NoDeed ?sq_NoPage_Busy ?vq_NoPage_Busy ?sq_NoPage_ValueError ?sq_NoPage_NoPage ?sm_NoPage_SideError ?z_ValueError ?z_isinstance ?z_len ?z_range ?ge_EMPTY_LEAF ?le_EMPTY_LEAF_1 ?le_EMPTY_LEAF_4 ?le_EMPTY_LEAF_3

    (case A_Shelf => k_is)
    (case a0 => k_is)
    (case i0 => k_is)
    (case l0 => k_is)
    (case c0 => k_is)
    (case k0 => k_is)
    (case a1 => k_is)
    (case l1 => k_is)
    (case c1 => k_is)
    (case k1 => k_is)
    (case a2 => k_is)
    (case l2 => k_is)
    (case c2 => k_is)
    (case k2 => k_is)
    (case a3 => k_is)
    (case i3 => k_is)
    (case l3 => k_is)
    (case c3 => k_is)
    (case k3 => k_is)
    (case a4 => k_is)
    (case i4 => k_is)
    (case l4 => k_is)
    (case c4 => k_is)
    (case k4 => k_is)
    (case a5 => k_is)
    (case i5 => k_is)
    (case l5 => k_is)
    (case c5 => k_is)
    (case k5 => k_is)
    (case a6 => k_is)
    (case i6 => k_is)
    (case l6 => k_is)
    (case c6 => k_is)
    (case k6 => k_is)
    (case a7 => k_is)
    (case i7 => k_is)
    (case l7 => k_is)
    (case c7 => k_is)
    (case k7 => k_is)
    (case a8 => k_is)
    (case l8 => k_is)
    (case c8 => k_is)
    (case k8 => k_is)
    (case a9 => k_is)
    (case i9 => k_is)
    (case l9 => k_is)
    (case c9 => k_is)
    (case k9 => k_is)
    (case a10 => k_is)
    (case i10 => k_is)
    (case l10 => k_is)
    (case c10 => k_is)
    (case k10 => k_is)
    (case a11 => k_is)
    (case i11 => k_is)
    (case l11 => k_is)
    (case c11 => k_is)
    (case k11 => k_is)
    (case a12 => k_is)
    (case i12 => k_is)
    (case l12 => k_is)
    (case c12 => k_is)
    (case k12 => k_is)
    (case a13 => k_is)
    (case i13 => k_is)
    (case l13 => k_is)
    (case c13 => k_is)
    (case k13 => k_is)
    (case a14 => k_is)
    (case i14 => k_is)
    (case l14 => k_is)
    (case c14 => k_is)
    (case k14 => k_is)
    (case a15 => k_is)
    (case l15 => k_is)
    (case c15 => k_is)
    (case k15 => k_is)
    (case a16 => k_is)
    (case l16 => k_is)
    (case c16 => k_is)
    (case k16 => k_is)
    (case a17 => k_is)
    (case l17 => k_is)
    (case c17 => k_is)
    (case k17 => k_is)
    (case a18 => k_is)
    (case l18 => k_is)
    (case c18 => k_is)
    (case k18 => k_is)
    (case a19 => k_is)
    (case l19 => k_is)
    (case c19 => k_is)
    (case k19 => k_is)
    (case pg_Shelf => k_is)
    (case hd_Shelf => k_is)
    (case po_Shelf => k_is)
    (case sa_Shelf => k_is)
    (case mk_Shelf => k_is)
    (case kc_Shelf => k_is)
    (case n_Shelf_0 => k_is)
    (case n_Shelf_1 => k_is)
    (case n_Shelf_2 => k_is)
    (case n_Shelf_3 => k_is)
    (case n_Shelf_4 => k_is)
    (case eA_NoPage => k_is)
    (case eb_NoPage => k_is)
    (case ei_NoPage => k_is)
    (case et_NoPage => k_is)
    (case ex_NoPage => k_exc)
    (case ek_NoPage => k_is)
    (case eg_NoPage => k_is)
    (case eh_NoPage => k_is)
    (case ed_NoPage => k_is)
    (case ec_NoPage => k_is)
    (case en_NoPage => k_is)
    (case eu_NoPage => k_is)
    (case em_NoPage => k_is)
    (case eA_SideError => k_is)
    (case eb_SideError => k_is)
    (case ei_SideError => k_is)
    (case et_SideError => k_is)
    (case eA_NoRow => k_is)
    (case eb_NoRow => k_is)
    (case ei_NoRow => k_is)
    (case et_NoRow => k_is)
    (case eA_NoHand => k_is)
    (case eb_NoHand => k_is)
    (case ei_NoHand => k_is)
    (case et_NoHand => k_is)
    (case eA_NoDeed => k_is)
    (case eb_NoDeed => k_is)
    (case ei_NoDeed => k_is)
    (case et_NoDeed => k_is)
    (case eA_Busy => k_is)
    (case eb_Busy => k_is)
    (case ei_Busy => k_is)
    (case et_Busy => k_is)
    (case sq_NoPage_NoRow => k_is)
    (case vq_NoPage_NoRow => first | decide | rfl | k_is)
    (case sq_NoPage_NoHand => k_is)
    (case vq_NoPage_NoHand => first | decide | rfl | k_is)
    (case sq_NoPage_NoDeed => k_is)
    (case vq_NoPage_NoDeed => first | decide | rfl | k_is)
    (case sq_NoPage_Busy => k_is)
    (case vq_NoPage_Busy => first | decide | rfl | k_is)
    (case sq_NoPage_ValueError => k_is)
    (case sq_NoPage_NoPage => k_is)
    (case sm_NoPage_SideError => k_is)
    (case z_ValueError => k_is)
    (case z_isinstance => k_is)
    (case z_len => k_is)
    (case z_range => k_is)
    (case ge_EMPTY_LEAF => k_is)
    (case le_EMPTY_LEAF_1 => k_is)
    (case le_EMPTY_LEAF_4 => k_is)
    (case le_EMPTY_LEAF_3 => k_is)
