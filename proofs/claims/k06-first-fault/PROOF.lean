import PyProof.Rows.All
import HandS.Text
import Wide.All
import OpenK.AllK
import Wide.FinOn
import PyProof.StrOps2
import KE.KExcIs
import HandS.ForMost
import HandS.Exc
import HandS.ExcInit
import HandS.ExcIs
import HandS.ExcField
import HandS.WordsExc
import HandS.EndBits
import HandS.Evl
import PySem.Challenge.RW_asforetold_k06_first_fault_of_a_source
set_option Elab.async false
set_option autoImplicit false
set_option linter.all false
set_option maxRecDepth 100000
set_option maxHeartbeats 8000000
/-! K6Math: the plain side: places, tokens, rows, trees. No program here. -/
namespace K6
open PySem
abbrev Cs := List Nat
abbrev cz (x : Str) : Cs := x.cps.toList
/-! ### places -/
def stp (p : Nat × Nat) (c : Nat) : Nat × Nat := if c = 10 then (p.1 + 1, 1) else (p.1, p.2 + 1)
def lcF (p : Nat × Nat) (x : Cs) : Nat × Nat := x.foldl stp p
abbrev lc (x : Cs) : Nat × Nat := lcF (1, 1) x
theorem lcF_app (p : Nat × Nat) (x y : Cs) : lcF p (x ++ y) = lcF (lcF p x) y := List.foldl_append
theorem lcF_nil (p : Nat × Nat) : lcF p [] = p := rfl
theorem lcF_cons (p : Nat × Nat) (c : Nat) (x : Cs) : lcF p (c :: x) = lcF (stp p c) x := rfl
theorem lcF_flat : ∀ (x : Cs) (p : Nat × Nat), (∀ c ∈ x, c ≠ 10) → lcF p x = (p.1, p.2 + x.length)
  | [], p, _ => rfl
  | c :: x, p, h => by
    rw [lcF_cons, lcF_flat x _ fun d hd => h d (List.mem_cons_of_mem _ hd)]
    have e : stp p c = (p.1, p.2 + 1) := if_neg (h c List.mem_cons_self)
    rw [e, List.length_cons]
    simp only [Prod.mk.injEq, true_and]
    omega
/-! ### the split -/
def isL (c : Nat) : Bool := decide (97 ≤ c ∧ c ≤ 122)
def isD (c : Nat) : Bool := decide (48 ≤ c ∧ c ≤ 57)
def plain (c : Nat) : Bool := isL c || isD c
structure Tk where
  w : Str
  l : Nat
  c : Nat
theorem dropWhile_len (f : Nat → Bool) : ∀ r : Cs, (r.dropWhile f).length ≤ r.length
  | [] => Nat.le_refl _
  | x :: r => by
    rw [List.dropWhile_cons]
    split
    · exact Nat.le_succ_of_le (dropWhile_len f r)
    · exact Nat.le_refl _
def sp : Cs → Nat → Nat → List Tk
  | [], l, c => [⟨("" : Str), l, c⟩]
  | x :: r, l, c =>
    if x = 10 then sp r (l + 1) 1
    else if x = 32 then sp r l (c + 1)
    else if isL x = true then ⟨⟨(x :: r.takeWhile isL).toArray⟩, l, c⟩ :: sp (r.dropWhile isL) l (c + 1 + (r.takeWhile isL).length)
    else if isD x = true then ⟨⟨(x :: r.takeWhile isD).toArray⟩, l, c⟩ :: sp (r.dropWhile isD) l (c + 1 + (r.takeWhile isD).length)
    else ⟨⟨#[x]⟩, l, c⟩ :: sp r l (c + 1)
termination_by x => x.length
decreasing_by
  all_goals simp only [List.length_cons]
  all_goals have h1 := dropWhile_len isL r
  all_goals have h2 := dropWhile_len isD r
  all_goals omega
theorem sp_nil (l c : Nat) : sp [] l c = [⟨("" : Str), l, c⟩] := by rw [sp]
theorem sp_nl (r : Cs) (l c : Nat) : sp (10 :: r) l c = sp r (l + 1) 1 := by rw [sp, if_pos rfl]
theorem sp_bl (r : Cs) (l c : Nat) : sp (32 :: r) l c = sp r l (c + 1) := by rw [sp, if_neg (by decide), if_pos rfl]
theorem sp_word {x : Nat} (r : Cs) (l c : Nat) (h : isL x = true) : sp (x :: r) l c = ⟨⟨(x :: r.takeWhile isL).toArray⟩, l, c⟩ :: sp (r.dropWhile isL) l (c + 1 + (r.takeWhile isL).length) := by
  have h' := h
  simp only [isL, decide_eq_true_eq] at h'
  rw [sp, if_neg (by omega), if_neg (by omega), if_pos h]
theorem isL_D {x : Nat} (h : isD x = true) : isL x = false := by
  simp only [isD, decide_eq_true_eq] at h
  simp only [isL, decide_eq_false_iff_not]
  omega
theorem isD_L {x : Nat} (h : isL x = true) : isD x = false := by
  simp only [isL, decide_eq_true_eq] at h
  simp only [isD, decide_eq_false_iff_not]
  omega
theorem sp_num {x : Nat} (r : Cs) (l c : Nat) (h : isD x = true) : sp (x :: r) l c = ⟨⟨(x :: r.takeWhile isD).toArray⟩, l, c⟩ :: sp (r.dropWhile isD) l (c + 1 + (r.takeWhile isD).length) := by
  have h' := h
  simp only [isD, decide_eq_true_eq] at h'
  rw [sp, if_neg (by omega), if_neg (by omega), if_neg (by rw [isL_D h]; decide), if_pos h]
def SignC (x : Nat) : Prop := isL x = false ∧ isD x = false ∧ x ≠ 10 ∧ x ≠ 32
theorem sp_sign {x : Nat} (r : Cs) (l c : Nat) (h : SignC x) : sp (x :: r) l c = ⟨⟨#[x]⟩, l, c⟩ :: sp r l (c + 1) := by
  obtain ⟨h1, h2, h3, h4⟩ := h
  rw [sp, if_neg h3, if_neg h4, if_neg (by rw [h1]; decide), if_neg (by rw [h2]; decide)]
/-! ### tokens as they are laid -/
def Tok (t : Cs) : Prop := (∃ x, t = [x] ∧ SignC x) ∨ (t ≠ [] ∧ ∀ x ∈ t, isL x = true) ∨ (t ≠ [] ∧ ∀ x ∈ t, isD x = true)
/-- behind the text t may stand r -/
def Apart (t r : Cs) : Prop := ∀ x y, t.getLast? = some x → r.head? = some y → ¬ (plain x = true ∧ plain y = true)
theorem takeWhile_app {f : Nat → Bool} : ∀ {a r : Cs}, (∀ x ∈ a, f x = true) → (∀ y, r.head? = some y → f y = false) → (a ++ r).takeWhile f = a ∧ (a ++ r).dropWhile f = r
  | [], [], _, _ => ⟨rfl, rfl⟩
  | [], y :: r, _, h => by
    have e := h y rfl
    constructor
    · show (y :: r).takeWhile f = []
      rw [List.takeWhile_cons, e]; rfl
    · show (y :: r).dropWhile f = y :: r
      rw [List.dropWhile_cons, e]; rfl
  | x :: a, r, h1, h2 => by
    obtain ⟨i1, i2⟩ := takeWhile_app (a := a) (r := r) (fun z hz => h1 z (List.mem_cons_of_mem _ hz)) h2
    have e := h1 x List.mem_cons_self
    constructor
    · show (x :: (a ++ r)).takeWhile f = x :: a
      rw [List.takeWhile_cons, if_pos e, i1]
    · show (x :: (a ++ r)).dropWhile f = r
      rw [List.dropWhile_cons, if_pos e, i2]
theorem last_plain {f : Nat → Bool} (hf : ∀ x, f x = true → plain x = true) {t : Cs} (h : ∀ x ∈ t, f x = true) {x : Nat} (e : t.getLast? = some x) : plain x = true :=
  hf x (h x (List.mem_of_getLast? e))
theorem plain_L {x : Nat} (h : isL x = true) : plain x = true := by unfold plain; rw [h]; rfl
theorem plain_D {x : Nat} (h : isD x = true) : plain x = true := by unfold plain; rw [h]; simp
theorem getLast_some {t : Cs} (h : t ≠ []) : ∃ x, t.getLast? = some x := ⟨t.getLast h, List.getLast?_eq_some_getLast h⟩
theorem sp_tok {t r : Cs} (l c : Nat) (ht : Tok t) (ha : Apart t r) : sp (t ++ r) l c = ⟨⟨t.toArray⟩, l, c⟩ :: sp r l (c + t.length) := by
  have key : ∀ (f : Nat → Bool), (∀ x, f x = true → plain x = true) → t ≠ [] → (∀ x ∈ t, f x = true) → ∀ y, r.head? = some y → f y = false := by
    intro f hf hne h y hy
    obtain ⟨x, hx⟩ := getLast_some hne
    have p1 := last_plain hf h hx
    cases e : f y with
    | false => rfl
    | true => exact absurd ⟨p1, hf y e⟩ (ha x y hx hy)
  rcases ht with ⟨x, rfl, hs⟩ | ⟨hne, h⟩ | ⟨hne, h⟩
  · exact sp_sign r l c hs
  · have hr := key isL (fun _ => plain_L) hne h
    cases t with
    | nil => exact absurd rfl hne
    | cons x a =>
      obtain ⟨e1, e2⟩ := takeWhile_app (a := a) (fun z hz => h z (List.mem_cons_of_mem _ hz)) hr
      show sp (x :: (a ++ r)) l c = _
      rw [sp_word _ _ _ (h x List.mem_cons_self), e1, e2, List.length_cons]
      have e3 : c + 1 + a.length = c + (a.length + 1) := by omega
      rw [e3]
  · have hr := key isD (fun _ => plain_D) hne h
    cases t with
    | nil => exact absurd rfl hne
    | cons x a =>
      obtain ⟨e1, e2⟩ := takeWhile_app (a := a) (fun z hz => h z (List.mem_cons_of_mem _ hz)) hr
      show sp (x :: (a ++ r)) l c = _
      rw [sp_num _ _ _ (h x List.mem_cons_self), e1, e2, List.length_cons]
      have e3 : c + 1 + a.length = c + (a.length + 1) := by omega
      rw [e3]
theorem tok_no10 {t : Cs} (h : Tok t) : ∀ c ∈ t, c ≠ 10 := by
  intro c hc e
  subst e
  rcases h with ⟨x, rfl, hs⟩ | ⟨_, h⟩ | ⟨_, h⟩
  · have e : 10 = x := by simpa using hc
    exact hs.2.2.1 e.symm
  · exact absurd (h 10 hc) (by decide)
  · exact absurd (h 10 hc) (by decide)
theorem tok_ne {t : Cs} (h : Tok t) : t ≠ [] := by
  rcases h with ⟨x, rfl, _⟩ | ⟨h, _⟩ | ⟨h, _⟩
  · simp
  · exact h
  · exact h
def Gap (g : Cs) : Prop := g = [] ∨ g = [32] ∨ g = [10]
theorem sp_gap {g : Cs} (r : Cs) (p : Nat × Nat) (h : Gap g) : sp (g ++ r) p.1 p.2 = sp r (lcF p g).1 (lcF p g).2 := by
  rcases h with rfl | rfl | rfl
  · rfl
  · exact sp_bl r _ _
  · exact sp_nl r _ _
/-- what is laid: a gap and a token, again and again -/
abbrev It := Cs × Cs
def laid (I : List It) : Cs := I.flatMap fun p => p.1 ++ p.2
theorem laid_app (I J : List It) : laid (I ++ J) = laid I ++ laid J := List.flatMap_append
theorem laid_one (p : It) : laid [p] = p.1 ++ p.2 := by simp [laid]
theorem laid_cons (p : It) (I : List It) : laid (p :: I) = p.1 ++ p.2 ++ laid I := by simp [laid]
/-- well laid, behind the sign x -/
def Ok : Nat → List It → Prop
  | _, [] => True
  | x, p :: I => Gap p.1 ∧ Tok p.2 ∧ (p.1 = [] → ∀ y, p.2.head? = some y → ¬ (plain x = true ∧ plain y = true)) ∧ ∀ z, p.2.getLast? = some z → Ok z I
def tks : Nat × Nat → List It → List Tk
  | _, [] => []
  | p, i :: I => ⟨⟨i.2.toArray⟩, (lcF p i.1).1, (lcF p i.1).2⟩ :: tks (lcF (lcF p i.1) i.2) I
theorem tks_len : ∀ (p : Nat × Nat) (I : List It), (tks p I).length = I.length
  | _, [] => rfl
  | p, i :: I => by show (tks _ I).length + 1 = I.length + 1; rw [tks_len]
/-- what may follow the items I, the sign x ahead of them -/
def End : Nat → List It → Cs → Prop
  | x, [], r => ∀ y, r.head? = some y → ¬ (plain x = true ∧ plain y = true)
  | _, p :: I, r => ∀ z, p.2.getLast? = some z → End z I r
theorem head_app {a b : Cs} {y : Nat} (h : (a ++ b).head? = some y) : a.head? = some y ∨ (a = [] ∧ b.head? = some y) := by
  cases a with
  | nil => exact .inr ⟨rfl, h⟩
  | cons z a => exact .inl h
theorem no_plain_gap {g : Cs} (h : Gap g) {y : Nat} (e : g.head? = some y) : plain y = false := by
  rcases h with rfl | rfl | rfl
  · cases e
  · have e' : 32 = y := Option.some.inj e
    subst e'
    rfl
  · have e' : 10 = y := Option.some.inj e
    subst e'
    rfl
theorem head_of_tok {t : Cs} (h : Tok t) (r : Cs) : (t ++ r).head? = t.head? := by
  cases t with
  | nil => exact absurd rfl (tok_ne h)
  | cons a t => rfl
theorem end_apart : ∀ {I : List It} {x : Nat} {r : Cs}, Ok x I → End x I r → ∀ y, (laid I ++ r).head? = some y → ¬ (plain x = true ∧ plain y = true)
  | [], x, r, _, he, y, hy => he y hy
  | p :: I, x, r, ho, he, y, hy => by
    obtain ⟨hg, ht, ha, hn⟩ := ho
    rw [laid_cons, List.append_assoc, List.append_assoc] at hy
    rcases head_app hy with h | ⟨h1, h2⟩
    · intro ⟨_, q⟩
      rw [no_plain_gap hg h] at q
      cases q
    · rw [head_of_tok ht] at h2
      exact ha h1 y h2
theorem sp_laid : ∀ {I : List It} {x : Nat} {r : Cs} (p : Nat × Nat), Ok x I → End x I r → sp (laid I ++ r) p.1 p.2 = tks p I ++ sp r (lcF p (laid I)).1 (lcF p (laid I)).2
  | [], _, _, _, _, _ => rfl
  | i :: I, x, r, p, ho, he => by
    obtain ⟨hg, ht, ha, hn⟩ := ho
    obtain ⟨z, hz⟩ := getLast_some (tok_ne ht)
    have o2 := hn z hz
    have e2 : End z I r := he z hz
    have hap : Apart i.2 (laid I ++ r) := fun a b e1 e3 => by
      rw [hz] at e1
      cases e1
      exact end_apart o2 e2 b e3
    have ih := sp_laid (lcF (lcF p i.1) i.2) o2 e2
    rw [laid_cons, List.append_assoc, List.append_assoc, sp_gap _ p hg, sp_tok _ _ ht hap]
    have e4 : lcF (lcF p i.1) i.2 = ((lcF p i.1).1, (lcF p i.1).2 + i.2.length) := lcF_flat _ _ (tok_no10 ht)
    show _ = ⟨⟨i.2.toArray⟩, (lcF p i.1).1, (lcF p i.1).2⟩ :: (tks (lcF (lcF p i.1) i.2) I ++ sp r (lcF p (i.1 ++ i.2 ++ laid I)).1 (lcF p (i.1 ++ i.2 ++ laid I)).2)
    rw [lcF_app, lcF_app, ← ih, e4]
theorem Ok.take : ∀ {I : List It} {x : Nat} (n : Nat), Ok x I → Ok x (I.take n)
  | _, _, 0, _ => True.intro
  | [], _, _ + 1, _ => True.intro
  | p :: I, x, n + 1, h => ⟨h.1, h.2.1, h.2.2.1, fun z hz => (h.2.2.2 z hz).take n⟩
/-- the sign ahead of the i-th item -/
theorem End.blank : ∀ {I : List It} {x : Nat} {r : Cs}, (∀ y, r.head? = some y → plain y = false) → End x I r
  | [], _, _, h => fun y hy q => by rw [h y hy] at q; cases q.2
  | _ :: I, _, _, h => fun z _ => End.blank (I := I) h
theorem End.item : ∀ {I : List It} {x : Nat} {i : It} {n : Nat} {r : Cs}, Ok x I → I[n]? = some i → (∀ y, r.head? = some y → plain y = true → ∃ z, i.2.head? = some z ∧ plain z = true) → End x (I.take n) (i.1 ++ r)
  | [], _, _, _, _, _, h, _ => by simp at h
  | p :: I, x, i, 0, r, ho, h, hr => by
    have e : p = i := Option.some.inj h
    subst e
    obtain ⟨hg, ht, ha, _⟩ := ho
    intro y hy ⟨q1, q2⟩
    rcases head_app hy with h1 | ⟨h1, h2⟩
    · rw [no_plain_gap hg h1] at q2
      cases q2
    · obtain ⟨z, hz, pz⟩ := hr y h2 q2
      exact ha h1 z hz ⟨q1, pz⟩
  | p :: I, x, i, n + 1, r, ho, h, hr => fun z hz => End.item (I := I) (ho.2.2.2 z hz) h hr
theorem tks_app : ∀ (I J : List It) (p : Nat × Nat), tks p (I ++ J) = tks p I ++ tks (lcF p (laid I)) J
  | [], _, _ => rfl
  | i :: I, J, p => by
    show _ :: tks _ (I ++ J) = _ :: (tks _ I ++ tks (lcF p (laid (i :: I))) J)
    rw [tks_app I J, laid_cons, lcF_app, lcF_app]
end K6
/-! K6Tree: rows, trees, what a stream of tokens has in common with rows. -/
namespace K6
open PySem
abbrev Row := Str × Str
def num (n : Nat) : Str := Str.ofString (toString (n : Int))
inductive Tr where
  | job (d : Nat) (g : Bool) (v c : Nat) (f : Option Nat)
  | grp (w : Str) (ts : List Tr)
  | pool (s : Nat) (ts : List Tr)
  | tmo (n : Nat) (t : Tr)
  | ore (a b : Tr)
  | rty (r d : Nat) (t : Tr)
def rPlan (w : Str) : Row := (w, "expected a plan")
def rOpen : Row := ("(", "expected (")
def rNum (n : Nat) : Row := (num n, "expected a number")
def rComma : Row := (",", "expected ,")
def rMore : Row := (",", "expected , or )")
def rShut : Row := (")", "expected )")
def rShutM : Row := (")", "expected , or )")
def rSign (g : Bool) : Row := (if g then "+" else "-", "expected + or -")
def rBang : Row := ("!", "expected !")
def hd (w : Str) : List Row := [rPlan w, rOpen]
def nums (n : Nat) : List Row := [rNum n, rComma]
def jobRows (d : Nat) (g : Bool) (v c : Nat) (f : Option Nat) : List Row :=
  [rPlan "job", rOpen, rNum d, rComma] ++ [rSign g, rNum v, rComma, rNum c] ++ (match f with | none => [rShutM] | some k => [rMore, rBang, rNum k, rShut])
mutual
def toks : Tr → List Row
  | .job d g v c f => jobRows d g v c f
  | .grp w ts => hd w ++ (more ts).drop 1 ++ [rShutM]
  | .pool s ts => hd "pool" ++ nums s ++ (more ts).drop 1 ++ [rShutM]
  | .tmo n t => hd "timeout" ++ nums n ++ toks t ++ [rShut]
  | .ore a b => hd "orelse" ++ toks a ++ [rComma] ++ toks b ++ [rShut]
  | .rty r d t => hd "retry" ++ nums r ++ nums d ++ toks t ++ [rShut]
def more : List Tr → List Row
  | [] => []
  | t :: r => rMore :: (toks t ++ more r)
end
mutual
def sz : Tr → Nat
  | .job _ _ _ _ _ => 1
  | .grp _ ts => szs ts + 1
  | .pool _ ts => szs ts + 1
  | .tmo _ t => sz t + 1
  | .ore a b => sz a + sz b + 1
  | .rty _ _ t => sz t + 1
def szs : List Tr → Nat
  | [] => 0
  | t :: r => sz t + szs r
end
mutual
def dep : Tr → Nat
  | .job _ _ _ _ _ => 1
  | .grp _ ts => deps ts + 1
  | .pool _ ts => deps ts + 1
  | .tmo _ t => dep t + 1
  | .ore a b => max (dep a) (dep b) + 1
  | .rty _ _ t => dep t + 1
def deps : List Tr → Nat
  | [] => 0
  | t :: r => max (dep t) (deps r)
end
mutual
def rn : Tr → Nat
  | .job _ _ _ _ _ => 1
  | .grp _ ts => rns ts
  | .pool _ ts => rns ts
  | .tmo _ t => rn t
  | .ore a b => rn a + rn b
  | .rty r _ t => rn t * (r + 1)
def rns : List Tr → Nat
  | [] => 0
  | t :: r => rn t + rns r
end
def grpW (w : Str) : Prop := w = "all" ∨ w = "race" ∨ w = "any" ∨ w = "sequence"
mutual
/-- all numbers within their bounds, one to six parts -/
def fit : Tr → Prop
  | .job d _ v c f => d ≤ 1000 ∧ v ≤ 999 ∧ c ≤ 100 ∧ ∀ k, f = some k → k ≤ 999
  | .grp w ts => grpW w ∧ ts ≠ [] ∧ ts.length ≤ 6 ∧ fits ts
  | .pool s ts => 1 ≤ s ∧ s ≤ 6 ∧ ts ≠ [] ∧ ts.length ≤ 6 ∧ fits ts
  | .tmo n t => n ≤ 1000 ∧ fit t
  | .ore a b => fit a ∧ fit b
  | .rty r d t => r ≤ 5 ∧ d ≤ 100 ∧ fit t
def fits : List Tr → Prop
  | [] => True
  | t :: r => fit t ∧ fits r
end
theorem fits_all : ∀ {ts : List Tr}, fits ts ↔ ∀ t ∈ ts, fit t
  | [] => by simp [fits]
  | t :: r => by
    have ih := fits_all (ts := r)
    simp only [fits, ih, List.mem_cons, forall_eq_or_imp]
theorem deps_le : ∀ {ts : List Tr} {n : Nat}, deps ts ≤ n ↔ ∀ t ∈ ts, dep t ≤ n
  | [], n => by simp [deps]
  | t :: r, n => by
    have ih := deps_le (ts := r) (n := n)
    simp only [deps, List.mem_cons, forall_eq_or_imp, ← ih]
    omega
theorem szs_sum : ∀ ts : List Tr, szs ts = (ts.map sz).sum
  | [] => rfl
  | t :: r => by simp only [szs, szs_sum r, List.map_cons, List.sum_cons]
theorem rns_sum : ∀ ts : List Tr, rns ts = (ts.map rn).sum
  | [] => rfl
  | t :: r => by simp only [rns, rns_sum r, List.map_cons, List.sum_cons]
theorem more_app : ∀ a b : List Tr, more (a ++ b) = more a ++ more b
  | [], b => by simp [more]
  | t :: r, b => by
    have ih := more_app r b
    show more (t :: (r ++ b)) = _
    simp only [more, ih, List.cons_append, List.append_assoc]
theorem more_one (t : Tr) : more [t] = rMore :: toks t := by simp [more]
theorem rn_pos : ∀ t : Tr, fit t → 1 ≤ rn t
  | .job _ _ _ _ _, _ => Nat.le_refl _
  | .grp w ts, h => by
    obtain ⟨_, hne, _, hf⟩ := h
    cases ts with
    | nil => exact absurd rfl hne
    | cons t r =>
      have := rn_pos t hf.1
      simp only [rn, rns]
      omega
  | .pool s ts, h => by
    obtain ⟨_, _, hne, _, hf⟩ := h
    cases ts with
    | nil => exact absurd rfl hne
    | cons t r =>
      have := rn_pos t hf.1
      simp only [rn, rns]
      omega
  | .tmo n t, h => rn_pos t h.2
  | .ore a b, h => by
    have := rn_pos a h.1
    simp only [rn]
    omega
  | .rty r d t, h => by
    have := rn_pos t h.2.2
    simp only [rn]
    exact Nat.mul_pos this (Nat.succ_pos r)
theorem dep_pos : ∀ t : Tr, 1 ≤ dep t := fun t => by cases t <;> simp only [dep] <;> omega
theorem sz_pos : ∀ t : Tr, 1 ≤ sz t := fun t => by cases t <;> simp only [sz] <;> omega
/-! ### tokens that can stand nowhere -/
def signs : List Str := ["(", ",", ")", "!", "+", "-"]
def planWords : List Str := ["job", "all", "race", "any", "pool", "timeout", "sequence", "orelse", "retry"]
structure Bad (w : Str) : Prop where
  ns : w ∉ signs
  nw : w ∉ planWords
  nn : cz w = [] ∨ ∃ c r, cz w = c :: r ∧ (isD c = false ∨ (c = 48 ∧ r ≠ []))
theorem bad_of_cz {w : Str} {l : Cs} (e : cz w = l) (h1 : ∀ s ∈ signs, cz s ≠ l) (h2 : ∀ s ∈ planWords, cz s ≠ l) (h3 : l = [] ∨ ∃ c r, l = c :: r ∧ (isD c = false ∨ (c = 48 ∧ r ≠ []))) : Bad w :=
  ⟨fun h => h1 w h e, fun h => h2 w h e, by rw [e]; exact h3⟩
theorem signs_cz : signs.map cz = [[40], [44], [41], [33], [43], [45]] := by decide +kernel
theorem words_cz : planWords.map cz = [[106, 111, 98], [97, 108, 108], [114, 97, 99, 101], [97, 110, 121], [112, 111, 111, 108], [116, 105, 109, 101, 111, 117, 116], [115, 101, 113, 117, 101, 110, 99, 101], [111, 114, 101, 108, 115, 101], [114, 101, 116, 114, 121]] := by decide +kernel
theorem bad_by {w : Str} {l : Cs} (e : cz w = l) (h1 : l ∉ signs.map cz) (h2 : l ∉ planWords.map cz) (h3 : l = [] ∨ ∃ c r, l = c :: r ∧ (isD c = false ∨ (c = 48 ∧ r ≠ []))) : Bad w :=
  bad_of_cz e (fun s hs z => h1 (List.mem_map.mpr ⟨s, hs, z⟩)) (fun s hs z => h2 (List.mem_map.mpr ⟨s, hs, z⟩)) h3
theorem bad_nil : Bad ("" : Str) := bad_by (l := []) (by decide +kernel) (by rw [signs_cz]; decide) (by rw [words_cz]; decide) (.inl rfl)
theorem bad_sign {w : Str} {c : Nat} (e : cz w = [c]) (hs : c ∈ [38, 90, 59, 63]) : Bad w := by
  refine bad_by e ?_ ?_ (.inr ⟨c, [], rfl, .inl ?_⟩)
  · rw [signs_cz]
    simp only [List.mem_cons, List.not_mem_nil, or_false] at hs
    rcases hs with rfl | rfl | rfl | rfl <;> decide
  · rw [words_cz]
    simp only [List.mem_cons, List.not_mem_nil, or_false] at hs
    rcases hs with rfl | rfl | rfl | rfl <;> decide
  · simp only [List.mem_cons, List.not_mem_nil, or_false] at hs
    rcases hs with rfl | rfl | rfl | rfl <;> decide
theorem bad_zero {w : Str} {r : Cs} (e : cz w = 48 :: r) (hr : r ≠ []) : Bad w := by
  refine bad_by e ?_ ?_ (.inr ⟨48, r, rfl, .inr ⟨rfl, hr⟩⟩)
  · rw [signs_cz]
    simp
  · rw [words_cz]
    simp
/-! ### a stream against rows: fits all along (none), or the first misfit is bad (the token, the words asked) -/
def Run (T : List Tk) : Nat → List Row → Option (Tk × Str) → Prop
  | _, [], o => o = none
  | p, r :: R, o => ∃ k, T[p]? = some k ∧ ((k.w = r.1 ∧ Run T (p + 1) R o) ∨ (Bad k.w ∧ o = some (k, r.2)))
theorem Run.cut {T : List Tk} : ∀ {R S : List Row} {p : Nat} {o : Option (Tk × Str)}, Run T p (R ++ S) o → ∃ o1, Run T p R o1 ∧ (o1 = none → Run T (p + R.length) S o) ∧ ∀ z, o1 = some z → o = some z
  | [], S, p, o, h => ⟨none, rfl, fun _ => h, fun _ e => nomatch e⟩
  | r :: R, S, p, o, h => by
    obtain ⟨k, hk, h⟩ := h
    rcases h with ⟨e, h⟩ | ⟨b, e⟩
    · obtain ⟨o1, h1, h2, h3⟩ := Run.cut h
      refine ⟨o1, ⟨k, hk, .inl ⟨e, h1⟩⟩, fun n => ?_, h3⟩
      have q := h2 n
      rw [List.length_cons, Nat.add_comm R.length 1, ← Nat.add_assoc]
      exact q
    · exact ⟨some (k, r.2), ⟨k, hk, .inr ⟨b, rfl⟩⟩, (fun n => by cases n), fun z ez => by rw [← ez]; exact e⟩
theorem Run.nil {T : List Tk} {p : Nat} : Run T p [] none := rfl
theorem Run.good {T : List Tk} : ∀ {R : List Row} {p : Nat}, (∀ i r, R[i]? = some r → ∃ k, T[p + i]? = some k ∧ k.w = r.1) → Run T p R none
  | [], _, _ => rfl
  | r :: R, p, h => by
    obtain ⟨k, hk, e⟩ := h 0 r rfl
    refine ⟨k, hk, .inl ⟨e, Run.good fun i s hs => ?_⟩⟩
    obtain ⟨k', hk', e'⟩ := h (i + 1) s hs
    refine ⟨k', ?_, e'⟩
    rw [← hk']
    congr 1
    omega
theorem Run.miss {T : List Tk} : ∀ {R : List Row} {p n : Nat} {k : Tk} {r : Row}, (∀ i s, i < n → R[i]? = some s → ∃ k, T[p + i]? = some k ∧ k.w = s.1) → R[n]? = some r → T[p + n]? = some k → Bad k.w → Run T p R (some (k, r.2))
  | [], _, _, _, _, _, h, _, _ => by simp at h
  | s :: R, p, 0, k, r, _, h, hk, hb => by
    have e : s = r := Option.some.inj h
    subst e
    exact ⟨k, hk, .inr ⟨hb, rfl⟩⟩
  | s :: R, p, n + 1, k, r, hg, h, hk, hb => by
    obtain ⟨k0, hk0, e0⟩ := hg 0 s (Nat.succ_pos n) rfl
    refine ⟨k0, hk0, .inl ⟨e0, Run.miss (n := n) (fun i s' hi hs' => ?_) h ?_ hb⟩⟩
    · obtain ⟨k', hk', e'⟩ := hg (i + 1) s' (by omega) hs'
      refine ⟨k', ?_, e'⟩
      rw [← hk']
      congr 1
      omega
    · rw [← hk]
      congr 1
      omega
/-! ### the width of a text -/
def wd (R : List Row) : Nat := (R.map fun r => (cz r.1).length + 1).sum
theorem wd_app (R S : List Row) : wd (R ++ S) = wd R + wd S := by simp [wd]
theorem num_len {n : Nat} (h : n < 10000) : (cz (num n)).length ≤ 4 := by
  have e : cz (num n) = TL.numL n := TL.tl_num n
  rw [e]
  exact TL.numL_len (k := 4) (by decide) h
theorem num_len3 {n : Nat} (h : n < 1000) : (cz (num n)).length ≤ 3 := by
  have e : cz (num n) = TL.numL n := TL.tl_num n
  rw [e]
  exact TL.numL_len (k := 3) (by decide) h
end K6
/-! K6Core: words over the hand layer: a def's use, heaps kept but for some places, the box of digits. -/
namespace K6
open PySem L2
def topS (i : Nat) : Stmt := PySem.Challenge.pw_asforetold_k06_first_fault_of_a_source.main.body.getD i (.Pass ⟨0, 0, 0, 0⟩)
/-! ### a global's value; a def, a method, as it is called -/
def GV (mg : Str → Option Value) (x : Str) (v : V) : Prop := ∃ u, mg x = some u ∧ RelV v u
section
variable {X : Cx} {CX : CXT} {k : Nat} {C : Addr} {ps : List Str} {sp : Sp} {E : XK} {x m : Str} {p pos apos : Pos} {e o : Expr} {es : List Expr} {ta : TE} {t : TA} {v : V}
theorem pe_g (hg : Gl X x) (h : GV X.mg x v) (hd : (x == ("__debug__" : Str)) = false := by decide) : PE X (.Name x pos) (tC v) := by
  obtain ⟨u, hm, r⟩ := h
  exact pe_glob hg hm r hd
end
structure Use (P : Program) (w : World) (K : PySem.W.Frag) (mg : Str → Option Value) (base : Heap) (CX : CXT) (k : Nat) (x : Str) (ps : List Str) (sp : Sp) : Prop where
  ex : ∃ f fd, mg x = some (.ref f) ∧ PySem.W.keepIn K (.ref f) = true ∧ Binds K fd ps [] ∧ FnOk P w K mg base CX k f fd ps sp
structure UseM (P : Program) (w : World) (K : PySem.W.Frag) (mg : Str → Option Value) (base : Heap) (CX : CXT) (k : Nat) (C : Addr) (m : Str) (ps : List Str) (sp : Sp) : Prop where
  ex : ∃ f fd, Meth K C m f ∧ Binds K fd ps [] ∧ FnOk P w K mg base CX k f fd ps sp
theorem Use.mono {P : Program} {w : World} {K : PySem.W.Frag} {mg : Str → Option Value} {base : Heap} {CX : CXT} {j k : Nat} {x : Str} {ps : List Str} {sp : Sp} (U : Use P w K mg base CX j x ps sp) (h : j ≤ k) : Use P w K mg base CX k x ps sp := by
  obtain ⟨f, fd, h1, h2, h3, h4⟩ := U.ex
  exact ⟨f, fd, h1, h2, h3, h4.mono h⟩
theorem UseM.mono {P : Program} {w : World} {K : PySem.W.Frag} {mg : Str → Option Value} {base : Heap} {CX : CXT} {j k : Nat} {C : Addr} {m : Str} {ps : List Str} {sp : Sp} (U : UseM P w K mg base CX j C m ps sp) (h : j ≤ k) : UseM P w K mg base CX k C m ps sp := by
  obtain ⟨f, fd, h1, h3, h4⟩ := U.ex
  exact ⟨f, fd, h1, h3, h4.mono h⟩
section
variable {X : Cx} {CX : CXT} {k : Nat} {C : Addr} {ps : List Str} {sp : Sp} {E : XK} {x m : Str} {p pos apos : Pos} {e o : Expr} {es : List Expr} {ta : TE} {t : TA}
theorem pe_use (U : Use X.prog X.w X.K X.mg X.base CX k x ps sp) (hr : Room k X.A) (hg : Gl X x) (hx : Passes CX X E) (ha : PA X (e :: es) t) (hdb : (x == ("__debug__" : Str)) = false := by decide)
    (he : starEach (e :: es) X.env = (false, eval e X.env) :: starEach es X.env := by rfl) (hpl : (backTo pos (starEach es X.env)).any (·.1) = false := by rfl) : PE X (.Call (.Name x p) (e :: es) [] pos) (tCall sp [] E t) := by
  obtain ⟨f, fd, hm, hk, hb, F⟩ := U.ex
  exact pe_call F hr hg hm hk hb .nil hx ha hdb he hpl
theorem pm_use {pl : Sem Bool} (c : Cls X.K C) (U : UseM X.prog X.w X.K X.mg X.base CX k C m ps sp) (hr : Room k X.A) (hx : Passes CX X E) (he : PE X o ta) (ha : PA X (e :: es) t)
    (hst : starEach (e :: es) X.env = (false, eval e X.env) :: starEach es X.env := by rfl) (hpl : (backTo pos (starEach es X.env)).any (·.1) = false := by rfl)
    (ht : eval (.Call (.Attribute o m apos) (e :: es) [] pos) X.env = (do
      let ov ← eval o X.env
      standAt apos.atName
      let (f, first) ← holding [ov] (getMethod ov m pl)
      callWith pos f first (backTo pos (starEach (e :: es) X.env)) (backToKw pos (keywordEach [] X.env))) := by rfl) :
    PE X (.Call (.Attribute o m apos) (e :: es) [] pos) (tMeth C m sp [] E ta t) := by
  obtain ⟨f, fd, hm, hb, F⟩ := U.ex
  exact pe_meth he c hm F hr hb .nil hx ha hst hpl ht
theorem pm_use0 {pl : Sem Bool} (c : Cls X.K C) (U : UseM X.prog X.w X.K X.mg X.base CX k C m ps sp) (hr : Room k X.A) (hx : Passes CX X E) (he : PE X o ta)
    (ht : eval (.Call (.Attribute o m apos) [] [] pos) X.env = (do
      let ov ← eval o X.env
      standAt apos.atName
      let (f, first) ← holding [ov] (getMethod ov m pl)
      callWith pos f first (backTo pos (starEach [] X.env)) (backToKw pos (keywordEach [] X.env))) := by rfl) :
    PE X (.Call (.Attribute o m apos) [] [] pos) (tMeth C m sp [] E ta tNil) := by
  obtain ⟨f, fd, hm, hb, F⟩ := U.ex
  exact pe_meth0 he c hm F hr hb .nil hx ht
/-- a text times a number -/
def repS (z : Str) (n : Int) : Str := ⟨(List.replicate n.toNat z.cps).foldl (· ++ ·) #[]⟩
theorem repS_cz (z : Str) (n : Int) : cz (repS z n) = (List.replicate n.toNat (cz z)).flatten := by
  have key : ∀ (k : Nat) (acc : Array Nat), ((List.replicate k z.cps).foldl (· ++ ·) acc).toList = acc.toList ++ (List.replicate k (cz z)).flatten := by
    intro k
    induction k with
    | zero => intro acc; simp
    | succ k ih =>
      intro acc
      rw [List.replicate_succ, List.foldl_cons, ih, List.replicate_succ, List.flatten_cons, Array.toList_append, List.append_assoc]
  show ((List.replicate n.toNat z.cps).foldl (· ++ ·) #[]).toList = _
  rw [key]
  simp
theorem op_mul_str : OpR X (binaryOp .Mult) (fun x y H Q => ∃ z n, x = .str z ∧ y = .int n ∧ 2 ≤ n ∧ n ≤ 10000 ∧ 0 < z.length ∧ z.length ≤ 100 ∧ Q (.str (repS z n)) H) := by
  intro pins s σ H x y v u Q I rx ry h
  obtain ⟨z, n, rfl, rfl, h1, h2, h3, h4, q⟩ := h
  obtain ⟨t, rfl⟩ := rx
  obtain ⟨t', rfl⟩ := ry
  have c1 : ¬ n < 1 := by omega
  have c2 : (n == 1 || z.length == 0) = false := by
    have e1 : (n == 1) = false := by simp; omega
    have e2 : (z.length == 0) = false := by simp; omega
    rw [e1, e2]; rfl
  have hlen : z.length * n.toNat ≤ 100 * 10000 := Nat.mul_le_mul h4 (by omega)
  refine PySem.P.mul_str ?_ (fun _ _ => ?_) (fun _ _ => ?_) ?_
  · have e1 : decide (n < -(2 ^ 63 : Int)) = false := decide_eq_false (by omega)
    have e2 : decide (n ≥ 2 ^ 63) = false := decide_eq_false (by omega)
    rw [e1, e2]; rfl
  · have e : (922337203685477 : Int) ≤ (2 ^ 63 - 1) / n := (Int.le_ediv_iff_mul_le (by omega)).mpr (by omega)
    omega
  · refine decide_eq_false ?_
    have := sizeLine_eq
    omega
  · rw [if_neg c1, if_neg (by rw [c2]; decide)]
    refine ⟨?_, .str (repS z n), H, I.tok _, ⟨_, rfl⟩, q⟩
    have e : (repS z n).length = (cz (repS z n)).length := TL.len_tl _
    have e2 : ((List.replicate n.toNat (cz z)).flatten).length = n.toNat * (cz z).length := by simp
    have e3 : (cz z).length = z.length := (TL.len_tl z).symm
    show (repS z n).length ≤ sizeLine
    rw [e, repS_cz, e2, e3, sizeLine_eq, Nat.mul_comm]
    omega
end
/-! ### isinstance of a caught error that has its own dict -/
/-- what the class D must say -/
structure ExD (K : PySem.W.Frag) (D : Addr) : Prop where
  cl : (PySem.W.clsIn K D).isSome = true
  hg : PySem.W.findIn K (.ref D) "__getattribute__" = some (some (.builtin "BaseException.__getattribute__"))
  hk : PySem.W.findIn K (.ref D) "__getattr__" = some none
  hs : PySem.W.subIn K (.ref D) (.type "BaseException") = some true
  ha : PySem.W.findIn K (.ref D) "__class__" = some (some (.builtin "object.__class__"))
  hn : PySem.W.specialIn K (.builtin "object.__class__") "__get__" = some (some (.builtin "getset_descriptor.__get__"))
  ht : PySem.W.takesIn K (.builtin "object.__class__") = some true
  hm : PySem.W.mroIn K D (.type "object") = some true
def rIsD (K : PySem.W.Frag) (D a : Addr) (cls : Value) (d : Option Addr) : List V → Hp → VK → Prop := fun xs H Q => ∃ (c : V) (cv : Value) (b : Bool) (dd : Addr) (fs : List (Str × V)), xs = [.ref a, c] ∧ (∀ u, RelV c u → u = cv) ∧ cls = .ref D ∧ d = some dd ∧ H dd = some (.xd fs) ∧
  PySem.W.kitOne K (.ref D) cv = some b ∧ Q (.bl b) H
theorem call_isD {X : Cx} {a D : Addr} {cls : Value} {d : Option Addr} {oe : Obj} {pn : List (Addr × Obj)} (C : ExD X.K D) (hz : Zc cls d oe) (hf : ∃ vs, oe.data = .fields vs) : CallR (X.suite a ((a, oe) :: pn)) (.builtin "isinstance") (rIsD X.K D a cls d) := by
  intro pins s σ H xs us Q I r h
  obtain ⟨c, cv, b, dd, fs, rfl, hcv, rfl, rfl, hdd, e, q⟩ := h
  cases r with
  | cons rx rr =>
    cases rr with
    | cons rt rr =>
      cases rr
      cases rx
      have ec := hcv _ rt
      subst ec
      obtain ⟨hget, _⟩ := I.pin (a, oe) (List.mem_append.mpr (.inl List.mem_cons_self))
      obtain ⟨vs, hv⟩ := hf
      have hx : ObjOk X.prog X.w H s.heap dd (.xd fs) := I.hok dd _ hdd
      obtain ⟨mA, hns, hr⟩ := hx
      obtain ⟨od, ho, hl⟩ := lookIn_ns hns
      have J : PySem.W.InstAt s.heap a oe D (some od) := ⟨hget, hz.1, by unfold PySem.W.notCls; rw [hv] <;> rfl, by rw [hz.2]; exact ho⟩
      exact PySem.W.kia_one (PySem.W.kitx_exc C.cl C.hg C.hk C.hs C.ha C.hn C.ht C.hm) I.kIn J e (fun z => nomatch z) fun tk => ⟨.bl b, H, I.kept (t' := tk) fun _ _ z => z, rfl, q⟩
/-! ### heaps: all is kept but at the places S; tuples are kept anyway -/
structure Kp (S : List Addr) (H H' : Hp) : Prop where
  keep : ∀ b o, b ∉ S → H b = some o → H' b = some o
  tup : ∀ b xs, H b = some (.tup xs) → H' b = some (.tup xs)
theorem Kp.refl (S : List Addr) (H : Hp) : Kp S H H := ⟨fun _ _ _ h => h, fun _ _ h => h⟩
theorem Kp.trans {S : List Addr} {H H1 H2 : Hp} (a : Kp S H H1) (b : Kp S H1 H2) : Kp S H H2 := ⟨fun c o n h => b.keep c o n (a.keep c o n h), fun c xs h => b.tup c xs (a.tup c xs h)⟩
theorem Kp.mono {S S' : List Addr} {H H1 : Hp} (a : Kp S H H1) (h : ∀ b ∈ S, b ∈ S') : Kp S' H H1 := ⟨fun c o n q => a.keep c o (fun z => n (h c z)) q, a.tup⟩
theorem Kp.new {S : List Addr} {H H1 : Hp} {p : Addr} {o : HO} (a : Kp S H H1) (h : H1 p = none) : Kp S H (upd H1 p o) :=
  a.trans ⟨fun c u _ q => by rw [upd_ne (ne_of_none q h)]; exact q, fun c xs q => by rw [upd_ne (ne_of_none q h)]; exact q⟩
theorem Kp.at {S : List Addr} {H H1 : Hp} {p : Addr} {o u : HO} (a : Kp S H H1) (hs : p ∈ S) (h : H1 p = some u) (nt : ∀ xs, u ≠ .tup xs) : Kp S H (upd H1 p o) :=
  a.trans ⟨fun c v n q => by rw [upd_ne (fun z => n (by rw [z]; exact hs))]; exact q, fun c xs q => by
    rw [upd_ne (fun z => by rw [z, h] at q; exact nt xs (Option.some.inj q))]; exact q⟩
theorem Kp.lst {S : List Addr} {H H1 : Hp} {p : Addr} {o : HO} {xs : List V} (a : Kp S H H1) (hs : p ∈ S) (h : H1 p = some (.lst xs)) : Kp S H (upd H1 p o) := a.at hs h fun ys z => by cases z
theorem Kp.ins {S : List Addr} {H H1 : Hp} {p C dx : Addr} {o : HO} {fs : List (Str × V)} (a : Kp S H H1) (hs : p ∈ S) (h : H1 p = some (.ins C dx fs)) : Kp S H (upd H1 p o) := a.at hs h fun ys z => by cases z
/-- a place that was new does not count -/
theorem Kp.out {S : List Addr} {H H1 : Hp} {p : Addr} (a : Kp (p :: S) H H1) (h : H p = none) : Kp S H H1 :=
  ⟨fun c o n q => a.keep c o (fun z => (List.mem_cons.mp z).elim (fun e => by rw [e, h] at q; cases q) n) q, a.tup⟩
theorem Kp.free {H H1 : Hp} {p : Addr} (a : Kp [] H H1) (h : H1 p = none) : H p = none := by
  cases e : H p with
  | none => rfl
  | some o =>
    rw [a.keep p o (by simp) e] at h
    cases h
theorem Kp.sql {K : PySem.W.Frag} {S : List Addr} {H H1 : Hp} {p : Addr} {xs : List V} (a : Kp S H H1) (n : p ∉ S) (h : SqL K H p xs) : SqL K H1 p xs := by
  rcases h with (h | ⟨o, h⟩) | h
  · exact .inl (.inl (a.keep _ _ n h))
  · exact .inl (.inr ⟨o, a.keep _ _ n h⟩)
  · exact .inr h
/-! ### the box of digits and the place in it -/
def Box (b d : Addr) (H : Hp) : Prop := ∃ (i : Int) (ds : List Int), H b = some (.lst [.ref d, .int i]) ∧ H d = some (.lst (ds.map V.int)) ∧ 0 ≤ i
theorem Box.kp {b d : Addr} {S : List Addr} {H H1 : Hp} (h : Box b d H) (a : Kp S H H1) (n1 : b ∉ S) (n2 : d ∉ S) : Box b d H1 := by
  obtain ⟨i, ds, h1, h2, h3⟩ := h
  exact ⟨i, ds, a.keep _ _ n1 h1, a.keep _ _ n2 h2, h3⟩
theorem Box.new {b d p : Addr} {H : Hp} {o : HO} (h : Box b d H) (n : H p = none) : Box b d (upd H p o) := h.kp (S := []) ((Kp.refl [] H).new n) (by simp) (by simp)
theorem Box.ne {b d p : Addr} {H : Hp} (h : Box b d H) (n : H p = none) : b ≠ p ∧ d ≠ p := by
  obtain ⟨i, ds, h1, h2, h3⟩ := h
  exact ⟨ne_of_none h1 n, ne_of_none h2 n⟩
theorem Box.upd {b d p : Addr} {H : Hp} {o : HO} (h : Box b d H) (n : b ≠ p ∧ d ≠ p) : Box b d (upd H p o) := by
  obtain ⟨i, ds, h1, h2, h3⟩ := h
  exact ⟨i, ds, by rw [upd_ne n.1]; exact h1, by rw [upd_ne n.2]; exact h2, h3⟩
/-! ### raising bodies -/
theorem pasX {X : Cx} {E : XK} (hs : X.stack = X.env :: X.outer) (hf : X.env.frame = some X.env.locals) (hex : X.ex = []) {E1 : Value → Shared → Prop}
    (hx : X.xe = fun e s' => wpAny (model X.prog X.w) X.A (leaving X.env e) (fun _ s'' => L2.CX X.prog X.w X.outer X.H_0 X.s_0 E e s'') E1 s') : Passes (L2.CX X.prog X.w) X E :=
  passes_call (takes_of hs hf hex hx) fun _ _ _ _ h => h
end K6
/-! K6Txt: the text by places: each def, its names; what the top has written. -/
namespace K6
open PySem L2
abbrev s_TextFault__init_ : Stmt := inClass (topS 2) 0
abbrev n_TextFault__init_ : List Str := ["self", "line", "column", "words"]
abbrev p_TextFault__init_ : List Str := ["self", "line", "column", "words"]
theorem sc_TextFault__init_ : FnScope n_TextFault__init_ p_TextFault__init_ (defScope s_TextFault__init_) := ⟨rfl, rfl, rfl, by decide +kernel, rfl, by decide +kernel, by decide +kernel⟩
abbrev s_OutOfRange__init_ : Stmt := inClass (topS 3) 0
abbrev n_OutOfRange__init_ : List Str := ["self", "name"]
abbrev p_OutOfRange__init_ : List Str := ["self", "name"]
theorem sc_OutOfRange__init_ : FnScope n_OutOfRange__init_ p_OutOfRange__init_ (defScope s_OutOfRange__init_) := ⟨rfl, rfl, rfl, by decide +kernel, rfl, by decide +kernel, by decide +kernel⟩
abbrev s_parts_of : Stmt := topS 16
abbrev n_parts_of : List Str := ["node"]
abbrev p_parts_of : List Str := ["node"]
theorem sc_parts_of : FnScope n_parts_of p_parts_of (defScope s_parts_of) := ⟨rfl, rfl, rfl, by decide +kernel, rfl, by decide +kernel, by decide +kernel⟩
abbrev s_job_runs : Stmt := topS 17
abbrev n_job_runs : List Str := ["plan", "known", "node", "many", "place"]
abbrev p_job_runs : List Str := ["plan"]
theorem sc_job_runs : FnScope n_job_runs p_job_runs (defScope s_job_runs) := ⟨rfl, rfl, rfl, by decide +kernel, rfl, by decide +kernel, by decide +kernel⟩
abbrev s__run_end : Stmt := topS 23
abbrev n__run_end : List Str := ["text", "at", "signs"]
abbrev p__run_end : List Str := ["text", "at", "signs"]
theorem sc__run_end : FnScope n__run_end p__run_end (defScope s__run_end) := ⟨rfl, rfl, rfl, by decide +kernel, rfl, by decide +kernel, by decide +kernel⟩
abbrev s__split : Stmt := topS 24
abbrev n__split : List Str := ["text", "tokens", "at", "line", "first", "end"]
abbrev p__split : List Str := ["text"]
theorem sc__split : FnScope n__split p__split (defScope s__split) := ⟨rfl, rfl, rfl, by decide +kernel, rfl, by decide +kernel, by decide +kernel⟩
abbrev s_Reader__init_ : Stmt := inClass (topS 25) 0
abbrev n_Reader__init_ : List Str := ["self", "text"]
abbrev p_Reader__init_ : List Str := ["self", "text"]
theorem sc_Reader__init_ : FnScope n_Reader__init_ p_Reader__init_ (defScope s_Reader__init_) := ⟨rfl, rfl, rfl, by decide +kernel, rfl, by decide +kernel, by decide +kernel⟩
abbrev s_Reader_word : Stmt := inClass (topS 25) 1
abbrev n_Reader_word : List Str := ["self"]
abbrev p_Reader_word : List Str := ["self"]
theorem sc_Reader_word : FnScope n_Reader_word p_Reader_word (defScope s_Reader_word) := ⟨rfl, rfl, rfl, by decide +kernel, rfl, by decide +kernel, by decide +kernel⟩
abbrev s_Reader_refuse : Stmt := inClass (topS 25) 2
abbrev n_Reader_refuse : List Str := ["self", "words", "_", "line", "column"]
abbrev p_Reader_refuse : List Str := ["self", "words"]
theorem sc_Reader_refuse : FnScope n_Reader_refuse p_Reader_refuse (defScope s_Reader_refuse) := ⟨rfl, rfl, rfl, by decide +kernel, rfl, by decide +kernel, by decide +kernel⟩
abbrev s_Reader_expect : Stmt := inClass (topS 25) 3
abbrev n_Reader_expect : List Str := ["self", "sign"]
abbrev p_Reader_expect : List Str := ["self", "sign"]
theorem sc_Reader_expect : FnScope n_Reader_expect p_Reader_expect (defScope s_Reader_expect) := ⟨rfl, rfl, rfl, by decide +kernel, rfl, by decide +kernel, by decide +kernel⟩
abbrev s_Reader_number : Stmt := inClass (topS 25) 4
abbrev n_Reader_number : List Str := ["self", "least", "most", "word", "number"]
abbrev p_Reader_number : List Str := ["self", "least", "most"]
theorem sc_Reader_number : FnScope n_Reader_number p_Reader_number (defScope s_Reader_number) := ⟨rfl, rfl, rfl, by decide +kernel, rfl, by decide +kernel, by decide +kernel⟩
abbrev s_Reader_begin : Stmt := inClass (topS 25) 5
abbrev n_Reader_begin : List Str := ["self", "depth", "many", "word"]
abbrev p_Reader_begin : List Str := ["self", "depth", "many"]
theorem sc_Reader_begin : FnScope n_Reader_begin p_Reader_begin (defScope s_Reader_begin) := ⟨rfl, rfl, rfl, by decide +kernel, rfl, by decide +kernel, by decide +kernel⟩
abbrev s_Reader_close : Stmt := inClass (topS 25) 6
abbrev n_Reader_close : List Str := ["self", "node"]
abbrev p_Reader_close : List Str := ["self", "node"]
theorem sc_Reader_close : FnScope n_Reader_close p_Reader_close (defScope s_Reader_close) := ⟨rfl, rfl, rfl, by decide +kernel, rfl, by decide +kernel, by decide +kernel⟩
abbrev s_Reader_job : Stmt := inClass (topS 25) 7
abbrev n_Reader_job : List Str := ["self", "duration", "sign", "value", "cleanup", "fault"]
abbrev p_Reader_job : List Str := ["self"]
theorem sc_Reader_job : FnScope n_Reader_job p_Reader_job (defScope s_Reader_job) := ⟨rfl, rfl, rfl, by decide +kernel, rfl, by decide +kernel, by decide +kernel⟩
abbrev s_Reader_check_more : Stmt := inClass (topS 25) 8
abbrev n_Reader_check_more : List Str := ["self"]
abbrev p_Reader_check_more : List Str := ["self"]
theorem sc_Reader_check_more : FnScope n_Reader_check_more p_Reader_check_more (defScope s_Reader_check_more) := ⟨rfl, rfl, rfl, by decide +kernel, rfl, by decide +kernel, by decide +kernel⟩
abbrev s_Reader_parts : Stmt := inClass (topS 25) 9
abbrev n_Reader_parts : List Str := ["self", "depth", "places"]
abbrev p_Reader_parts : List Str := ["self", "depth"]
theorem sc_Reader_parts : FnScope n_Reader_parts p_Reader_parts (defScope s_Reader_parts) := ⟨rfl, rfl, rfl, by decide +kernel, rfl, by decide +kernel, by decide +kernel⟩
abbrev s_Reader_lead : Stmt := inClass (topS 25) 10
abbrev n_Reader_lead : List Str := ["self", "most", "number"]
abbrev p_Reader_lead : List Str := ["self", "most"]
theorem sc_Reader_lead : FnScope n_Reader_lead p_Reader_lead (defScope s_Reader_lead) := ⟨rfl, rfl, rfl, by decide +kernel, rfl, by decide +kernel, by decide +kernel⟩
abbrev s_Reader_plan : Stmt := inClass (topS 25) 11
abbrev n_Reader_plan : List Str := ["self", "depth", "many", "word", "size", "ticks", "one", "retries", "delay"]
abbrev p_Reader_plan : List Str := ["self", "depth", "many"]
theorem sc_Reader_plan : FnScope n_Reader_plan p_Reader_plan (defScope s_Reader_plan) := ⟨rfl, rfl, rfl, by decide +kernel, rfl, by decide +kernel, by decide +kernel⟩
abbrev s_Reader_finish : Stmt := inClass (topS 25) 12
abbrev n_Reader_finish : List Str := ["self"]
abbrev p_Reader_finish : List Str := ["self"]
theorem sc_Reader_finish : FnScope n_Reader_finish p_Reader_finish (defScope s_Reader_finish) := ⟨rfl, rfl, rfl, by decide +kernel, rfl, by decide +kernel, by decide +kernel⟩
abbrev s_read_plan : Stmt := topS 26
abbrev n_read_plan : List Str := ["text", "reader"]
abbrev p_read_plan : List Str := ["text"]
theorem sc_read_plan : FnScope n_read_plan p_read_plan (defScope s_read_plan) := ⟨rfl, rfl, rfl, by decide +kernel, rfl, by decide +kernel, by decide +kernel⟩
abbrev s__law_cell : Stmt := topS 28
abbrev n__law_cell : List Str := ["_law_script", "_law_k"]
abbrev p__law_cell : List Str := ["_law_script", "_law_k"]
theorem sc__law_cell : FnScope n__law_cell p__law_cell (defScope s__law_cell) := ⟨rfl, rfl, rfl, by decide +kernel, rfl, by decide +kernel, by decide +kernel⟩
abbrev s__law_digits : Stmt := topS 29
abbrev n__law_digits : List Str := ["_law_script", "_law_first", "_law_last", "_law_digits_here", "_law_k", "_law_cell_here", "_law_turn", "_law_seed"]
abbrev p__law_digits : List Str := ["_law_script", "_law_first", "_law_last"]
theorem sc__law_digits : FnScope n__law_digits p__law_digits (defScope s__law_digits) := ⟨rfl, rfl, rfl, by decide +kernel, rfl, by decide +kernel, by decide +kernel⟩
abbrev s__law_draw : Stmt := topS 30
abbrev n__law_draw : List Str := ["_law_box", "_law_many", "_law_at"]
abbrev p__law_draw : List Str := ["_law_box", "_law_many"]
theorem sc__law_draw : FnScope n__law_draw p__law_draw (defScope s__law_draw) := ⟨rfl, rfl, rfl, by decide +kernel, rfl, by decide +kernel, by decide +kernel⟩
abbrev s__law_job : Stmt := topS 31
abbrev n__law_job : List Str := ["_law_box", "_law_duration", "_law_word", "_law_cleanup", "_law_fault"]
abbrev p__law_job : List Str := ["_law_box"]
theorem sc__law_job : FnScope n__law_job p__law_job (defScope s__law_job) := ⟨rfl, rfl, rfl, by decide +kernel, rfl, by decide +kernel, by decide +kernel⟩
abbrev s__law_whole : Stmt := topS 32
abbrev n__law_whole : List Str := ["_law_box", "_law_kind", "_law_tops"]
abbrev p__law_whole : List Str := ["_law_box", "_law_kind", "_law_tops"]
theorem sc__law_whole : FnScope n__law_whole p__law_whole (defScope s__law_whole) := ⟨rfl, rfl, rfl, by decide +kernel, rfl, by decide +kernel, by decide +kernel⟩
abbrev s__law_plan : Stmt := topS 33
abbrev n__law_plan : List Str := ["_law_box", "_law_jobs", "_law_nodes", "_law_tops", "_law_deep", "_law_runs", "_law_turn", "_law_step", "_law_kind", "_law_many", "_law_times"]
abbrev p__law_plan : List Str := ["_law_box", "_law_jobs"]
theorem sc__law_plan : FnScope n__law_plan p__law_plan (defScope s__law_plan) := ⟨rfl, rfl, rfl, by decide +kernel, rfl, by decide +kernel, by decide +kernel⟩
abbrev s__law_job_tokens : Stmt := topS 34
abbrev n__law_job_tokens : List Str := ["_law_node", "_law_sign", "_law_rows"]
abbrev p__law_job_tokens : List Str := ["_law_node"]
theorem sc__law_job_tokens : FnScope n__law_job_tokens p__law_job_tokens (defScope s__law_job_tokens) := ⟨rfl, rfl, rfl, by decide +kernel, rfl, by decide +kernel, by decide +kernel⟩
abbrev s__law_node_tokens : Stmt := topS 35
abbrev n__law_node_tokens : List Str := ["_law_node", "_law_parts", "_law_rows", "_law_k"]
abbrev p__law_node_tokens : List Str := ["_law_node", "_law_parts"]
theorem sc__law_node_tokens : FnScope n__law_node_tokens p__law_node_tokens (defScope s__law_node_tokens) := ⟨rfl, rfl, rfl, by decide +kernel, rfl, by decide +kernel, by decide +kernel⟩
abbrev s__law_plan_tokens : Stmt := topS 36
abbrev n__law_plan_tokens : List Str := ["_law_plan_here", "_law_parts", "_law_node"]
abbrev p__law_plan_tokens : List Str := ["_law_plan_here"]
theorem sc__law_plan_tokens : FnScope n__law_plan_tokens p__law_plan_tokens (defScope s__law_plan_tokens) := ⟨rfl, rfl, rfl, by decide +kernel, rfl, by decide +kernel, by decide +kernel⟩
abbrev s__law_plain : Stmt := topS 37
abbrev n__law_plain : List Str := ["_law_sign"]
abbrev p__law_plain : List Str := ["_law_sign"]
theorem sc__law_plain : FnScope n__law_plain p__law_plain (defScope s__law_plain) := ⟨rfl, rfl, rfl, by decide +kernel, rfl, by decide +kernel, by decide +kernel⟩
abbrev s__law_lay : Stmt := topS 38
abbrev n__law_lay : List Str := ["_law_box", "_law_rows", "_law_text", "_law_line", "_law_column", "_law_places", "_law_last", "_law_row", "_law_gap", "_law_sign"]
abbrev p__law_lay : List Str := ["_law_box", "_law_rows"]
theorem sc__law_lay : FnScope n__law_lay p__law_lay (defScope s__law_lay) := ⟨rfl, rfl, rfl, by decide +kernel, rfl, by decide +kernel, by decide +kernel⟩
abbrev s__law_told : Stmt := topS 39
abbrev n__law_told : List Str := ["_law_text", "e"]
abbrev p__law_told : List Str := ["_law_text"]
theorem sc__law_told : FnScope n__law_told p__law_told (defScope s__law_told) := ⟨rfl, rfl, rfl, by decide +kernel, rfl, by decide +kernel, by decide +kernel⟩
abbrev s__law_long : Stmt := topS 40
abbrev n__law_long : List Str := ["_law_many", "e"]
abbrev p__law_long : List Str := ["_law_many"]
theorem sc__law_long : FnScope n__law_long p__law_long (defScope s__law_long) := ⟨rfl, rfl, rfl, by decide +kernel, rfl, by decide +kernel, by decide +kernel⟩
abbrev s__law_end : Stmt := topS 41
abbrev n__law_end : List Str := ["_law_box", "_law_text", "_law_line", "_law_column", "_law_sign"]
abbrev p__law_end : List Str := ["_law_box", "_law_text"]
theorem sc__law_end : FnScope n__law_end p__law_end (defScope s__law_end) := ⟨rfl, rfl, rfl, by decide +kernel, rfl, by decide +kernel, by decide +kernel⟩
abbrev s__law_wrong : Stmt := topS 42
abbrev n__law_wrong : List Str := ["_law_box", "_law_token"]
abbrev p__law_wrong : List Str := ["_law_box", "_law_token"]
theorem sc__law_wrong : FnScope n__law_wrong p__law_wrong (defScope s__law_wrong) := ⟨rfl, rfl, rfl, by decide +kernel, rfl, by decide +kernel, by decide +kernel⟩
abbrev s_law : Stmt := topS 43
abbrev n_law : List Str := ["_law_script", "_law_box", "_law_turn", "_law_plan_here", "_law_rows", "_law_laid", "_law_at", "_law_place", "_law_cut", "_law_text", "_law_end_here", "_law_more"]
abbrev p_law : List Str := ["_law_script"]
theorem sc_law : FnScope n_law p_law (defScope s_law) := ⟨rfl, rfl, rfl, by decide +kernel, rfl, by decide +kernel, by decide +kernel⟩
def DefIn (K : PySem.W.Frag) (mg : Str → Option Value) (x : Str) (st : Stmt) : Prop := ∃ f fd, Fun K x x st f fd ∧ mg x = some (.ref f)
def MethIn (K : PySem.W.Frag) (C : Addr) (m qual : Str) (st : Stmt) : Prop := ∃ f fd, Fun K m qual st f fd ∧ Meth K C m f
theorem use_of {P : Program} {w : World} {K : PySem.W.Frag} {mg : Str → Option Value} {base : Heap} {CX : CXT} {k : Nat} {x : Str} {st : Stmt} {ps : List Str} {sp : Sp} (d : DefIn K mg x st) (hb : ∀ f fd, Fun K x x st f fd → Binds K fd ps [])
    (ok : ∀ f fd, Fun K x x st f fd → FnOk P w K mg base CX k f fd ps sp) : Use P w K mg base CX k x ps sp := by
  obtain ⟨f, fd, h, e⟩ := d
  exact ⟨f, fd, e, h.kp, hb f fd h, ok f fd h⟩
theorem useM_of {P : Program} {w : World} {K : PySem.W.Frag} {mg : Str → Option Value} {base : Heap} {CX : CXT} {k : Nat} {C : Addr} {m qual : Str} {st : Stmt} {ps : List Str} {sp : Sp} (d : MethIn K C m qual st) (hb : ∀ f fd, Fun K m qual st f fd → Binds K fd ps [])
    (ok : ∀ f fd, Fun K m qual st f fd → FnOk P w K mg base CX k f fd ps sp) : UseM P w K mg base CX k C m ps sp := by
  obtain ⟨f, fd, h, e⟩ := d
  exact ⟨f, fd, e, hb f fd h, ok f fd h⟩
/-- an exception class of the program with its own __init__ at fI; fs: its fields -/
structure XCls (K : PySem.W.Frag) (C fI : Addr) (qual : Str) (st : Stmt) : Prop where
  ox : OexC K C
  iC : PySem.W.findIn K (.ref C) "__init__" = some (some (.ref fI))
  tI : PySem.W.typeIn K (.ref fI) = some (.type "function")
  fn : ∃ fd, Fun K "__init__" qual st fI fd
  ex : ExD K C
  xf : XfC K C
structure Txt (K : PySem.W.Frag) (mg : Str → Option Value) (CR CT CO CF WA fR fT fO : Addr) : Prop where
  gNODES_MOST : GV mg "NODES_MOST" (.int 40)
  gDEPTH_MOST : GV mg "DEPTH_MOST" (.int 8)
  gRUNS_MOST : GV mg "RUNS_MOST" (.int 60)
  gPARTS_MOST : GV mg "PARTS_MOST" (.int 6)
  gDURATION_MOST : GV mg "DURATION_MOST" (.int 1000)
  gVALUE_MOST : GV mg "VALUE_MOST" (.int 999)
  gCLEANUP_MOST : GV mg "CLEANUP_MOST" (.int 100)
  gSIZE_MOST : GV mg "SIZE_MOST" (.int 6)
  gTICKS_MOST : GV mg "TICKS_MOST" (.int 1000)
  gRETRIES_MOST : GV mg "RETRIES_MOST" (.int 5)
  gDELAY_MOST : GV mg "DELAY_MOST" (.int 100)
  gSOURCE_MOST : GV mg "SOURCE_MOST" (.int 2000)
  gLETTERS : GV mg "LETTERS" (.str "abcdefghijklmnopqrstuvwxyz")
  gDIGITS : GV mg "DIGITS" (.str "0123456789")
  gWORDS : GV mg "WORDS" (.ref WA)
  words : ∀ H : Hp, SqT K H WA (planWords.map V.str)
  gReader : mg "Reader" = some (.ref CR)
  gTextFault : mg "TextFault" = some (.ref CT)
  gOutOfRange : mg "OutOfRange" = some (.ref CO)
  gForetoldError : mg "ForetoldError" = some (.ref CF)
  n_len : mg "len" = none
  n_min : mg "min" = none
  n_max : mg "max" = none
  n_sum : mg "sum" = none
  n_int : mg "int" = none
  n_str : mg "str" = none
  n_tuple : mg "tuple" = none
  n_range : mg "range" = none
  n_isinstance : mg "isinstance" = none
  cl : Cls K CR
  rdMk : Mk K CR fR
  rdFn : ∃ fd, Fun K "__init__" "Reader.__init__" s_Reader__init_ fR fd
  a_tokens : NoAttr K CR "_tokens"
  a_at : NoAttr K CR "_at"
  a_begun : NoAttr K CR "_begun"
  a_nodes : NoAttr K CR "nodes"
  tf : XCls K CT fT "TextFault.__init__" s_TextFault__init_
  of : XCls K CO fO "OutOfRange.__init__" s_OutOfRange__init_
  n_line : PySem.W.findIn K (.ref CT) "line" = some none
  n_column : PySem.W.findIn K (.ref CT) "column" = some none
  n_words : PySem.W.findIn K (.ref CT) "words" = some none
  n_name : PySem.W.findIn K (.ref CO) "name" = some none
  isT : PySem.W.kitOne K (.ref CT) (.ref CT) = some true
  isO : PySem.W.kitOne K (.ref CT) (.ref CO) = some false
  exT : PySem.W.exmOne K (.ref CT) (.ref CF) = some true
  exO : PySem.W.exmOne K (.ref CO) (.ref CO) = some true
  dparts_of : DefIn K mg "parts_of" s_parts_of
  djob_runs : DefIn K mg "job_runs" s_job_runs
  d_run_end : DefIn K mg "_run_end" s__run_end
  d_split : DefIn K mg "_split" s__split
  dread_plan : DefIn K mg "read_plan" s_read_plan
  d_law_cell : DefIn K mg "_law_cell" s__law_cell
  d_law_digits : DefIn K mg "_law_digits" s__law_digits
  d_law_draw : DefIn K mg "_law_draw" s__law_draw
  d_law_job : DefIn K mg "_law_job" s__law_job
  d_law_whole : DefIn K mg "_law_whole" s__law_whole
  d_law_plan : DefIn K mg "_law_plan" s__law_plan
  d_law_job_tokens : DefIn K mg "_law_job_tokens" s__law_job_tokens
  d_law_node_tokens : DefIn K mg "_law_node_tokens" s__law_node_tokens
  d_law_plan_tokens : DefIn K mg "_law_plan_tokens" s__law_plan_tokens
  d_law_plain : DefIn K mg "_law_plain" s__law_plain
  d_law_lay : DefIn K mg "_law_lay" s__law_lay
  d_law_told : DefIn K mg "_law_told" s__law_told
  d_law_long : DefIn K mg "_law_long" s__law_long
  d_law_end : DefIn K mg "_law_end" s__law_end
  d_law_wrong : DefIn K mg "_law_wrong" s__law_wrong
  m_word : MethIn K CR "word" "Reader.word" s_Reader_word
  m_refuse : MethIn K CR "refuse" "Reader.refuse" s_Reader_refuse
  m_expect : MethIn K CR "expect" "Reader.expect" s_Reader_expect
  m_number : MethIn K CR "number" "Reader.number" s_Reader_number
  m_begin : MethIn K CR "begin" "Reader.begin" s_Reader_begin
  m_close : MethIn K CR "close" "Reader.close" s_Reader_close
  m_job : MethIn K CR "job" "Reader.job" s_Reader_job
  m_check_more : MethIn K CR "check_more" "Reader.check_more" s_Reader_check_more
  m_parts : MethIn K CR "parts" "Reader.parts" s_Reader_parts
  m_lead : MethIn K CR "lead" "Reader.lead" s_Reader_lead
  m_plan : MethIn K CR "plan" "Reader.plan" s_Reader_plan
  m_finish : MethIn K CR "finish" "Reader.finish" s_Reader_finish
end K6
namespace K6
open PySem L2
section
variable {P : Program} {w : World} {K : PySem.W.Frag} {mg : Str → Option Value} {base : Heap} {CR CT CO CF WA fR fT fO : Addr}
abbrev pas0 {X : Cx} : Passes CX0 X E0 := pass0
/-! ### _law_cell, _law_draw -/
def spCell (K : PySem.W.Frag) : Sp := fun vs H Q _ => ∃ (a : Addr) (ns : List Int) (k : Int), vs = [.ref a, .int k] ∧ SqL K H a (ns.map V.int) ∧ 0 ≤ k ∧ ∀ z : Int, (z = 0 ∨ z ∈ ns) → Q (.int z) H
theorem use_cell (T : Txt K mg CR CT CO CF WA fR fT fO) : Use P w K mg base CX0 1 "_law_cell" p__law_cell (spCell K) := by
  refine use_of T.d_law_cell (fun f fd F => F.binds fun _ _ _ _ _ _ us hl => match us, hl with | [_, _], _ => rfl) fun f fd F => ?_
  refine F.ok sc__law_cell (fun vs H Q E h => ?_) (fun cdv A outer s H vs Q E hr h => ?_)
  · obtain ⟨a, ns, k, rfl, _⟩ := h
    rfl
  obtain ⟨a, ns, k, rfl, hS, h0, q⟩ := h
  refine ⟨_, (pss_cons (ps_if (pt_cmpR op_lt (pv 1) (pe_callB call_len_seq (by rfl) T.n_len PySem.boot_len (pa_cons (pv 0) pa_nil)) (nomark _)) (pss_one (ps_ret (pe_ix ix_list (pv 0) (pv 1) (fun _ _ => rfl)))) pss_nil)
      (pss_one (ps_ret pe_int))), ?_⟩
  refine ⟨_, rfl, _, rfl, _, _, rfl, .inl hS, _, _, rfl, rfl, _, rfl, ?_⟩
  refine ite2 (fun c => ?_) (fun c => ?_)
  · have c' : k < ((ns.map V.int).length : Int) := of_decide_eq_true c
    rw [List.length_map] at c'
    have hk : k.toNat < ns.length := by omega
    have e : k = ((k.toNat : Nat) : Int) := by omega
    refine ⟨_, rfl, _, rfl, _, _, _, _, rfl, rfl, hS, at_of (v := .int ns[k.toNat]) e (by rw [List.getElem?_map, List.getElem?_eq_getElem hk]; rfl), ?_⟩
    exact q _ (.inr (List.getElem_mem hk))
  · exact q 0 (.inl rfl)
def spDraw : Sp := fun vs H Q _ => ∃ (b d : Addr) (m : Int), vs = [.ref b, .int m] ∧ Box b d H ∧ 0 < m ∧ ∀ (r : Nat) (H' : Hp), (r : Int) < m → Box b d H' → Kp [b] H H' → Q (.int (r : Int)) H'
theorem use_draw (T : Txt K mg CR CT CO CF WA fR fT fO) : Use P w K mg base CX0 1 "_law_draw" p__law_draw spDraw := by
  refine use_of T.d_law_draw (fun f fd F => F.binds fun _ _ _ _ _ _ us hl => match us, hl with | [_, _], _ => rfl) fun f fd F => ?_
  refine F.ok sc__law_draw (fun vs H Q E h => ?_) (fun cdv A outer s H vs Q E hr h => ?_)
  · obtain ⟨b, d, m, rfl, _⟩ := h
    rfl
  obtain ⟨b, d, m, rfl, ⟨i, ds, hb, hd, h0⟩, hm, q⟩ := h
  have hbd : d ≠ b := fun e => by
    rw [e, hb] at hd
    cases ds with
    | nil => cases hd
    | cons x r => cases hd
  have kp : Kp [b] H (upd H b (.lst [.ref d, .int (i + 1)])) := (Kp.refl _ H).lst (by simp) hb
  have hd' : upd H b (.lst [.ref d, .int (i + 1)]) d = some (.lst (ds.map V.int)) := by rw [upd_ne hbd]; exact hd
  have bx : Box b d (upd H b (.lst [.ref d, .int (i + 1)])) := ⟨i + 1, ds, upd_same, hd', by omega⟩
  have fin : ∀ z : Int, Q (.int (z % m)) (upd H b (.lst [.ref d, .int (i + 1)])) := fun z => by
    have h1 := Int.emod_nonneg z (show m ≠ 0 by omega)
    have h2 := Int.emod_lt_of_pos z hm
    have e : (((z % m).toNat : Nat) : Int) = z % m := Int.toNat_of_nonneg h1
    have y := q (z % m).toNat _ (by rw [e]; exact h2) bx kp
    rw [e] at y
    exact y
  refine ⟨_, (pss_cons (ps_set (i := 2) sc__law_draw.nd rfl (Or.inl rfl) (pe_ix ix_list (pv 0) pe_int (fun _ _ => rfl)))
      (pss_cons (ps_asg (pe_op op_add (pv 2) pe_int) (pg_sub (pv 0) pe_int set_list))
      (pss_cons (ps_if (pt_cmpR op_lt (pv 2) (pe_callB call_len_seq (by rfl) T.n_len PySem.boot_len (pa_cons (pe_ix ix_list (pv 0) pe_int (fun _ _ => rfl)) pa_nil)) (nomark _)) (pss_one (ps_ret (pe_op op_mod (pe_callTy call_int1 (by rfl) T.n_int (by decide +kernel) (pa_cons (pe_ix ix_list (pe_ix ix_list (pv 0) pe_int (fun _ _ => rfl)) (pv 2) (fun _ _ => rfl)) pa_nil)) (pv 1)))) pss_nil)
      (pss_one (ps_ret (pe_op op_mod (pe_callTy call_int1 (by rfl) T.n_int (by decide +kernel) (pa_cons (pe_op op_add (pe_op op_mul (pv 2) pe_int) pe_int) pa_nil)) (pv 1))))))), ?_⟩
  refine ⟨_, rfl, _, _, _, _, rfl, rfl, SqL.of hb, rfl, ?_⟩
  refine ⟨_, rfl, _, _, rfl, rfl, _, rfl, _, _, _, _, rfl, rfl, hb, rfl, ?_⟩
  refine ⟨_, rfl, _, rfl, _, _, _, _, rfl, rfl, SqL.of upd_same, rfl, _, _, rfl, .inl (SqL.of hd'), _, _, rfl, rfl, _, rfl, ?_⟩
  refine ite2 (fun c => ?_) (fun c => ?_)
  · have c' : i < ((ds.map V.int).length : Int) := of_decide_eq_true c
    rw [List.length_map] at c'
    have hk : i.toNat < ds.length := by omega
    have e : i = ((i.toNat : Nat) : Int) := by omega
    refine ⟨_, rfl, _, _, _, _, rfl, rfl, SqL.of upd_same, rfl, _, rfl, _, _, _, _, rfl, rfl, SqL.of hd', at_of (v := .int ds[i.toNat]) e (by rw [List.getElem?_map, List.getElem?_eq_getElem hk]; rfl), .inl ⟨_, rfl, ?_⟩⟩
    exact ⟨_, rfl, _, _, rfl, rfl, hm, fin _⟩
  · refine ⟨_, rfl, _, _, rfl, rfl, .inr ⟨by decide, by decide⟩, _, _, rfl, rfl, .inl ⟨_, rfl, ?_⟩⟩
    exact ⟨_, rfl, _, _, rfl, rfl, hm, fin _⟩
end
end K6
namespace K6
open PySem L2
section
variable {P : Program} {w : World} {K : PySem.W.Frag} {mg : Str → Option Value} {base : Heap} {CR CT CO CF WA fR fT fO : Addr}
theorem szl {n : Nat} (h : n ≤ 100000) : n < sizeLine := by rw [sizeLine_eq]; omega
theorem szle {n : Nat} (h : n ≤ 100000) : n ≤ sizeLine := by rw [sizeLine_eq]; omega
theorem map_snoc (l : List Int) (z : Int) : l.map V.int ++ [V.int z] = (l ++ [z]).map V.int := by simp
/-- what the inner loops keep: the list at p, so long at most -/
structure DgW (p : Addr) (H0 H : Hp) (n : Nat) : Prop where
  kp : Kp [p] H0 H
  lst : ∃ ds : List Int, H p = some (.lst (ds.map V.int)) ∧ ds.length ≤ n
theorem DgW.app {p : Addr} {H0 H : Hp} {n : Nat} {ds : List Int} {z : Int} (W : DgW p H0 H n) (h : H p = some (.lst (ds.map V.int))) (hl : ds.length ≤ n) : DgW p H0 (upd H p (.lst (ds.map V.int ++ [V.int z]))) (n + 1) :=
  ⟨W.kp.lst (by simp) h, ds ++ [z], by rw [upd_same, map_snoc], by rw [List.length_append]; simp; omega⟩
theorem DgW.up {p : Addr} {H0 H : Hp} {n m : Nat} (W : DgW p H0 H n) (h : n ≤ m) : DgW p H0 H m := by
  obtain ⟨ds, h1, h2⟩ := W.lst
  exact ⟨W.kp, ds, h1, by omega⟩
def spDigits (K : PySem.W.Frag) : Sp := fun vs H Q _ => ∃ (a : Addr) (ns : List Int), vs = [.ref a, .int 0, .int 63] ∧ SqL K H a (ns.map V.int) ∧
  ∀ (p : Addr) (ds : List Int) (H' : Hp), H p = none → Kp [] H H' → H' p = some (.lst (ds.map V.int)) → Q (.ref p) H'
theorem use_digits (T : Txt K mg CR CT CO CF WA fR fT fO) : Use P w K mg base CX0 2 "_law_digits" p__law_digits (spDigits K) := by
  have U__law_cell : Use P w K mg base CX0 1 "_law_cell" p__law_cell (spCell K) := use_cell T
  have pas__law_cell : ∀ {X : Cx}, Passes CX0 X E0 := pass0
  refine use_of T.d_law_digits (fun f fd F => F.binds fun _ _ _ _ _ _ us hl => match us, hl with | [_, _, _], _ => rfl) fun f fd F => ?_
  refine F.ok sc__law_digits (fun vs H Q E h => ?_) (fun cdv A outer s H vs Q E hr h => ?_)
  · obtain ⟨a, ns, rfl, _⟩ := h
    rfl
  obtain ⟨a, ns, rfl, hS, q⟩ := h
  refine ⟨_, (pss_cons (ps_set (i := 3) sc__law_digits.nd rfl (Or.inl rfl) (pe_lst pa_nil))
      (pss_cons (ps_for PassesOwn.never rfl (pi_range2 (by rfl) T.n_range (pa_cons (pv 1) (pa_cons (pv 2) pa_nil))) (pg_name (i := 4) sc__law_digits.nd rfl (Or.inl rfl)) (pss_cons (ps_set (i := 5) sc__law_digits.nd rfl (Or.inl rfl) (pe_use U__law_cell (hr.mono (by decide)) (by rfl) pas__law_cell (pa_cons (pv 0) (pa_cons (pv 4) pa_nil))))
      (Evl.pss_cut (ps_if (pt_cmpR op_lt (pv 5) pe_int (nomark _)) (pss_one (ps_set (i := 5) sc__law_digits.nd rfl (Or.inl rfl) (pe_op op_sub pe_int (pe_op op_mul pe_int (pv 5))))) pss_nil)
      (pss_one (ps_if (pt_cmpR op_ge (pv 5) pe_int (nomark _)) (pss_one (ps_for PassesOwn.never rfl (pi_range1 (by rfl) T.n_range (pa_cons pe_int pa_nil)) (pg_name (i := 6) sc__law_digits.nd rfl (Or.inl rfl)) (pss_one (ps_if (pt_cmpR op_gt (pv 5) pe_int (nomark _)) (pss_cons (ps_expr (pe_bm PySem.F.plainAttrs_list PySem.F.slot_list_append PySem.F.type_list_append mt_append (pv 3) (pa_cons (pe_op op_mod (pe_callTy call_int1 (by rfl) T.n_int (by decide +kernel) (pa_cons (pv 5) pa_nil)) pe_int) pa_nil)))
      (pss_one (ps_set (i := 5) sc__law_digits.nd rfl (Or.inl rfl) (pe_op op_fdiv (pv 5) pe_int)))) pss_nil)))) (pss_cons (ps_set (i := 7) sc__law_digits.nd rfl (Or.inl rfl) (pe_op op_mod (pe_callTy call_int1 (by rfl) T.n_int (by decide +kernel) (pa_cons (pe_op op_add (pe_op op_add (pe_op op_mul (pv 5) pe_int) (pe_op op_mul (pv 4) pe_int)) pe_int) pa_nil)) pe_int))
      (pss_one (ps_for PassesOwn.never rfl (pi_range1 (by rfl) T.n_range (pa_cons pe_int pa_nil)) (pg_name (i := 6) sc__law_digits.nd rfl (Or.inl rfl)) (pss_cons (ps_set (i := 7) sc__law_digits.nd rfl (Or.inl rfl) (pe_op op_mod (pe_callTy call_int1 (by rfl) T.n_int (by decide +kernel) (pa_cons (pe_op op_add (pe_op op_add (pe_op op_mul (pv 7) pe_int) (pe_op op_mul pe_int (pv 6))) pe_int) pa_nil)) pe_int))
      (pss_one (ps_expr (pe_bm PySem.F.plainAttrs_list PySem.F.slot_list_append PySem.F.type_list_append mt_append (pv 3) (pa_cons (pe_op op_mod (pe_callTy call_int1 (by rfl) T.n_int (by decide +kernel) (pa_cons (pe_op op_fdiv (pv 7) pe_int) pa_nil)) pe_int) pa_nil)))))))))))))
      (pss_one (ps_ret (pv 3))))), ?_⟩
  refine ⟨(by show 0 ≤ sizeLine; decide), fun p hp => ?_⟩
  refine ⟨_, rfl, _, rfl, 0, 63, rfl, ⟨by decide, by decide, by decide, by decide⟩, ?_⟩
  have hA : ∀ {H' : Hp} {n : Nat}, DgW p (upd H p (.lst [])) H' n → SqL K H' a (ns.map V.int) := fun {H' n} W => by
    have ne : a ∉ [p] ∨ SqL K H' a (ns.map V.int) := by
      rcases hS with (h | ⟨o, h⟩) | h
      · exact .inl (by simpa using ne_of_none h hp)
      · exact .inl (by simpa using ne_of_none h hp)
      · exact .inr (.inr h)
    rcases ne with ne | h
    · exact W.kp.sql ne (((Kp.refl [] H).new hp).sql (by simp) hS)
    · exact h
  refine for_range (lo := 0) (n := 63) (fun i σ H' => (∃ v4 v5 v6 v7 : Option V, σ = [some (.ref a), some (.int 0), some (.int 63), some (.ref p), v4, v5, v6, v7]) ∧ DgW p (upd H p (.lst [])) H' (60 * i))
    ⟨⟨_, _, _, _, rfl⟩, Kp.refl _ _, [], upd_same, Nat.zero_le _⟩ ?_ ?_
  · rintro i σ H1 hi ⟨⟨v4, v5, v6, v7, rfl⟩, W⟩
    refine ⟨_, rfl, _, rfl, a, ns, (0 : Int) + i, rfl, hA W, by omega, fun z _ => ?_⟩
    -- behind the sign: some number z
    refine ⟨fun σ' H' => (∃ (z : Int) (v6 v7 : Option V), σ' = [some (.ref a), some (.int 0), some (.int 63), some (.ref p), some (.int (0 + i)), some (.int z), v6, v7]) ∧ DgW p (upd H p (.lst [])) H' (60 * i), ?_, ?_⟩
    · refine ⟨_, rfl, _, _, rfl, rfl, _, rfl, ?_⟩
      refine ite2 (fun c => ?_) (fun c => ?_)
      · refine ⟨_, rfl, _, _, rfl, rfl, .inl ⟨by decide, by decide⟩, _, _, rfl, rfl, ?_⟩
        exact ⟨⟨_, _, _, rfl⟩, W⟩
      · exact ⟨⟨_, _, _, rfl⟩, W⟩
    · rintro σ' H2 ⟨⟨z, u6, u7, rfl⟩, W2⟩
      refine ⟨_, rfl, _, _, rfl, rfl, _, rfl, ?_⟩
      refine ite2 (fun c => ?_) (fun c => ?_)
      · refine ⟨60, rfl, by decide, by decide, ?_⟩
        refine for_range (lo := 0) (n := 60) (fun j σ H' => (∃ (z : Int) (v6 v7 : Option V), σ = [some (.ref a), some (.int 0), some (.int 63), some (.ref p), some (.int (0 + i)), some (.int z), v6, v7]) ∧ DgW p (upd H p (.lst [])) H' (60 * i + j)) ⟨⟨_, _, _, rfl⟩, W2⟩ ?_ ?_
        · rintro j σ H3 hj ⟨⟨z, v6, v7, rfl⟩, W3⟩
          refine ⟨_, rfl, _, _, rfl, rfl, _, rfl, ?_⟩
          refine ite2 (fun c => ?_) (fun c => ?_)
          · obtain ⟨ds, hds, hlen⟩ := W3.lst
            refine ⟨_, rfl, .inl ⟨rfl, _, SqL.of hds⟩, _, rfl, .inl ⟨_, rfl, _, _, rfl, rfl, (by show (0 : Int) < 1000; decide), ?_⟩⟩
            refine ⟨_, _, _, rfl, rfl, hds, szl (by rw [List.length_map]; omega), ?_⟩
            refine ⟨_, rfl, _, _, rfl, rfl, ⟨by decide, by decide⟩, ?_⟩
            exact ⟨⟨_, _, _, rfl⟩, W3.app hds hlen⟩
          · exact ⟨⟨_, _, _, rfl⟩, W3.up (by omega)⟩
        · rintro σ H3 ⟨⟨z, v6, v7, rfl⟩, W3⟩
          exact ⟨⟨_, _, _, _, rfl⟩, W3.up (by omega)⟩
      · refine ⟨_, rfl, _, _, rfl, rfl, .inr ⟨by decide, by decide⟩, _, rfl, _, _, rfl, rfl, .inr ⟨by decide, by decide⟩, _, _, rfl, rfl, _, _, rfl, rfl, .inl ⟨_, rfl, _, _, rfl, rfl, (by show (0 : Int) < 2147483399; decide), ?_⟩⟩
        refine ⟨12, rfl, by decide, by decide, ?_⟩
        refine for_range (lo := 0) (n := 12) (fun j σ H' => (∃ (z s : Int) (v6 : Option V), σ = [some (.ref a), some (.int 0), some (.int 63), some (.ref p), some (.int (0 + i)), some (.int z), v6, some (.int s)]) ∧ DgW p (upd H p (.lst [])) H' (60 * i + j)) ⟨⟨_, _, _, rfl⟩, W2⟩ ?_ ?_
        · rintro j σ H3 hj ⟨⟨z, sd, v6, rfl⟩, W3⟩
          refine ⟨_, rfl, _, _, rfl, rfl, .inr ⟨by decide, by decide⟩, _, rfl, _, _, rfl, rfl, .inl ⟨by decide, by decide⟩, _, _, rfl, rfl, _, _, rfl, rfl, .inl ⟨_, rfl, _, _, rfl, rfl, (by show (0 : Int) < 2147483563; decide), ?_⟩⟩
          obtain ⟨ds, hds, hlen⟩ := W3.lst
          refine ⟨_, rfl, .inl ⟨rfl, _, SqL.of hds⟩, _, rfl, _, _, rfl, rfl, ⟨by decide, by decide⟩, .inl ⟨_, rfl, _, _, rfl, rfl, (by show (0 : Int) < 1000; decide), ?_⟩⟩
          refine ⟨_, _, _, rfl, rfl, hds, szl (by rw [List.length_map]; omega), ?_⟩
          exact ⟨⟨_, _, _, rfl⟩, W3.app hds hlen⟩
        · rintro σ H3 ⟨⟨z, sd, v6, rfl⟩, W3⟩
          exact ⟨⟨_, _, _, _, rfl⟩, W3.up (by omega)⟩
  · rintro σ H1 ⟨⟨v4, v5, v6, v7, rfl⟩, W⟩
    obtain ⟨ds, hds, hlen⟩ := W.lst
    have kp : Kp [p] H H1 := ((Kp.refl [p] H).new hp).trans W.kp
    exact ⟨_, rfl, q p ds H1 hp (kp.out hp) hds⟩
end
end K6
namespace K6
open PySem L2
/-! ### nodes as they stand: ts the trees of the nodes ahead -/
def fv : Option Nat → V
  | none => .non
  | some k => .int (k : Int)
def gw (g : Bool) : Str := if g then "gives" else "throws"
abbrev ni (n : Nat) : V := .int (n : Int)
def Kids (ts : List Tr) (js : List Nat) (cs : List Tr) : Prop := js.map (fun j => ts[j]?) = cs.map some
inductive NdAt (H : Hp) (ts : List Tr) : V → Tr → Prop
  | job {a : Addr} {d v c : Nat} {g : Bool} {f : Option Nat} : H a = some (.tup [.str "job", ni d, .str (gw g), ni v, ni c, fv f]) → NdAt H ts (.ref a) (.job d g v c f)
  | grp {a p : Addr} {w : Str} {js : List Nat} {cs : List Tr} : H a = some (.tup [.str w, .ref p]) → H p = some (.tup (js.map ni)) → Kids ts js cs → NdAt H ts (.ref a) (.grp w cs)
  | pool {a p : Addr} {s : Nat} {js : List Nat} {cs : List Tr} : H a = some (.tup [.str "pool", ni s, .ref p]) → H p = some (.tup (js.map ni)) → Kids ts js cs → NdAt H ts (.ref a) (.pool s cs)
  | tmo {a : Addr} {n j : Nat} {t : Tr} : H a = some (.tup [.str "timeout", ni n, ni j]) → ts[j]? = some t → NdAt H ts (.ref a) (.tmo n t)
  | ore {a : Addr} {i j : Nat} {x y : Tr} : H a = some (.tup [.str "orelse", ni i, ni j]) → ts[i]? = some x → ts[j]? = some y → NdAt H ts (.ref a) (.ore x y)
  | rty {a : Addr} {r d j : Nat} {t : Tr} : H a = some (.tup [.str "retry", ni r, ni d, ni j]) → ts[j]? = some t → NdAt H ts (.ref a) (.rty r d t)
theorem NdAt.kp {H H' : Hp} {S : List Addr} {ts : List Tr} {v : V} {t : Tr} (n : NdAt H ts v t) (k : Kp S H H') : NdAt H' ts v t := by
  cases n with
  | job h => exact .job (k.tup _ _ h)
  | grp h1 h2 h3 => exact .grp (k.tup _ _ h1) (k.tup _ _ h2) h3
  | pool h1 h2 h3 => exact .pool (k.tup _ _ h1) (k.tup _ _ h2) h3
  | tmo h1 h2 => exact .tmo (k.tup _ _ h1) h2
  | ore h1 h2 h3 => exact .ore (k.tup _ _ h1) h2 h3
  | rty h1 h2 => exact .rty (k.tup _ _ h1) h2
/-- nodes vs, their trees ts -/
def Nds (H : Hp) (vs : List V) (ts : List Tr) : Prop := vs.length = ts.length ∧ ∀ (i : Nat) (v : V) (t : Tr), vs[i]? = some v → ts[i]? = some t → NdAt H (ts.take i) v t
theorem Nds.nil {H : Hp} : Nds H [] [] := ⟨rfl, fun i v t h _ => by simp at h⟩
theorem Nds.kp {H H' : Hp} {S : List Addr} {vs : List V} {ts : List Tr} (n : Nds H vs ts) (k : Kp S H H') : Nds H' vs ts := ⟨n.1, fun i v t h1 h2 => (n.2 i v t h1 h2).kp k⟩
theorem Nds.snoc {H : Hp} {vs : List V} {ts : List Tr} {v : V} {t : Tr} (n : Nds H vs ts) (h : NdAt H ts v t) : Nds H (vs ++ [v]) (ts ++ [t]) := by
  refine ⟨by simp [n.1], fun i u z h1 h2 => ?_⟩
  by_cases hi : i < ts.length
  · rw [List.getElem?_append_left (by rw [n.1]; exact hi)] at h1
    rw [List.getElem?_append_left hi] at h2
    rw [List.take_append_of_le_length (by omega)]
    exact n.2 i u z h1 h2
  · have e : i = ts.length := by
      have := (List.getElem?_eq_some_iff.mp h2).1
      simp at this
      omega
    subst e
    rw [List.getElem?_append_right (by rw [n.1]; exact Nat.le_refl _), n.1] at h1
    rw [List.getElem?_append_right (Nat.le_refl _)] at h2
    simp at h1 h2
    subst h1 h2
    rw [List.take_left']
    · exact h
    · rfl
/-- an item of a written list at a drawn place -/
theorem pick {xs : List V} {r : Nat} (h : (r : Int) < xs.length) : ∃ v, v ∈ xs ∧ atI xs (r : Int) = some v := by
  have h' : r < xs.length := by omega
  exact ⟨xs[r], List.getElem_mem h', atI_nat (List.getElem?_eq_getElem h')⟩
section
variable {P : Program} {w : World} {K : PySem.W.Frag} {mg : Str → Option Value} {base : Heap} {CR CT CO CF WA fR fT fO : Addr}
/-! ### _law_job -/
def spJob : Sp := fun vs H Q _ => ∃ (b d : Addr), vs = [.ref b] ∧ Box b d H ∧ ∀ (a : Addr) (x v c : Nat) (g : Bool) (f : Option Nat) (H' : Hp), x ≤ 1000 → v ≤ 999 → c ≤ 100 → (∀ k, f = some k → k ≤ 999) →
  H' a = some (.tup [.str "job", ni x, .str (gw g), ni v, ni c, fv f]) → Box b d H' → Kp [b] H H' → Q (.ref a) H'
theorem use_job (T : Txt K mg CR CT CO CF WA fR fT fO) : Use P w K mg base CX0 2 "_law_job" p__law_job spJob := by
  have U__law_draw : Use P w K mg base CX0 1 "_law_draw" p__law_draw spDraw := use_draw T
  have pas__law_draw : ∀ {X : Cx}, Passes CX0 X E0 := pass0
  refine use_of T.d_law_job (fun f fd F => F.binds fun _ _ _ _ _ _ us hl => match us, hl with | [_], _ => rfl) fun f fd F => ?_
  refine F.ok sc__law_job (fun vs H Q E h => ?_) (fun cdv A outer s H vs Q E hr h => ?_)
  · obtain ⟨b, d, rfl, _⟩ := h
    rfl
  obtain ⟨b, d, rfl, bx, q⟩ := h
  refine ⟨_, (pss_cons (ps_set (i := 1) sc__law_job.nd rfl (Or.inl rfl) (pe_ix ix_list (pe_lst (pa_cons pe_int (pa_cons (pe_use U__law_draw (hr.mono (by decide)) (by rfl) pas__law_draw (pa_cons (pv 0) (pa_cons pe_int pa_nil))) (pa_cons (pe_use U__law_draw (hr.mono (by decide)) (by rfl) pas__law_draw (pa_cons (pv 0) (pa_cons pe_int pa_nil))) (pa_cons (pe_op op_add (pe_use U__law_draw (hr.mono (by decide)) (by rfl) pas__law_draw (pa_cons (pv 0) (pa_cons pe_int pa_nil))) (pe_use U__law_draw (hr.mono (by decide)) (by rfl) pas__law_draw (pa_cons (pv 0) (pa_cons pe_int pa_nil)))) pa_nil))))) (pe_use U__law_draw (hr.mono (by decide)) (by rfl) pas__law_draw (pa_cons (pv 0) (pa_cons pe_int pa_nil))) (fun _ _ => rfl)))
      (pss_cons (ps_set (i := 2) sc__law_job.nd rfl (Or.inl rfl) (pe_ix ix_list (pe_lst (pa_cons pe_str (pa_cons pe_str (pa_cons pe_str pa_nil)))) (pe_use U__law_draw (hr.mono (by decide)) (by rfl) pas__law_draw (pa_cons (pv 0) (pa_cons pe_int pa_nil))) (fun _ _ => rfl)))
      (pss_cons (ps_set (i := 3) sc__law_job.nd rfl (Or.inl rfl) (pe_ix ix_list (pe_lst (pa_cons pe_int (pa_cons pe_int (pa_cons (pe_use U__law_draw (hr.mono (by decide)) (by rfl) pas__law_draw (pa_cons (pv 0) (pa_cons pe_int pa_nil))) (pa_cons (pe_use U__law_draw (hr.mono (by decide)) (by rfl) pas__law_draw (pa_cons (pv 0) (pa_cons pe_int pa_nil))) pa_nil))))) (pe_use U__law_draw (hr.mono (by decide)) (by rfl) pas__law_draw (pa_cons (pv 0) (pa_cons pe_int pa_nil))) (fun _ _ => rfl)))
      (pss_cons (ps_set (i := 4) sc__law_job.nd rfl (Or.inl rfl) pe_non)
      (Evl.pss_cut (ps_if (pt_cmpR op_eq (pe_use U__law_draw (hr.mono (by decide)) (by rfl) pas__law_draw (pa_cons (pv 0) (pa_cons pe_int pa_nil))) pe_int (nomark _)) (pss_one (ps_set (i := 4) sc__law_job.nd rfl (Or.inl rfl) (pe_use U__law_draw (hr.mono (by decide)) (by rfl) pas__law_draw (pa_cons (pv 0) (pa_cons pe_int pa_nil))))) pss_nil)
      (pss_one (ps_ret (pe_tup (pa_cons pe_str (pa_cons (pv 1) (pa_cons (pv 2) (pa_cons (pe_use U__law_draw (hr.mono (by decide)) (by rfl) pas__law_draw (pa_cons (pv 0) (pa_cons pe_int pa_nil))) (pa_cons (pv 3) (pa_cons (pv 4) pa_nil)))))))))))))), ?_⟩
  -- duration
  refine ⟨_, rfl, b, d, 4, rfl, bx, by decide, fun r1 H1 l1 bx1 k1 => ?_⟩
  refine ⟨_, rfl, b, d, 12, rfl, bx1, by decide, fun r2 H2 l2 bx2 k2 => ?_⟩
  refine ⟨_, rfl, b, d, 1000, rfl, bx2, by decide, fun r3 H3 l3 bx3 k3 => ?_⟩
  refine ⟨_, rfl, b, d, 2, rfl, bx3, by decide, fun r4 H4 l4 bx4 k4 => ⟨_, _, rfl, rfl, ?_⟩⟩
  refine ⟨(by show 4 ≤ sizeLine; decide), fun p hp => ?_⟩
  refine ⟨_, rfl, b, d, 4, rfl, bx4.new hp, by decide, fun r5 H5 l5 bx5 k5 => ?_⟩
  have k05 : Kp [b] H H5 := ((((k1.trans k2).trans k3).trans k4).new hp).trans k5
  obtain ⟨v1, hv1, a1⟩ := pick (xs := [.int 0, .int r1, .int r2, .int ((r3 : Int) + r4)]) (r := r5) (by simpa using l5)
  refine ⟨p, _, _, _, rfl, rfl, SqL.of (k5.keep _ _ (by simpa using (bx4.ne hp).1.symm) upd_same), a1, ?_⟩
  obtain ⟨x, rfl, hx⟩ : ∃ x : Nat, v1 = ni x ∧ x ≤ 1000 := by
    simp only [List.mem_cons, List.not_mem_nil, or_false] at hv1
    rcases hv1 with rfl | rfl | rfl | rfl
    · exact ⟨0, rfl, by omega⟩
    · exact ⟨r1, rfl, by omega⟩
    · exact ⟨r2, rfl, by omega⟩
    · exact ⟨r3 + r4, rfl, by omega⟩
  -- word
  refine ⟨(by show 3 ≤ sizeLine; decide), fun p2 hp2 => ?_⟩
  refine ⟨_, rfl, b, d, 3, rfl, bx5.new hp2, by decide, fun r6 H6 l6 bx6 k6 => ?_⟩
  have k06 : Kp [b] H H6 := (k05.new hp2).trans k6
  obtain ⟨v2, hv2, a2⟩ := pick (xs := [.str "gives", .str "gives", .str "throws"]) (r := r6) (by simpa using l6)
  refine ⟨p2, _, _, _, rfl, rfl, SqL.of (k6.keep _ _ (by simpa using (bx5.ne hp2).1.symm) upd_same), a2, ?_⟩
  obtain ⟨g, rfl⟩ : ∃ g : Bool, v2 = .str (gw g) := by
    simp only [List.mem_cons, List.not_mem_nil, or_false] at hv2
    rcases hv2 with rfl | rfl | rfl
    · exact ⟨true, rfl⟩
    · exact ⟨true, rfl⟩
    · exact ⟨false, rfl⟩
  -- cleanup
  refine ⟨_, rfl, b, d, 5, rfl, bx6, by decide, fun r7 H7 l7 bx7 k7 => ?_⟩
  refine ⟨_, rfl, b, d, 101, rfl, bx7, by decide, fun r8 H8 l8 bx8 k8 => ?_⟩
  refine ⟨(by show 4 ≤ sizeLine; decide), fun p3 hp3 => ?_⟩
  refine ⟨_, rfl, b, d, 4, rfl, bx8.new hp3, by decide, fun r9 H9 l9 bx9 k9 => ?_⟩
  have k09 : Kp [b] H H9 := (((k06.trans k7).trans k8).new hp3).trans k9
  obtain ⟨v3, hv3, a3⟩ := pick (xs := [.int 0, .int 0, .int r7, .int r8]) (r := r9) (by simpa using l9)
  refine ⟨p3, _, _, _, rfl, rfl, SqL.of (k9.keep _ _ (by simpa using (bx8.ne hp3).1.symm) upd_same), a3, ?_⟩
  obtain ⟨c, rfl, hc⟩ : ∃ x : Nat, v3 = ni x ∧ x ≤ 100 := by
    simp only [List.mem_cons, List.not_mem_nil, or_false] at hv3
    rcases hv3 with rfl | rfl | rfl | rfl
    · exact ⟨0, rfl, by omega⟩
    · exact ⟨0, rfl, by omega⟩
    · exact ⟨r7, rfl, by omega⟩
    · exact ⟨r8, rfl, by omega⟩
  -- fault
  refine ⟨fun σ' H' => ∃ f : Option Nat, σ' = [some (.ref b), some (ni x), some (.str (gw g)), some (ni c), some (fv f)] ∧ (∀ k, f = some k → k ≤ 999) ∧ Box b d H' ∧ Kp [b] H H', ?_, ?_⟩
  · refine ⟨_, rfl, b, d, 3, rfl, bx9, by decide, fun r10 H10 l10 bx10 k10 => ?_⟩
    refine ⟨rfl, _, rfl, ?_⟩
    refine ite2 (fun _ => ?_) (fun _ => ?_)
    · refine ⟨_, rfl, b, d, 1000, rfl, bx10, by decide, fun r11 H11 l11 bx11 k11 => ?_⟩
      exact ⟨some r11, rfl, fun k e => by cases e; omega, bx11, (k09.trans k10).trans k11⟩
    · exact ⟨none, rfl, fun k e => (by cases e), bx10, k09.trans k10⟩
  · rintro σ' H10 ⟨f, rfl, hf, bx10, k10⟩
    refine ⟨_, rfl, _, rfl, _, rfl, b, d, 1000, rfl, bx10, by decide, fun r11 H11 l11 bx11 k11 => ?_⟩
    refine ⟨_, rfl, _, rfl, (by show 6 ≤ sizeLine; decide), fun p4 hp4 => ?_⟩
    exact q p4 x r11 c g f _ hx (by omega) hc hf upd_same (bx11.new hp4) ((k10.trans k11).new hp4)
end
end K6
namespace K6
open PySem L2
theorem ttT {x y : V} (h : x = y) : V.bl (decide (x = y)) = V.bl true := congrArg V.bl (decide_eq_true h)
theorem ttF {x y : V} (h : x ≠ y) : V.bl (decide (x = y)) = V.bl false := congrArg V.bl (decide_eq_false h)
theorem nstr {x y : Str} (h : x ≠ y) : V.str x ≠ V.str y := fun e => h (V.str.inj e)
theorem grpW_ne {k : Str} (h : grpW k) : k ≠ "timeout" ∧ k ≠ "retry" ∧ k ≠ "orelse" ∧ k ≠ "pool" ∧ k ≠ "job" := by
  rcases h with rfl | rfl | rfl | rfl <;> decide +kernel
/-- the parts that a kind takes -/
def Takes (k : Str) (cs : List Tr) : Prop := ((k = "timeout" ∨ k = "retry") ∧ cs.length = 1) ∨ (k = "orelse" ∧ cs.length = 2) ∨ k = "pool" ∨ grpW k
def Whole (k : Str) (cs : List Tr) (t : Tr) : Prop :=
  (k = "timeout" ∧ ∃ n c, cs = [c] ∧ n ≤ 1000 ∧ t = .tmo n c) ∨ (k = "retry" ∧ ∃ r d c, cs = [c] ∧ r ≤ 2 ∧ d ≤ 100 ∧ t = .rty r d c) ∨ (k = "orelse" ∧ ∃ x y, cs = [x, y] ∧ t = .ore x y) ∨
    (k = "pool" ∧ ∃ s, 1 ≤ s ∧ s ≤ 3 ∧ t = .pool s cs) ∨ (grpW k ∧ t = .grp k cs)
theorem Kids.one {ts : List Tr} {js : List Nat} {c : Tr} (h : Kids ts js [c]) : ∃ j, js = [j] ∧ ts[j]? = some c := by
  cases js with
  | nil => cases h
  | cons j r =>
    cases r with
    | nil => exact ⟨j, rfl, (List.cons.inj h).1⟩
    | cons j2 r => cases (List.cons.inj h).2
theorem Kids.two {ts : List Tr} {js : List Nat} {c e : Tr} (h : Kids ts js [c, e]) : ∃ i j, js = [i, j] ∧ ts[i]? = some c ∧ ts[j]? = some e := by
  cases js with
  | nil => cases h
  | cons j r =>
    obtain ⟨h1, h2⟩ := List.cons.inj h
    obtain ⟨i, rfl, h3⟩ := Kids.one (js := r) h2
    exact ⟨j, i, rfl, h1, h3⟩
theorem len_one {α : Type} {l : List α} (h : l.length = 1) : ∃ x, l = [x] := by
  cases l with
  | nil => cases h
  | cons x r =>
    cases r with
    | nil => exact ⟨x, rfl⟩
    | cons y r => simp at h
theorem len_two {α : Type} {l : List α} (h : l.length = 2) : ∃ x y, l = [x, y] := by
  cases l with
  | nil => cases h
  | cons x r =>
    obtain ⟨y, rfl⟩ := len_one (l := r) (by simpa using h)
    exact ⟨x, y, rfl⟩
section
variable {P : Program} {w : World} {K : PySem.W.Frag} {mg : Str → Option Value} {base : Heap} {CR CT CO CF WA fR fT fO : Addr}
def spWhole : Sp := fun vs H Q _ => ∃ (b d tp : Addr) (k : Str) (js : List Nat) (cs ts : List Tr), vs = [.ref b, .str k, .ref tp] ∧ Box b d H ∧ H tp = some (.lst (js.map ni)) ∧ tp ≠ b ∧ Kids ts js cs ∧ Takes k cs ∧
  ∀ (a : Addr) (t : Tr) (H' : Hp), Whole k cs t → NdAt H' ts (.ref a) t → Box b d H' → Kp [b] H H' → Q (.ref a) H'
theorem use_whole (T : Txt K mg CR CT CO CF WA fR fT fO) : Use P w K mg base CX0 2 "_law_whole" p__law_whole spWhole := by
  have U__law_draw : Use P w K mg base CX0 1 "_law_draw" p__law_draw spDraw := use_draw T
  have pas__law_draw : ∀ {X : Cx}, Passes CX0 X E0 := pass0
  refine use_of T.d_law_whole (fun f fd F => F.binds fun _ _ _ _ _ _ us hl => match us, hl with | [_, _, _], _ => rfl) fun f fd F => ?_
  refine F.ok sc__law_whole (fun vs H Q E h => ?_) (fun cdv A outer s H vs Q E hr h => ?_)
  · obtain ⟨b, d, tp, k, js, cs, ts, rfl, _⟩ := h
    rfl
  obtain ⟨b, d, tp, k, js, cs, ts, rfl, bx, htp, ntp, kd, tk, q⟩ := h
  have nb : tp ∉ [b] := by simpa using ntp
  refine ⟨_, (pss_cons (ps_if (pt_cmpR op_eq (pv 1) pe_str (nomark _)) (pss_one (ps_ret (pe_tup (pa_cons pe_str (pa_cons (pe_ix ix_list (pe_lst (pa_cons (pe_use U__law_draw (hr.mono (by decide)) (by rfl) pas__law_draw (pa_cons (pv 0) (pa_cons pe_int pa_nil))) (pa_cons (pe_use U__law_draw (hr.mono (by decide)) (by rfl) pas__law_draw (pa_cons (pv 0) (pa_cons pe_int pa_nil))) (pa_cons (pe_op op_add (pe_use U__law_draw (hr.mono (by decide)) (by rfl) pas__law_draw (pa_cons (pv 0) (pa_cons pe_int pa_nil))) (pe_use U__law_draw (hr.mono (by decide)) (by rfl) pas__law_draw (pa_cons (pv 0) (pa_cons pe_int pa_nil)))) pa_nil)))) (pe_use U__law_draw (hr.mono (by decide)) (by rfl) pas__law_draw (pa_cons (pv 0) (pa_cons pe_int pa_nil))) (fun _ _ => rfl)) (pa_cons (pe_ix ix_list (pv 2) (pe_un un_neg pe_int) (fun _ _ => rfl)) pa_nil)))))) pss_nil)
      (pss_cons (ps_if (pt_cmpR op_eq (pv 1) pe_str (nomark _)) (pss_one (ps_ret (pe_tup (pa_cons pe_str (pa_cons (pe_use U__law_draw (hr.mono (by decide)) (by rfl) pas__law_draw (pa_cons (pv 0) (pa_cons pe_int pa_nil))) (pa_cons (pe_ix ix_list (pe_lst (pa_cons pe_int (pa_cons (pe_use U__law_draw (hr.mono (by decide)) (by rfl) pas__law_draw (pa_cons (pv 0) (pa_cons pe_int pa_nil))) (pa_cons (pe_use U__law_draw (hr.mono (by decide)) (by rfl) pas__law_draw (pa_cons (pv 0) (pa_cons pe_int pa_nil))) pa_nil)))) (pe_use U__law_draw (hr.mono (by decide)) (by rfl) pas__law_draw (pa_cons (pv 0) (pa_cons pe_int pa_nil))) (fun _ _ => rfl)) (pa_cons (pe_ix ix_list (pv 2) (pe_un un_neg pe_int) (fun _ _ => rfl)) pa_nil))))))) pss_nil)
      (pss_cons (ps_if (pt_cmpR op_eq (pv 1) pe_str (nomark _)) (pss_one (ps_ret (pe_tup (pa_cons pe_str (pa_cons (pe_ix ix_list (pv 2) (pe_un un_neg pe_int) (fun _ _ => rfl)) (pa_cons (pe_ix ix_list (pv 2) (pe_un un_neg pe_int) (fun _ _ => rfl)) pa_nil)))))) pss_nil)
      (pss_cons (ps_if (pt_cmpR op_eq (pv 1) pe_str (nomark _)) (pss_one (ps_ret (pe_tup (pa_cons pe_str (pa_cons (pe_op op_add pe_int (pe_use U__law_draw (hr.mono (by decide)) (by rfl) pas__law_draw (pa_cons (pv 0) (pa_cons pe_int pa_nil)))) (pa_cons (pe_callTy call_tuple_of (by rfl) T.n_tuple (by decide +kernel) (pa_cons (pv 2) pa_nil)) pa_nil)))))) pss_nil)
      (pss_one (ps_ret (pe_tup (pa_cons (pv 1) (pa_cons (pe_callTy call_tuple_of (by rfl) T.n_tuple (by decide +kernel) (pa_cons (pv 2) pa_nil)) pa_nil))))))))), ?_⟩
  rcases tk with ⟨rfl | rfl, hl⟩ | ⟨rfl, hl⟩ | rfl | hk
  · -- timeout
    obtain ⟨c, rfl⟩ := len_one hl
    obtain ⟨j, rfl, hj⟩ := kd.one
    refine ⟨_, rfl, rfl, true, ttT rfl, iteT ?_⟩
    refine ⟨_, rfl, b, d, 4, rfl, bx, by decide, fun r1 H1 l1 bx1 k1 => ?_⟩
    refine ⟨_, rfl, b, d, 12, rfl, bx1, by decide, fun r2 H2 l2 bx2 k2 => ?_⟩
    refine ⟨_, rfl, b, d, 1000, rfl, bx2, by decide, fun r3 H3 l3 bx3 k3 => ?_⟩
    refine ⟨_, rfl, b, d, 2, rfl, bx3, by decide, fun r4 H4 l4 bx4 k4 => ⟨_, _, rfl, rfl, ?_⟩⟩
    refine ⟨(by show 3 ≤ sizeLine; decide), fun p hp => ?_⟩
    refine ⟨_, rfl, b, d, 3, rfl, bx4.new hp, by decide, fun r5 H5 l5 bx5 k5 => ?_⟩
    have k05 : Kp [b] H H5 := ((((k1.trans k2).trans k3).trans k4).new hp).trans k5
    obtain ⟨v1, hv1, a1⟩ := pick (xs := [.int r1, .int r2, .int ((r3 : Int) + r4)]) (r := r5) (by simpa using l5)
    refine ⟨p, _, _, _, rfl, rfl, SqL.of (k5.keep _ _ (by simpa using (bx4.ne hp).1.symm) upd_same), a1, ?_⟩
    obtain ⟨x, rfl, hx⟩ : ∃ x : Nat, v1 = ni x ∧ x ≤ 1000 := by
      simp only [List.mem_cons, List.not_mem_nil, or_false] at hv1
      rcases hv1 with rfl | rfl | rfl
      · exact ⟨r1, rfl, by omega⟩
      · exact ⟨r2, rfl, by omega⟩
      · exact ⟨r3 + r4, rfl, by omega⟩
    refine ⟨_, rfl, _, rfl, _, _, _, _, rfl, rfl, SqL.of (k05.keep _ _ nb htp), rfl, (by show 3 ≤ sizeLine; decide), fun p4 hp4 => ?_⟩
    exact q p4 (.tmo x c) _ (.inl ⟨rfl, x, c, rfl, hx, rfl⟩) (.tmo upd_same hj) (bx5.new hp4) (k05.new hp4)
  · -- retry
    obtain ⟨c, rfl⟩ := len_one hl
    obtain ⟨j, rfl, hj⟩ := kd.one
    refine ⟨_, rfl, rfl, false, ttF (by decide +kernel), iteF ?_⟩
    refine ⟨_, rfl, rfl, true, ttT rfl, iteT ?_⟩
    refine ⟨_, rfl, b, d, 3, rfl, bx, by decide, fun r0 H0 l0 bx0 k0 => ?_⟩
    refine ⟨_, rfl, b, d, 4, rfl, bx0, by decide, fun r1 H1 l1 bx1 k1 => ?_⟩
    refine ⟨_, rfl, b, d, 101, rfl, bx1, by decide, fun r2 H2 l2 bx2 k2 => ?_⟩
    refine ⟨(by show 3 ≤ sizeLine; decide), fun p hp => ?_⟩
    refine ⟨_, rfl, b, d, 3, rfl, bx2.new hp, by decide, fun r5 H5 l5 bx5 k5 => ?_⟩
    have k05 : Kp [b] H H5 := (((k0.trans k1).trans k2).new hp).trans k5
    obtain ⟨v1, hv1, a1⟩ := pick (xs := [.int 0, .int r1, .int r2]) (r := r5) (by simpa using l5)
    refine ⟨p, _, _, _, rfl, rfl, SqL.of (k5.keep _ _ (by simpa using (bx2.ne hp).1.symm) upd_same), a1, ?_⟩
    obtain ⟨x, rfl, hx⟩ : ∃ x : Nat, v1 = ni x ∧ x ≤ 100 := by
      simp only [List.mem_cons, List.not_mem_nil, or_false] at hv1
      rcases hv1 with rfl | rfl | rfl
      · exact ⟨0, rfl, by omega⟩
      · exact ⟨r1, rfl, by omega⟩
      · exact ⟨r2, rfl, by omega⟩
    refine ⟨_, rfl, _, rfl, _, _, _, _, rfl, rfl, SqL.of (k05.keep _ _ nb htp), rfl, (by show 4 ≤ sizeLine; decide), fun p4 hp4 => ?_⟩
    exact q p4 (.rty r0 x c) _ (.inr (.inl ⟨rfl, r0, x, c, rfl, by omega, hx, rfl⟩)) (.rty upd_same hj) (bx5.new hp4) (k05.new hp4)
  · -- orelse
    obtain ⟨x, y, rfl⟩ := len_two hl
    obtain ⟨i, j, rfl, hi, hj⟩ := kd.two
    refine ⟨_, rfl, rfl, false, ttF (by decide +kernel), iteF ?_⟩
    refine ⟨_, rfl, rfl, false, ttF (by decide +kernel), iteF ?_⟩
    refine ⟨_, rfl, rfl, true, ttT rfl, iteT ?_⟩
    refine ⟨_, rfl, _, rfl, _, _, _, _, rfl, rfl, SqL.of htp, rfl, ?_⟩
    refine ⟨_, rfl, _, rfl, _, _, _, _, rfl, rfl, SqL.of htp, rfl, (by show 3 ≤ sizeLine; decide), fun p4 hp4 => ?_⟩
    exact q p4 (.ore x y) _ (.inr (.inr (.inl ⟨rfl, x, y, rfl, rfl⟩))) (.ore upd_same hi hj) (bx.new hp4) ((Kp.refl _ _).new hp4)
  · -- pool
    refine ⟨_, rfl, rfl, false, ttF (by decide +kernel), iteF ?_⟩
    refine ⟨_, rfl, rfl, false, ttF (by decide +kernel), iteF ?_⟩
    refine ⟨_, rfl, rfl, false, ttF (by decide +kernel), iteF ?_⟩
    refine ⟨_, rfl, rfl, true, ttT rfl, iteT ?_⟩
    refine ⟨_, rfl, b, d, 3, rfl, bx, by decide, fun r0 H0 l0 bx0 k0 => ⟨_, _, rfl, rfl, ?_⟩⟩
    refine ⟨_, rfl, _, _, rfl, .inl ⟨SqL.of (k0.keep _ _ nb htp), fun l hl => ?_⟩⟩
    refine ⟨(by show 3 ≤ sizeLine; decide), fun p4 hp4 => ?_⟩
    have k1 : Kp [b] H0 (upd (upd H0 l (.tup (js.map ni))) p4 (.tup [.str "pool", .int (1 + (r0 : Int)), .ref l])) := ((Kp.refl _ _).new hl).new hp4
    have e : (1 : Int) + (r0 : Int) = ((1 + r0 : Nat) : Int) := by omega
    refine q p4 (.pool (1 + r0) cs) _ (.inr (.inr (.inr (.inl ⟨rfl, 1 + r0, by omega, by omega, rfl⟩)))) (.pool (p := l) (js := js) ?_ ?_ kd) ((bx0.new hl).new hp4) (k0.trans k1)
    · rw [upd_same]
      show some (HO.tup [V.str "pool", V.int (1 + (r0 : Int)), V.ref l]) = _
      rw [e]
    · rw [upd_ne (ne_of_none upd_same hp4), upd_same]
  · -- all, race, any, sequence
    obtain ⟨n1, n2, n3, n4, n5⟩ := grpW_ne hk
    refine ⟨_, rfl, rfl, false, ttF (nstr n1), iteF ?_⟩
    refine ⟨_, rfl, rfl, false, ttF (nstr n2), iteF ?_⟩
    refine ⟨_, rfl, rfl, false, ttF (nstr n3), iteF ?_⟩
    refine ⟨_, rfl, rfl, false, ttF (nstr n4), iteF ?_⟩
    refine ⟨_, rfl, _, rfl, _, _, rfl, .inl ⟨SqL.of htp, fun l hl => ?_⟩⟩
    refine ⟨(by show 2 ≤ sizeLine; decide), fun p4 hp4 => ?_⟩
    refine q p4 (.grp k cs) _ (.inr (.inr (.inr (.inr ⟨hk, rfl⟩)))) (.grp (p := l) (js := js) upd_same ?_ kd) ((bx.new hl).new hp4) (((Kp.refl _ _).new hl).new hp4)
    rw [upd_ne (ne_of_none upd_same hp4), upd_same]
end
end K6
/-! K6PlanM: the drawn plan's state, in plain Lean. -/
namespace K6
open PySem L2
/-! ### slices with a negative end -/
theorem six_neg {n m : Nat} (h0 : 1 ≤ m) (h : m ≤ n) (e : Nat) : HT.sIx n e (some (-(m : Int))) = n - m := by
  show (if -(m : Int) < 0 then (-(m : Int) + (n : Int)).toNat else min (-(m : Int)).toNat n) = n - m
  rw [if_pos (by omega)]
  omega
theorem cut_back {xs : List V} {m : Nat} (h0 : 1 ≤ m) (h : m ≤ xs.length) : cutV xs (some (-(m : Int))) none = xs.drop (xs.length - m) := by
  unfold cutV
  rw [six_neg h0 h, HT.sIx_none]
  apply List.take_of_length_le
  rw [List.length_drop]
  exact Nat.le_refl _
theorem cut_front {xs : List V} {m : Nat} (h0 : 1 ≤ m) (h : m ≤ xs.length) : cutV xs none (some (-(m : Int))) = xs.take (xs.length - m) := by
  unfold cutV
  rw [six_neg h0 h, HT.sIx_none]
  simp
theorem inV_str (k : Str) (l : List Str) : inV (.str k) (l.map V.str) = decide (k ∈ l) := by
  unfold inV
  induction l with
  | nil => rfl
  | cons x r ih =>
    rw [List.map_cons, List.any_cons, ih]
    show ((x == k) || decide (k ∈ r)) = decide (k ∈ x :: r)
    by_cases e : k = x
    · subst e
      simp
    · have e2 : (x == k) = false := by simpa using fun z => e z.symm
      rw [e2, Bool.false_or]
      by_cases h : k ∈ r
      · simp [h]
      · simp [h, e]
theorem ni_map (l : List Nat) : l.map ni = (l.map fun n : Nat => (n : Int)).map V.int := by simp
theorem sum_cast : ∀ l : List Nat, (l.map fun n : Nat => (n : Int)).sum = ((l.sum : Nat) : Int)
  | [] => rfl
  | x :: r => by
    rw [List.map_cons, List.sum_cons, sum_cast r, List.sum_cons]
    omega
/-! ### the state -/
structure PlS where
  ts : List Tr
  js : List Nat
  cs : List Tr
  dp : List Nat
  rs : List Nat
/-- n: nodes at most; r: runs at most; m: tops at most -/
structure PlOk (S : PlS) (n r m : Nat) : Prop where
  kd : Kids S.ts S.js S.cs
  fa : ∀ t ∈ S.ts, fit t
  sb : ∀ t ∈ S.ts, K6.sz t ≤ S.ts.length
  ld : S.dp.length = S.cs.length
  lr : S.rs.length = S.cs.length
  dd : ∀ (i : Nat) (t : Tr) (x : Nat), S.cs[i]? = some t → S.dp[i]? = some x → dep t ≤ x
  d6 : ∀ x ∈ S.dp, x ≤ 6
  rr : ∀ (i : Nat) (t : Tr) (x : Nat), S.cs[i]? = some t → S.rs[i]? = some x → rn t ≤ x
  sm : S.rs.sum ≤ r
  sz : szs S.cs = S.ts.length
  la : ∀ j, S.js.getLast? = some j → j + 1 = S.ts.length
  ct : S.ts.length ≤ n
  ln : S.cs.length ≤ m
theorem Kids.len {ts : List Tr} {js : List Nat} {cs : List Tr} (h : Kids ts js cs) : js.length = cs.length := by
  have := congrArg List.length h
  simpa using this
theorem Kids.mem {ts : List Tr} {js : List Nat} {cs : List Tr} (h : Kids ts js cs) {t : Tr} (ht : t ∈ cs) : t ∈ ts := by
  have : some t ∈ cs.map some := List.mem_map.mpr ⟨t, ht, rfl⟩
  rw [← show js.map (fun j => ts[j]?) = cs.map some from h] at this
  obtain ⟨j, _, e⟩ := List.mem_map.mp this
  exact List.mem_of_getElem? e
theorem Kids.more {ts us : List Tr} {js : List Nat} {cs : List Tr} (h : Kids ts js cs) : Kids (ts ++ us) js cs := by
  have h' : js.map (fun j => ts[j]?) = cs.map some := h
  show js.map (fun j => (ts ++ us)[j]?) = cs.map some
  rw [← h']
  apply List.map_congr_left
  intro j hj
  have : some (ts[j]?) ∈ (js.map fun j => ts[j]?).map some := by
    rw [List.map_map]
    exact List.mem_map.mpr ⟨j, hj, rfl⟩
  have m : ts[j]? ∈ js.map fun j => ts[j]? := List.mem_map.mpr ⟨j, hj, rfl⟩
  rw [h'] at m
  obtain ⟨t, _, e⟩ := List.mem_map.mp m
  have hlt := (List.getElem?_eq_some_iff.mp e.symm).1
  exact List.getElem?_append_left hlt
theorem Kids.app {ts : List Tr} {js ks : List Nat} {cs es : List Tr} (h : Kids ts js cs) (h2 : Kids ts ks es) : Kids ts (js ++ ks) (cs ++ es) := by
  show (js ++ ks).map (fun j => ts[j]?) = (cs ++ es).map some
  rw [List.map_append, List.map_append, show js.map (fun j => ts[j]?) = cs.map some from h, show ks.map (fun j => ts[j]?) = es.map some from h2]
theorem Kids.take {ts : List Tr} {js : List Nat} {cs : List Tr} (n : Nat) (h : Kids ts js cs) : Kids ts (js.take n) (cs.take n) := by
  show (js.take n).map (fun j => ts[j]?) = (cs.take n).map some
  rw [List.map_take, List.map_take, show js.map (fun j => ts[j]?) = cs.map some from h]
theorem Kids.drop {ts : List Tr} {js : List Nat} {cs : List Tr} (n : Nat) (h : Kids ts js cs) : Kids ts (js.drop n) (cs.drop n) := by
  show (js.drop n).map (fun j => ts[j]?) = (cs.drop n).map some
  rw [List.map_drop, List.map_drop, show js.map (fun j => ts[j]?) = cs.map some from h]
theorem Kids.last {ts : List Tr} {t : Tr} : Kids (ts ++ [t]) [ts.length] [t] := by
  show [(ts ++ [t])[ts.length]?] = [some t]
  rw [List.getElem?_append_right (Nat.le_refl _), Nat.sub_self]
  rfl
theorem szs_app (a b : List Tr) : szs (a ++ b) = szs a + szs b := by rw [szs_sum, szs_sum, szs_sum, List.map_append, List.sum_append]
theorem rns_app (a b : List Tr) : rns (a ++ b) = rns a + rns b := by rw [rns_sum, rns_sum, rns_sum, List.map_append, List.sum_append]
theorem rns_le : ∀ {cs : List Tr} {rs : List Nat}, rs.length = cs.length → (∀ (i : Nat) (t : Tr) (x : Nat), cs[i]? = some t → rs[i]? = some x → rn t ≤ x) → rns cs ≤ rs.sum
  | [], [], _, _ => Nat.le_refl _
  | t :: r, x :: q, hl, h => by
    have h1 := h 0 t x rfl rfl
    have h2 := rns_le (cs := r) (rs := q) (by simpa using hl) fun i t x a b => h (i + 1) t x a b
    simp only [rns, List.sum_cons]
    omega
  | [], _ :: _, hl, _ => by simp at hl
  | _ :: _, [], hl, _ => by simp at hl
theorem Whole.sz {k : Str} {cs : List Tr} {t : Tr} (h : Whole k cs t) : K6.sz t = szs cs + 1 := by
  rcases h with ⟨_, n, c, rfl, _, rfl⟩ | ⟨_, r, d, c, rfl, _, _, rfl⟩ | ⟨_, x, y, rfl, rfl⟩ | ⟨_, s, _, _, rfl⟩ | ⟨_, rfl⟩ <;> simp only [K6.sz, szs] <;> omega
theorem Whole.dep {k : Str} {cs : List Tr} {t : Tr} {n : Nat} (h : Whole k cs t) (hn : ∀ c ∈ cs, dep c ≤ n) : K6.dep t ≤ n + 1 := by
  rcases h with ⟨_, m, c, rfl, _, rfl⟩ | ⟨_, r, d, c, rfl, _, _, rfl⟩ | ⟨_, x, y, rfl, rfl⟩ | ⟨_, s, _, _, rfl⟩ | ⟨_, rfl⟩ <;> simp only [K6.dep]
  · have := hn c (by simp); omega
  · have := hn c (by simp); omega
  · have h1 := hn x (by simp)
    have h2 := hn y (by simp)
    omega
  · have := deps_le.mpr hn; omega
  · have := deps_le.mpr hn; omega
theorem Whole.fit {k : Str} {cs : List Tr} {t : Tr} (h : Whole k cs t) (h1 : cs ≠ []) (h2 : cs.length ≤ 6) (hf : ∀ c ∈ cs, fit c) : K6.fit t := by
  rcases h with ⟨_, m, c, rfl, _, rfl⟩ | ⟨_, r, d, c, rfl, _, _, rfl⟩ | ⟨_, x, y, rfl, rfl⟩ | ⟨_, s, _, _, rfl⟩ | ⟨hk, rfl⟩ <;> simp only [K6.fit]
  · exact ⟨by omega, hf c (by simp)⟩
  · exact ⟨by omega, by omega, hf c (by simp)⟩
  · exact ⟨hf x (by simp), hf y (by simp)⟩
  · exact ⟨by omega, by omega, h1, h2, fits_all.mpr hf⟩
  · exact ⟨hk, h1, h2, fits_all.mpr hf⟩
/-- how often the runs count: once more for each retry -/
def times (t : Tr) : Nat := match t with | .rty r _ _ => r + 1 | _ => 1
theorem Whole.rn {k : Str} {cs : List Tr} {t : Tr} (h : Whole k cs t) : K6.rn t = times t * rns cs ∧ times t ≤ 3 ∧ 1 ≤ times t := by
  rcases h with ⟨_, m, c, rfl, _, rfl⟩ | ⟨_, r, d, c, rfl, _, _, rfl⟩ | ⟨_, x, y, rfl, rfl⟩ | ⟨_, s, _, _, rfl⟩ | ⟨_, rfl⟩ <;> simp only [K6.rn, rns, times] <;> (try omega)
  refine ⟨?_, by omega, by omega⟩
  have e : K6.rn c + 0 = K6.rn c := Nat.add_zero _
  rw [e, Nat.mul_comm]
theorem mem_snoc {α : Type} {l : List α} {x y : α} (h : y ∈ l ++ [x]) : y ∈ l ∨ y = x := by simpa using h
theorem snoc_at {α : Type} {l : List α} {x y : α} {i : Nat} (h : (l ++ [x])[i]? = some y) : l[i]? = some y ∨ (i = l.length ∧ y = x) := by
  by_cases hi : i < l.length
  · rw [List.getElem?_append_left hi] at h
    exact .inl h
  · have e := (List.getElem?_eq_some_iff.mp h).1
    simp at e
    have e2 : i = l.length := by omega
    subst e2
    rw [List.getElem?_append_right (Nat.le_refl _), Nat.sub_self] at h
    simp at h
    exact .inr ⟨rfl, h.symm⟩
/-- one more job -/
theorem PlOk.job {S : PlS} {n r m : Nat} {t : Tr} (o : PlOk S n r m) (ht : fit t) (hs : K6.sz t = 1) (hd : K6.dep t = 1) (hr : K6.rn t = 1) :
    PlOk ⟨S.ts ++ [t], S.js ++ [S.ts.length], S.cs ++ [t], S.dp ++ [1], S.rs ++ [1]⟩ (n + 1) (r + 1) (m + 1) where
  kd := (o.kd.more).app Kids.last
  fa := fun u hu => (mem_snoc hu).elim (o.fa u) fun e => by rw [e]; exact ht
  sb := fun u hu => by
    show K6.sz u ≤ (S.ts ++ [t]).length
    rw [List.length_append, List.length_cons, List.length_nil]
    rcases mem_snoc hu with h | h
    · have := o.sb u h; omega
    · rw [h]; omega
  ld := by simp [o.ld]
  lr := by simp [o.lr]
  dd := fun i u x h1 h2 => by
    rcases snoc_at h1 with h1 | ⟨e1, rfl⟩
    · rcases snoc_at h2 with h2 | ⟨e2, _⟩
      · exact o.dd i u x h1 h2
      · have := (List.getElem?_eq_some_iff.mp h1).1
        rw [o.ld] at e2
        omega
    · rcases snoc_at h2 with h2 | ⟨_, rfl⟩
      · have := (List.getElem?_eq_some_iff.mp h2).1
        rw [o.ld] at this
        omega
      · omega
  d6 := fun x hx => (mem_snoc hx).elim (o.d6 x) fun e => by omega
  rr := fun i u x h1 h2 => by
    rcases snoc_at h1 with h1 | ⟨e1, rfl⟩
    · rcases snoc_at h2 with h2 | ⟨e2, _⟩
      · exact o.rr i u x h1 h2
      · have := (List.getElem?_eq_some_iff.mp h1).1
        rw [o.lr] at e2
        omega
    · rcases snoc_at h2 with h2 | ⟨_, rfl⟩
      · have := (List.getElem?_eq_some_iff.mp h2).1
        rw [o.lr] at this
        omega
      · omega
  sm := by
    have := o.sm
    simp
    omega
  sz := by
    show szs (S.cs ++ [t]) = (S.ts ++ [t]).length
    rw [szs_app, o.sz]
    simp only [szs, hs, List.length_append, List.length_cons, List.length_nil]
  la := fun j h => by
    have h' : (S.js ++ [S.ts.length]).getLast? = some j := h
    rw [List.getLast?_append] at h'
    simp at h'
    simp
    omega
  ct := by
    have := o.ct
    simp
    omega
  ln := by
    have := o.ln
    simp
    omega
theorem take_drop_sum (l : List Nat) (k : Nat) : (l.take k).sum + (l.drop k).sum = l.sum := by
  rw [← List.sum_append, List.take_append_drop]
/-- a node over the last q tops, in the loop of the jobs -/
theorem PlOk.wrap {S : PlS} {n r m q x : Nat} {k : Str} {t : Tr} (o : PlOk S n r m) (h1 : 1 ≤ q) (h6 : q ≤ 6) (hq : q ≤ S.cs.length) (hw : Whole k (S.cs.drop (S.cs.length - q)) t)
    (hx : x ∈ S.dp.drop (S.cs.length - q)) (hm : ∀ y ∈ S.dp.drop (S.cs.length - q), y ≤ x) (hx6 : x < 6) (hs : S.rs.sum + 2 * (S.rs.drop (S.cs.length - q)).sum ≤ 50) (hr : 50 ≤ r) :
    PlOk ⟨S.ts ++ [t], S.js.take (S.cs.length - q) ++ [S.ts.length], S.cs.take (S.cs.length - q) ++ [t], S.dp.take (S.cs.length - q) ++ [1 + x], S.rs.take (S.cs.length - q) ++ [times t * (S.rs.drop (S.cs.length - q)).sum]⟩ (n + 1) r m := by
  have hdr : ∀ c ∈ S.cs.drop (S.cs.length - q), c ∈ S.cs := fun c hc => List.mem_of_mem_drop hc
  have hne : S.cs.drop (S.cs.length - q) ≠ [] := fun e => by
    have := congrArg List.length e
    simp at this
    omega
  have hlen : (S.cs.drop (S.cs.length - q)).length = q := by rw [List.length_drop]; omega
  have ltk : (S.cs.take (S.cs.length - q)).length = S.cs.length - q := by rw [List.length_take]; omega
  have dtk : (S.dp.take (S.cs.length - q)).length = S.cs.length - q := by rw [List.length_take, o.ld]; omega
  have rtk : (S.rs.take (S.cs.length - q)).length = S.cs.length - q := by rw [List.length_take, o.lr]; omega
  have ddep : ∀ c ∈ S.cs.drop (S.cs.length - q), dep c ≤ x := fun c hc => by
    obtain ⟨i, hi⟩ := List.mem_iff_getElem?.mp hc
    rw [List.getElem?_drop] at hi
    have hlt := (List.getElem?_eq_some_iff.mp hi).1
    have hlt2 : S.cs.length - q + i < S.dp.length := by rw [o.ld]; exact hlt
    have hz := o.dd _ c _ hi (List.getElem?_eq_getElem hlt2)
    refine Nat.le_trans hz (hm _ ?_)
    refine List.mem_iff_getElem?.mpr ⟨i, ?_⟩
    rw [List.getElem?_drop]
    exact List.getElem?_eq_getElem hlt2
  have hrs : rns (S.cs.drop (S.cs.length - q)) ≤ (S.rs.drop (S.cs.length - q)).sum := rns_le (by rw [List.length_drop, List.length_drop, o.lr]) fun i c y a b => by
    rw [List.getElem?_drop] at a b
    exact o.rr _ c y a b
  obtain ⟨w1, w2, w3⟩ := hw.rn
  have hrn : rn t ≤ times t * (S.rs.drop (S.cs.length - q)).sum := by rw [w1]; exact Nat.mul_le_mul_left _ hrs
  have h3 : times t * (S.rs.drop (S.cs.length - q)).sum ≤ 3 * (S.rs.drop (S.cs.length - q)).sum := Nat.mul_le_mul_right _ w2
  have htd := take_drop_sum S.rs (S.cs.length - q)
  exact {
    kd := ((o.kd.take _).more).app Kids.last
    fa := fun u hu => (mem_snoc hu).elim (o.fa u) fun e => by
      rw [e]
      exact hw.fit hne (by omega) fun c hc => o.fa c (o.kd.mem (hdr c hc))
    sb := fun u hu => by
      have e := szs_app (S.cs.take (S.cs.length - q)) (S.cs.drop (S.cs.length - q))
      rw [List.take_append_drop, o.sz] at e
      show K6.sz u ≤ (S.ts ++ [t]).length
      rw [List.length_append, List.length_cons, List.length_nil]
      rcases mem_snoc hu with h | h
      · have := o.sb u h; omega
      · rw [h, hw.sz]; omega
    ld := by
      show (S.dp.take (S.cs.length - q) ++ [1 + x]).length = (S.cs.take (S.cs.length - q) ++ [t]).length
      rw [List.length_append, List.length_append, ltk, dtk]; rfl
    lr := by
      show (S.rs.take (S.cs.length - q) ++ [times t * (S.rs.drop (S.cs.length - q)).sum]).length = (S.cs.take (S.cs.length - q) ++ [t]).length
      rw [List.length_append, List.length_append, ltk, rtk]; rfl
    dd := fun i u y a b => by
      rcases snoc_at a with a | ⟨e1, rfl⟩
      · have hi := (List.getElem?_eq_some_iff.mp a).1
        rw [ltk] at hi
        rcases snoc_at b with b | ⟨e2, _⟩
        · rw [List.getElem?_take_of_lt hi] at a b
          exact o.dd i u y a b
        · rw [dtk] at e2
          omega
      · rcases snoc_at b with b | ⟨_, rfl⟩
        · have := (List.getElem?_eq_some_iff.mp b).1
          rw [dtk] at this
          rw [ltk] at e1
          omega
        · have := hw.dep ddep
          omega
    d6 := fun y hy => (mem_snoc hy).elim (fun z => o.d6 y (List.mem_of_mem_take z)) fun e => by omega
    rr := fun i u y a b => by
      rcases snoc_at a with a | ⟨e1, rfl⟩
      · have hi := (List.getElem?_eq_some_iff.mp a).1
        rw [ltk] at hi
        rcases snoc_at b with b | ⟨e2, _⟩
        · rw [List.getElem?_take_of_lt hi] at a b
          exact o.rr i u y a b
        · rw [rtk] at e2
          omega
      · rcases snoc_at b with b | ⟨_, rfl⟩
        · have := (List.getElem?_eq_some_iff.mp b).1
          rw [rtk] at this
          rw [ltk] at e1
          omega
        · exact hrn
    sm := by
      show (S.rs.take (S.cs.length - q) ++ [times t * (S.rs.drop (S.cs.length - q)).sum]).sum ≤ r
      rw [List.sum_append, List.sum_cons, List.sum_nil]
      omega
    sz := by
      show szs (S.cs.take (S.cs.length - q) ++ [t]) = (S.ts ++ [t]).length
      have e := szs_app (S.cs.take (S.cs.length - q)) (S.cs.drop (S.cs.length - q))
      rw [List.take_append_drop, o.sz] at e
      rw [szs_app]
      simp only [szs, hw.sz, List.length_append, List.length_cons, List.length_nil]
      omega
    la := fun j h => by
      have h' : (S.js.take (S.cs.length - q) ++ [S.ts.length]).getLast? = some j := h
      rw [List.getLast?_append] at h'
      simp at h'
      simp
      omega
    ct := by
      have := o.ct
      simp
      omega
    ln := by
      have := o.ln
      show (S.cs.take (S.cs.length - q) ++ [t]).length ≤ m
      rw [List.length_append, ltk, List.length_cons, List.length_nil]
      omega }
/-! ### the last loop: the tops become one -/
structure PlFin (ts : List Tr) (js : List Nat) (cs : List Tr) (k : Nat) : Prop where
  kd : Kids ts js cs
  fa : ∀ t ∈ ts, fit t
  sb : ∀ t ∈ ts, K6.sz t ≤ ts.length
  dd : ∀ t ∈ cs, dep t ≤ min (6 + k) 8
  rr : rns cs ≤ 58
  sz : szs cs = ts.length
  la : ∀ j, js.getLast? = some j → j + 1 = ts.length
  ct : ts.length ≤ 24 + k
  ne : cs ≠ []
  ln : cs.length ≤ (if k = 0 then 8 else if k = 1 then 3 else 1)
theorem PlOk.fin {S : PlS} (o : PlOk S 24 58 8) (ne : S.cs ≠ []) : PlFin S.ts S.js S.cs 0 where
  kd := o.kd
  fa := o.fa
  sb := o.sb
  dd := fun t ht => by
    obtain ⟨i, hi⟩ := List.mem_iff_getElem?.mp ht
    have hlt := (List.getElem?_eq_some_iff.mp hi).1
    have hlt2 : i < S.dp.length := by rw [o.ld]; exact hlt
    have h1 := o.dd _ t _ hi (List.getElem?_eq_getElem hlt2)
    have h2 := o.d6 _ (List.getElem_mem hlt2)
    omega
  rr := Nat.le_trans (rns_le o.lr o.rr) o.sm
  sz := o.sz
  la := o.la
  ct := o.ct
  ne := ne
  ln := o.ln
theorem PlFin.stay {ts : List Tr} {js : List Nat} {cs : List Tr} {k : Nat} (o : PlFin ts js cs k) (h : ¬ 1 < cs.length) : PlFin ts js cs (k + 1) :=
  ⟨o.kd, o.fa, o.sb, fun t ht => by have := o.dd t ht; omega, o.rr, o.sz, o.la, by have := o.ct; omega, o.ne, by
    rw [if_neg (by omega)]
    split <;> omega⟩
theorem PlFin.wrap {ts : List Tr} {js : List Nat} {cs : List Tr} {k : Nat} {w : Str} {t : Tr} (o : PlFin ts js cs k) (h : 1 < cs.length) {q : Nat} (hq : q = if cs.length < 6 then cs.length else 6) (hw : Whole w (cs.drop (cs.length - q)) t) (ht : times t = 1) :
    PlFin (ts ++ [t]) (js.take (cs.length - q) ++ [ts.length]) (cs.take (cs.length - q) ++ [t]) (k + 1) := by
  have hq1 : 1 ≤ q ∧ q ≤ 6 ∧ q ≤ cs.length := by
    rw [hq]
    split <;> omega
  have hk : k ≤ 1 := by
    have := o.ln
    by_cases h0 : k = 0
    · omega
    · by_cases h1 : k = 1
      · omega
      · rw [if_neg h0, if_neg h1] at this
        omega
  have hdr : ∀ c ∈ cs.drop (cs.length - q), c ∈ cs := fun c hc => List.mem_of_mem_drop hc
  have hne : cs.drop (cs.length - q) ≠ [] := fun e => by
    have := congrArg List.length e
    simp at this
    omega
  have hlen : (cs.drop (cs.length - q)).length = q := by rw [List.length_drop]; omega
  have ltk : (cs.take (cs.length - q)).length = cs.length - q := by rw [List.length_take]; omega
  have e := szs_app (cs.take (cs.length - q)) (cs.drop (cs.length - q))
  rw [List.take_append_drop, o.sz] at e
  have e2 := rns_app (cs.take (cs.length - q)) (cs.drop (cs.length - q))
  rw [List.take_append_drop] at e2
  obtain ⟨w1, w2, w3⟩ := hw.rn
  rw [ht, Nat.one_mul] at w1
  exact {
    kd := ((o.kd.take _).more).app Kids.last
    fa := fun u hu => (mem_snoc hu).elim (o.fa u) fun e => by
      rw [e]
      exact hw.fit hne (by omega) fun c hc => o.fa c (o.kd.mem (hdr c hc))
    sb := fun u hu => by
      rw [List.length_append, List.length_cons, List.length_nil]
      rcases mem_snoc hu with h | h
      · have := o.sb u h; omega
      · rw [h, hw.sz]; omega
    dd := fun u hu => (mem_snoc hu).elim (fun z => by
      have := o.dd u (List.mem_of_mem_take z)
      omega) fun z => by
        rw [z]
        have := hw.dep (n := min (6 + k) 8) fun c hc => o.dd c (hdr c hc)
        omega
    rr := by
      have := o.rr
      rw [rns_app]
      simp only [rns]
      omega
    sz := by
      rw [szs_app]
      simp only [szs, hw.sz, List.length_append, List.length_cons, List.length_nil]
      omega
    la := fun j h => by
      rw [List.getLast?_append] at h
      simp at h
      simp
      omega
    ct := by
      have := o.ct
      simp
      omega
    ne := by simp
    ln := by
      rw [List.length_append, ltk, List.length_cons, List.length_nil]
      have := o.ln
      by_cases h0 : k = 0
      · subst h0
        rw [if_pos rfl] at this
        show cs.length - q + 1 ≤ 3
        by_cases h6 : cs.length < 6
        · rw [if_pos h6] at hq; omega
        · rw [if_neg h6] at hq; omega
      · have h1 : k = 1 := by omega
        subst h1
        have this' : cs.length ≤ 3 := this
        show cs.length - q + 1 ≤ 1
        rw [if_pos (by omega)] at hq
        omega }
/-- what a drawn plan is -/
structure Plan (ts : List Tr) (t : Tr) : Prop where
  la : ts.getLast? = some t
  fa : ∀ u ∈ ts, fit u
  sb : ∀ u ∈ ts, K6.sz u ≤ ts.length
  dp : dep t ≤ 8
  rn : rn t ≤ 60
  sz : sz t = ts.length
  ct : ts.length ≤ 30
theorem PlFin.plan {ts : List Tr} {js : List Nat} {cs : List Tr} (o : PlFin ts js cs 3) : ∃ t, Plan ts t := by
  have hl : cs.length = 1 := by
    have h1 : cs.length ≤ 1 := o.ln
    have h2 : cs.length ≠ 0 := fun z => o.ne (List.eq_nil_of_length_eq_zero z)
    omega
  obtain ⟨t, rfl⟩ := len_one hl
  obtain ⟨j, rfl, hj⟩ := o.kd.one
  have e := o.la j rfl
  refine ⟨t, ?_, o.fa, o.sb, ?_, ?_, ?_, by have := o.ct; omega⟩
  · rw [List.getLast?_eq_getElem?, ← hj]
    congr 1
    omega
  · have := o.dd t (by simp)
    omega
  · have := o.rr
    simp only [rns] at this
    omega
  · have := o.sz
    simp only [szs] at this
    omega
theorem PlOk.nil {n r m : Nat} : PlOk ⟨[], [], [], [], []⟩ n r m where
  kd := rfl
  fa := fun _ h => by cases h
  sb := fun _ h => by cases h
  ld := rfl
  lr := rfl
  dd := fun i t x h _ => by simp at h
  d6 := fun _ h => by cases h
  rr := fun i t x h _ => by simp at h
  sm := Nat.zero_le _
  sz := rfl
  la := fun j h => by simp at h
  ct := Nat.zero_le _
  ln := Nat.zero_le _
end K6
namespace K6
open PySem L2
/-- an object that is new since H0 is changed -/
theorem Kp.mutN {S : List Addr} {H0 H : Hp} {p : Addr} {o : HO} (k : Kp S H0 H) (h0 : H0 p = none) : Kp S H0 (upd H p o) :=
  ⟨fun c u n q => by rw [upd_ne (ne_of_none q h0)]; exact k.keep c u n q, fun c xs q => by rw [upd_ne (ne_of_none q h0)]; exact k.tup c xs q⟩
theorem Kp.freshB {b d : Addr} {H0 H : Hp} {p : Addr} (k : Kp [b] H0 H) (bx : Box b d H) (h : H p = none) : H0 p = none := by
  cases e : H0 p with
  | none => rfl
  | some o =>
    have n : p ≠ b := fun z => (bx.ne h).1 z.symm
    rw [k.keep p o (by simpa using n) e] at h
    cases h
theorem Nds.mutL {H : Hp} {vs us : List V} {ts : List Tr} {p : Addr} {o : HO} (n : Nds H vs ts) (h : H p = some (.lst us)) : Nds (upd H p o) vs ts := n.kp (S := [p]) ((Kp.refl _ _).lst (by simp) h)
structure Dis (b d nd tp dq rq : Addr) : Prop where
  bn : nd ≠ b
  bt : tp ≠ b
  bq : dq ≠ b
  br : rq ≠ b
  dn : nd ≠ d
  dt : tp ≠ d
  ddq : dq ≠ d
  dr : rq ≠ d
  nt : nd ≠ tp
  nq : nd ≠ dq
  nr : nd ≠ rq
  tq : tp ≠ dq
  tr : tp ≠ rq
  qr : dq ≠ rq
structure PlH (H0 H : Hp) (b d nd tp dq rq : Addr) (vs : List V) (S : PlS) : Prop where
  bx : Box b d H
  kp : Kp [b] H0 H
  n : H nd = some (.lst vs)
  t : H tp = some (.lst (S.js.map ni))
  q : H dq = some (.lst (S.dp.map ni))
  r : H rq = some (.lst (S.rs.map ni))
  ns : Nds H vs S.ts
  f1 : H0 nd = none
  f2 : H0 tp = none
  f3 : H0 dq = none
  f4 : H0 rq = none
  dis : Dis b d nd tp dq rq
section
variable {H0 H H' : Hp} {b d nd tp dq rq p : Addr} {vs : List V} {S : PlS}
theorem PlH.step (h : PlH H0 H b d nd tp dq rq vs S) (k : Kp [b] H H') (bx : Box b d H') : PlH H0 H' b d nd tp dq rq vs S :=
  ⟨bx, h.kp.trans k, k.keep _ _ (by simpa using h.dis.bn) h.n, k.keep _ _ (by simpa using h.dis.bt) h.t, k.keep _ _ (by simpa using h.dis.bq) h.q, k.keep _ _ (by simpa using h.dis.br) h.r, h.ns.kp k, h.f1, h.f2, h.f3, h.f4, h.dis⟩
theorem PlH.new {o : HO} (h : PlH H0 H b d nd tp dq rq vs S) (hp : H p = none) : PlH H0 (upd H p o) b d nd tp dq rq vs S := h.step ((Kp.refl _ _).new hp) (h.bx.new hp)
theorem PlH.addN {v : V} {t : Tr} (h : PlH H0 H b d nd tp dq rq vs S) (hv : NdAt H S.ts v t) : PlH H0 (upd H nd (.lst (vs ++ [v]))) b d nd tp dq rq (vs ++ [v]) ⟨S.ts ++ [t], S.js, S.cs, S.dp, S.rs⟩ :=
  ⟨h.bx.upd ⟨h.dis.bn.symm, h.dis.dn.symm⟩, h.kp.mutN h.f1, upd_same, by rw [upd_ne h.dis.nt.symm]; exact h.t, by rw [upd_ne h.dis.nq.symm]; exact h.q, by rw [upd_ne h.dis.nr.symm]; exact h.r, (h.ns.snoc hv).mutL h.n, h.f1, h.f2, h.f3, h.f4, h.dis⟩
theorem PlH.addT {xs : List V} {js : List Nat} (h : PlH H0 H b d nd tp dq rq vs S) (e : xs = js.map ni) : PlH H0 (upd H tp (.lst xs)) b d nd tp dq rq vs ⟨S.ts, js, S.cs, S.dp, S.rs⟩ :=
  ⟨h.bx.upd ⟨h.dis.bt.symm, h.dis.dt.symm⟩, h.kp.mutN h.f2, by rw [upd_ne h.dis.nt]; exact h.n, by rw [upd_same, e], by rw [upd_ne h.dis.tq.symm]; exact h.q, by rw [upd_ne h.dis.tr.symm]; exact h.r, h.ns.mutL h.t, h.f1, h.f2, h.f3, h.f4, h.dis⟩
theorem PlH.addD {xs : List V} {js : List Nat} (h : PlH H0 H b d nd tp dq rq vs S) (e : xs = js.map ni) : PlH H0 (upd H dq (.lst xs)) b d nd tp dq rq vs ⟨S.ts, S.js, S.cs, js, S.rs⟩ :=
  ⟨h.bx.upd ⟨h.dis.bq.symm, h.dis.ddq.symm⟩, h.kp.mutN h.f3, by rw [upd_ne h.dis.nq]; exact h.n, by rw [upd_ne h.dis.tq]; exact h.t, by rw [upd_same, e], by rw [upd_ne h.dis.qr.symm]; exact h.r, h.ns.mutL h.q, h.f1, h.f2, h.f3, h.f4, h.dis⟩
theorem PlH.addR {xs : List V} {js : List Nat} (h : PlH H0 H b d nd tp dq rq vs S) (e : xs = js.map ni) : PlH H0 (upd H rq (.lst xs)) b d nd tp dq rq vs ⟨S.ts, S.js, S.cs, S.dp, js⟩ :=
  ⟨h.bx.upd ⟨h.dis.br.symm, h.dis.dr.symm⟩, h.kp.mutN h.f4, by rw [upd_ne h.dis.nr]; exact h.n, by rw [upd_ne h.dis.tr]; exact h.t, by rw [upd_ne h.dis.qr]; exact h.q, by rw [upd_same, e], h.ns.mutL h.r, h.f1, h.f2, h.f3, h.f4, h.dis⟩
theorem PlH.newT {xs : List V} {js : List Nat} (h : PlH H0 H b d nd tp dq rq vs S) (hp : H p = none) (e : xs = js.map ni) : PlH H0 (upd H p (.lst xs)) b d nd p dq rq vs ⟨S.ts, js, S.cs, S.dp, S.rs⟩ := by
  have z := h.new (o := .lst xs) hp
  have n1 := ne_of_none h.n hp
  have n3 := ne_of_none h.q hp
  have n4 := ne_of_none h.r hp
  have nb := h.bx.ne hp
  exact ⟨z.bx, z.kp, z.n, by rw [upd_same, e], z.q, z.r, z.ns, h.f1, h.kp.freshB h.bx hp, h.f3, h.f4, ⟨h.dis.bn, nb.1.symm, h.dis.bq, h.dis.br, h.dis.dn, nb.2.symm, h.dis.ddq, h.dis.dr, n1, h.dis.nq, h.dis.nr, n3.symm, n4.symm, h.dis.qr⟩⟩
theorem PlH.newD {xs : List V} {js : List Nat} (h : PlH H0 H b d nd tp dq rq vs S) (hp : H p = none) (e : xs = js.map ni) : PlH H0 (upd H p (.lst xs)) b d nd tp p rq vs ⟨S.ts, S.js, S.cs, js, S.rs⟩ := by
  have z := h.new (o := .lst xs) hp
  have n1 := ne_of_none h.n hp
  have n3 := ne_of_none h.t hp
  have n4 := ne_of_none h.r hp
  have nb := h.bx.ne hp
  exact ⟨z.bx, z.kp, z.n, z.t, by rw [upd_same, e], z.r, z.ns, h.f1, h.f2, h.kp.freshB h.bx hp, h.f4, ⟨h.dis.bn, h.dis.bt, nb.1.symm, h.dis.br, h.dis.dn, h.dis.dt, nb.2.symm, h.dis.dr, h.dis.nt, n1, h.dis.nr, n3, h.dis.tr, n4.symm⟩⟩
theorem PlH.newR {xs : List V} {js : List Nat} (h : PlH H0 H b d nd tp dq rq vs S) (hp : H p = none) (e : xs = js.map ni) : PlH H0 (upd H p (.lst xs)) b d nd tp dq p vs ⟨S.ts, S.js, S.cs, S.dp, js⟩ := by
  have z := h.new (o := .lst xs) hp
  have n1 := ne_of_none h.n hp
  have n3 := ne_of_none h.t hp
  have n4 := ne_of_none h.q hp
  have nb := h.bx.ne hp
  exact ⟨z.bx, z.kp, z.n, z.t, z.q, by rw [upd_same, e], z.ns, h.f1, h.f2, h.f3, h.kp.freshB h.bx hp, ⟨h.dis.bn, h.dis.bt, h.dis.bq, nb.1.symm, h.dis.dn, h.dis.dt, h.dis.ddq, nb.2.symm, h.dis.nt, h.dis.nq, n1, h.dis.tq, n3, n4⟩⟩
theorem PlH.len (h : PlH H0 H b d nd tp dq rq vs S) : vs.length = S.ts.length := h.ns.1
/-- the tops' trees are told apart from the heap -/
theorem PlH.cs {cs : List Tr} (h : PlH H0 H b d nd tp dq rq vs S) : PlH H0 H b d nd tp dq rq vs ⟨S.ts, S.js, cs, S.dp, S.rs⟩ := ⟨h.bx, h.kp, h.n, h.t, h.q, h.r, h.ns, h.f1, h.f2, h.f3, h.f4, h.dis⟩
end
theorem map_ni_snoc (l : List Nat) (k : Nat) : l.map ni ++ [ni k] = (l ++ [k]).map ni := by simp
theorem map_ni_take (l : List Nat) (k : Nat) : (l.map ni).take k = (l.take k).map ni := by rw [List.map_take]
theorem map_ni_drop (l : List Nat) (k : Nat) : (l.map ni).drop k = (l.drop k).map ni := by rw [List.map_drop]
/-! ### the kinds -/
def KC (k : Str) : Prop := (k = "timeout" ∨ k = "retry") ∨ k = "orelse" ∨ (k = "pool" ∨ grpW k)
def KM (k : Str) (m n : Nat) : Prop := ((k = "timeout" ∨ k = "retry") ∧ m = 1) ∨ (k = "orelse" ∧ m = 2) ∨ ((k = "pool" ∨ grpW k) ∧ 1 ≤ m ∧ m ≤ 6 ∧ m ≤ n)
theorem KM.takes {k : Str} {m : Nat} {cs : List Tr} (h : KM k m cs.length) (hm : m ≤ cs.length) : Takes k (cs.drop (cs.length - m)) ∧ 1 ≤ m ∧ m ≤ 6 := by
  have e : (cs.drop (cs.length - m)).length = m := by rw [List.length_drop]; omega
  rcases h with ⟨h, rfl⟩ | ⟨h, rfl⟩ | ⟨h, h1, h2, h3⟩
  · exact ⟨.inl ⟨h, e⟩, by omega, by omega⟩
  · exact ⟨.inr (.inl ⟨h, e⟩), by omega, by omega⟩
  · rcases h with h | h
    · exact ⟨.inr (.inr (.inl h)), h1, h2⟩
    · exact ⟨.inr (.inr (.inr h)), h1, h2⟩
section
variable {P : Program} {w : World} {K : PySem.W.Frag} {mg : Str → Option Value} {base : Heap} {CR CT CO CF WA fR fT fO : Addr}
def spPlan : Sp := fun vs H Q _ => ∃ (b d : Addr), vs = [.ref b, .int 8] ∧ Box b d H ∧ ∀ (p : Addr) (us : List V) (ts : List Tr) (t : Tr) (H' : Hp), H' p = some (.tup us) → Nds H' us ts → Plan ts t → Box b d H' → Kp [b] H H' → Q (.ref p) H'
theorem use_plan (T : Txt K mg CR CT CO CF WA fR fT fO) : Use P w K mg base CX0 3 "_law_plan" p__law_plan spPlan := by
  have U__law_draw : Use P w K mg base CX0 1 "_law_draw" p__law_draw spDraw := use_draw T
  have U__law_job : Use P w K mg base CX0 2 "_law_job" p__law_job spJob := use_job T
  have U__law_whole : Use P w K mg base CX0 2 "_law_whole" p__law_whole spWhole := use_whole T
  have pas__law_draw : ∀ {X : Cx}, Passes CX0 X E0 := pass0
  have pas__law_job : ∀ {X : Cx}, Passes CX0 X E0 := pass0
  have pas__law_whole : ∀ {X : Cx}, Passes CX0 X E0 := pass0
  refine use_of T.d_law_plan (fun f fd F => F.binds fun _ _ _ _ _ _ us hl => match us, hl with | [_, _], _ => rfl) fun f fd F => ?_
  refine F.ok sc__law_plan (fun vs H Q E h => ?_) (fun cdv A outer s H vs Q E hr h => ?_)
  · obtain ⟨b, d, rfl, _⟩ := h
    rfl
  obtain ⟨b, d, rfl, bx0, q⟩ := h
  refine ⟨_, (pss_cons (ps_set (i := 2) sc__law_plan.nd rfl (Or.inl rfl) (pe_lst pa_nil))
      (pss_cons (ps_set (i := 3) sc__law_plan.nd rfl (Or.inl rfl) (pe_lst pa_nil))
      (pss_cons (ps_set (i := 4) sc__law_plan.nd rfl (Or.inl rfl) (pe_lst pa_nil))
      (pss_cons (ps_set (i := 5) sc__law_plan.nd rfl (Or.inl rfl) (pe_lst pa_nil))
      (pss_cons (ps_for PassesOwn.never rfl (pi_range1 (by rfl) T.n_range (pa_cons (pe_op op_add pe_int (pe_use U__law_draw (hr.mono (by decide)) (by rfl) pas__law_draw (pa_cons (pv 0) (pa_cons (pv 1) pa_nil)))) pa_nil)) (pg_name (i := 6) sc__law_plan.nd rfl (Or.inl rfl)) (pss_cons (ps_expr (pe_bm PySem.F.plainAttrs_list PySem.F.slot_list_append PySem.F.type_list_append mt_append (pv 2) (pa_cons (pe_use U__law_job (hr.mono (by decide)) (by rfl) pas__law_job (pa_cons (pv 0) pa_nil)) pa_nil)))
      (pss_cons (ps_expr (pe_bm PySem.F.plainAttrs_list PySem.F.slot_list_append PySem.F.type_list_append mt_append (pv 3) (pa_cons (pe_op op_sub (pe_callB call_len_seq (by rfl) T.n_len PySem.boot_len (pa_cons (pv 2) pa_nil)) pe_int) pa_nil)))
      (pss_cons (ps_expr (pe_bm PySem.F.plainAttrs_list PySem.F.slot_list_append PySem.F.type_list_append mt_append (pv 4) (pa_cons pe_int pa_nil)))
      (pss_cons (ps_expr (pe_bm PySem.F.plainAttrs_list PySem.F.slot_list_append PySem.F.type_list_append mt_append (pv 5) (pa_cons pe_int pa_nil)))
      (pss_one (ps_for PassesOwn.never rfl (pi_range1 (by rfl) T.n_range (pa_cons (pe_use U__law_draw (hr.mono (by decide)) (by rfl) pas__law_draw (pa_cons (pv 0) (pa_cons pe_int pa_nil))) pa_nil)) (pg_name (i := 7) sc__law_plan.nd rfl (Or.inl rfl)) (pss_cons (ps_set (i := 8) sc__law_plan.nd rfl (Or.inl rfl) (pe_ix ix_list (pe_lst (pa_cons pe_str (pa_cons pe_str (pa_cons pe_str (pa_cons pe_str (pa_cons pe_str (pa_cons pe_str (pa_cons pe_str (pa_cons pe_str pa_nil))))))))) (pe_use U__law_draw (hr.mono (by decide)) (by rfl) pas__law_draw (pa_cons (pv 0) (pa_cons pe_int pa_nil))) (fun _ _ => rfl)))
      (pss_cons (ps_set (i := 9) sc__law_plan.nd rfl (Or.inl rfl) pe_int)
      (Evl.pss_cut (ps_if (pt_cmpR op_eq (pv 8) pe_str (nomark _)) (pss_one (ps_set (i := 9) sc__law_plan.nd rfl (Or.inl rfl) pe_int)) (pss_one (ps_if (pt_cmpR op_notIn_seq (pv 8) (pe_tup (pa_cons pe_str (pa_cons pe_str pa_nil))) (by with_unfolding_all rfl)) (pss_one (ps_set (i := 9) sc__law_plan.nd rfl (Or.inl rfl) (pe_op op_add pe_int (pe_use U__law_draw (hr.mono (by decide)) (by rfl) pas__law_draw (pa_cons (pv 0) (pa_cons (pe_callB (call_min2 rfl) (by rfl) T.n_min (by decide +kernel) (pa_cons pe_int (pa_cons (pe_callB call_len_seq (by rfl) T.n_len PySem.boot_len (pa_cons (pv 3) pa_nil)) pa_nil))) pa_nil)))))) pss_nil)))
      (pss_one (ps_if (PW.pt (pw_and (pt_cmpR op_le (pv 9) (pe_callB call_len_seq (by rfl) T.n_len PySem.boot_len (pa_cons (pv 3) pa_nil)) (nomark _)) (pw_and (pt_cmpR op_lt (pe_callB (cr_max rfl) (by rfl) T.n_max (by decide +kernel) (pa_cons (pe_slice sl_list (pv 4) (po_some (pe_un un_neg (pv 9))) po_none) pa_nil)) pe_int (nomark _)) (pw_and1 (pt_cmpR op_le (pe_op op_add (pe_callB (cr_sum rfl) (by rfl) T.n_sum (by decide +kernel) (pa_cons (pv 5) pa_nil)) (pe_op op_mul pe_int (pe_callB (cr_sum rfl) (by rfl) T.n_sum (by decide +kernel) (pa_cons (pe_slice sl_list (pv 5) (po_some (pe_un un_neg (pv 9))) po_none) pa_nil)))) pe_int (nomark _)))))) (pss_cons (ps_expr (pe_bm PySem.F.plainAttrs_list PySem.F.slot_list_append PySem.F.type_list_append mt_append (pv 2) (pa_cons (pe_use U__law_whole (hr.mono (by decide)) (by rfl) pas__law_whole (pa_cons (pv 0) (pa_cons (pv 8) (pa_cons (pe_slice sl_list (pv 3) (po_some (pe_un un_neg (pv 9))) po_none) pa_nil)))) pa_nil)))
      (pss_cons (ps_set (i := 10) sc__law_plan.nd rfl (Or.inl rfl) pe_int)
      (Evl.pss_cut (ps_if (pt_cmpR op_eq (pv 8) pe_str (nomark _)) (pss_one (ps_set (i := 10) sc__law_plan.nd rfl (Or.inl rfl) (pe_op op_add pe_int (pe_ix ix_tup (pe_ix ix_list (pv 2) (pe_un un_neg pe_int) (fun _ _ => rfl)) pe_int (fun _ _ => rfl))))) pss_nil)
      (pss_cons (ps_set (i := 3) sc__law_plan.nd rfl (Or.inl rfl) (pe_op op_cat (pe_slice sl_list (pv 3) po_none (po_some (pe_un un_neg (pv 9)))) (pe_lst (pa_cons (pe_op op_sub (pe_callB call_len_seq (by rfl) T.n_len PySem.boot_len (pa_cons (pv 2) pa_nil)) pe_int) pa_nil))))
      (pss_cons (ps_set (i := 4) sc__law_plan.nd rfl (Or.inl rfl) (pe_op op_cat (pe_slice sl_list (pv 4) po_none (po_some (pe_un un_neg (pv 9)))) (pe_lst (pa_cons (pe_op op_add pe_int (pe_callB (cr_max rfl) (by rfl) T.n_max (by decide +kernel) (pa_cons (pe_slice sl_list (pv 4) (po_some (pe_un un_neg (pv 9))) po_none) pa_nil))) pa_nil))))
      (pss_one (ps_set (i := 5) sc__law_plan.nd rfl (Or.inl rfl) (pe_op op_cat (pe_slice sl_list (pv 5) po_none (po_some (pe_un un_neg (pv 9)))) (pe_lst (pa_cons (pe_op op_mul (pv 10) (pe_callB (cr_sum rfl) (by rfl) T.n_sum (by decide +kernel) (pa_cons (pe_slice sl_list (pv 5) (po_some (pe_un un_neg (pv 9))) po_none) pa_nil))) pa_nil)))))))))) pss_nil))))))))))))
      (pss_cons (ps_for PassesOwn.never rfl (pi_range1 (by rfl) T.n_range (pa_cons pe_int pa_nil)) (pg_name (i := 6) sc__law_plan.nd rfl (Or.inl rfl)) (pss_one (ps_if (pt_cmpR op_gt (pe_callB call_len_seq (by rfl) T.n_len PySem.boot_len (pa_cons (pv 3) pa_nil)) pe_int (nomark _)) (pss_cons (ps_set (i := 9) sc__law_plan.nd rfl (Or.inl rfl) (pe_callB (call_min2 rfl) (by rfl) T.n_min (by decide +kernel) (pa_cons pe_int (pa_cons (pe_callB call_len_seq (by rfl) T.n_len PySem.boot_len (pa_cons (pv 3) pa_nil)) pa_nil))))
      (pss_cons (ps_expr (pe_bm PySem.F.plainAttrs_list PySem.F.slot_list_append PySem.F.type_list_append mt_append (pv 2) (pa_cons (pe_use U__law_whole (hr.mono (by decide)) (by rfl) pas__law_whole (pa_cons (pv 0) (pa_cons (pe_ix ix_list (pe_lst (pa_cons pe_str (pa_cons pe_str (pa_cons pe_str (pa_cons pe_str (pa_cons pe_str pa_nil)))))) (pe_use U__law_draw (hr.mono (by decide)) (by rfl) pas__law_draw (pa_cons (pv 0) (pa_cons pe_int pa_nil))) (fun _ _ => rfl)) (pa_cons (pe_slice sl_list (pv 3) (po_some (pe_un un_neg (pv 9))) po_none) pa_nil)))) pa_nil)))
      (pss_one (ps_set (i := 3) sc__law_plan.nd rfl (Or.inl rfl) (pe_op op_cat (pe_slice sl_list (pv 3) po_none (po_some (pe_un un_neg (pv 9)))) (pe_lst (pa_cons (pe_op op_sub (pe_callB call_len_seq (by rfl) T.n_len PySem.boot_len (pa_cons (pv 2) pa_nil)) pe_int) pa_nil))))))) pss_nil)))
      (pss_one (ps_ret (pe_callTy call_tuple_of (by rfl) T.n_tuple (by decide +kernel) (pa_cons (pv 2) pa_nil)))))))))), ?_⟩
  refine ⟨(by show 0 ≤ sizeLine; decide), fun nd h1 => ⟨(by show 0 ≤ sizeLine; decide), fun tp h2 => ⟨(by show 0 ≤ sizeLine; decide), fun dq h3 => ⟨(by show 0 ≤ sizeLine; decide), fun rq h4 => ?_⟩⟩⟩⟩
  have start : PlH H (upd (upd (upd (upd H nd (.lst [])) tp (.lst [])) dq (.lst [])) rq (.lst [])) b d nd tp dq rq [] ⟨[], [], [], [], []⟩ := by
    have k1 : Kp [b] H (upd H nd (.lst [])) := (Kp.refl _ _).new h1
    have k2 := k1.new (o := .lst []) h2
    have k3 := k2.new (o := .lst []) h3
    have k4 := k3.new (o := .lst []) h4
    have b1 := bx0.new (o := .lst []) h1
    have b2 := b1.new (o := .lst []) h2
    have b3 := b2.new (o := .lst []) h3
    have b4 := b3.new (o := .lst []) h4
    have e1 : upd H nd (.lst []) nd = some (.lst []) := upd_same
    have n12 := ne_of_none e1 h2
    have e12 : upd (upd H nd (.lst [])) tp (.lst []) nd = some (.lst []) := by rw [upd_ne n12]; exact e1
    have e22 : upd (upd H nd (.lst [])) tp (.lst []) tp = some (.lst []) := upd_same
    have n13 := ne_of_none e12 h3
    have n23 := ne_of_none e22 h3
    have e13 : upd (upd (upd H nd (.lst [])) tp (.lst [])) dq (.lst []) nd = some (.lst []) := by rw [upd_ne n13]; exact e12
    have e23 : upd (upd (upd H nd (.lst [])) tp (.lst [])) dq (.lst []) tp = some (.lst []) := by rw [upd_ne n23]; exact e22
    have e33 : upd (upd (upd H nd (.lst [])) tp (.lst [])) dq (.lst []) dq = some (.lst []) := upd_same
    have n14 := ne_of_none e13 h4
    have n24 := ne_of_none e23 h4
    have n34 := ne_of_none e33 h4
    have x1 := bx0.ne h1
    have x2 := b1.ne h2
    have x3 := b2.ne h3
    have x4 := b3.ne h4
    exact ⟨b4, k4, by rw [upd_ne n14]; exact e13, by rw [upd_ne n24]; exact e23, by rw [upd_ne n34]; exact e33, upd_same, Nds.nil, h1, k1.freshB b1 h2, k2.freshB b2 h3, k3.freshB b3 h4,
      ⟨x1.1.symm, x2.1.symm, x3.1.symm, x4.1.symm, x1.2.symm, x2.2.symm, x3.2.symm, x4.2.symm, n12, n13, n14, n23, n24, n34⟩⟩
  refine ⟨_, rfl, _, rfl, b, d, 8, rfl, start.bx, by decide, fun r0 H1 l0 bx1 k1 => ⟨_, _, rfl, rfl, 1 + (r0 : Int), rfl, by omega, by omega, ?_⟩⟩
  have st1 := start.step k1 bx1
  refine for_range (lo := 0) (n := (1 + (r0 : Int)).toNat) (fun i σ H' => ∃ (tp dq rq : Addr) (vs : List V) (S : PlS) (v6 v7 v8 v9 v10 : Option V), σ = [some (.ref b), some (.int 8), some (.ref nd), some (.ref tp), some (.ref dq), some (.ref rq), v6, v7, v8, v9, v10] ∧
    PlH H H' b d nd tp dq rq vs S ∧ PlOk S (3 * i) (50 + i) i ∧ (0 < i → S.cs ≠ [])) ⟨tp, dq, rq, [], _, _, _, _, _, _, rfl, st1, PlOk.nil, fun z => absurd z (Nat.lt_irrefl 0)⟩ ?_ ?_
  · rintro i σ H2 hi ⟨tp, dq, rq, vs, S, v6, v7, v8, v9, v10, rfl, W, O, _⟩
    have hi8 : i < 8 := by omega
    have ct := O.ct
    have ln := O.ln
    have lk := O.kd.len
    -- nodes.append(job)
    refine ⟨_, rfl, .inl ⟨rfl, _, SqL.of W.n⟩, _, rfl, b, d, rfl, W.bx, fun a x v c g f H3 hx hv hc hf ha bx3 k3 => ?_⟩
    have W3 := W.step k3 bx3
    refine ⟨_, _, _, rfl, rfl, W3.n, szl (by have := W.len; omega), ?_⟩
    have W4 := W3.addN (NdAt.job (ts := S.ts) ha)
    -- tops.append(len(nodes) - 1)
    have el : ((vs ++ [V.ref a]).length : Int) - 1 = ((S.ts.length : Nat) : Int) := by
      have := W.len
      rw [List.length_append, List.length_cons, List.length_nil]
      omega
    refine ⟨_, rfl, .inl ⟨rfl, _, SqL.of W4.t⟩, _, rfl, _, _, rfl, .inl (SqL.of W4.n), _, _, rfl, rfl, ?_⟩
    refine ⟨_, _, _, rfl, rfl, W4.t, szl (by rw [List.length_map]; show S.js.length ≤ 100000; omega), ?_⟩
    have W5 := W4.addT (xs := S.js.map ni ++ [.int (((vs ++ [V.ref a]).length : Int) - 1)]) (js := S.js ++ [S.ts.length]) (by rw [el]; exact map_ni_snoc _ _)
    -- deep.append(1), runs.append(1)
    refine ⟨_, rfl, .inl ⟨rfl, _, SqL.of W5.q⟩, _, _, _, rfl, rfl, W5.q, szl (by rw [List.length_map]; show S.dp.length ≤ 100000; rw [O.ld]; omega), ?_⟩
    have W6 := W5.addD (xs := S.dp.map ni ++ [.int 1]) (js := S.dp ++ [1]) (map_ni_snoc _ _)
    refine ⟨_, rfl, .inl ⟨rfl, _, SqL.of W6.r⟩, _, _, _, rfl, rfl, W6.r, szl (by rw [List.length_map]; show S.rs.length ≤ 100000; rw [O.lr]; omega), ?_⟩
    have W7 := (W6.addR (xs := S.rs.map ni ++ [.int 1]) (js := S.rs ++ [1]) (map_ni_snoc _ _)).cs (cs := S.cs ++ [.job x g v c f])
    have O7 : PlOk ⟨S.ts ++ [.job x g v c f], S.js ++ [S.ts.length], S.cs ++ [.job x g v c f], S.dp ++ [1], S.rs ++ [1]⟩ (3 * i + 1) (50 + i + 1) (i + 1) := O.job (t := .job x g v c f) ⟨hx, hv, hc, hf⟩ rfl rfl rfl
    -- for _law_step in range(draw(3))
    refine ⟨_, rfl, b, d, 3, rfl, W7.bx, by decide, fun r1 H8 l1 bx8 k8 => ⟨(r1 : Int), rfl, by omega, by omega, ?_⟩⟩
    have W8 := W7.step k8 bx8
    refine for_range (lo := 0) (n := (r1 : Int).toNat) (fun j σ H' => ∃ (tp dq rq : Addr) (vs : List V) (S : PlS) (v7 v8 v9 v10 : Option V), σ = [some (.ref b), some (.int 8), some (.ref nd), some (.ref tp), some (.ref dq), some (.ref rq), some (.int (0 + i)), v7, v8, v9, v10] ∧
      PlH H H' b d nd tp dq rq vs S ∧ PlOk S (3 * i + 1 + j) (50 + i + 1) (i + 1) ∧ S.cs ≠ []) ⟨tp, dq, rq, _, _, _, _, _, _, rfl, W8, O7, by simp⟩ ?_ ?_
    · rintro j σ H9 hj ⟨tp, dq, rq, vs, S, v7, v8, v9, v10, rfl, W, O, ne⟩
      have hj2 : j < 2 := by omega
      have ct := O.ct
      have ln := O.ln
      have lk := O.kd.len
      have lc1 : 1 ≤ S.cs.length := List.length_pos_iff.mpr ne
      -- the kind
      refine ⟨(by show 8 ≤ sizeLine; decide), fun p hp => ?_⟩
      refine ⟨_, rfl, b, d, 8, rfl, W.bx.new hp, by decide, fun r2 H10 l2 bx10 k10 => ?_⟩
      obtain ⟨v1, hv1, a1⟩ := pick (xs := [.str "all", .str "race", .str "any", .str "pool", .str "timeout", .str "sequence", .str "orelse", .str "retry"]) (r := r2) (by simpa using l2)
      refine ⟨p, _, _, _, rfl, rfl, SqL.of (k10.keep _ _ (by simpa using (W.bx.ne hp).1.symm) upd_same), a1, ?_⟩
      obtain ⟨k, rfl, hk⟩ : ∃ k : Str, v1 = .str k ∧ KC k := by
        simp only [List.mem_cons, List.not_mem_nil, or_false] at hv1
        rcases hv1 with rfl | rfl | rfl | rfl | rfl | rfl | rfl | rfl
        · exact ⟨_, rfl, .inr (.inr (.inr (.inl rfl)))⟩
        · exact ⟨_, rfl, .inr (.inr (.inr (.inr (.inl rfl))))⟩
        · exact ⟨_, rfl, .inr (.inr (.inr (.inr (.inr (.inl rfl)))))⟩
        · exact ⟨_, rfl, .inr (.inr (.inl rfl))⟩
        · exact ⟨_, rfl, .inl (.inl rfl)⟩
        · exact ⟨_, rfl, .inr (.inr (.inr (.inr (.inr (.inr rfl)))))⟩
        · exact ⟨_, rfl, .inr (.inl rfl)⟩
        · exact ⟨_, rfl, .inl (.inr rfl)⟩
      have W10 := (W.new (o := .lst [.str "all", .str "race", .str "any", .str "pool", .str "timeout", .str "sequence", .str "orelse", .str "retry"]) hp).step k10 bx10
      -- how many parts
      refine ⟨fun σ' H' => ∃ m : Nat, σ' = [some (.ref b), some (.int 8), some (.ref nd), some (.ref tp), some (.ref dq), some (.ref rq), some (.int (0 + i)), some (.int (0 + j)), some (.str k), some (ni m), v10] ∧ PlH H H' b d nd tp dq rq vs S ∧ KM k m S.cs.length, ?_, ?_⟩
      · refine ⟨_, rfl, rfl, ?_⟩
        by_cases e1 : k = "orelse"
        · subst e1
          refine ⟨true, ttT rfl, iteT ?_⟩
          exact ⟨2, rfl, W10, .inr (.inl ⟨rfl, rfl⟩)⟩
        · refine ⟨false, ttF (nstr e1), iteF ?_⟩
          refine ⟨_, rfl, (by show 2 ≤ sizeLine; decide), fun p2 hp2 => ?_⟩
          have W11 := W10.new (o := .tup [.str "timeout", .str "retry"]) hp2
          refine ⟨_, _, rfl, .inr (SqT.of upd_same), rfl, rfl, ?_⟩
          by_cases e2 : k = "timeout" ∨ k = "retry"
          · refine ⟨false, ?_, iteF ?_⟩
            · show V.bl (!inV (.str k) ((["timeout", "retry"] : List Str).map V.str)) = V.bl false
              rw [inV_str]
              rcases e2 with rfl | rfl <;> decide +kernel
            · exact ⟨1, rfl, W11, .inl ⟨e2, rfl⟩⟩
          · refine ⟨true, ?_, iteT ?_⟩
            · show V.bl (!inV (.str k) ((["timeout", "retry"] : List Str).map V.str)) = V.bl true
              rw [inV_str, decide_eq_false (by simpa using e2)]
              rfl
            · have hk3 : k = "pool" ∨ grpW k := by
                rcases hk with h | h | h
                · exact absurd h e2
                · exact absurd h e1
                · exact h
              refine ⟨_, rfl, _, rfl, _, _, rfl, .inl (SqL.of W11.t), 6, _, rfl, ?_⟩
              have lt : (S.js.map ni).length = S.cs.length := by rw [List.length_map, lk]
              refine ⟨b, d, _, rfl, W11.bx, ?_, fun r3 H12 l3 bx12 k12 => ⟨_, _, rfl, rfl, ?_⟩⟩
              · rw [lt]
                split <;> omega
              · rw [lt] at l3
                have e3 : (1 : Int) + (r3 : Int) = ((1 + r3 : Nat) : Int) := by omega
                refine ⟨1 + r3, ?_, W11.step k12 bx12, .inr (.inr ⟨hk3, by omega, ?_, ?_⟩)⟩
                · show [some (V.ref b), _, _, _, _, _, _, _, _, some (V.int (1 + (r3 : Int))), _] = _
                  rw [e3]
                · split at l3 <;> omega
                · split at l3 <;> omega
      · rintro σ' H13 ⟨m, rfl, W13, hm⟩
        have lt : (S.js.map ni).length = S.cs.length := by rw [List.length_map, lk]
        have lq : (S.dp.map ni).length = S.cs.length := by rw [List.length_map, O.ld]
        have lr : (S.rs.map ni).length = S.cs.length := by rw [List.length_map, O.lr]
        have O' : PlOk S (3 * i + 1 + (j + 1)) (50 + i + 1) (i + 1) := ⟨O.kd, O.fa, O.sb, O.ld, O.lr, O.dd, O.d6, O.rr, O.sm, O.sz, O.la, by omega, O.ln⟩
        refine ⟨_, rfl, _, rfl, _, _, rfl, .inl (SqL.of W13.t), _, _, rfl, rfl, _, rfl, ?_⟩
        rw [lt]
        refine ite2 (fun c1 => ?m1) (fun c1 => ?s1)
        case s1 =>
          refine iteF ?_
          exact ⟨tp, dq, rq, vs, S, _, _, _, _, rfl, W13, O', ne⟩
        have hmc : m ≤ S.cs.length := by
          have := of_decide_eq_true c1
          omega
        obtain ⟨htk, hm1, hm6⟩ := hm.takes hmc
        -- max(deep[-many:]) < 6
        refine ⟨_, rfl, _, rfl, _, rfl, _, rfl, _, _, rfl, SqL.of W13.q, fun p3 hp3 => ?_⟩
        have cb3 : cutV (S.dp.map ni) (some (-(m : Int))) none = (S.dp.drop (S.cs.length - m)).map ni := by rw [cut_back hm1 (by rw [lq]; exact hmc), lq, map_ni_drop]
        have W14 := W13.new (o := .lst (cutV (S.dp.map ni) (some (-(m : Int))) none)) hp3
        refine ⟨p3, (S.dp.drop (S.cs.length - m)).map fun n : Nat => (n : Int), rfl, SqL.of (by rw [upd_same, cb3, ni_map]), by rw [List.length_map, List.length_drop, O.ld]; omega, fun z hz hle => ?_⟩
        obtain ⟨x, hx, rfl⟩ := List.mem_map.mp hz
        have hle' : ∀ y ∈ S.dp.drop (S.cs.length - m), y ≤ x := fun y hy => by
          have := hle (y : Int) (List.mem_map.mpr ⟨y, hy, rfl⟩)
          omega
        refine ⟨_, _, rfl, rfl, _, rfl, ?_⟩
        refine ite2 (fun c2 => ?m2) (fun c2 => ?s2)
        case s2 =>
          refine iteF ?_
          exact ⟨tp, dq, rq, vs, S, _, _, _, _, rfl, W14, O', ne⟩
        have hx6 : x < 6 := by
          have := of_decide_eq_true c2
          omega
        -- sum(runs) + 2 * sum(runs[-many:]) <= 50
        refine ⟨_, rfl, rq, S.rs.map fun n : Nat => (n : Int), rfl, SqL.of (by rw [W14.r, ni_map]), ?_⟩
        refine ⟨_, rfl, _, rfl, _, rfl, _, rfl, _, _, rfl, SqL.of W14.r, fun p4 hp4 => ?_⟩
        have cb4 : cutV (S.rs.map ni) (some (-(m : Int))) none = (S.rs.drop (S.cs.length - m)).map ni := by rw [cut_back hm1 (by rw [lr]; exact hmc), lr, map_ni_drop]
        have W15 := W14.new (o := .lst (cutV (S.rs.map ni) (some (-(m : Int))) none)) hp4
        refine ⟨p4, (S.rs.drop (S.cs.length - m)).map fun n : Nat => (n : Int), rfl, SqL.of (by rw [upd_same, cb4, ni_map]), ?_⟩
        refine ⟨_, _, rfl, rfl, .inl ⟨by decide, by decide⟩, _, _, rfl, rfl, _, _, rfl, rfl, _, rfl, ?_⟩
        rw [sum_cast, sum_cast]
        refine ite2 (fun c3 => ?m3) (fun c3 => ?s3)
        case s3 => exact ⟨tp, dq, rq, vs, S, _, _, _, _, rfl, W15, O', ne⟩
        have hs : S.rs.sum + 2 * (S.rs.drop (S.cs.length - m)).sum ≤ 50 := by
          have := of_decide_eq_true c3
          omega
        -- nodes.append(_law_whole(box, kind, tops[-many:]))
        have lv := W15.len
        refine ⟨_, rfl, .inl ⟨rfl, _, SqL.of W15.n⟩, _, rfl, _, rfl, _, rfl, _, rfl, _, rfl, _, rfl, _, _, rfl, SqL.of W15.t, fun p5 hp5 => ?_⟩
        have cb5 : cutV (S.js.map ni) (some (-(m : Int))) none = (S.js.drop (S.cs.length - m)).map ni := by rw [cut_back hm1 (by rw [lt]; exact hmc), lt, map_ni_drop]
        have W16 := W15.new (o := .lst (cutV (S.js.map ni) (some (-(m : Int))) none)) hp5
        refine ⟨b, d, p5, k, S.js.drop (S.cs.length - m), S.cs.drop (S.cs.length - m), S.ts, rfl, W16.bx, by rw [upd_same, cb5], (W15.bx.ne hp5).1.symm, O.kd.drop _, htk, fun a2 t H17 hw hnd bx17 k17 => ?_⟩
        have W17 := W16.step k17 bx17
        refine ⟨_, _, _, rfl, rfl, W17.n, szl (by omega), ?_⟩
        have W18 := W17.addN hnd
        have en : ((vs ++ [V.ref a2]).length : Int) - 1 = ((S.ts.length : Nat) : Int) := by
          rw [List.length_append, List.length_cons, List.length_nil]
          omega
        -- times
        refine ⟨fun σ' H' => σ' = [some (.ref b), some (.int 8), some (.ref nd), some (.ref tp), some (.ref dq), some (.ref rq), some (.int (0 + i)), some (.int (0 + j)), some (.str k), some (ni m), some (ni (times t))] ∧ PlH H H' b d nd tp dq rq (vs ++ [.ref a2]) ⟨S.ts ++ [t], S.js, S.cs, S.dp, S.rs⟩, ?_, ?_⟩
        · refine ⟨_, rfl, rfl, ?_⟩
          by_cases e1 : k = "retry"
          · subst e1
            refine ⟨true, ttT rfl, iteT ?_⟩
            have hr2 : ∃ (r dd j : Nat) (t' : Tr), t = .rty r dd t' ∧ H17 a2 = some (.tup [.str "retry", ni r, ni dd, ni j]) := by
              rcases hw with ⟨h, _⟩ | ⟨_, r, dd, c, _, _, _, rfl⟩ | ⟨h, _⟩ | ⟨h, _⟩ | ⟨h, _⟩
              · exact absurd h (by decide +kernel)
              · cases hnd with
                | rty h1 h2 => exact ⟨r, dd, _, _, rfl, h1⟩
              · exact absurd h (by decide +kernel)
              · exact absurd h (by decide +kernel)
              · exact absurd rfl (grpW_ne h).2.1
            obtain ⟨r, dd, jj, t', rfl, ha2⟩ := hr2
            refine ⟨_, rfl, _, rfl, _, _, _, _, rfl, rfl, SqL.of W18.n, atI_last _ _, _, _, _, _, rfl, rfl, SqT.of (by rw [upd_ne (fun z => by rw [z, W17.n] at ha2; cases ha2)]; exact ha2), rfl, _, _, rfl, rfl, ?_⟩
            refine ⟨?_, W18⟩
            have e2 : (1 : Int) + (r : Int) = ((r + 1 : Nat) : Int) := by omega
            show [some (V.ref b), _, _, _, _, _, _, _, _, _, some (V.int (1 + (r : Int)))] = _
            rw [e2]
            rfl
          · refine ⟨false, ttF (nstr e1), iteF ?_⟩
            have ht1 : times t = 1 := by
              rcases hw with ⟨_, n, c, _, _, rfl⟩ | ⟨h, _⟩ | ⟨_, x, y, _, rfl⟩ | ⟨_, s, _, _, rfl⟩ | ⟨_, rfl⟩
              · rfl
              · exact absurd h e1
              · rfl
              · rfl
              · rfl
            refine ⟨?_, W18⟩
            rw [ht1]
            rfl
        · rintro σ' H19 ⟨rfl, W19⟩
          -- tops
          refine ⟨_, rfl, _, rfl, _, rfl, _, rfl, _, _, rfl, SqL.of W19.t, fun p6 hp6 => ?_⟩
          have cf6 : cutV (S.js.map ni) none (some (-(m : Int))) = (S.js.take (S.cs.length - m)).map ni := by rw [cut_front hm1 (by rw [lt]; exact hmc), lt, map_ni_take]
          have W20 := W19.new (o := .lst (cutV (S.js.map ni) none (some (-(m : Int))))) hp6
          refine ⟨_, rfl, _, _, rfl, .inl (SqL.of W20.n), _, _, rfl, rfl, (by show 1 ≤ sizeLine; decide), fun p7 hp7 => ?_⟩
          have W21 := W20.new (o := .lst [.int (((vs ++ [V.ref a2]).length : Int) - 1)]) hp7
          refine ⟨p6, p7, _, _, rfl, rfl, by rw [upd_ne (ne_of_none upd_same hp7)]; exact upd_same, upd_same, szle (by have := cutV_length (S.js.map ni) none (some (-(m : Int))); show (cutV (S.js.map ni) none (some (-(m : Int)))).length + 1 ≤ 100000; omega), fun p8 hp8 => ?_⟩
          have W22 := W21.newT (xs := cutV (S.js.map ni) none (some (-(m : Int))) ++ [.int (((vs ++ [V.ref a2]).length : Int) - 1)]) (js := S.js.take (S.cs.length - m) ++ [S.ts.length]) hp8 (by rw [cf6, en]; exact map_ni_snoc _ _)
          -- deep
          refine ⟨_, rfl, _, rfl, _, rfl, _, rfl, _, _, rfl, SqL.of W22.q, fun p9 hp9 => ?_⟩
          have cf9 : cutV (S.dp.map ni) none (some (-(m : Int))) = (S.dp.take (S.cs.length - m)).map ni := by rw [cut_front hm1 (by rw [lq]; exact hmc), lq, map_ni_take]
          have W23 := W22.new (o := .lst (cutV (S.dp.map ni) none (some (-(m : Int))))) hp9
          refine ⟨_, rfl, _, rfl, _, rfl, _, rfl, _, _, rfl, SqL.of W23.q, fun p10 hp10 => ?_⟩
          have W24 := W23.new (o := .lst (cutV (S.dp.map ni) (some (-(m : Int))) none)) hp10
          refine ⟨p10, (S.dp.drop (S.cs.length - m)).map fun n : Nat => (n : Int), rfl, SqL.of (by rw [upd_same, cb3, ni_map]), by rw [List.length_map, List.length_drop, O.ld]; omega, fun z2 hz2 hle2 => ?_⟩
          obtain ⟨x2, hx2, rfl⟩ := List.mem_map.mp hz2
          have hle2' : ∀ y ∈ S.dp.drop (S.cs.length - m), y ≤ x2 := fun y hy => by
            have := hle2 (y : Int) (List.mem_map.mpr ⟨y, hy, rfl⟩)
            omega
          refine ⟨_, _, rfl, rfl, (by show 1 ≤ sizeLine; decide), fun p11 hp11 => ?_⟩
          have W25 := W24.new (o := .lst [.int (1 + (x2 : Int))]) hp11
          refine ⟨p9, p11, _, _, rfl, rfl, by rw [upd_ne (ne_of_none (by rw [upd_ne (ne_of_none upd_same hp10)]; exact upd_same) hp11), upd_ne (ne_of_none upd_same hp10)]; exact upd_same, upd_same, szle (by have := cutV_length (S.dp.map ni) none (some (-(m : Int))); show (cutV (S.dp.map ni) none (some (-(m : Int)))).length + 1 ≤ 100000; omega), fun p12 hp12 => ?_⟩
          have ex : (1 : Int) + (x2 : Int) = ((1 + x2 : Nat) : Int) := by omega
          have W26 := W25.newD (xs := cutV (S.dp.map ni) none (some (-(m : Int))) ++ [.int (1 + (x2 : Int))]) (js := S.dp.take (S.cs.length - m) ++ [1 + x2]) hp12 (by rw [cf9, ex]; exact map_ni_snoc _ _)
          -- runs
          refine ⟨_, rfl, _, rfl, _, rfl, _, rfl, _, _, rfl, SqL.of W26.r, fun p13 hp13 => ?_⟩
          have cf13 : cutV (S.rs.map ni) none (some (-(m : Int))) = (S.rs.take (S.cs.length - m)).map ni := by rw [cut_front hm1 (by rw [lr]; exact hmc), lr, map_ni_take]
          have W27 := W26.new (o := .lst (cutV (S.rs.map ni) none (some (-(m : Int))))) hp13
          refine ⟨_, rfl, _, rfl, _, rfl, _, rfl, _, rfl, _, _, rfl, SqL.of W27.r, fun p14 hp14 => ?_⟩
          have W28 := W27.new (o := .lst (cutV (S.rs.map ni) (some (-(m : Int))) none)) hp14
          refine ⟨p14, (S.rs.drop (S.cs.length - m)).map fun n : Nat => (n : Int), rfl, SqL.of (by rw [upd_same, cb4, ni_map]), ?_⟩
          have tl3 := hw.rn.2.1
          refine ⟨_, _, rfl, rfl, .inl ⟨by omega, by omega⟩, (by show 1 ≤ sizeLine; decide), fun p15 hp15 => ?_⟩
          have W29 := W28.new (o := .lst [.int ((times t : Int) * ((S.rs.drop (S.cs.length - m)).map fun n : Nat => (n : Int)).sum)]) hp15
          refine ⟨p13, p15, _, _, rfl, rfl, by rw [upd_ne (ne_of_none (by rw [upd_ne (ne_of_none upd_same hp14)]; exact upd_same) hp15), upd_ne (ne_of_none upd_same hp14)]; exact upd_same, upd_same, szle (by have := cutV_length (S.rs.map ni) none (some (-(m : Int))); show (cutV (S.rs.map ni) none (some (-(m : Int)))).length + 1 ≤ 100000; omega), fun p16 hp16 => ?_⟩
          have ey : (times t : Int) * ((S.rs.drop (S.cs.length - m)).map fun n : Nat => (n : Int)).sum = ((times t * (S.rs.drop (S.cs.length - m)).sum : Nat) : Int) := by rw [sum_cast, Int.natCast_mul]
          have W30 := (W29.newR (xs := cutV (S.rs.map ni) none (some (-(m : Int))) ++ [.int ((times t : Int) * ((S.rs.drop (S.cs.length - m)).map fun n : Nat => (n : Int)).sum)]) (js := S.rs.take (S.cs.length - m) ++ [times t * (S.rs.drop (S.cs.length - m)).sum]) hp16 (by rw [cf13, ey]; exact map_ni_snoc _ _)).cs (cs := S.cs.take (S.cs.length - m) ++ [t])
          exact ⟨p8, p12, p16, _, _, _, _, _, _, rfl, W30, O.wrap hm1 hm6 hmc hw hx2 hle2' (by have := hle' x2 hx2; omega) hs (by omega), by simp⟩
    · rintro σ H9 ⟨tp, dq, rq, vs, S, v7, v8, v9, v10, rfl, W9, O9, ne⟩
      refine ⟨tp, dq, rq, vs, S, _, _, _, _, _, rfl, W9, ?_, fun _ => ne⟩
      exact ⟨O9.kd, O9.fa, O9.sb, O9.ld, O9.lr, O9.dd, O9.d6, O9.rr, O9.sm, O9.sz, O9.la, by have := O9.ct; omega, O9.ln⟩
  · rintro σ H2 ⟨tp, dq, rq, vs, S, v6, v7, v8, v9, v10, rfl, W, O, ne⟩
    have hn8 : (1 + (r0 : Int)).toNat ≤ 8 := by omega
    have F0 : PlFin S.ts S.js S.cs 0 := (PlOk.mk (n := 24) (r := 58) (m := 8) O.kd O.fa O.sb O.ld O.lr O.dd O.d6 O.rr (by have := O.sm; omega) O.sz O.la (by have := O.ct; omega) (by have := O.ln; omega)).fin (ne (by omega))
    refine ⟨3, rfl, by decide, by decide, ?_⟩
    refine for_range (lo := 0) (n := 3) (fun i σ H' => ∃ (tp dq rq : Addr) (vs : List V) (S : PlS) (v6 v7 v8 v9 v10 : Option V), σ = [some (.ref b), some (.int 8), some (.ref nd), some (.ref tp), some (.ref dq), some (.ref rq), v6, v7, v8, v9, v10] ∧
      PlH H H' b d nd tp dq rq vs S ∧ PlFin S.ts S.js S.cs i) ⟨tp, dq, rq, vs, S, _, _, _, _, _, rfl, W, F0⟩ ?_ ?_
    · rintro i σ H3 hi ⟨tp, dq, rq, vs, S, v6, v7, v8, v9, v10, rfl, W, O⟩
      have lk := O.kd.len
      have lt : (S.js.map ni).length = S.cs.length := by rw [List.length_map, lk]
      refine ⟨_, rfl, _, _, rfl, .inl (SqL.of W.t), _, _, rfl, rfl, _, rfl, ?_⟩
      rw [lt]
      refine ite2 (fun c1 => ?m9) (fun c1 => ?s9)
      case s9 => exact ⟨tp, dq, rq, vs, S, _, _, _, _, _, rfl, W, O.stay (by have := of_decide_eq_false (Bool.eq_false_iff.mpr c1); omega)⟩
      have h1 : 1 < S.cs.length := by
        have := of_decide_eq_true c1
        omega
      have h8 : S.cs.length ≤ 8 := by
        have := O.ln
        split at this
        · exact this
        · split at this <;> omega
      have ct := O.ct
      -- many
      refine ⟨_, rfl, _, _, rfl, .inl (SqL.of W.t), 6, _, rfl, ?_⟩
      obtain ⟨m, hm⟩ : ∃ m : Nat, m = if S.cs.length < 6 then S.cs.length else 6 := ⟨_, rfl⟩
      have hmI : (if ((S.js.map ni).length : Int) < 6 then ((S.js.map ni).length : Int) else 6) = (m : Int) := by
        rw [lt, hm]
        by_cases h6 : S.cs.length < 6
        · rw [if_pos h6, if_pos (by omega)]
        · rw [if_neg h6, if_neg (by omega)]
          rfl
      rw [hmI]
      have hm1 : 1 ≤ m ∧ m ≤ 6 ∧ m ≤ S.cs.length := by
        rw [hm]
        split <;> omega
      refine ⟨_, rfl, .inl ⟨rfl, _, SqL.of W.n⟩, _, rfl, ?_⟩
      -- the kind
      refine ⟨(by show 5 ≤ sizeLine; decide), fun p hp => ?_⟩
      refine ⟨_, rfl, b, d, 5, rfl, W.bx.new hp, by decide, fun r2 H10 l2 bx10 k10 => ?_⟩
      obtain ⟨v1, hv1, a1⟩ := pick (xs := [.str "all", .str "race", .str "any", .str "pool", .str "sequence"]) (r := r2) (by simpa using l2)
      refine ⟨p, _, _, _, rfl, rfl, SqL.of (k10.keep _ _ (by simpa using (W.bx.ne hp).1.symm) upd_same), a1, ?_⟩
      obtain ⟨k, rfl, hk⟩ : ∃ k : Str, v1 = .str k ∧ (k = "pool" ∨ grpW k) := by
        simp only [List.mem_cons, List.not_mem_nil, or_false] at hv1
        rcases hv1 with rfl | rfl | rfl | rfl | rfl
        · exact ⟨_, rfl, .inr (.inl rfl)⟩
        · exact ⟨_, rfl, .inr (.inr (.inl rfl))⟩
        · exact ⟨_, rfl, .inr (.inr (.inr (.inl rfl)))⟩
        · exact ⟨_, rfl, .inl rfl⟩
        · exact ⟨_, rfl, .inr (.inr (.inr (.inr rfl)))⟩
      have W10 := (W.new (o := .lst [.str "all", .str "race", .str "any", .str "pool", .str "sequence"]) hp).step k10 bx10
      refine ⟨_, rfl, _, rfl, _, rfl, _, rfl, _, _, rfl, SqL.of W10.t, fun p5 hp5 => ?_⟩
      have cb5 : cutV (S.js.map ni) (some (-(m : Int))) none = (S.js.drop (S.cs.length - m)).map ni := by rw [cut_back hm1.1 (by rw [lt]; exact hm1.2.2), lt, map_ni_drop]
      have W16 := W10.new (o := .lst (cutV (S.js.map ni) (some (-(m : Int))) none)) hp5
      refine ⟨b, d, p5, k, S.js.drop (S.cs.length - m), S.cs.drop (S.cs.length - m), S.ts, rfl, W16.bx, by rw [upd_same, cb5], (W10.bx.ne hp5).1.symm, O.kd.drop _, hk.elim (fun z => .inr (.inr (.inl z))) (fun z => .inr (.inr (.inr z))), fun a2 t H17 hw hnd bx17 k17 => ?_⟩
      have W17 := W16.step k17 bx17
      have lv := W.len
      refine ⟨_, _, _, rfl, rfl, W17.n, szl (by omega), ?_⟩
      have W18 := W17.addN hnd
      have ht1 : times t = 1 := by
        rcases hw with ⟨h, _⟩ | ⟨h, _⟩ | ⟨h, _⟩ | ⟨_, s, _, _, rfl⟩ | ⟨_, rfl⟩
        · rcases hk with hk | hk
          · rw [hk] at h; exact absurd h (by decide +kernel)
          · exact absurd h (grpW_ne hk).1
        · rcases hk with hk | hk
          · rw [hk] at h; exact absurd h (by decide +kernel)
          · exact absurd h (grpW_ne hk).2.1
        · rcases hk with hk | hk
          · rw [hk] at h; exact absurd h (by decide +kernel)
          · exact absurd h (grpW_ne hk).2.2.1
        · rfl
        · rfl
      have en : ((vs ++ [V.ref a2]).length : Int) - 1 = ((S.ts.length : Nat) : Int) := by
        rw [List.length_append, List.length_cons, List.length_nil]
        omega
      -- tops
      refine ⟨_, rfl, _, rfl, _, rfl, _, rfl, _, _, rfl, SqL.of W18.t, fun p6 hp6 => ?_⟩
      have cf6 : cutV (S.js.map ni) none (some (-(m : Int))) = (S.js.take (S.cs.length - m)).map ni := by rw [cut_front hm1.1 (by rw [lt]; exact hm1.2.2), lt, map_ni_take]
      have W20 := W18.new (o := .lst (cutV (S.js.map ni) none (some (-(m : Int))))) hp6
      refine ⟨_, rfl, _, _, rfl, .inl (SqL.of W20.n), _, _, rfl, rfl, (by show 1 ≤ sizeLine; decide), fun p7 hp7 => ?_⟩
      have W21 := W20.new (o := .lst [.int (((vs ++ [V.ref a2]).length : Int) - 1)]) hp7
      refine ⟨p6, p7, _, _, rfl, rfl, by rw [upd_ne (ne_of_none upd_same hp7)]; exact upd_same, upd_same, szle (by have := cutV_length (S.js.map ni) none (some (-(m : Int))); show (cutV (S.js.map ni) none (some (-(m : Int)))).length + 1 ≤ 100000; omega), fun p8 hp8 => ?_⟩
      have W22 := (W21.newT (xs := cutV (S.js.map ni) none (some (-(m : Int))) ++ [.int (((vs ++ [V.ref a2]).length : Int) - 1)]) (js := S.js.take (S.cs.length - m) ++ [S.ts.length]) hp8 (by rw [cf6, en]; exact map_ni_snoc _ _)).cs (cs := S.cs.take (S.cs.length - m) ++ [t])
      exact ⟨p8, dq, rq, _, _, _, _, _, _, _, rfl, W22, O.wrap h1 hm hw ht1⟩
    · rintro σ H3 ⟨tp, dq, rq, vs, S, v6, v7, v8, v9, v10, rfl, W, O⟩
      obtain ⟨t, pl⟩ := O.plan
      refine ⟨_, rfl, _, _, rfl, .inl ⟨SqL.of W.n, fun l hl => ?_⟩⟩
      exact q l vs S.ts t _ upd_same (W.ns.kp ((Kp.refl [] _).new hl)) pl (W.bx.new hl) (W.kp.new hl)
end
end K6
namespace K6
open PySem L2
/-! ### rows as they stand -/
inductive RwAt (H : Hp) : List V → List Row → Prop
  | nil : RwAt H [] []
  | cons {a : Addr} {r : Row} {vs : List V} {R : List Row} : H a = some (.tup [.str r.1, .str r.2]) → RwAt H vs R → RwAt H (.ref a :: vs) (r :: R)
theorem RwAt.kp {H H' : Hp} {S : List Addr} (k : Kp S H H') : ∀ {vs : List V} {R : List Row}, RwAt H vs R → RwAt H' vs R
  | _, _, .nil => .nil
  | _, _, .cons h t => .cons (k.tup _ _ h) (t.kp k)
theorem RwAt.app {H : Hp} : ∀ {vs us : List V} {R S : List Row}, RwAt H vs R → RwAt H us S → RwAt H (vs ++ us) (R ++ S)
  | _, _, _, _, .nil, h => h
  | _, _, _, _, .cons h t, h2 => .cons h (t.app h2)
theorem RwAt.len {H : Hp} : ∀ {vs : List V} {R : List Row}, RwAt H vs R → vs.length = R.length
  | _, _, .nil => rfl
  | _, _, .cons _ t => by rw [List.length_cons, List.length_cons, t.len]
theorem RwAt.get {H : Hp} : ∀ {vs : List V} {R : List Row} {i : Nat} {r : Row}, RwAt H vs R → R[i]? = some r → ∃ a, vs[i]? = some (.ref a) ∧ H a = some (.tup [.str r.1, .str r.2])
  | _, _, i, r, .nil, h => by simp at h
  | _, _, 0, r, .cons h t, e => by
    have e' := Option.some.inj e
    subst e'
    exact ⟨_, rfl, h⟩
  | _, _, i + 1, r, .cons h t, e => t.get (i := i) e
/-! ### what reads to a text, to rows -/
def StrTo (te : TE) (σ : L2.St) (H : Hp) (x : Str) : Prop := ∀ H1, Kp [] H H1 → ∀ Q : VK, Q (.str x) H1 → te σ H1 Q
def RowsTo (ta : TA) (σ : L2.St) (H : Hp) (R : List Row) : Prop := ∀ H1, Kp [] H H1 → ∀ Q : List V → Hp → Prop, (∀ us H2, Kp [] H1 H2 → RwAt H2 us R → Q us H2) → ta σ H1 Q
section
variable {σ : L2.St} {H : Hp} {ta tb : TE} {tr : TA} {R : List Row} {x y : Str}
theorem st_c : StrTo (tC (.str x)) σ H x := fun H1 _ Q q => q
theorem st_v {i : Nat} (h : σ[i]? = some (some (.str x))) : StrTo (tVar i) σ H x := fun H1 _ Q q => ⟨_, h, q⟩
theorem rt_nil : RowsTo tNil σ H [] := fun H1 _ Q q => q [] H1 (Kp.refl _ _) .nil
theorem rt_cons (ha : StrTo ta σ H x) (hb : StrTo tb σ H y) (hr : RowsTo tr σ H R) : RowsTo (tCons (tTup (tCons ta (tCons tb tNil))) tr) σ H ((x, y) :: R) := fun H1 k Q q => by
  refine ha H1 k _ (hb H1 k _ ⟨(by show 2 ≤ sizeLine; decide), fun p hp => ?_⟩)
  have k1 : Kp [] H1 (upd H1 p (.tup [.str x, .str y])) := (Kp.refl _ _).new hp
  refine hr _ (k.trans k1) _ fun us H2 k2 rw => ?_
  exact q _ H2 (k1.trans k2) (.cons (k2.tup _ _ upd_same) rw)
/-- a displayed list of rows -/
theorem rt_lst {Q : VK} (hr : RowsTo tr σ H R) (hl : R.length ≤ 100000) (q : ∀ (p : Addr) (us : List V) (H2 : Hp), Kp [] H H2 → H p = none → H2 p = some (.lst us) → RwAt H2 us R → Q (.ref p) H2) : tLst tr σ H Q := by
  refine hr H (Kp.refl _ _) _ fun us H2 k rw => ⟨szle (by rw [rw.len]; exact hl), fun p hp => ?_⟩
  have k1 : Kp [] H2 (upd H2 p (.lst us)) := (Kp.refl _ _).new hp
  exact q p us _ (k.trans k1) (k.free hp) upd_same (rw.kp k1)
/-- rows in slot j, and a displayed list of rows behind them -/
theorem cat_lst {Q : VK} {j : Nat} {l : Addr} {us0 : List V} {R0 : List Row} (hσ : σ[j]? = some (some (.ref l))) (h0 : H l = some (.lst us0)) (r0 : RwAt H us0 R0) (hr : RowsTo tr σ H R) (hl : R0.length + R.length ≤ 100000)
    (q : ∀ (p : Addr) (us : List V) (H2 : Hp), Kp [] H H2 → H p = none → H2 p = some (.lst us) → RwAt H2 us (R0 ++ R) → Q (.ref p) H2) : tOp rCat (tVar j) (tLst tr) σ H Q := by
  refine ⟨_, hσ, rt_lst hr (by omega) fun p us H2 k f e rw => ⟨l, p, us0, us, rfl, rfl, k.keep _ _ (by simp) h0, e, szle (by rw [r0.len, rw.len]; exact hl), fun p2 hp2 => ?_⟩⟩
  have k2 : Kp [] H2 (upd H2 p2 (.lst (us0 ++ us))) := (Kp.refl _ _).new hp2
  exact q p2 _ _ (k.trans k2) (k.free hp2) upd_same (((r0.kp k).app rw).kp k2)
variable {D : Ends} {tz : TS} {i j : Nat}
theorem q_lst (hr : RowsTo tr σ H R) (hl : R.length ≤ 100000) (q : ∀ (p : Addr) (us : List V) (H2 : Hp), Kp [] H H2 → H p = none → H2 p = some (.lst us) → RwAt H2 us R → tz D (σ.set i (some (.ref p))) H2) : tSeq (tAsg (tLst tr) (gName i)) tz D σ H := rt_lst (Q := fun x H1 => tz D (σ.set i (some x)) H1) hr hl q
theorem q_cat {l : Addr} {us0 : List V} {R0 : List Row} (hσ : σ[j]? = some (some (.ref l))) (h0 : H l = some (.lst us0)) (r0 : RwAt H us0 R0) (hr : RowsTo tr σ H R) (hl : R0.length + R.length ≤ 100000)
    (q : ∀ (p : Addr) (us : List V) (H2 : Hp), Kp [] H H2 → H p = none → H2 p = some (.lst us) → RwAt H2 us (R0 ++ R) → tz D (σ.set i (some (.ref p))) H2) : tSeq (tAsg (tOp rCat (tVar j) (tLst tr)) (gName i)) tz D σ H := cat_lst (Q := fun x H1 => tz D (σ.set i (some x)) H1) hσ h0 r0 hr hl q
theorem s_cat {l : Addr} {us0 : List V} {R0 : List Row} (hσ : σ[j]? = some (some (.ref l))) (h0 : H l = some (.lst us0)) (r0 : RwAt H us0 R0) (hr : RowsTo tr σ H R) (hl : R0.length + R.length ≤ 100000)
    (q : ∀ (p : Addr) (us : List V) (H2 : Hp), Kp [] H H2 → H p = none → H2 p = some (.lst us) → RwAt H2 us (R0 ++ R) → D.nx (σ.set i (some (.ref p))) H2) : tAsg (tOp rCat (tVar j) (tLst tr)) (gName i) D σ H := cat_lst (Q := fun x H1 => D.nx (σ.set i (some x)) H1) hσ h0 r0 hr hl q
theorem r_cat {l : Addr} {us0 : List V} {R0 : List Row} (hσ : σ[j]? = some (some (.ref l))) (h0 : H l = some (.lst us0)) (r0 : RwAt H us0 R0) (hr : RowsTo tr σ H R) (hl : R0.length + R.length ≤ 100000)
    (q : ∀ (p : Addr) (us : List V) (H2 : Hp), Kp [] H H2 → H p = none → H2 p = some (.lst us) → RwAt H2 us (R0 ++ R) → D.rt (.ref p) H2) : tRet (tOp rCat (tVar j) (tLst tr)) D σ H := cat_lst (Q := D.rt) hσ h0 r0 hr hl q
/-- str(node[i]), a number of the tuple at a -/
theorem st_num {X : Cx} {i : Int} {j : Nat} {a : Addr} {xs : List V} {n : Nat} (hσ : σ[j]? = some (some (.ref a))) (ha : H a = some (.tup xs)) (hx : atI xs i = some (ni n)) (hn : n ≤ 1000) :
    StrTo (tCB (fun ys H Q => ∃ i, ys = [.int i] ∧ i.natAbs.log2 < 1920 ∧ Q (.str (toString i)) H) (tCons (tOp (rIxT X.K) (tVar j) (tC (.int i))) tNil)) σ H (num n) := fun H1 k Q q => by
  refine ⟨_, hσ, a, xs, i, _, rfl, rfl, SqT.of (k.tup _ _ ha), hx, _, rfl, ?_, q⟩
  have e : ((n : Int)).natAbs = n := by omega
  rw [e]
  have := Nat.log2_le_self n
  omega
end
section
variable {P : Program} {w : World} {K : PySem.W.Frag} {mg : Str → Option Value} {base : Heap} {CR CT CO CF WA fR fT fO : Addr}
def spJobTok : Sp := fun vs H Q _ => ∃ (a : Addr) (d v c : Nat) (g : Bool) (f : Option Nat), vs = [.ref a] ∧ H a = some (.tup [.str "job", ni d, .str (gw g), ni v, ni c, fv f]) ∧ fit (.job d g v c f) ∧
  ∀ (p : Addr) (us : List V) (H' : Hp), H p = none → H' p = some (.lst us) → RwAt H' us (jobRows d g v c f) → Kp [] H H' → Q (.ref p) H'
theorem use_jobTok (T : Txt K mg CR CT CO CF WA fR fT fO) : Use P w K mg base CX0 1 "_law_job_tokens" p__law_job_tokens spJobTok := by
  refine use_of T.d_law_job_tokens (fun f fd F => F.binds fun _ _ _ _ _ _ us hl => match us, hl with | [_], _ => rfl) fun f fd F => ?_
  refine F.ok sc__law_job_tokens (fun vs H Q E h => ?_) (fun cdv A outer s H vs Q E hr h => ?_)
  · obtain ⟨a, d, v, c, g, f, rfl, _⟩ := h
    rfl
  obtain ⟨a, d, v, c, g, f, rfl, ha, ⟨hd, hv, hc, hf⟩, q⟩ := h
  refine ⟨_, (pss_cons (ps_set (i := 1) sc__law_job_tokens.nd rfl (Or.inl rfl) pe_str)
      (Evl.pss_cut (ps_if (pt_cmpR op_eq (pe_ix ix_tup (pv 0) pe_int (fun _ _ => rfl)) pe_str (nomark _)) (pss_one (ps_set (i := 1) sc__law_job_tokens.nd rfl (Or.inl rfl) pe_str)) pss_nil)
      (pss_cons (ps_set (i := 2) sc__law_job_tokens.nd rfl (Or.inl rfl) (pe_lst (pa_cons (pe_tup (pa_cons pe_str (pa_cons pe_str pa_nil))) (pa_cons (pe_tup (pa_cons pe_str (pa_cons pe_str pa_nil))) (pa_cons (pe_tup (pa_cons (pe_callTy call_str_int (by rfl) T.n_str (by decide +kernel) (pa_cons (pe_ix ix_tup (pv 0) pe_int (fun _ _ => rfl)) pa_nil)) (pa_cons pe_str pa_nil))) (pa_cons (pe_tup (pa_cons pe_str (pa_cons pe_str pa_nil))) pa_nil))))))
      (pss_cons (ps_set (i := 2) sc__law_job_tokens.nd rfl (Or.inl rfl) (pe_op op_cat (pv 2) (pe_lst (pa_cons (pe_tup (pa_cons (pv 1) (pa_cons pe_str pa_nil))) (pa_cons (pe_tup (pa_cons (pe_callTy call_str_int (by rfl) T.n_str (by decide +kernel) (pa_cons (pe_ix ix_tup (pv 0) pe_int (fun _ _ => rfl)) pa_nil)) (pa_cons pe_str pa_nil))) (pa_cons (pe_tup (pa_cons pe_str (pa_cons pe_str pa_nil))) (pa_cons (pe_tup (pa_cons (pe_callTy call_str_int (by rfl) T.n_str (by decide +kernel) (pa_cons (pe_ix ix_tup (pv 0) pe_int (fun _ _ => rfl)) pa_nil)) (pa_cons pe_str pa_nil))) pa_nil)))))))
      (pss_cons (ps_if (pt_cmpR op_notN (pe_ix ix_tup (pv 0) pe_int (fun _ _ => rfl)) pe_non (nomark _)) (pss_cons (ps_set (i := 2) sc__law_job_tokens.nd rfl (Or.inl rfl) (pe_op op_cat (pv 2) (pe_lst (pa_cons (pe_tup (pa_cons pe_str (pa_cons pe_str pa_nil))) (pa_cons (pe_tup (pa_cons pe_str (pa_cons pe_str pa_nil))) (pa_cons (pe_tup (pa_cons (pe_callTy call_str_int (by rfl) T.n_str (by decide +kernel) (pa_cons (pe_ix ix_tup (pv 0) pe_int (fun _ _ => rfl)) pa_nil)) (pa_cons pe_str pa_nil))) (pa_cons (pe_tup (pa_cons pe_str (pa_cons pe_str pa_nil))) pa_nil)))))))
      (pss_one (ps_ret (pv 2)))) pss_nil)
      (pss_one (ps_ret (pe_op op_cat (pv 2) (pe_lst (pa_cons (pe_tup (pa_cons pe_str (pa_cons pe_str pa_nil))) pa_nil)))))))))), ?_⟩
  -- the sign
  refine ⟨fun σ' H' => σ' = [some (.ref a), some (.str (if g then "+" else "-")), none] ∧ H' = H, ?_, ?_⟩
  · refine ⟨_, rfl, _, _, _, _, rfl, rfl, SqT.of ha, rfl, rfl, ?_⟩
    cases g with
    | true => exact ⟨false, ttF (by decide +kernel), iteF ⟨rfl, rfl⟩⟩
    | false => exact ⟨true, ttT (by decide +kernel), iteT ⟨rfl, rfl⟩⟩
  rintro σ' H' ⟨rfl, rfl⟩
  refine q_lst (R := [rPlan "job", rOpen, rNum d, rComma]) (rt_cons st_c st_c (rt_cons st_c st_c (rt_cons (st_num (i := 1) (j := 0) rfl ha rfl (by omega)) st_c (rt_cons st_c st_c rt_nil)))) (by show 4 ≤ 100000; decide) fun l1 us1 H1 k1 f1 e1 rw1 => ?_
  refine q_cat (R := [rSign g, rNum v, rComma, rNum c]) rfl e1 rw1 (rt_cons (st_v rfl) st_c (rt_cons (st_num (i := 3) (j := 0) rfl (k1.tup _ _ ha) rfl (by omega)) st_c (rt_cons st_c st_c (rt_cons (st_num (i := 4) (j := 0) rfl (k1.tup _ _ ha) rfl (by omega)) st_c rt_nil)))) (by show 4 + 4 ≤ 100000; decide) fun p3 us3 H3 k3 f3 e3 rw3 => ?_
  have kk : Kp [] H' H3 := k1.trans k3
  have ha3 := kk.tup _ _ ha
  refine ⟨_, rfl, _, _, _, _, rfl, rfl, SqT.of ha3, rfl, rfl, _, rfl, ?_⟩
  cases f with
  | none =>
    refine iteF ?_
    refine r_cat (R := [rShutM]) rfl e3 rw3 (rt_cons st_c st_c rt_nil) (by show 8 + 1 ≤ 100000; decide) fun p5 us5 H5 k5 f5 e5 rw5 => ?_
    exact q p5 _ _ (kk.free f5) e5 rw5 (kk.trans k5)
  | some x =>
    have hx := hf x rfl
    refine iteT ?_
    refine q_cat (R := [rMore, rBang, rNum x, rShut]) rfl e3 rw3 (rt_cons st_c st_c (rt_cons st_c st_c (rt_cons (st_num (i := 5) (j := 0) rfl ha3 rfl (by omega)) st_c (rt_cons st_c st_c rt_nil)))) (by show 8 + 4 ≤ 100000; decide) fun p5 us5 H5 k5 f5 e5 rw5 => ?_
    exact ⟨_, rfl, q p5 _ _ (kk.free f5) e5 rw5 (kk.trans k5)⟩
end
end K6
/-! K6Len: how long the rows and their text may be; each row's token is a token. -/
namespace K6
open PySem
mutual
theorem toks_len : ∀ t : Tr, (toks t).length + 1 ≤ 13 * sz t
  | .job d g v c f => by
    cases f <;> simp [toks, jobRows, sz]
  | .grp w ts => by
    have := more_len ts
    simp only [toks, hd, sz, List.length_append, List.length_cons, List.length_nil, List.length_drop]
    omega
  | .pool s ts => by
    have := more_len ts
    simp only [toks, hd, nums, sz, List.length_append, List.length_cons, List.length_nil, List.length_drop]
    omega
  | .tmo n t => by
    have := toks_len t
    simp only [toks, hd, nums, sz, List.length_append, List.length_cons, List.length_nil]
    omega
  | .ore a b => by
    have := toks_len a
    have := toks_len b
    simp only [toks, hd, nums, sz, List.length_append, List.length_cons, List.length_nil]
    omega
  | .rty r d t => by
    have := toks_len t
    simp only [toks, hd, nums, sz, List.length_append, List.length_cons, List.length_nil]
    omega
theorem more_len : ∀ ts : List Tr, (more ts).length ≤ 13 * szs ts
  | [] => Nat.zero_le _
  | t :: r => by
    have := toks_len t
    have := more_len r
    simp only [more, szs, List.length_append, List.length_cons]
    omega
end
theorem wd_cons (r : Row) (R : List Row) : wd (r :: R) = (cz r.1).length + 1 + wd R := by simp [wd]
theorem wd_nil : wd [] = 0 := rfl
theorem wd_drop (R : List Row) (n : Nat) : wd (R.drop n) ≤ wd R := by
  have h := wd_app (R.take n) (R.drop n)
  rw [List.take_append_drop] at h
  omega
def wl (s : Str) : Nat := (cz s).length
theorem wl_words : wl "job" = 3 ∧ wl "all" = 3 ∧ wl "race" = 4 ∧ wl "any" = 3 ∧ wl "pool" = 4 ∧ wl "timeout" = 7 ∧ wl "sequence" = 8 ∧ wl "orelse" = 6 ∧ wl "retry" = 5 := by decide +kernel
theorem wl_signs : wl "(" = 1 ∧ wl ")" = 1 ∧ wl "," = 1 ∧ wl "!" = 1 ∧ wl "+" = 1 ∧ wl "-" = 1 := by decide +kernel
theorem wd_hd (w : Str) : wd (hd w) = wl w + 3 := by
  have h := wl_signs.1
  show wd [rPlan w, rOpen] = _
  rw [wd_cons, wd_cons, wd_nil]
  show wl w + 1 + (wl "(" + 1 + 0) = _
  omega
theorem wd_nums {n : Nat} (h : n ≤ 1000) : wd (nums n) ≤ 7 := by
  have h1 := wl_signs.2.2.1
  have h2 := num_len (n := n) (by omega)
  show wd [rNum n, rComma] ≤ _
  rw [wd_cons, wd_cons, wd_nil]
  show (cz (num n)).length + 1 + (wl "," + 1 + 0) ≤ _
  omega
theorem wd_one (r : Row) (h : wl r.1 = 1) : wd [r] = 2 := by
  rw [wd_cons, wd_nil]
  show wl r.1 + 1 + 0 = 2
  omega
theorem grpW_wl {w : Str} (h : grpW w) : wl w ≤ 8 := by
  obtain ⟨_, h1, h2, h3, _, _, h4, _⟩ := wl_words
  rcases h with rfl | rfl | rfl | rfl <;> omega
mutual
theorem toks_wd : ∀ t : Tr, fit t → wd (toks t) + 2 ≤ 40 * sz t
  | .job d g v c f, h => by
    obtain ⟨hd', hv, hc, hf⟩ := h
    have n1 := num_len (n := d) (by omega)
    have n2 := num_len3 (n := v) (by omega)
    have n3 := num_len3 (n := c) (by omega)
    obtain ⟨s1, s2, s3, s4, s5, s6⟩ := wl_signs
    have w1 := wl_words.1
    have sg : wl (if g then "+" else "-") = 1 := by cases g; exact s6; exact s5
    unfold wl at *
    cases f with
    | none =>
      simp only [toks, jobRows, wd_app, wd_cons, wd_nil, rPlan, rOpen, rNum, rComma, rSign, rShutM, sz]
      omega
    | some k =>
      have n4 := num_len3 (n := k) (by have := hf k rfl; omega)
      simp only [toks, jobRows, wd_app, wd_cons, wd_nil, rPlan, rOpen, rNum, rComma, rSign, rShut, rMore, rBang, sz]
      omega
  | .grp w ts, h => by
    have h1 := more_wd ts h.2.2.2
    have h2 := grpW_wl h.1
    have h3 := wd_drop (more ts) 1
    have h4 := wd_one rShutM wl_signs.2.1
    simp only [toks, wd_app, wd_hd, sz]
    omega
  | .pool s ts, h => by
    have h1 := more_wd ts h.2.2.2.2
    have h2 := wl_words.2.2.2.2.1
    have h3 := wd_drop (more ts) 1
    have h4 := wd_one rShutM wl_signs.2.1
    have h5 := wd_nums (n := s) (by have := h.2.1; omega)
    simp only [toks, wd_app, wd_hd, sz]
    omega
  | .tmo n t, h => by
    have h1 := toks_wd t h.2
    have h2 := wl_words.2.2.2.2.2.1
    have h4 := wd_one rShut wl_signs.2.1
    have h5 := wd_nums (n := n) h.1
    simp only [toks, wd_app, wd_hd, sz]
    omega
  | .ore a b, h => by
    have h1 := toks_wd a h.1
    have h1' := toks_wd b h.2
    have h2 := wl_words.2.2.2.2.2.2.2.1
    have h4 := wd_one rShut wl_signs.2.1
    have h5 := wd_one rComma wl_signs.2.2.1
    simp only [toks, wd_app, wd_hd, sz]
    omega
  | .rty r d t, h => by
    have h1 := toks_wd t h.2.2
    have h2 := wl_words.2.2.2.2.2.2.2.2
    have h4 := wd_one rShut wl_signs.2.1
    have h5 := wd_nums (n := r) (by have := h.1; omega)
    have h6 := wd_nums (n := d) (by have := h.2.1; omega)
    simp only [toks, wd_app, wd_hd, sz]
    omega
theorem more_wd : ∀ ts : List Tr, fits ts → wd (more ts) ≤ 40 * szs ts
  | [], _ => Nat.zero_le _
  | t :: r, h => by
    have h1 := toks_wd t h.1
    have h2 := more_wd r h.2
    have h3 := wl_signs.2.2.1
    simp only [more, wd_cons, wd_app, szs]
    unfold wl at h3
    show (cz rMore.1).length + 1 + (wd (toks t) + wd (more r)) ≤ _
    have e : (cz rMore.1).length = 1 := h3
    omega
end
/-! ### each row's token is a token -/
theorem tok_sign {s : Str} {c : Nat} (e : cz s = [c]) (h : SignC c) : Tok (cz s) := .inl ⟨c, e, h⟩
theorem tok_num (n : Nat) : Tok (cz (num n)) := by
  have e : cz (num n) = TL.numL n := TL.tl_num n
  rw [e]
  refine .inr (.inr ⟨TL.numL_ne n, fun x hx => ?_⟩)
  have := TL.numL_digits n x hx
  simp only [isD, decide_eq_true_eq]
  exact this
theorem tok_signs : ∀ s ∈ signs, Tok (cz s) := by
  intro s hs
  have key : ∀ s ∈ signs, (cz s) ∈ ([[40], [44], [41], [33], [43], [45]] : List Cs) := by
    intro s hs
    rw [← signs_cz]
    exact List.mem_map.mpr ⟨s, hs, rfl⟩
  have h := key s hs
  simp only [List.mem_cons, List.not_mem_nil, or_false] at h
  rcases h with h | h | h | h | h | h <;> exact tok_sign h (by unfold SignC; decide)
theorem tok_words : ∀ s ∈ planWords, Tok (cz s) := by
  have key : (planWords.map cz).all (fun l => !l.isEmpty && l.all isL) = true := by rw [words_cz]; decide
  intro s hs
  have h := List.all_eq_true.mp key (cz s) (List.mem_map.mpr ⟨s, hs, rfl⟩)
  rw [Bool.and_eq_true] at h
  refine .inr (.inl ⟨fun e => ?_, fun x hx => List.all_eq_true.mp h.2 x hx⟩)
  rw [e] at h
  exact absurd h.1 (by decide)
theorem grpW_mem {w : Str} (h : grpW w) : w ∈ planWords := by
  rcases h with rfl | rfl | rfl | rfl <;> decide +kernel
def TokR (R : List Row) : Prop := ∀ r ∈ R, Tok (cz r.1)
theorem TokR.app {R S : List Row} (a : TokR R) (b : TokR S) : TokR (R ++ S) := fun r hr => (List.mem_append.mp hr).elim (a r) (b r)
theorem TokR.drop {R : List Row} {n : Nat} (a : TokR R) : TokR (R.drop n) := fun r hr => a r (List.mem_of_mem_drop hr)
theorem TokR.hd {w : Str} (h : w ∈ planWords) : TokR (K6.hd w) := fun r hr => by
  simp only [K6.hd, List.mem_cons, List.not_mem_nil, or_false] at hr
  rcases hr with rfl | rfl
  · exact tok_words w h
  · exact tok_signs "(" (by decide +kernel)
theorem TokR.nums (n : Nat) : TokR (K6.nums n) := fun r hr => by
  simp only [K6.nums, List.mem_cons, List.not_mem_nil, or_false] at hr
  rcases hr with rfl | rfl
  · exact tok_num n
  · exact tok_signs "," (by decide +kernel)
theorem TokR.one {r : Row} (h : r.1 ∈ signs) : TokR [r] := fun s hs => by
  have e : s = r := by simpa using hs
  subst e
  exact tok_signs _ h
mutual
theorem toks_tok : ∀ t : Tr, fit t → TokR (toks t)
  | .job d g v c f, h => by
    have sg : Tok (cz (rSign g).1) := by
      cases g
      · exact tok_signs "-" (by decide +kernel)
      · exact tok_signs "+" (by decide +kernel)
    have c1 : Tok (cz ("," : Str)) := tok_signs "," (by decide +kernel)
    have c2 : Tok (cz (")" : Str)) := tok_signs ")" (by decide +kernel)
    have c3 : Tok (cz ("(" : Str)) := tok_signs "(" (by decide +kernel)
    have c4 : Tok (cz ("!" : Str)) := tok_signs "!" (by decide +kernel)
    have c5 : Tok (cz ("job" : Str)) := tok_words "job" (by decide +kernel)
    intro r hr
    cases f with
    | none =>
      simp only [toks, jobRows, List.mem_append, List.mem_cons, List.not_mem_nil, or_false] at hr
      rcases hr with ((rfl | rfl | rfl | rfl) | (rfl | rfl | rfl | rfl)) | rfl
      · exact c5
      · exact c3
      · exact tok_num _
      · exact c1
      · exact sg
      · exact tok_num _
      · exact c1
      · exact tok_num _
      · exact c2
    | some k =>
      simp only [toks, jobRows, List.mem_append, List.mem_cons, List.not_mem_nil, or_false] at hr
      rcases hr with ((rfl | rfl | rfl | rfl) | (rfl | rfl | rfl | rfl)) | (rfl | rfl | rfl | rfl)
      · exact c5
      · exact c3
      · exact tok_num _
      · exact c1
      · exact sg
      · exact tok_num _
      · exact c1
      · exact tok_num _
      · exact c1
      · exact c4
      · exact tok_num _
      · exact c2
  | .grp w ts, h => ((TokR.hd (grpW_mem h.1)).app (more_tok ts h.2.2.2).drop).app (TokR.one (by decide +kernel))
  | .pool s ts, h => (((TokR.hd (by decide +kernel)).app (TokR.nums s)).app (more_tok ts h.2.2.2.2).drop).app (TokR.one (by decide +kernel))
  | .tmo n t, h => (((TokR.hd (by decide +kernel)).app (TokR.nums n)).app (toks_tok t h.2)).app (TokR.one (by decide +kernel))
  | .ore a b, h => ((((TokR.hd (by decide +kernel)).app (toks_tok a h.1)).app (TokR.one (by decide +kernel))).app (toks_tok b h.2)).app (TokR.one (by decide +kernel))
  | .rty r d t, h => ((((TokR.hd (by decide +kernel)).app (TokR.nums r)).app (TokR.nums d)).app (toks_tok t h.2.2)).app (TokR.one (by decide +kernel))
theorem more_tok : ∀ ts : List Tr, fits ts → TokR (more ts)
  | [], _ => fun r hr => by cases hr
  | t :: r, h => fun s hs => by
    rw [more] at hs
    rcases List.mem_cons.mp hs with rfl | hs
    · exact tok_signs "," (by decide +kernel)
    · rcases List.mem_append.mp hs with hs | hs
      · exact toks_tok t h.1 s hs
      · exact more_tok r h.2 s hs
end
end K6
namespace K6
open PySem L2
/-- the rows of the nodes ahead, by their trees -/
def PartsAt (H : Hp) (ps : List V) (ts : List Tr) : Prop := ps.length = ts.length ∧ ∀ (j : Nat) (t : Tr), ts[j]? = some t → ∃ (l : Addr) (us : List V), ps[j]? = some (.ref l) ∧ H l = some (.lst us) ∧ RwAt H us (toks t)
theorem PartsAt.kp {H H' : Hp} {ps : List V} {ts : List Tr} (h : PartsAt H ps ts) (k : Kp [] H H') : PartsAt H' ps ts := ⟨h.1, fun j t e => by
  obtain ⟨l, us, h1, h2, h3⟩ := h.2 j t e
  exact ⟨l, us, h1, k.keep _ _ (by simp) h2, h3.kp k⟩⟩
/-- what reads to a list of rows; a new one -/
def LstTo (te : TE) (σ : L2.St) (H : Hp) (R : List Row) : Prop := ∀ H1, Kp [] H H1 → ∀ Q : VK, (∀ p us H2, Kp [] H1 H2 → H2 p = some (.lst us) → RwAt H2 us R → Q (.ref p) H2) → te σ H1 Q
def NewTo (te : TE) (σ : L2.St) (H : Hp) (R : List Row) : Prop := ∀ H1, Kp [] H H1 → ∀ Q : VK, (∀ p us H2, Kp [] H1 H2 → H1 p = none → H2 p = some (.lst us) → RwAt H2 us R → Q (.ref p) H2) → te σ H1 Q
section
variable {σ : L2.St} {H : Hp} {ta tb : TE} {tr : TA} {R R0 R1 : List Row} {x y : Str} {K : PySem.W.Frag}
theorem NewTo.lst (h : NewTo ta σ H R) : LstTo ta σ H R := fun H1 k Q q => h H1 k Q fun p us H2 k2 _ e rw => q p us H2 k2 e rw
theorem nt_disp (hr : RowsTo tr σ H R) (hl : R.length ≤ 100000) : NewTo (tLst tr) σ H R := fun H1 k Q q =>
  rt_lst (fun H2 k2 => hr H2 (k.trans k2)) hl fun p us H2 k2 f e rw => q p us H2 k2 f e rw
theorem lt_var {j : Nat} {l : Addr} {us : List V} (hσ : σ[j]? = some (some (.ref l))) (h : H l = some (.lst us)) (rw : RwAt H us R) : LstTo (tVar j) σ H R := fun H1 k Q q =>
  ⟨_, hσ, q l us H1 (Kp.refl _ _) (k.keep _ _ (by simp) h) (rw.kp k)⟩
theorem nt_cat (ha : LstTo ta σ H R0) (hb : LstTo tb σ H R1) (hl : R0.length + R1.length ≤ 100000) : NewTo (tOp rCat ta tb) σ H (R0 ++ R1) := fun H1 k Q q => by
  refine ha H1 k _ fun p0 us0 H2 k2 e0 r0 => hb H2 (k.trans k2) _ fun p1 us1 H3 k3 e1 r1 => ?_
  refine ⟨p0, p1, us0, us1, rfl, rfl, k3.keep _ _ (by simp) e0, e1, szle (by rw [r0.len, r1.len]; exact hl), fun p hp => ?_⟩
  have k4 : Kp [] H3 (upd H3 p (.lst (us0 ++ us1))) := (Kp.refl _ _).new hp
  exact q p _ _ ((k2.trans k3).trans k4) ((k2.trans k3).free hp) upd_same (((r0.kp k3).app r1).kp k4)
/-- an item of a tuple in slot j, by a written place -/
def IntTo (te : TE) (σ : L2.St) (H : Hp) (n : Nat) : Prop := ∀ H1, Kp [] H H1 → ∀ Q : VK, Q (ni n) H1 → te σ H1 Q
theorem it_ix {i : Int} {j : Nat} {a : Addr} {xs : List V} {n : Nat} (hσ : σ[j]? = some (some (.ref a))) (ha : H a = some (.tup xs)) (hx : atI xs i = some (ni n)) : IntTo (tOp (rIxT K) (tVar j) (tC (.int i))) σ H n := fun H1 k Q q =>
  ⟨_, hσ, a, xs, i, _, rfl, rfl, SqT.of (k.tup _ _ ha), hx, q⟩
theorem it_last {j : Nat} {a : Addr} {xs : List V} {n : Nat} (hσ : σ[j]? = some (some (.ref a))) (ha : H a = some (.tup xs)) (hx : atI xs (-1) = some (ni n)) : IntTo (tOp (rIxT K) (tVar j) (tUn (rU fun i => .int (-i)) (tC (.int 1)))) σ H n := fun H1 k Q q =>
  ⟨_, hσ, _, rfl, a, xs, _, _, rfl, rfl, SqT.of (k.tup _ _ ha), hx, q⟩
theorem it_last_at {j v : Nat} {a p : Addr} {xs ys : List V} {n k0 : Nat} (hσ : σ[j]? = some (some (.ref a))) (hv : σ[v]? = some (some (.int (k0 : Int)))) (ha : H a = some (.tup xs)) (hx : atI xs (-1) = some (.ref p)) (hp : H p = some (.tup ys)) (hy : ys[k0]? = some (ni n)) :
    IntTo (tOp (rIxT K) (tOp (rIxT K) (tVar j) (tUn (rU fun i => .int (-i)) (tC (.int 1)))) (tVar v)) σ H n := fun H1 k Q q =>
  ⟨_, hσ, _, rfl, a, xs, _, _, rfl, rfl, SqT.of (k.tup _ _ ha), hx, _, hv, p, ys, _, _, rfl, rfl, SqT.of (k.tup _ _ hp), atI_nat hy, q⟩
/-- parts[..] -/
theorem lt_part {j : Nat} {pp : Addr} {ps : List V} {ts : List Tr} {n : Nat} {t : Tr} (hσ : σ[j]? = some (some (.ref pp))) (hp : H pp = some (.lst ps)) (h : PartsAt H ps ts) (hi : IntTo tb σ H n) (ht : ts[n]? = some t) : LstTo (tOp (rIxL K) (tVar j) tb) σ H (toks t) := fun H1 k Q q => by
  obtain ⟨l, us, h1, h2, h3⟩ := h.2 n t ht
  exact ⟨_, hσ, hi H1 k _ ⟨pp, ps, _, _, rfl, rfl, SqL.of (k.keep _ _ (by simp) hp), atI_nat h1, q l us H1 (Kp.refl _ _) (k.keep _ _ (by simp) h2) (h3.kp k)⟩⟩
variable {D : Ends} {tz : TS} {i : Nat}
theorem q_new (h : NewTo ta σ H R) (q : ∀ (p : Addr) (us : List V) (H2 : Hp), Kp [] H H2 → H p = none → H2 p = some (.lst us) → RwAt H2 us R → tz D (σ.set i (some (.ref p))) H2) : tSeq (tAsg ta (gName i)) tz D σ H :=
  h H (Kp.refl _ _) (fun x H1 => tz D (σ.set i (some x)) H1) q
theorem s_new (h : NewTo ta σ H R) (q : ∀ (p : Addr) (us : List V) (H2 : Hp), Kp [] H H2 → H p = none → H2 p = some (.lst us) → RwAt H2 us R → D.nx (σ.set i (some (.ref p))) H2) : tAsg ta (gName i) D σ H :=
  h H (Kp.refl _ _) (fun x H1 => D.nx (σ.set i (some x)) H1) q
theorem r_new (h : NewTo ta σ H R) (q : ∀ (p : Addr) (us : List V) (H2 : Hp), Kp [] H H2 → H p = none → H2 p = some (.lst us) → RwAt H2 us R → D.rt (.ref p) H2) : tRet ta D σ H := h H (Kp.refl _ _) D.rt q
end
theorem iteD {c A B : Prop} [Decidable c] (hc : c) (h : A) : if decide c = true then A else B := by
  rw [decide_eq_true hc]
  exact iteT h
theorem iteNF {c A B : Prop} [Decidable c] (hc : ¬ c) (h : B) : if decide c = true then A else B := by
  rw [decide_eq_false hc]
  exact iteF h
/-! ### a node that is no job -/
def front (w : Str) (n1 n2 : Nat) : List Row := hd w ++ (if w ∈ (["pool", "timeout", "retry"] : List Str) then nums n1 else []) ++ (if w = "retry" then nums n2 else [])
structure NodeIs (H : Hp) (ts : List Tr) (xs : List V) (w : Str) (n1 n2 : Nat) (t : Tr) : Prop where
  x0 : atI xs 0 = some (.str w)
  x1 : w ∈ (["pool", "timeout", "retry"] : List Str) → atI xs 1 = some (ni n1)
  x2 : w = "retry" → atI xs 2 = some (ni n2)
  l1 : n1 ≤ 1000
  l2 : n2 ≤ 1000
  nj : w ≠ "job"
  kind : (w = "orelse" ∧ ∃ i j x y, atI xs 1 = some (ni i) ∧ atI xs 2 = some (ni j) ∧ ts[i]? = some x ∧ ts[j]? = some y ∧ t = .ore x y) ∨
    (w ≠ "orelse" ∧ w ∈ (["timeout", "retry"] : List Str) ∧ ∃ j c, atI xs (-1) = some (ni j) ∧ ts[j]? = some c ∧ toks t = front w n1 n2 ++ toks c ++ [rShut]) ∨
    (w ≠ "orelse" ∧ w ∉ (["timeout", "retry"] : List Str) ∧ ∃ p js cs, atI xs (-1) = some (.ref p) ∧ H p = some (.tup (js.map ni)) ∧ Kids ts js cs ∧ toks t = front w n1 n2 ++ (more cs).drop 1 ++ [rShutM] ∧ szs cs + 1 = sz t ∧ cs.length ≤ 6)
theorem node_is {H : Hp} {ts : List Tr} {v : V} {t : Tr} (h : NdAt H ts v t) (hf : fit t) : (∃ a d x c g f, v = .ref a ∧ t = .job d g x c f ∧ H a = some (.tup [.str "job", ni d, .str (gw g), ni x, ni c, fv f])) ∨
    ∃ a xs w n1 n2, v = .ref a ∧ H a = some (.tup xs) ∧ NodeIs H ts xs w n1 n2 t := by
  cases h with
  | job h => exact .inl ⟨_, _, _, _, _, _, rfl, rfl, h⟩
  | @grp a p w js cs h1 h2 h3 =>
    have hw := hf.1
    have nm : w ∉ (["pool", "timeout", "retry"] : List Str) ∧ w ≠ "retry" ∧ w ≠ "job" ∧ w ≠ "orelse" ∧ w ∉ (["timeout", "retry"] : List Str) := by rcases hw with rfl | rfl | rfl | rfl <;> decide +kernel
    refine .inr ⟨a, _, w, 0, 0, rfl, h1, rfl, fun z => absurd z nm.1, fun z => absurd z nm.2.1, by omega, by omega, nm.2.2.1, .inr (.inr ⟨nm.2.2.2.1, nm.2.2.2.2, p, js, cs, rfl, h2, h3, ?_, rfl, hf.2.2.1⟩)⟩
    simp only [toks, front, if_neg nm.1, if_neg nm.2.1, List.append_nil]
  | @pool a p s js cs h1 h2 h3 =>
    have nm : ("pool" : Str) ∈ (["pool", "timeout", "retry"] : List Str) ∧ ("pool" : Str) ≠ "retry" ∧ ("pool" : Str) ≠ "job" ∧ ("pool" : Str) ≠ "orelse" ∧ ("pool" : Str) ∉ (["timeout", "retry"] : List Str) := by decide +kernel
    refine .inr ⟨a, _, "pool", s, 0, rfl, h1, rfl, fun _ => rfl, fun z => absurd z nm.2.1, by have := hf.2.1; omega, by omega, nm.2.2.1, .inr (.inr ⟨nm.2.2.2.1, nm.2.2.2.2, p, js, cs, rfl, h2, h3, ?_, rfl, hf.2.2.2.1⟩)⟩
    simp only [toks, front, if_pos nm.1, if_neg nm.2.1, List.append_nil]
  | @tmo a n j c h1 h2 =>
    have nm : ("timeout" : Str) ∈ (["pool", "timeout", "retry"] : List Str) ∧ ("timeout" : Str) ≠ "retry" ∧ ("timeout" : Str) ≠ "job" ∧ ("timeout" : Str) ≠ "orelse" ∧ ("timeout" : Str) ∈ (["timeout", "retry"] : List Str) := by decide +kernel
    refine .inr ⟨a, _, "timeout", n, 0, rfl, h1, rfl, fun _ => rfl, fun z => absurd z nm.2.1, hf.1, by omega, nm.2.2.1, .inr (.inl ⟨nm.2.2.2.1, nm.2.2.2.2, j, c, rfl, h2, ?_⟩)⟩
    simp only [toks, front, if_pos nm.1, if_neg nm.2.1, List.append_nil]
  | @ore a i j x y h1 h2 h3 =>
    have nm : ("orelse" : Str) ∉ (["pool", "timeout", "retry"] : List Str) ∧ ("orelse" : Str) ≠ "retry" ∧ ("orelse" : Str) ≠ "job" := by decide +kernel
    exact .inr ⟨a, _, "orelse", 0, 0, rfl, h1, rfl, fun z => absurd z nm.1, fun z => absurd z nm.2.1, by omega, by omega, nm.2.2, .inl ⟨rfl, i, j, x, y, rfl, rfl, h2, h3, rfl⟩⟩
  | @rty a r d j c h1 h2 =>
    have nm : ("retry" : Str) ∈ (["pool", "timeout", "retry"] : List Str) ∧ ("retry" : Str) ≠ "job" ∧ ("retry" : Str) ≠ "orelse" ∧ ("retry" : Str) ∈ (["timeout", "retry"] : List Str) := by decide +kernel
    refine .inr ⟨a, _, "retry", r, d, rfl, h1, rfl, fun _ => rfl, fun _ => rfl, by have := hf.1; omega, by have := hf.2.1; omega, nm.2.1, .inr (.inl ⟨nm.2.2.1, nm.2.2.2, j, c, rfl, h2, ?_⟩)⟩
    simp only [toks, front, if_pos nm.1, if_true]
theorem more_step {cs : List Tr} {k : Nat} {c : Tr} (h : cs[k]? = some c) : (more (cs.take (k + 1))).drop 1 = (if k = 0 then [] else (more (cs.take k)).drop 1 ++ [rMore]) ++ toks c := by
  have e : cs.take (k + 1) = cs.take k ++ [c] := by
    obtain ⟨hlt, he⟩ := List.getElem?_eq_some_iff.mp h
    rw [List.take_succ_eq_append_getElem hlt, he]
  rw [e, more_app, more_one]
  by_cases h0 : k = 0
  · subst h0
    simp [more]
  · rw [if_neg h0]
    have hne : more (cs.take k) ≠ [] := by
      cases hc : cs with
      | nil => rw [hc] at h; simp at h
      | cons x r =>
        cases k with
        | zero => exact absurd rfl h0
        | succ k => simp [more]
    rw [List.drop_append_of_le_length (List.length_pos_iff.mpr hne)]
    simp
theorem drop1_take_len (cs : List Tr) (k : Nat) : ((more (cs.take k)).drop 1).length ≤ 13 * szs cs := by
  have h := more_len (cs.take k)
  have e := szs_app (cs.take k) (cs.drop k)
  rw [List.take_append_drop] at e
  rw [List.length_drop]
  omega
theorem front_len (w : Str) (n1 n2 : Nat) : (front w n1 n2).length ≤ 6 := by
  unfold front
  rw [List.length_append, List.length_append]
  have h1 : (if w ∈ (["pool", "timeout", "retry"] : List Str) then nums n1 else []).length ≤ 2 := by split <;> simp [nums]
  have h2 : (if w = "retry" then nums n2 else []).length ≤ 2 := by split <;> simp [nums]
  simp only [hd, List.length_cons, List.length_nil]
  omega
theorem Kids.get {ts : List Tr} {js : List Nat} {cs : List Tr} (h : Kids ts js cs) {k : Nat} (hk : k < js.length) : ∃ j c, js[k]? = some j ∧ ts[j]? = some c ∧ cs[k]? = some c := by
  have e : (js.map fun j => ts[j]?)[k]? = (cs.map some)[k]? := by rw [show js.map (fun j => ts[j]?) = cs.map some from h]
  rw [List.getElem?_map, List.getElem?_map, List.getElem?_eq_getElem hk] at e
  have hk2 : k < cs.length := by rw [← h.len]; exact hk
  rw [List.getElem?_eq_getElem hk2] at e
  simp at e
  exact ⟨js[k], cs[k], List.getElem?_eq_getElem hk, e, List.getElem?_eq_getElem hk2⟩
section
variable {P : Program} {w : World} {K : PySem.W.Frag} {mg : Str → Option Value} {base : Heap} {CR CT CO CF WA fR fT fO : Addr}
def spNodeTok : Sp := fun vs H Q _ => ∃ (v : V) (pp : Addr) (ps : List V) (ts : List Tr) (t : Tr), vs = [v, .ref pp] ∧ NdAt H ts v t ∧ fit t ∧ sz t ≤ 100 ∧ (∀ u ∈ ts, sz u ≤ 100) ∧ H pp = some (.lst ps) ∧ PartsAt H ps ts ∧
  ∀ (p : Addr) (us : List V) (H' : Hp), H p = none → H' p = some (.lst us) → RwAt H' us (toks t) → Kp [] H H' → Q (.ref p) H'
theorem use_nodeTok (T : Txt K mg CR CT CO CF WA fR fT fO) : Use P w K mg base CX0 2 "_law_node_tokens" p__law_node_tokens spNodeTok := by
  have U__law_job_tokens : Use P w K mg base CX0 1 "_law_job_tokens" p__law_job_tokens spJobTok := use_jobTok T
  have pas__law_job_tokens : ∀ {X : Cx}, Passes CX0 X E0 := pass0
  refine use_of T.d_law_node_tokens (fun f fd F => F.binds fun _ _ _ _ _ _ us hl => match us, hl with | [_, _], _ => rfl) fun f fd F => ?_
  refine F.ok sc__law_node_tokens (fun vs H Q E h => ?_) (fun cdv A outer s H vs Q E hr h => ?_)
  · obtain ⟨v, pp, ps, ts, t, rfl, _⟩ := h
    rfl
  obtain ⟨v, pp, ps, ts, t, rfl, hn, hf, hsz, hsb, hpp, hps, q⟩ := h
  refine ⟨_, (pss_cons (ps_if (pt_cmpR op_eq (pe_ix ix_tup (pv 0) pe_int (fun _ _ => rfl)) pe_str (nomark _)) (pss_one (ps_ret (pe_use U__law_job_tokens (hr.mono (by decide)) (by rfl) pas__law_job_tokens (pa_cons (pv 0) pa_nil)))) pss_nil)
      (pss_cons (ps_set (i := 2) sc__law_node_tokens.nd rfl (Or.inl rfl) (pe_lst (pa_cons (pe_tup (pa_cons (pe_ix ix_tup (pv 0) pe_int (fun _ _ => rfl)) (pa_cons pe_str pa_nil))) (pa_cons (pe_tup (pa_cons pe_str (pa_cons pe_str pa_nil))) pa_nil))))
      (Evl.pss_cut (ps_if (pt_cmpR op_in_seq (pe_ix ix_tup (pv 0) pe_int (fun _ _ => rfl)) (pe_tup (pa_cons pe_str (pa_cons pe_str (pa_cons pe_str pa_nil)))) (by with_unfolding_all rfl)) (pss_one (ps_set (i := 2) sc__law_node_tokens.nd rfl (Or.inl rfl) (pe_op op_cat (pv 2) (pe_lst (pa_cons (pe_tup (pa_cons (pe_callTy call_str_int (by rfl) T.n_str (by decide +kernel) (pa_cons (pe_ix ix_tup (pv 0) pe_int (fun _ _ => rfl)) pa_nil)) (pa_cons pe_str pa_nil))) (pa_cons (pe_tup (pa_cons pe_str (pa_cons pe_str pa_nil))) pa_nil)))))) pss_nil)
      (Evl.pss_cut (ps_if (pt_cmpR op_eq (pe_ix ix_tup (pv 0) pe_int (fun _ _ => rfl)) pe_str (nomark _)) (pss_one (ps_set (i := 2) sc__law_node_tokens.nd rfl (Or.inl rfl) (pe_op op_cat (pv 2) (pe_lst (pa_cons (pe_tup (pa_cons (pe_callTy call_str_int (by rfl) T.n_str (by decide +kernel) (pa_cons (pe_ix ix_tup (pv 0) pe_int (fun _ _ => rfl)) pa_nil)) (pa_cons pe_str pa_nil))) (pa_cons (pe_tup (pa_cons pe_str (pa_cons pe_str pa_nil))) pa_nil)))))) pss_nil)
      (pss_cons (ps_if (pt_cmpR op_eq (pe_ix ix_tup (pv 0) pe_int (fun _ _ => rfl)) pe_str (nomark _)) (pss_one (ps_ret (pe_op op_cat (pe_op op_cat (pe_op op_cat (pe_op op_cat (pv 2) (pe_ix ix_list (pv 1) (pe_ix ix_tup (pv 0) pe_int (fun _ _ => rfl)) (fun _ _ => rfl))) (pe_lst (pa_cons (pe_tup (pa_cons pe_str (pa_cons pe_str pa_nil))) pa_nil))) (pe_ix ix_list (pv 1) (pe_ix ix_tup (pv 0) pe_int (fun _ _ => rfl)) (fun _ _ => rfl))) (pe_lst (pa_cons (pe_tup (pa_cons pe_str (pa_cons pe_str pa_nil))) pa_nil))))) pss_nil)
      (pss_cons (ps_if (pt_cmpR op_in_seq (pe_ix ix_tup (pv 0) pe_int (fun _ _ => rfl)) (pe_tup (pa_cons pe_str (pa_cons pe_str pa_nil))) (by with_unfolding_all rfl)) (pss_one (ps_ret (pe_op op_cat (pe_op op_cat (pv 2) (pe_ix ix_list (pv 1) (pe_ix ix_tup (pv 0) (pe_un un_neg pe_int) (fun _ _ => rfl)) (fun _ _ => rfl))) (pe_lst (pa_cons (pe_tup (pa_cons pe_str (pa_cons pe_str pa_nil))) pa_nil))))) pss_nil)
      (pss_cons (ps_for PassesOwn.never rfl (pi_range1 (by rfl) T.n_range (pa_cons (pe_callB call_len_seq (by rfl) T.n_len PySem.boot_len (pa_cons (pe_ix ix_tup (pv 0) (pe_un un_neg pe_int) (fun _ _ => rfl)) pa_nil)) pa_nil)) (pg_name (i := 3) sc__law_node_tokens.nd rfl (Or.inl rfl)) (Evl.pss_cut (ps_if (pt_cmpR op_gt (pv 3) pe_int (nomark _)) (pss_one (ps_expr (pe_bm PySem.F.plainAttrs_list PySem.F.slot_list_append PySem.F.type_list_append mt_append (pv 2) (pa_cons (pe_tup (pa_cons pe_str (pa_cons pe_str pa_nil))) pa_nil)))) pss_nil)
      (pss_one (ps_set (i := 2) sc__law_node_tokens.nd rfl (Or.inl rfl) (pe_op op_cat (pv 2) (pe_ix ix_list (pv 1) (pe_ix ix_tup (pe_ix ix_tup (pv 0) (pe_un un_neg pe_int) (fun _ _ => rfl)) (pv 3) (fun _ _ => rfl)) (fun _ _ => rfl)))))))
      (pss_one (ps_ret (pe_op op_cat (pv 2) (pe_lst (pa_cons (pe_tup (pa_cons pe_str (pa_cons pe_str pa_nil))) pa_nil)))))))))))), ?_⟩
  rcases node_is hn hf with ⟨a, d, x, c, g, f, rfl, rfl, ha⟩ | ⟨a, xs, w, n1, n2, rfl, ha, N⟩
  · refine ⟨_, rfl, _, _, _, _, rfl, rfl, SqT.of ha, rfl, rfl, true, ttT rfl, iteT ?_⟩
    exact ⟨_, rfl, a, d, x, c, g, f, rfl, ha, hf, q⟩
  refine ⟨_, rfl, _, _, _, _, rfl, rfl, SqT.of ha, N.x0, rfl, false, ttF (nstr N.nj), iteF ?_⟩
  have sW : StrTo (tOp (rIxT K) (tVar 0) (tC (.int 0))) [some (.ref a), some (.ref pp), none, none] H w := fun H1 k Q q => ⟨_, rfl, a, xs, _, _, rfl, rfl, SqT.of (k.tup _ _ ha), N.x0, q⟩
  refine q_lst (R := hd w) (rt_cons sW st_c (rt_cons st_c st_c rt_nil)) (by show 2 ≤ 100000; decide) fun l1 us1 H1 k1 f1 e1 rw1 => ?_
  -- the first number
  refine ⟨fun σ' H' => ∃ (l : Addr) (us : List V), σ' = [some (.ref a), some (.ref pp), some (.ref l), none] ∧ H' l = some (.lst us) ∧ RwAt H' us (hd w ++ (if w ∈ (["pool", "timeout", "retry"] : List Str) then nums n1 else [])) ∧ Kp [] H H' ∧ H l = none, ?_, ?_⟩
  · refine ⟨_, rfl, _, _, _, _, rfl, rfl, SqT.of (k1.tup _ _ ha), N.x0, (by show 3 ≤ sizeLine; decide), fun p2 hp2 => ?_⟩
    have k2 : Kp [] H (upd H1 p2 (.tup [.str "pool", .str "timeout", .str "retry"])) := k1.new hp2
    have e2 : upd H1 p2 (.tup [.str "pool", .str "timeout", .str "retry"]) l1 = some (.lst us1) := by rw [upd_ne (ne_of_none e1 hp2)]; exact e1
    refine ⟨_, _, rfl, .inr (SqT.of upd_same), rfl, rfl, decide (w ∈ (["pool", "timeout", "retry"] : List Str)), congrArg V.bl (inV_str w ["pool", "timeout", "retry"]), ?_⟩
    by_cases hw : w ∈ (["pool", "timeout", "retry"] : List Str)
    · rw [decide_eq_true hw, if_pos hw]
      refine iteT ?_
      exact s_cat (R := nums n1) rfl e2 (rw1.kp ((Kp.refl [] _).new hp2)) (rt_cons (st_num (i := 1) (j := 0) rfl (k2.tup _ _ ha) (N.x1 hw) N.l1) st_c (rt_cons st_c st_c rt_nil)) (by show 2 + 2 ≤ 100000; decide) fun p3 us3 H3 k3 f3 e3 rw3 =>
        ⟨p3, us3, rfl, e3, rw3, k2.trans k3, k2.free f3⟩
    · rw [decide_eq_false hw, if_neg hw]
      refine iteF ?_
      exact ⟨l1, us1, rfl, e2, by rw [List.append_nil]; exact rw1.kp ((Kp.refl [] _).new hp2), k2, f1⟩
  rintro σ' H2 ⟨l2, us2, rfl, e2, rw2, k2, f2⟩
  -- the second number
  refine ⟨fun σ' H' => ∃ (l : Addr) (us : List V), σ' = [some (.ref a), some (.ref pp), some (.ref l), none] ∧ H' l = some (.lst us) ∧ RwAt H' us (front w n1 n2) ∧ Kp [] H H' ∧ H l = none, ?_, ?_⟩
  · refine ⟨_, rfl, _, _, _, _, rfl, rfl, SqT.of (k2.tup _ _ ha), N.x0, rfl, ?_⟩
    by_cases hw : w = "retry"
    · refine ⟨true, ttT (congrArg V.str hw), iteT ?_⟩
      refine s_cat (R := nums n2) rfl e2 rw2 (rt_cons (st_num (i := 2) (j := 0) rfl (k2.tup _ _ ha) (N.x2 hw) N.l2) st_c (rt_cons st_c st_c rt_nil)) ?_ fun p3 us3 H3 k3 f3 e3 rw3 =>
        ⟨p3, us3, rfl, e3, by unfold front; rw [if_pos hw]; exact rw3, k2.trans k3, k2.free f3⟩
      rw [List.length_append]
      have h1 : (if w ∈ (["pool", "timeout", "retry"] : List Str) then nums n1 else []).length ≤ 2 := by split <;> simp [nums]
      show 2 + _ + 2 ≤ 100000
      omega
    · refine ⟨false, ttF (nstr hw), iteF ?_⟩
      exact ⟨l2, us2, rfl, e2, by unfold front; rw [if_neg hw, List.append_nil]; exact rw2, k2, f2⟩
  rintro σ' H3 ⟨l3, us3, rfl, e3, rw3, k3, f3⟩
  have ha3 := k3.tup _ _ ha
  have hp3 := k3.keep _ _ (by simp) hpp
  have hps3 := hps.kp k3
  have fl := front_len w n1 n2
  have tl : ∀ {j : Nat} {u : Tr}, ts[j]? = some u → (toks u).length ≤ 1300 := fun {j u} h => by
    have := hsb u (List.mem_of_getElem? h)
    have := toks_len u
    omega
  refine ⟨_, rfl, _, _, _, _, rfl, rfl, SqT.of ha3, N.x0, rfl, ?_⟩
  rcases N.kind with ⟨hw, i, j, x, y, x1, x2, t1, t2, rfl⟩ | ⟨hw, hw2, j, c, x1, t1, et⟩ | ⟨hw, hw2, p, js, cs, x1, hjs, kd, et, esz, hc6⟩
  · -- orelse
    refine ⟨true, ttT (congrArg V.str hw), iteT ?_⟩
    have ef : front w n1 n2 = hd "orelse" := by
      subst hw
      have nm : ("orelse" : Str) ∉ (["pool", "timeout", "retry"] : List Str) ∧ ("orelse" : Str) ≠ "retry" := by decide +kernel
      unfold front
      rw [if_neg nm.1, if_neg nm.2, List.append_nil, List.append_nil]
    rw [ef] at rw3
    have b1 := tl t1
    have b2 := tl t2
    refine r_new (nt_cat (nt_cat (nt_cat (nt_cat (lt_var rfl e3 rw3) (lt_part rfl hp3 hps3 (it_ix rfl ha3 x1) t1) ?_).lst (nt_disp (R := [rComma]) (rt_cons st_c st_c rt_nil) (by show 1 ≤ 100000; decide)).lst ?_).lst (lt_part rfl hp3 hps3 (it_ix rfl ha3 x2) t2) ?_).lst (nt_disp (R := [rShut]) (rt_cons st_c st_c rt_nil) (by show 1 ≤ 100000; decide)).lst ?_) fun p us H4 k4 f4 e4 rw4 => ?_
    · show 2 + _ ≤ 100000
      omega
    · rw [List.length_append]; show (2 + _) + 1 ≤ 100000; omega
    · rw [List.length_append, List.length_append]; show (2 + _ + 1) + _ ≤ 100000; omega
    · rw [List.length_append, List.length_append, List.length_append]; show (2 + _ + 1 + _) + 1 ≤ 100000; omega
    · exact q p us H4 (k3.free f4) e4 rw4 (k3.trans k4)
  · -- timeout, retry
    refine ⟨false, ttF (nstr hw), iteF ?_⟩
    refine ⟨_, rfl, _, _, _, _, rfl, rfl, SqT.of ha3, N.x0, (by show 2 ≤ sizeLine; decide), fun p4 hp4 => ?_⟩
    have k4' : Kp [] H3 (upd H3 p4 (.tup [.str "timeout", .str "retry"])) := (Kp.refl _ _).new hp4
    refine ⟨_, _, rfl, .inr (SqT.of upd_same), rfl, rfl, true, ?_, iteT ?_⟩
    · show V.bl (inV (.str w) ((["timeout", "retry"] : List Str).map V.str)) = V.bl true
      rw [inV_str, decide_eq_true hw2]
    have b1 := tl t1
    refine r_new (nt_cat (nt_cat (lt_var rfl (k4'.keep _ _ (by simp) e3) (rw3.kp k4')) (lt_part rfl (k4'.keep _ _ (by simp) hp3) (hps3.kp k4') (it_last rfl (k4'.tup _ _ ha3) x1) t1) ?_).lst (nt_disp (R := [rShut]) (rt_cons st_c st_c rt_nil) (by show 1 ≤ 100000; decide)).lst ?_) fun p us H4 k4 f4 e4 rw4 => ?_
    · omega
    · rw [List.length_append]; show _ + 1 ≤ 100000; omega
    · exact q p us H4 ((k3.trans k4').free f4) e4 (by rw [et]; exact rw4) ((k3.trans k4').trans k4)
  · -- parts
    refine ⟨false, ttF (nstr hw), iteF ?_⟩
    refine ⟨_, rfl, _, _, _, _, rfl, rfl, SqT.of ha3, N.x0, (by show 2 ≤ sizeLine; decide), fun p4 hp4 => ?_⟩
    have k4' : Kp [] H3 (upd H3 p4 (.tup [.str "timeout", .str "retry"])) := (Kp.refl _ _).new hp4
    refine ⟨_, _, rfl, .inr (SqT.of upd_same), rfl, rfl, false, ?_, iteF ?_⟩
    · show V.bl (inV (.str w) ((["timeout", "retry"] : List Str).map V.str)) = V.bl false
      rw [inV_str, decide_eq_false hw2]
    have kk := k3.trans k4'
    have ln := kd.len
    have hcl : szs cs ≤ 100 := by omega
    have lj : (js.map ni).length = cs.length := by rw [List.length_map, ln]
    refine ⟨_, rfl, _, rfl, _, _, _, _, rfl, rfl, SqT.of (kk.tup _ _ ha), x1, _, _, rfl, .inr (SqT.of (kk.tup _ _ hjs)), ((js.map ni).length : Int), rfl, by omega, by omega, ?_⟩
    refine for_range (lo := 0) (n := ((js.map ni).length : Int).toNat) (fun k σ H' => ∃ (l : Addr) (us : List V) (v3 : Option V), σ = [some (.ref a), some (.ref pp), some (.ref l), v3] ∧ H' l = some (.lst us) ∧ RwAt H' us (front w n1 n2 ++ (more (cs.take k)).drop 1) ∧ Kp [] H H' ∧ H l = none)
      ⟨l3, us3, _, rfl, k4'.keep _ _ (by simp) e3, by rw [List.take_zero]; show RwAt _ us3 (front w n1 n2 ++ []); rw [List.append_nil]; exact rw3.kp k4', kk, f3⟩ ?_ ?_
    · rintro k σ H4 hk ⟨l, us, v3, rfl, e4, rw4, k4, f4⟩
      have hk2 : k < js.length := by rw [List.length_map] at hk; omega
      obtain ⟨j, c, hj, htj, hc⟩ := kd.get hk2
      have e0 : (0 : Int) + (k : Int) = (k : Int) := by omega
      have b0 := drop1_take_len cs k
      have b1 := tl htj
      refine ⟨fun σ' H' => ∃ (us : List V), σ' = [some (.ref a), some (.ref pp), some (.ref l), some (.int (k : Int))] ∧ H' l = some (.lst us) ∧ RwAt H' us (front w n1 n2 ++ (if k = 0 then [] else (more (cs.take k)).drop 1 ++ [rMore])) ∧ Kp [] H H', ?_, ?_⟩
      · refine ⟨_, rfl, _, _, rfl, rfl, _, rfl, ?_⟩
        show (if decide (0 < (0 : Int) + (k : Int)) = true then _ else _)
        rw [e0]
        by_cases h0 : k = 0
        · subst h0
          refine iteNF (by decide) ?_
          exact ⟨us, by show [_, _, _, some (V.int ((0 : Int) + ((0 : Nat) : Int)))] = _; rw [e0], e4, by rw [if_pos rfl]; exact rw4, k4⟩
        · refine iteD (show (0 : Int) < (k : Int) by omega) ?_
          refine ⟨_, rfl, .inl ⟨rfl, _, SqL.of e4⟩, (by show 2 ≤ sizeLine; decide), fun q1 hq1 => ?_⟩
          have e5 : upd H4 q1 (.tup [.str ",", .str "expected , or )"]) l = some (.lst us) := by rw [upd_ne (ne_of_none e4 hq1)]; exact e4
          have k5 : Kp [] H4 (upd H4 q1 (.tup [.str ",", .str "expected , or )"])) := (Kp.refl _ _).new hq1
          refine ⟨_, _, _, rfl, rfl, e5, szl (by rw [rw4.len, List.length_append]; omega), ?_⟩
          have k6 : Kp [l] (upd H4 q1 (.tup [.str ",", .str "expected , or )"])) (upd (upd H4 q1 (.tup [.str ",", .str "expected , or )"])) l (.lst (us ++ [.ref q1]))) := (Kp.refl _ _).lst (by simp) e5
          refine ⟨us ++ [.ref q1], rfl, upd_same, ?_, (k4.trans k5).mutN f4⟩
          rw [if_neg h0, ← List.append_assoc]
          exact (((rw4.kp k5).app (.cons (r := rMore) upd_same .nil)).kp k6)
      · rintro σ' H5 ⟨us5, rfl, e5, rw5, k5⟩
        have bl : (front w n1 n2 ++ (if k = 0 then [] else (more (cs.take k)).drop 1 ++ [rMore])).length ≤ 2000 := by
          rw [List.length_append]
          split
          · simp; omega
          · rw [List.length_append, List.length_cons, List.length_nil]; omega
        refine s_new (nt_cat (lt_var rfl e5 rw5) (lt_part rfl (k5.keep _ _ (by simp) hpp) (hps.kp k5) (it_last_at (k0 := k) rfl rfl (k5.tup _ _ ha) x1 (k5.tup _ _ hjs) (by rw [List.getElem?_map, hj]; rfl)) htj) (by omega)) fun p6 us6 H6 k6 f6 e6 rw6 => ?_
        refine ⟨p6, us6, _, rfl, e6, ?_, k5.trans k6, k5.free f6⟩
        rw [more_step hc, ← List.append_assoc]
        exact rw6
    · rintro σ H4 ⟨l, us, v3, rfl, e4, rw4, k4, f4⟩
      have et2 : cs.take ((js.map ni).length : Int).toNat = cs := List.take_of_length_le (by omega)
      rw [et2] at rw4
      refine r_new (nt_cat (lt_var rfl e4 rw4) (nt_disp (R := [rShutM]) (rt_cons st_c st_c rt_nil) (by show 1 ≤ 100000; decide)).lst ?_) fun p us H5 k5 f5 e5 rw5 => ?_
      · have := more_len cs
        rw [List.length_append, List.length_drop]
        show _ + 1 ≤ 100000
        omega
      · exact q p us H5 (k4.free f5) e5 (by rw [et]; exact rw5) (k4.trans k5)
end

end K6
namespace K6
open PySem L2
theorem PartsAt.snoc {H : Hp} {ps : List V} {ts : List Tr} {l : Addr} {us : List V} {t : Tr} (h : PartsAt H ps ts) (hl : H l = some (.lst us)) (rw : RwAt H us (toks t)) : PartsAt H (ps ++ [.ref l]) (ts ++ [t]) := by
  refine ⟨by simp [h.1], fun j u e => ?_⟩
  rcases snoc_at e with e | ⟨e1, e2⟩
  · obtain ⟨l', us', h1, h2, h3⟩ := h.2 j u e
    exact ⟨l', us', by rw [List.getElem?_append_left (List.getElem?_eq_some_iff.mp h1).1]; exact h1, h2, h3⟩
  · subst e2
    refine ⟨l, us, ?_, hl, rw⟩
    rw [List.getElem?_append_right (by rw [h.1]; omega), h.1, e1, Nat.sub_self]
    rfl
theorem PartsAt.mut {H : Hp} {ps xs : List V} {ts : List Tr} {pp : Addr} {o : HO} (h : PartsAt H ps ts) (hp : H pp = some (.lst xs)) (n : ∀ v ∈ ps, v ≠ .ref pp) : PartsAt (upd H pp o) ps ts := by
  refine ⟨h.1, fun j u e => ?_⟩
  obtain ⟨l, us, h1, h2, h3⟩ := h.2 j u e
  have ne : l ≠ pp := fun z => n _ (List.mem_of_getElem? h1) (by rw [z])
  exact ⟨l, us, h1, by rw [upd_ne ne]; exact h2, h3.kp (S := [pp]) ((Kp.refl _ _).lst (by simp) hp)⟩
section
variable {P : Program} {w : World} {K : PySem.W.Frag} {mg : Str → Option Value} {base : Heap} {CR CT CO CF WA fR fT fO : Addr}
def spToks : Sp := fun vs H Q _ => ∃ (p : Addr) (us : List V) (ts : List Tr) (t : Tr), vs = [.ref p] ∧ H p = some (.tup us) ∧ Nds H us ts ∧ Plan ts t ∧
  ∀ (l : Addr) (vs : List V) (H' : Hp), H l = none → H' l = some (.lst vs) → RwAt H' vs (toks t) → Kp [] H H' → Q (.ref l) H'
theorem use_toks (T : Txt K mg CR CT CO CF WA fR fT fO) : Use P w K mg base CX0 3 "_law_plan_tokens" p__law_plan_tokens spToks := by
  have U__law_node_tokens : Use P w K mg base CX0 2 "_law_node_tokens" p__law_node_tokens spNodeTok := use_nodeTok T
  have pas__law_node_tokens : ∀ {X : Cx}, Passes CX0 X E0 := pass0
  refine use_of T.d_law_plan_tokens (fun f fd F => F.binds fun _ _ _ _ _ _ us hl => match us, hl with | [_], _ => rfl) fun f fd F => ?_
  refine F.ok sc__law_plan_tokens (fun vs H Q E h => ?_) (fun cdv A outer s H vs Q E hr h => ?_)
  · obtain ⟨p, us, ts, t, rfl, _⟩ := h
    rfl
  obtain ⟨p, us, ts, t, rfl, hp, hn, pl, q⟩ := h
  refine ⟨_, (pss_cons (ps_set (i := 1) sc__law_plan_tokens.nd rfl (Or.inl rfl) (pe_lst pa_nil))
      (pss_cons (ps_for PassesOwn.never rfl (pi_tup (pv 0)) (pg_name (i := 2) sc__law_plan_tokens.nd rfl (Or.inl rfl)) (pss_one (ps_expr (pe_bm PySem.F.plainAttrs_list PySem.F.slot_list_append PySem.F.type_list_append mt_append (pv 1) (pa_cons (pe_use U__law_node_tokens (hr.mono (by decide)) (by rfl) pas__law_node_tokens (pa_cons (pv 2) (pa_cons (pv 1) pa_nil))) pa_nil)))))
      (pss_one (ps_ret (pe_ix ix_list (pv 1) (pe_un un_neg pe_int) (fun _ _ => rfl)))))), ?_⟩
  refine ⟨(by show 0 ≤ sizeLine; decide), fun pp hpp => ?_⟩
  have k0 : Kp [] H (upd H pp (.lst [])) := (Kp.refl _ _).new hpp
  refine ⟨_, rfl, p, rfl, ⟨us, SqT.of (k0.tup _ _ hp)⟩, ?_⟩
  have ct := pl.ct
  refine for_tup (K := K) (a := p) (xs := us) (fun i σ H' => ∃ (ps : List V) (v2 : Option V), σ = [some (.ref p), some (.ref pp), v2] ∧ H' pp = some (.lst ps) ∧ PartsAt H' ps (ts.take i) ∧ (∀ v ∈ ps, v ≠ .ref pp ∧ ∀ l, v = .ref l → H l = none) ∧ Kp [] H H')
    ⟨[], _, rfl, upd_same, ⟨by simp, fun j t e => by simp at e⟩, fun v hv => (by cases hv), k0⟩ (fun i σ H' _ ⟨ps, v2, _, _, _, _, k⟩ => SqT.of (k.tup _ _ hp)) ?_ ?_
  · rintro i v σ H1 hi ⟨ps, v2, rfl, e1, hps, hnp, k1⟩
    have hlt := (List.getElem?_eq_some_iff.mp hi).1
    have hlt2 : i < ts.length := by rw [← hn.1]; exact hlt
    have hti : ts[i]? = some ts[i] := List.getElem?_eq_getElem hlt2
    have hmem : ts[i] ∈ ts := List.getElem_mem hlt2
    refine ⟨_, rfl, .inl ⟨rfl, _, SqL.of e1⟩, _, rfl, _, rfl, v, pp, ps, ts.take i, ts[i], rfl, (hn.2 i v _ hi hti).kp k1, pl.fa _ hmem, by have := pl.sb _ hmem; omega, fun u hu => by have := pl.sb u (List.mem_of_mem_take hu); omega, e1, hps, fun l us2 H2 f2 e2 rw2 k2 => ?_⟩
    have e3 := k2.keep _ _ (by simp) e1
    have nl : l ≠ pp := fun z => by rw [z, e1] at f2; cases f2
    refine ⟨_, _, _, rfl, rfl, e3, szl (by rw [hps.1, List.length_take]; omega), ?_⟩
    have k3 : Kp [pp] H2 (upd H2 pp (.lst (ps ++ [.ref l]))) := (Kp.refl _ _).lst (by simp) e3
    refine ⟨ps ++ [.ref l], _, rfl, upd_same, ?_, fun v hv => ?_, (k1.trans k2).mutN hpp⟩
    · rw [List.take_succ_eq_append_getElem hlt2]
      exact ((hps.kp k2).mut e3 fun v hv => (hnp v hv).1).snoc (by rw [upd_ne nl]; exact e2) (rw2.kp k3)
    · rcases mem_snoc hv with hv | rfl
      · exact hnp v hv
      · exact ⟨fun z => nl (V.ref.inj z), fun l' e => by cases e; exact k1.free f2⟩
  · rintro σ H1 ⟨ps, v2, rfl, e1, hps, hnp, k1⟩
    have et : ts.take us.length = ts := by rw [hn.1]; exact List.take_length
    rw [et] at hps
    have hla : ts[ts.length - 1]? = some t := by rw [← List.getLast?_eq_getElem?]; exact pl.la
    obtain ⟨l, us2, h1, h2, h3⟩ := hps.2 _ _ hla
    refine ⟨_, rfl, _, rfl, pp, ps, _, _, rfl, rfl, SqL.of e1, ?_, q l us2 H1 ((hnp _ (List.mem_of_getElem? h1)).2 l rfl) h2 h3 k1⟩
    have lp : 1 ≤ ps.length := by
      have := (List.getElem?_eq_some_iff.mp h1).1
      omega
    have e5 : ps = ps.take (ps.length - 1) ++ [.ref l] := by
      have e6 := List.take_succ_eq_append_getElem (l := ps) (i := ps.length - 1) (by omega)
      rw [show ps.length - 1 + 1 = ps.length by omega, List.take_length] at e6
      rw [← hps.1] at h1
      rw [List.getElem?_eq_getElem (show ps.length - 1 < ps.length by omega)] at h1
      rw [Option.some.inj h1] at e6
      exact e6
    rw [e5]
    exact atI_last _ _
end
end K6
/-! K6LayM: a text as it is laid, one item after another. -/
namespace K6
open PySem L2
theorem digs_cz : cz ("0123456789" : Str) = [48, 49, 50, 51, 52, 53, 54, 55, 56, 57] := by decide +kernel
theorem lets_cz : cz ("abcdefghijklmnopqrstuvwxyz" : Str) = [97, 98, 99, 100, 101, 102, 103, 104, 105, 106, 107, 108, 109, 110, 111, 112, 113, 114, 115, 116, 117, 118, 119, 120, 121, 122] := by decide +kernel
theorem both_cz : cz ("abcdefghijklmnopqrstuvwxyz0123456789" : Str) = cz ("abcdefghijklmnopqrstuvwxyz" : Str) ++ cz ("0123456789" : Str) := by decide +kernel
theorem mem_digs (c : Nat) : decide (c ∈ cz ("0123456789" : Str)) = isD c := by
  rw [digs_cz]
  unfold isD
  apply decide_eq_decide.mpr
  simp only [List.mem_cons, List.not_mem_nil, or_false]
  omega
theorem mem_lets (c : Nat) : decide (c ∈ cz ("abcdefghijklmnopqrstuvwxyz" : Str)) = isL c := by
  rw [lets_cz]
  unfold isL
  apply decide_eq_decide.mpr
  simp only [List.mem_cons, List.not_mem_nil, or_false]
  omega
theorem mem_both (c : Nat) : decide (c ∈ cz ("abcdefghijklmnopqrstuvwxyz0123456789" : Str)) = plain c := by
  rw [both_cz]
  unfold plain
  rw [← mem_lets, ← mem_digs, ← Bool.decide_or]
  apply decide_eq_decide.mpr
  exact List.mem_append
/-- the last sign, x if there is none -/
def lastZ : Nat → List It → Nat
  | x, [] => x
  | _, p :: I => lastZ (p.2.getLast?.getD 0) I
theorem lastZ_snoc : ∀ (I : List It) (x : Nat) (p : It), lastZ x (I ++ [p]) = p.2.getLast?.getD 0
  | [], _, _ => rfl
  | _ :: I, _, p => lastZ_snoc I _ p
theorem Ok.snoc : ∀ {I : List It} {x : Nat} {p : It}, Ok x I → Gap p.1 → Tok p.2 → (p.1 = [] → ∀ y, p.2.head? = some y → ¬ (plain (lastZ x I) = true ∧ plain y = true)) → Ok x (I ++ [p])
  | [], x, p, _, hg, ht, ha => ⟨hg, ht, ha, fun z _ => True.intro⟩
  | i :: I, x, p, ho, hg, ht, ha => ⟨ho.1, ho.2.1, ho.2.2.1, fun z hz => (ho.2.2.2 z hz).snoc hg ht fun e y hy => by
      have q := ha e y hy
      have e2 : lastZ x (i :: I) = lastZ z I := by
        show lastZ (i.2.getLast?.getD 0) I = _
        rw [hz]; rfl
      rw [e2] at q
      exact q⟩
def PlcAt (H : Hp) (ps : List V) (I : List It) : Prop := ps.length = I.length ∧ ∀ (i : Nat) (p : It), I[i]? = some p → ∃ a, ps[i]? = some (.ref a) ∧
  H a = some (.tup [ni (lc (laid (I.take i) ++ p.1)).1, ni (lc (laid (I.take i) ++ p.1)).2, ni (laid (I.take i) ++ p.1).length, ni (laid (I.take i)).length])
theorem PlcAt.kp {H H' : Hp} {S : List Addr} {ps : List V} {I : List It} (h : PlcAt H ps I) (k : Kp S H H') : PlcAt H' ps I := ⟨h.1, fun i p e => by
  obtain ⟨a, h1, h2⟩ := h.2 i p e
  exact ⟨a, h1, k.tup _ _ h2⟩⟩
theorem PlcAt.snoc {H : Hp} {ps : List V} {I : List It} {p : It} {a : Addr} (h : PlcAt H ps I) (ha : H a = some (.tup [ni (lc (laid I ++ p.1)).1, ni (lc (laid I ++ p.1)).2, ni (laid I ++ p.1).length, ni (laid I).length])) : PlcAt H (ps ++ [.ref a]) (I ++ [p]) := by
  refine ⟨by simp [h.1], fun i q e => ?_⟩
  rcases snoc_at e with e | ⟨e1, e2⟩
  · obtain ⟨a', h1, h2⟩ := h.2 i q e
    have hlt := (List.getElem?_eq_some_iff.mp e).1
    refine ⟨a', by rw [List.getElem?_append_left (List.getElem?_eq_some_iff.mp h1).1]; exact h1, ?_⟩
    rw [List.take_append_of_le_length (by omega)]
    exact h2
  · subst e2
    refine ⟨a, ?_, ?_⟩
    · rw [List.getElem?_append_right (by rw [h.1]; omega), h.1, e1, Nat.sub_self]
      rfl
    · rw [e1, List.take_left']
      · exact ha
      · rfl
theorem gap_len {g : Cs} (h : Gap g) : g.length ≤ 1 := by rcases h with rfl | rfl | rfl <;> simp
theorem laid_len : ∀ {I : List It} {R : List Row}, (∀ p ∈ I, Gap p.1) → I.map (·.2) = R.map (fun r => cz r.1) → (laid I).length ≤ wd R
  | [], _, _, _ => Nat.zero_le _
  | p :: I, [], _, h => by simp at h
  | p :: I, r :: R, hg, h => by
    rw [List.map_cons, List.map_cons] at h
    obtain ⟨h1, h2⟩ := List.cons.inj h
    have ih := laid_len (I := I) (R := R) (fun q hq => hg q (List.mem_cons_of_mem _ hq)) h2
    have g1 := gap_len (hg p List.mem_cons_self)
    rw [laid_cons, List.length_append, List.length_append, wd_cons, h1]
    omega
theorem Ok.gaps : ∀ {I : List It} {x : Nat}, Ok x I → ∀ p ∈ I, Gap p.1
  | [], _, _, _, h => by cases h
  | i :: I, x, ho, p, hp => by
    rcases List.mem_cons.mp hp with rfl | hp
    · exact ho.1
    · obtain ⟨z, hz⟩ := getLast_some (tok_ne ho.2.1)
      exact (ho.2.2.2 z hz).gaps p hp
theorem wd_take (R : List Row) (n : Nat) : wd (R.take n) ≤ wd R := by
  have h := wd_app (R.take n) (R.drop n)
  rw [List.take_append_drop] at h
  omega
theorem row_le_wd : ∀ R : List Row, R.length ≤ wd R
  | [] => Nat.zero_le _
  | r :: R => by
    have := row_le_wd R
    rw [wd_cons, List.length_cons]
    omega
theorem cz_app (x y : Str) : cz (x ++ y) = cz x ++ cz y := TL.tl_append x y
theorem len_cz (x : Str) : x.length = (cz x).length := TL.len_tl x
theorem lcF_snoc (p : Nat × Nat) (x : Cs) (c : Nat) : lcF p (x ++ [c]) = stp (lcF p x) c := by rw [lcF_app]; rfl
theorem take_snoc {l : Cs} {i c : Nat} (h : l[i]? = some c) : l.take (i + 1) = l.take i ++ [c] := by
  obtain ⟨hlt, he⟩ := List.getElem?_eq_some_iff.mp h
  rw [List.take_succ_eq_append_getElem hlt, he]
/-- over the signs of a text -/
theorem for_str {x : Str} {g : TG} {tb : TS} {D : Ends} {σ : St} {H : Hp} (Pv : Nat → St → Hp → Prop) (h0 : Pv 0 σ H)
    (hs : ∀ i c σ H, (cz x)[i]? = some c → Pv i σ H → g (.str ⟨#[c]⟩) σ H fun σ2 H2 => tb { D with nx := Pv (i + 1), ct := Pv (i + 1), bk := D.nx } σ2 H2) (hd : ∀ σ H, Pv (cz x).length σ H → D.nx σ H) :
    ∃ W : Nat → Nat → St → Hp → Prop, (∃ m, W 0 m σ H) ∧ ∀ i m σ H, W i m σ H →
      ((Its x).stop i H ∧ D.nx σ H) ∨ ((Its x).go i H ∧ ∃ N : St → Hp → Prop, (∀ σ' H', N σ' H' → ∃ m', m' < m ∧ W (i + 1) m' σ' H') ∧ ∀ v H', (Its x).yld i H v H' → g v σ H' fun σ2 H2 => tb { D with nx := N, ct := N, bk := D.nx } σ2 H2) := by
  have el : x.cps.size = (cz x).length := by simp
  refine ⟨fun i m σ H => m = (cz x).length - i ∧ i ≤ (cz x).length ∧ Pv i σ H, ⟨(cz x).length, by simp, Nat.zero_le _, h0⟩, ?_⟩
  rintro i m σ H ⟨rfl, hi, p⟩
  by_cases hlt : i < (cz x).length
  · refine .inr ⟨show i < x.cps.size by omega, Pv (i + 1), fun σ' H' p' => ⟨(cz x).length - (i + 1), by omega, rfl, hlt, p'⟩, fun v H' y => ?_⟩
    obtain ⟨e, c, hc, ev⟩ := y
    subst e ev
    exact hs i c σ _ (by rw [← hc]; simp) p
  · have e : i = (cz x).length := by omega
    subst e
    exact .inl ⟨show x.cps.size ≤ (cz x).length by omega, hd σ H p⟩
end K6
namespace K6
open PySem L2
theorem sgn_cz (c : Nat) : cz (⟨#[c]⟩ : Str) = [c] := rfl
theorem sgn_eq {x : Str} {c : Nat} (h : cz x = [c]) : x = ⟨#[c]⟩ := TL.ext_tl h
theorem str_nil {x : Str} : cz x = [] ↔ x = "" := ⟨fun h => TL.ext_tl (by rw [show TL.tl x = [] from h]; decide +kernel), fun h => by rw [h]; decide +kernel⟩
section
variable {P : Program} {w : World} {K : PySem.W.Frag} {mg : Str → Option Value} {base : Heap} {CR CT CO CF WA fR fT fO : Addr}
def spPlain : Sp := fun vs H Q _ => ∃ c : Nat, vs = [.str ⟨#[c]⟩] ∧ Q (.bl (plain c)) H
theorem use_plain (T : Txt K mg CR CT CO CF WA fR fT fO) : Use P w K mg base CX0 1 "_law_plain" p__law_plain spPlain := by
  refine use_of T.d_law_plain (fun f fd F => F.binds fun _ _ _ _ _ _ us hl => match us, hl with | [_], _ => rfl) fun f fd F => ?_
  refine F.ok sc__law_plain (fun vs H Q E h => ?_) (fun cdv A outer s H vs Q E hr h => ?_)
  · obtain ⟨c, rfl, _⟩ := h
    rfl
  obtain ⟨c, rfl, q⟩ := h
  refine ⟨_, (pss_one (ps_ret (pe_cmpR op_in_sign (pv 0) pe_str (by with_unfolding_all rfl)))), ?_⟩
  refine ⟨_, rfl, c, _, rfl, rfl, ?_⟩
  rw [← mem_both] at q
  exact q
/-! ### _law_wrong -/
def WrongOf (t w : Str) : Prop := (∃ c ∈ ([38, 90, 59, 63] : List Nat), cz w = [c]) ∨ (∃ z, (cz t).head? = some z ∧ plain z = true ∧ cz w = 48 :: 49 :: cz t)
def spWrong : Sp := fun vs H Q _ => ∃ (b d : Addr) (t : Str), vs = [.ref b, .str t] ∧ Box b d H ∧ Tok (cz t) ∧ (cz t).length ≤ 5000 ∧ ∀ (x : Str) (H' : Hp), WrongOf t x → Box b d H' → Kp [b] H H' → Q (.str x) H'
theorem use_wrong (T : Txt K mg CR CT CO CF WA fR fT fO) : Use P w K mg base CX0 2 "_law_wrong" p__law_wrong spWrong := by
  have U__law_draw : Use P w K mg base CX0 1 "_law_draw" p__law_draw spDraw := use_draw T
  have U__law_plain : Use P w K mg base CX0 1 "_law_plain" p__law_plain spPlain := use_plain T
  have pas__law_draw : ∀ {X : Cx}, Passes CX0 X E0 := pass0
  have pas__law_plain : ∀ {X : Cx}, Passes CX0 X E0 := pass0
  refine use_of T.d_law_wrong (fun f fd F => F.binds fun _ _ _ _ _ _ us hl => match us, hl with | [_, _], _ => rfl) fun f fd F => ?_
  refine F.ok sc__law_wrong (fun vs H Q E h => ?_) (fun cdv A outer s H vs Q E hr h => ?_)
  · obtain ⟨b, d, t, rfl, _⟩ := h
    rfl
  obtain ⟨b, d, t, rfl, bx, ht, hl, q⟩ := h
  have lt := len_cz t
  obtain ⟨c, r, ec⟩ : ∃ c r, cz t = c :: r := by
    cases e : cz t with
    | nil => exact absurd e (tok_ne ht)
    | cons c r => exact ⟨c, r, rfl⟩
  refine ⟨_, (pss_cons (ps_if (pt_val (pe_use U__law_plain (hr.mono (by decide)) (by rfl) pas__law_plain (pa_cons (pe_ix ix_str (pv 1) pe_int (fun _ _ => rfl)) pa_nil))) (pss_one (ps_ret (pe_ix ix_list (pe_lst (pa_cons pe_str (pa_cons pe_str (pa_cons (pe_op op_add_str pe_str (pv 1)) (pa_cons pe_str pa_nil))))) (pe_use U__law_draw (hr.mono (by decide)) (by rfl) pas__law_draw (pa_cons (pv 0) (pa_cons pe_int pa_nil))) (fun _ _ => rfl)))) pss_nil)
      (pss_one (ps_ret (pe_ix ix_list (pe_lst (pa_cons pe_str (pa_cons pe_str (pa_cons pe_str pa_nil)))) (pe_use U__law_draw (hr.mono (by decide)) (by rfl) pas__law_draw (pa_cons (pv 0) (pa_cons pe_int pa_nil))) (fun _ _ => rfl))))), ?_⟩
  refine ⟨_, rfl, t, 0, c, rfl, rfl, szle (by omega), by show atI (cz t) 0 = some c; rw [ec]; exact atI_nat (xs := c :: r) (j := 0) rfl, c, rfl, _, rfl, ?_⟩
  refine ite2 (fun h1 => ?_) (fun h1 => ?_)
  · refine ⟨_, rfl, _, _, rfl, rfl, szle (by rw [lt]; show 2 + _ ≤ 100000; omega), (by show 4 ≤ sizeLine; decide), fun p hp => ?_⟩
    refine ⟨_, rfl, b, d, 4, rfl, bx.new hp, by decide, fun r5 H5 l5 bx5 k5 => ?_⟩
    obtain ⟨v1, hv1, a1⟩ := pick (xs := [.str "&", .str "Z", .str ("01" ++ t), .str ";"]) (r := r5) (by simpa using l5)
    refine ⟨p, _, _, _, rfl, rfl, SqL.of (k5.keep _ _ (by simpa using (bx.ne hp).1.symm) upd_same), a1, ?_⟩
    have kk : Kp [b] H H5 := ((Kp.refl _ _).new hp).trans k5
    simp only [List.mem_cons, List.not_mem_nil, or_false] at hv1
    rcases hv1 with rfl | rfl | rfl | rfl
    · exact q _ _ (.inl ⟨38, by decide, by decide +kernel⟩) bx5 kk
    · exact q _ _ (.inl ⟨90, by decide, by decide +kernel⟩) bx5 kk
    · exact q _ _ (.inr ⟨c, by rw [ec]; rfl, h1, by rw [cz_app]; rfl⟩) bx5 kk
    · exact q _ _ (.inl ⟨59, by decide, by decide +kernel⟩) bx5 kk
  · refine ⟨(by show 3 ≤ sizeLine; decide), fun p hp => ?_⟩
    refine ⟨_, rfl, b, d, 3, rfl, bx.new hp, by decide, fun r5 H5 l5 bx5 k5 => ?_⟩
    obtain ⟨v1, hv1, a1⟩ := pick (xs := [.str "&", .str ";", .str "?"]) (r := r5) (by simpa using l5)
    refine ⟨p, _, _, _, rfl, rfl, SqL.of (k5.keep _ _ (by simpa using (bx.ne hp).1.symm) upd_same), a1, ?_⟩
    have kk : Kp [b] H H5 := ((Kp.refl _ _).new hp).trans k5
    simp only [List.mem_cons, List.not_mem_nil, or_false] at hv1
    rcases hv1 with rfl | rfl | rfl
    · exact q _ _ (.inl ⟨38, by decide, by decide +kernel⟩) bx5 kk
    · exact q _ _ (.inl ⟨59, by decide, by decide +kernel⟩) bx5 kk
    · exact q _ _ (.inl ⟨63, by decide, by decide +kernel⟩) bx5 kk
/-! ### _law_end -/
theorem stp_nl (p : Nat × Nat) : stp p 10 = (p.1 + 1, 1) := if_pos rfl
theorem stp_ot {c : Nat} (p : Nat × Nat) (h : c ≠ 10) : stp p c = (p.1, p.2 + 1) := if_neg h
def spEnd : Sp := fun vs H Q _ => ∃ (b d : Addr) (x : Str), vs = [.ref b, .str x] ∧ Box b d H ∧ (cz x).length ≤ 5000 ∧
  ∀ (a : Addr) (g : Cs) (y : Str) (H' : Hp), Gap g → cz y = cz x ++ g → H' a = some (.lst [.str y, ni (lc (cz y)).1, ni (lc (cz y)).2]) → a ≠ b → Box b d H' → Kp [b] H H' → H a = none → Q (.ref a) H'
theorem use_end (T : Txt K mg CR CT CO CF WA fR fT fO) : Use P w K mg base CX0 2 "_law_end" p__law_end spEnd := by
  have U__law_draw : Use P w K mg base CX0 1 "_law_draw" p__law_draw spDraw := use_draw T
  have pas__law_draw : ∀ {X : Cx}, Passes CX0 X E0 := pass0
  refine use_of T.d_law_end (fun f fd F => F.binds fun _ _ _ _ _ _ us hl => match us, hl with | [_, _], _ => rfl) fun f fd F => ?_
  refine F.ok sc__law_end (fun vs H Q E h => ?_) (fun cdv A outer s H vs Q E hr h => ?_)
  · obtain ⟨b, d, x, rfl, _⟩ := h
    rfl
  obtain ⟨b, d, x, rfl, bx, hl, q⟩ := h
  have lx := len_cz x
  refine ⟨_, (pss_cons (ps_set (i := 1) sc__law_end.nd rfl (Or.inl rfl) (pe_op op_add_str (pv 1) (pe_ix ix_list (pe_lst (pa_cons pe_str (pa_cons pe_str (pa_cons pe_str pa_nil)))) (pe_use U__law_draw (hr.mono (by decide)) (by rfl) pas__law_draw (pa_cons (pv 0) (pa_cons pe_int pa_nil))) (fun _ _ => rfl))))
      (pss_cons (ps_set (i := 2) sc__law_end.nd rfl (Or.inl rfl) pe_int)
      (pss_cons (ps_set (i := 3) sc__law_end.nd rfl (Or.inl rfl) pe_int)
      (pss_cons (ps_for PassesOwn.never rfl (pi_str (pv 1)) (pg_name (i := 4) sc__law_end.nd rfl (Or.inl rfl)) (pss_cons (ps_set (i := 3) sc__law_end.nd rfl (Or.inl rfl) (pe_op op_add (pv 3) pe_int))
      (pss_one (ps_if (pt_cmpR op_eq (pv 4) pe_str (nomark _)) (pss_cons (ps_set (i := 2) sc__law_end.nd rfl (Or.inl rfl) (pe_op op_add (pv 2) pe_int))
      (pss_one (ps_set (i := 3) sc__law_end.nd rfl (Or.inl rfl) pe_int))) pss_nil))))
      (pss_one (ps_ret (pe_lst (pa_cons (pv 1) (pa_cons (pv 2) (pa_cons (pv 3) pa_nil)))))))))), ?_⟩
  refine ⟨_, rfl, (by show 3 ≤ sizeLine; decide), fun p hp => ?_⟩
  refine ⟨_, rfl, b, d, 3, rfl, bx.new hp, by decide, fun r5 H5 l5 bx5 k5 => ?_⟩
  obtain ⟨v1, hv1, a1⟩ := pick (xs := [.str "", .str " ", .str "\n"]) (r := r5) (by simpa using l5)
  refine ⟨p, _, _, _, rfl, rfl, SqL.of (k5.keep _ _ (by simpa using (bx.ne hp).1.symm) upd_same), a1, ?_⟩
  have kk : Kp [b] H H5 := ((Kp.refl _ _).new hp).trans k5
  obtain ⟨g, rfl, hg⟩ : ∃ g : Str, v1 = .str g ∧ Gap (cz g) := by
    simp only [List.mem_cons, List.not_mem_nil, or_false] at hv1
    rcases hv1 with rfl | rfl | rfl
    · exact ⟨_, rfl, .inl (by decide +kernel)⟩
    · exact ⟨_, rfl, .inr (.inl (by decide +kernel))⟩
    · exact ⟨_, rfl, .inr (.inr (by decide +kernel))⟩
  have lg := len_cz g
  have lg1 := gap_len hg
  refine ⟨_, _, rfl, rfl, szle (by omega), ?_⟩
  refine ⟨_, rfl, x ++ g, rfl, ?_⟩
  refine for_str (fun i σ H' => (∃ v4 : Option V, σ = [some (.ref b), some (.str (x ++ g)), some (ni (lcF (1, 1) ((cz (x ++ g)).take i)).1), some (ni (lcF (1, 1) ((cz (x ++ g)).take i)).2), v4]) ∧ H' = H5) ⟨⟨_, rfl⟩, rfl⟩ ?_ ?_
  · rintro i c σ H6 hi ⟨⟨v4, rfl⟩, rfl⟩
    rw [take_snoc hi, lcF_snoc]
    refine ⟨_, rfl, _, _, rfl, rfl, ?_⟩
    refine ⟨_, rfl, rfl, ?_⟩
    by_cases h10 : c = 10
    · subst h10
      refine ⟨true, ttT (by decide +kernel), iteT ?_⟩
      refine ⟨_, rfl, _, _, rfl, rfl, ?_⟩
      refine ⟨⟨some (.str ⟨#[10]⟩), ?_⟩, rfl⟩
      rw [stp_nl]
      rfl
    · refine ⟨false, ttF (nstr fun e => h10 ?_), iteF ?_⟩
      · have e2 := congrArg cz e
        rw [sgn_cz, show cz ("\n" : Str) = [10] by decide +kernel] at e2
        exact (List.cons.inj e2).1
      · refine ⟨⟨some (.str ⟨#[c]⟩), ?_⟩, rfl⟩
        rw [stp_ot _ h10]
        rfl
  · rintro σ H6 ⟨⟨v4, rfl⟩, rfl⟩
    rw [List.take_length]
    refine ⟨_, rfl, _, rfl, _, rfl, (by show 3 ≤ sizeLine; decide), fun p2 hp2 => ?_⟩
    exact q p2 (cz g) (x ++ g) _ hg (cz_app _ _) upd_same (bx5.ne hp2).1.symm (bx5.new hp2) (kk.new hp2) (kk.freshB bx5 hp2)
end
end K6
namespace K6
open PySem L2
section
variable {P : Program} {w : World} {K : PySem.W.Frag} {mg : Str → Option Value} {base : Heap} {CR CT CO CF WA fR fT fO : Addr}
def spLay : Sp := fun vs H Q _ => ∃ (b d l : Addr) (us : List V) (R : List Row), vs = [.ref b, .ref l] ∧ Box b d H ∧ H l = some (.lst us) ∧ l ≠ b ∧ RwAt H us R ∧ TokR R ∧ wd R ≤ 2000 ∧
  ∀ (a pl : Addr) (x : Str) (I : List It) (ps : List V) (H' : Hp), I.map (·.2) = R.map (fun r => cz r.1) → Ok 44 I → cz x = laid I → H' a = some (.lst [.str x, .ref pl]) → H' pl = some (.lst ps) → PlcAt H' ps I → a ≠ b → pl ≠ b → H a = none → H pl = none →
    Box b d H' → Kp [b] H H' → Q (.ref a) H'
theorem use_lay (T : Txt K mg CR CT CO CF WA fR fT fO) : Use P w K mg base CX0 2 "_law_lay" p__law_lay spLay := by
  have U__law_draw : Use P w K mg base CX0 1 "_law_draw" p__law_draw spDraw := use_draw T
  have U__law_plain : Use P w K mg base CX0 1 "_law_plain" p__law_plain spPlain := use_plain T
  have pas__law_draw : ∀ {X : Cx}, Passes CX0 X E0 := pass0
  have pas__law_plain : ∀ {X : Cx}, Passes CX0 X E0 := pass0
  refine use_of T.d_law_lay (fun f fd F => F.binds fun _ _ _ _ _ _ us hl => match us, hl with | [_, _], _ => rfl) fun f fd F => ?_
  refine F.ok sc__law_lay (fun vs H Q E h => ?_) (fun cdv A outer s H vs Q E hr h => ?_)
  · obtain ⟨b, d, l, us, R, rfl, _⟩ := h
    rfl
  obtain ⟨b, d, l, us, R, rfl, bx, hl, nlb, rw0, tR, hw, q⟩ := h
  refine ⟨_, (pss_cons (ps_set (i := 2) sc__law_lay.nd rfl (Or.inl rfl) pe_str)
      (pss_cons (ps_set (i := 3) sc__law_lay.nd rfl (Or.inl rfl) pe_int)
      (pss_cons (ps_set (i := 4) sc__law_lay.nd rfl (Or.inl rfl) pe_int)
      (pss_cons (ps_set (i := 5) sc__law_lay.nd rfl (Or.inl rfl) (pe_lst pa_nil))
      (pss_cons (ps_set (i := 6) sc__law_lay.nd rfl (Or.inl rfl) pe_str)
      (pss_cons (ps_for PassesOwn.never rfl (pi_list (pv 1)) (pg_name (i := 7) sc__law_lay.nd rfl (Or.inl rfl)) (pss_cons (ps_set (i := 8) sc__law_lay.nd rfl (Or.inl rfl) (pe_ix ix_list (pe_lst (pa_cons pe_str (pa_cons pe_str (pa_cons pe_str (pa_cons pe_str pa_nil))))) (pe_use U__law_draw (hr.mono (by decide)) (by rfl) pas__law_draw (pa_cons (pv 0) (pa_cons pe_int pa_nil))) (fun _ _ => rfl)))
      (Evl.pss_cut (ps_if (PW.pt (pw_and (pt_cmpR op_eq (pv 8) pe_str (nomark _)) (pw_and (pt_val (pe_use U__law_plain (hr.mono (by decide)) (by rfl) pas__law_plain (pa_cons (pv 6) pa_nil))) (pw_and1 (pt_val (pe_use U__law_plain (hr.mono (by decide)) (by rfl) pas__law_plain (pa_cons (pe_ix ix_str (pe_ix ix_tup (pv 7) pe_int (fun _ _ => rfl)) pe_int (fun _ _ => rfl)) pa_nil))))))) (pss_one (ps_set (i := 8) sc__law_lay.nd rfl (Or.inl rfl) pe_str)) pss_nil)
      (pss_cons (ps_for PassesOwn.never rfl (pi_str (pv 8)) (pg_name (i := 9) sc__law_lay.nd rfl (Or.inl rfl)) (pss_cons (ps_set (i := 4) sc__law_lay.nd rfl (Or.inl rfl) (pe_op op_add (pv 4) pe_int))
      (pss_one (ps_if (pt_cmpR op_eq (pv 9) pe_str (nomark _)) (pss_cons (ps_set (i := 3) sc__law_lay.nd rfl (Or.inl rfl) (pe_op op_add (pv 3) pe_int))
      (pss_one (ps_set (i := 4) sc__law_lay.nd rfl (Or.inl rfl) pe_int))) pss_nil))))
      (pss_cons (ps_expr (pe_bm PySem.F.plainAttrs_list PySem.F.slot_list_append PySem.F.type_list_append mt_append (pv 5) (pa_cons (pe_tup (pa_cons (pv 3) (pa_cons (pv 4) (pa_cons (pe_op op_add (pe_callB call_len_str (by rfl) T.n_len PySem.boot_len (pa_cons (pv 2) pa_nil)) (pe_callB call_len_str (by rfl) T.n_len PySem.boot_len (pa_cons (pv 8) pa_nil))) (pa_cons (pe_callB call_len_str (by rfl) T.n_len PySem.boot_len (pa_cons (pv 2) pa_nil)) pa_nil))))) pa_nil)))
      (pss_cons (ps_set (i := 2) sc__law_lay.nd rfl (Or.inl rfl) (pe_op op_add_str (pe_op op_add_str (pv 2) (pv 8)) (pe_ix ix_tup (pv 7) pe_int (fun _ _ => rfl))))
      (pss_cons (ps_set (i := 4) sc__law_lay.nd rfl (Or.inl rfl) (pe_op op_add (pv 4) (pe_callB call_len_str (by rfl) T.n_len PySem.boot_len (pa_cons (pe_ix ix_tup (pv 7) pe_int (fun _ _ => rfl)) pa_nil))))
      (pss_one (ps_set (i := 6) sc__law_lay.nd rfl (Or.inl rfl) (pe_ix ix_str (pe_ix ix_tup (pv 7) pe_int (fun _ _ => rfl)) (pe_un un_neg pe_int) (fun _ _ => rfl)))))))))))
      (pss_one (ps_ret (pe_lst (pa_cons (pv 2) (pa_cons (pv 5) pa_nil))))))))))), ?_⟩
  refine ⟨(by show 0 ≤ sizeLine; decide), fun pp hpp => ?_⟩
  have kpp : Kp [b] H (upd H pp (.lst [])) := (Kp.refl _ _).new hpp
  have npb := (bx.ne hpp).1.symm
  have npd := (bx.ne hpp).2.symm
  refine ⟨_, rfl, l, rfl, ⟨us, SqL.of (kpp.keep _ _ (by simpa using nlb) hl)⟩, ?_⟩
  have ul := rw0.len
  refine for_list (K := K) (a := l) (xs := us) (fun i σ H' => ∃ (I : List It) (x : Str) (ps : List V) (z : Nat) (v7 v8 v9 : Option V), σ = [some (.ref b), some (.ref l), some (.str x), some (ni (lc (laid I)).1), some (ni (lc (laid I)).2), some (.ref pp), some (.str ⟨#[z]⟩), v7, v8, v9] ∧
    I.length = i ∧ I.map (·.2) = (R.take i).map (fun r => cz r.1) ∧ Ok 44 I ∧ lastZ 44 I = z ∧ cz x = laid I ∧ H' pp = some (.lst ps) ∧ PlcAt H' ps I ∧ Box b d H' ∧ Kp [b] H H')
    ⟨[], "", [], 44, _, _, _, rfl, rfl, rfl, True.intro, rfl, by decide +kernel, upd_same, ⟨rfl, fun i p e => by simp at e⟩, bx.new hpp, kpp⟩ (fun i σ H' _ ⟨I, x, ps, z, v7, v8, v9, _, _, _, _, _, _, _, _, _, k⟩ => SqL.of (k.keep _ _ (by simpa using nlb) hl)) ?_ ?_
  · rintro i v σ H1 hi ⟨I, x, ps, z, v7, v8, v9, rfl, il, im, ok, lz, ex, epp, hps, bx1, k1⟩
    have hlt := (List.getElem?_eq_some_iff.mp hi).1
    have hltR : i < R.length := by omega
    have hRi : R[i]? = some R[i] := List.getElem?_eq_getElem hltR
    obtain ⟨a, ha1, ha2⟩ := rw0.get hRi
    have ev : v = .ref a := by rw [hi] at ha1; exact Option.some.inj ha1
    subst ev
    obtain ⟨t, et⟩ : ∃ t, R[i] = t := ⟨_, rfl⟩
    rw [et] at ha2 hRi
    have ht : Tok (cz t.1) := tR t (List.mem_of_getElem? hRi)
    have hwt : (cz t.1).length ≤ 2000 := by
      have h1 := wd_app (R.take i) (R.drop i)
      rw [List.take_append_drop] at h1
      have h2 : R.drop i = t :: R.drop (i + 1) := by rw [List.drop_eq_getElem_cons hltR, et]
      rw [h2, wd_cons] at h1
      omega
    have ha3 := k1.tup _ _ ha2
    have lx := len_cz x
    have ll : (laid I).length ≤ 2000 := Nat.le_trans (laid_len ok.gaps im) (Nat.le_trans (wd_take _ _) hw)
    have lx2 : x.length ≤ 2000 := by rw [lx, ex]; exact ll
    have lt := len_cz t.1
    obtain ⟨c0, r0, ec⟩ : ∃ c r, cz t.1 = c :: r := by
      cases e : cz t.1 with
      | nil => exact absurd e (tok_ne ht)
      | cons c r => exact ⟨c, r, rfl⟩
    obtain ⟨zl, hzl⟩ := getLast_some (tok_ne ht)
    -- the gap
    refine ⟨(by show 4 ≤ sizeLine; decide), fun p hp => ?_⟩
    refine ⟨_, rfl, b, d, 4, rfl, bx1.new hp, by decide, fun r5 H5 l5 bx5 k5 => ?_⟩
    obtain ⟨v1, hv1, a1⟩ := pick (xs := [.str "", .str "", .str " ", .str "\n"]) (r := r5) (by simpa using l5)
    refine ⟨p, _, _, _, rfl, rfl, SqL.of (k5.keep _ _ (by simpa using (bx1.ne hp).1.symm) upd_same), a1, ?_⟩
    have k15 : Kp [b] H1 H5 := ((Kp.refl _ _).new hp).trans k5
    have ha5 := k15.tup _ _ ha3
    have epp5 := k15.keep pp _ (by simpa using npb) epp
    have hps5 := hps.kp k15
    have k05 := k1.trans k15
    obtain ⟨g0, rfl, hg0⟩ : ∃ g : Str, v1 = .str g ∧ Gap (cz g) := by
      simp only [List.mem_cons, List.not_mem_nil, or_false] at hv1
      rcases hv1 with rfl | rfl | rfl | rfl
      · exact ⟨_, rfl, .inl (by decide +kernel)⟩
      · exact ⟨_, rfl, .inl (by decide +kernel)⟩
      · exact ⟨_, rfl, .inr (.inl (by decide +kernel))⟩
      · exact ⟨_, rfl, .inr (.inr (by decide +kernel))⟩
    refine ⟨fun σ' H' => ∃ g : Str, σ' = [some (.ref b), some (.ref l), some (.str x), some (ni (lc (laid I)).1), some (ni (lc (laid I)).2), some (.ref pp), some (.str ⟨#[z]⟩), some (.ref a), some (.str g), v9] ∧ Gap (cz g) ∧ (cz g = [] → ¬ (plain z = true ∧ plain c0 = true)) ∧ H' = H5, ?_, ?_⟩
    · refine ⟨_, rfl, rfl, ?_⟩
      by_cases e1 : g0 = ""
      · refine ⟨true, ttT (congrArg V.str e1), iteT ?_⟩
        refine ⟨_, rfl, z, rfl, _, rfl, ?_⟩
        refine ite2 (fun h1 => ?_) (fun h1 => ?_)
        · refine ⟨_, rfl, _, _, _, _, rfl, rfl, SqT.of ha5, rfl, t.1, 0, c0, rfl, rfl, szle (by omega), by show atI (cz t.1) 0 = some c0; rw [ec]; exact atI_nat (xs := c0 :: r0) (j := 0) rfl, c0, rfl, _, rfl, ?_⟩
          refine ite2 (fun h2 => ?_) (fun h2 => ?_)
          · exact ⟨" ", rfl, .inr (.inl (by decide +kernel)), fun e => absurd e (by decide +kernel), rfl⟩
          · exact ⟨g0, rfl, hg0, fun _ q => h2 q.2, rfl⟩
        · exact iteF ⟨g0, rfl, hg0, fun _ q => h1 q.1, rfl⟩
      · refine ⟨false, ttF (nstr e1), iteF (iteF ?_)⟩
        exact ⟨g0, rfl, hg0, fun e => absurd (str_nil.mp e) e1, rfl⟩
    rintro σ' H5' ⟨g, rfl, hg, hgz, rfl⟩
    have lg := len_cz g
    have lg1 := gap_len hg
    -- for sign in gap
    refine ⟨_, rfl, g, rfl, ?_⟩
    refine for_str (fun j σ H' => (∃ v9 : Option V, σ = [some (.ref b), some (.ref l), some (.str x), some (ni (lcF (lc (laid I)) ((cz g).take j)).1), some (ni (lcF (lc (laid I)) ((cz g).take j)).2), some (.ref pp), some (.str ⟨#[z]⟩), some (.ref a), some (.str g), v9]) ∧ H' = H5') ⟨⟨_, rfl⟩, rfl⟩ ?_ ?_
    · rintro j c σ H6 hj ⟨⟨v9', rfl⟩, rfl⟩
      rw [take_snoc hj, lcF_snoc]
      refine ⟨_, rfl, _, _, rfl, rfl, ?_⟩
      refine ⟨_, rfl, rfl, ?_⟩
      by_cases h10 : c = 10
      · subst h10
        refine ⟨true, ttT (by decide +kernel), iteT ?_⟩
        refine ⟨_, rfl, _, _, rfl, rfl, ?_⟩
        refine ⟨⟨some (.str ⟨#[10]⟩), ?_⟩, rfl⟩
        rw [stp_nl]
        rfl
      · refine ⟨false, ttF (nstr fun e => h10 ?_), iteF ?_⟩
        · have e2 := congrArg cz e
          rw [sgn_cz, show cz ("\n" : Str) = [10] by decide +kernel] at e2
          exact (List.cons.inj e2).1
        · refine ⟨⟨some (.str ⟨#[c]⟩), ?_⟩, rfl⟩
          rw [stp_ot _ h10]
          rfl
    · rintro σ H6 ⟨⟨v9', rfl⟩, rfl⟩
      rw [List.take_length]
      have eL : lcF (lc (laid I)) (cz g) = lc (laid I ++ cz g) := (lcF_app _ _ _).symm
      rw [eL]
      -- places.append((line, column, len(text) + len(gap), len(text)))
      refine ⟨_, rfl, .inl ⟨rfl, _, SqL.of epp5⟩, _, rfl, _, rfl, _, rfl, x, rfl, szle (by omega), _, rfl, g, rfl, szle (by omega), _, _, rfl, rfl, _, rfl, x, rfl, szle (by omega), (by show 4 ≤ sizeLine; decide), fun p2 hp2 => ?_⟩
      have k6 : Kp [] H6 (upd H6 p2 (.tup [ni (lc (laid I ++ cz g)).1, ni (lc (laid I ++ cz g)).2, .int ((x.length : Int) + (g.length : Int)), .int (x.length : Int)])) := (Kp.refl _ _).new hp2
      have epp6 := k6.keep pp _ (by simp) epp5
      refine ⟨_, _, _, rfl, rfl, epp6, szl (by rw [hps5.1, il]; have := row_le_wd R; omega), ?_⟩
      have k7 : Kp [pp] (upd H6 p2 (.tup [ni (lc (laid I ++ cz g)).1, ni (lc (laid I ++ cz g)).2, .int ((x.length : Int) + (g.length : Int)), .int (x.length : Int)])) (upd (upd H6 p2 (.tup [ni (lc (laid I ++ cz g)).1, ni (lc (laid I ++ cz g)).2, .int ((x.length : Int) + (g.length : Int)), .int (x.length : Int)])) pp (.lst (ps ++ [.ref p2]))) := (Kp.refl _ _).lst (by simp) epp6
      have e1 : (x.length : Int) + (g.length : Int) = (((laid I ++ cz g).length : Nat) : Int) := by rw [List.length_append, lx, lg, ex]; omega
      have e2 : (x.length : Int) = (((laid I).length : Nat) : Int) := by rw [lx, ex]
      have hps7 : PlcAt (upd (upd H6 p2 (.tup [ni (lc (laid I ++ cz g)).1, ni (lc (laid I ++ cz g)).2, .int ((x.length : Int) + (g.length : Int)), .int (x.length : Int)])) pp (.lst (ps ++ [.ref p2]))) (ps ++ [.ref p2]) (I ++ [(cz g, cz t.1)]) := by
        refine ((hps5.kp k6).kp k7).snoc (k7.tup _ _ ?_)
        rw [upd_same, e1]
        show some (HO.tup [_, _, _, V.int (x.length : Int)]) = _
        rw [e2]
      have nb2 := bx5.ne hp2
      -- text, column, last
      refine ⟨_, rfl, _, rfl, _, _, rfl, rfl, szle (by omega), ?_⟩
      have ha7 := k7.tup _ _ (k6.tup _ _ ha5)
      have lxg : (x ++ g).length ≤ 2001 := by rw [len_cz, cz_app, List.length_append, ← lx, ← lg]; omega
      refine ⟨_, rfl, _, _, _, _, rfl, rfl, SqT.of ha7, rfl, _, _, rfl, rfl, szle (by omega), ?_⟩
      refine ⟨_, rfl, _, rfl, _, _, _, _, rfl, rfl, SqT.of ha7, rfl, t.1, rfl, szle (by omega), _, _, rfl, rfl, ?_⟩
      refine ⟨_, rfl, _, _, _, _, rfl, rfl, SqT.of ha7, rfl, _, rfl, t.1, -1, zl, rfl, rfl, szle (by omega), ?_, ?_⟩
      · show atI (cz t.1) (-1) = some zl
        have e5 : cz t.1 = (cz t.1).dropLast ++ [zl] := by
          have := List.dropLast_concat_getLast (tok_ne ht)
          rw [List.getLast?_eq_some_getLast (tok_ne ht)] at hzl
          rw [Option.some.inj hzl] at this
          exact this.symm
        rw [e5]
        exact atI_last _ _
      · have eL2 : lc (laid (I ++ [(cz g, cz t.1)])) = ((lc (laid I ++ cz g)).1, (lc (laid I ++ cz g)).2 + (cz t.1).length) := by
          rw [laid_app, laid_one]
          show lcF (1, 1) (laid I ++ (cz g ++ cz t.1)) = _
          rw [← List.append_assoc, lcF_app]
          exact lcF_flat _ _ (tok_no10 ht)
        refine ⟨I ++ [(cz g, cz t.1)], x ++ g ++ t.1, ps ++ [.ref p2], zl, some (.ref a), some (.str g), v9', ?_, by simp [il], ?_, ok.snoc hg ht ?_, ?_, ?_, upd_same, hps7, ?_, ?_⟩
        · rw [eL2, ← lt]
          rfl
        · rw [List.map_append, im, List.take_succ_eq_append_getElem hltR, List.map_append, et]
          rfl
        · intro e y hy
          rw [lz]
          have ey : y = c0 := by
            have hy' : (cz t.1).head? = some y := hy
            rw [ec] at hy'
            exact (Option.some.inj hy').symm
          rw [ey]
          exact hgz e
        · rw [lastZ_snoc]
          show (cz t.1).getLast?.getD 0 = zl
          rw [hzl]
          rfl
        · rw [cz_app, cz_app, laid_app, laid_one, ex, List.append_assoc]
        · exact (bx5.new hp2).upd ⟨npb.symm, npd.symm⟩
        · exact ((k05.new hp2).mutN hpp)
  · rintro σ H1 ⟨I, x, ps, z, v7, v8, v9, rfl, il, im, ok, lz, ex, epp, hps, bx1, k1⟩
    have eR : R.take us.length = R := by rw [ul]; exact List.take_length
    rw [eR] at im
    refine ⟨_, rfl, _, rfl, (by show 2 ≤ sizeLine; decide), fun p2 hp2 => ?_⟩
    have k2 : Kp [] H1 (upd H1 p2 (.lst [.str x, .ref pp])) := (Kp.refl _ _).new hp2
    exact q p2 pp x I ps _ im ok ex upd_same (k2.keep _ _ (by simp) epp) (hps.kp k2) (bx1.ne hp2).1.symm npb (k1.freshB bx1 hp2) hpp (bx1.new hp2) (k1.new hp2)
end
end K6
namespace K6
open PySem L2
/-- tokens as they stand -/
inductive TkL (H : Hp) : List V → List Tk → Prop
  | nil : TkL H [] []
  | cons {a : Addr} {k : Tk} {vs : List V} {T : List Tk} : H a = some (.tup [.str k.w, ni k.l, ni k.c]) → TkL H vs T → TkL H (.ref a :: vs) (k :: T)
theorem TkL.kp {H H' : Hp} {S : List Addr} (k : Kp S H H') : ∀ {vs : List V} {R : List Tk}, TkL H vs R → TkL H' vs R
  | _, _, .nil => .nil
  | _, _, .cons h t => .cons (k.tup _ _ h) (t.kp k)
theorem TkL.app {H : Hp} : ∀ {vs us : List V} {R S : List Tk}, TkL H vs R → TkL H us S → TkL H (vs ++ us) (R ++ S)
  | _, _, _, _, .nil, h => h
  | _, _, _, _, .cons h t, h2 => .cons h (t.app h2)
theorem TkL.len {H : Hp} : ∀ {vs : List V} {R : List Tk}, TkL H vs R → vs.length = R.length
  | _, _, .nil => rfl
  | _, _, .cons _ t => by rw [List.length_cons, List.length_cons, t.len]
theorem TkL.get {H : Hp} : ∀ {vs : List V} {R : List Tk} {i : Nat} {r : Tk}, TkL H vs R → R[i]? = some r → ∃ a, vs[i]? = some (.ref a) ∧ H a = some (.tup [.str r.w, ni r.l, ni r.c])
  | _, _, i, r, .nil, h => by simp at h
  | _, _, 0, r, .cons h t, e => by
    have e' := Option.some.inj e
    subst e'
    exact ⟨_, rfl, h⟩
  | _, _, i + 1, r, .cons h t, e => t.get (i := i) e
theorem drop_at {l : Cs} {n : Nat} (h : n < l.length) : ∃ c, l[n]? = some c ∧ l.drop n = c :: l.drop (n + 1) := ⟨l[n], List.getElem?_eq_getElem h, List.drop_eq_getElem_cons h⟩
theorem tw_len (f : Nat → Bool) : ∀ l : Cs, (l.takeWhile f).length ≤ l.length
  | [] => Nat.le_refl _
  | c :: r => by
    rw [List.takeWhile_cons]
    split
    · have := tw_len f r
      simp only [List.length_cons]
      omega
    · exact Nat.zero_le _
theorem tw_take (f : Nat → Bool) : ∀ l : Cs, l.take (l.takeWhile f).length = l.takeWhile f ∧ l.drop (l.takeWhile f).length = l.dropWhile f
  | [] => ⟨rfl, rfl⟩
  | c :: r => by
    obtain ⟨h1, h2⟩ := tw_take f r
    rw [List.takeWhile_cons, List.dropWhile_cons]
    split
    · rw [List.length_cons, List.take_succ_cons, List.drop_succ_cons, h1, h2]
      exact ⟨rfl, rfl⟩
    · exact ⟨rfl, rfl⟩
theorem cutS_cz (x : Str) {i j : Nat} (h1 : i ≤ j) (h2 : j ≤ (cz x).length) : cz (cutS x (some (i : Int)) (some (j : Int))) = ((cz x).drop i).take (j - i) := by
  unfold cutS
  rw [HT.sIx_nat, HT.sIx_nat]
  have e : x.length = (cz x).length := len_cz x
  have e1 : min i x.length = i := by omega
  have e2 : min j x.length = j := by omega
  rw [e1, e2]
section
variable {P : Program} {w : World} {K : PySem.W.Frag} {mg : Str → Option Value} {base : Heap} {CR CT CO CF WA fR fT fO : Addr}
def spRunEnd : Sp := fun vs H Q _ => ∃ (x sg : Str) (n : Nat) (f : Nat → Bool), vs = [.str x, ni n, .str sg] ∧ n ≤ (cz x).length ∧ (cz x).length ≤ 5000 ∧ (∀ c, decide (c ∈ cz sg) = f c) ∧ Q (ni (n + (((cz x).drop n).takeWhile f).length)) H
theorem use_runEnd (T : Txt K mg CR CT CO CF WA fR fT fO) : Use P w K mg base CX0 1 "_run_end" p__run_end spRunEnd := by
  refine use_of T.d_run_end (fun f fd F => F.binds fun _ _ _ _ _ _ us hl => match us, hl with | [_, _, _], _ => rfl) fun f fd F => ?_
  refine F.ok sc__run_end (fun vs H Q E h => ?_) (fun cdv A outer s H vs Q E hr h => ?_)
  · obtain ⟨x, sg, n, f, rfl, _⟩ := h
    rfl
  obtain ⟨x, sg, n, f, rfl, hn, hx, hf, q⟩ := h
  have lx := len_cz x
  refine ⟨_, (pss_cons (ps_while PassesOwn.never (PW.pt (pw_and (pt_cmpR op_lt (pv 1) (pe_callB call_len_str (by rfl) T.n_len PySem.boot_len (pa_cons (pv 0) pa_nil)) (nomark _)) (pw_and1 (pt_cmpR op_in_sign (pe_ix ix_str (pv 0) (pv 1) (fun _ _ => rfl)) (pv 2) (by with_unfolding_all rfl))))) (pss_one (ps_set (i := 1) sc__run_end.nd rfl (Or.inl rfl) (pe_op op_add (pv 1) pe_int))))
      (pss_one (ps_ret (pv 1)))), ?_⟩
  refine ⟨fun k σ H' => ∃ m : Nat, k = (cz x).length - m ∧ σ = [some (.str x), some (ni m), some (.str sg)] ∧ m ≤ (cz x).length ∧ m + (((cz x).drop m).takeWhile f).length = n + (((cz x).drop n).takeWhile f).length ∧ H' = H, ⟨_, n, rfl, rfl, hn, rfl, rfl⟩, ?_⟩
  rintro k σ H1 ⟨m, rfl, rfl, hm, e, rfl⟩
  refine ⟨_, rfl, _, rfl, x, rfl, szle (by omega), _, _, rfl, rfl, _, rfl, ?_⟩
  refine ite2 (fun h1 => ?_) (fun h1 => ?_)
  · have h1' : m < (cz x).length := by
      have := of_decide_eq_true h1
      omega
    obtain ⟨c, hc, hd⟩ := drop_at h1'
    refine ⟨_, rfl, _, rfl, x, _, c, rfl, rfl, szle (by omega), atI_nat hc, _, rfl, c, sg, rfl, rfl, f c, congrArg V.bl (hf c), ?_⟩
    refine ite2 (fun h2 => ?_) (fun h2 => ?_)
    · refine ⟨fun σ' H' => ∃ m' : Nat, σ' = [some (.str x), some (ni m'), some (.str sg)] ∧ m' = m + 1 ∧ H' = H1, ?_, ?_⟩
      · rintro σ' H' ⟨m', rfl, rfl, rfl⟩
        refine ⟨(cz x).length - (m + 1), by omega, m + 1, rfl, rfl, by omega, ?_, rfl⟩
        rw [hd, List.takeWhile_cons, if_pos h2, List.length_cons] at e
        omega
      · exact ⟨_, rfl, _, _, rfl, rfl, m + 1, rfl, rfl, rfl⟩
    · rw [hd, List.takeWhile_cons, if_neg h2] at e
      refine ⟨_, rfl, ?_⟩
      have e2 : n + (((cz x).drop n).takeWhile f).length = m := by
        rw [← e]; rfl
      rw [e2] at q
      exact q
  · have h1' : m = (cz x).length := by
      have := of_decide_eq_false (Bool.eq_false_iff.mpr h1)
      omega
    refine iteF ⟨_, rfl, ?_⟩
    rw [h1', List.drop_length] at e
    have e2 : n + (((cz x).drop n).takeWhile f).length = m := by
      rw [← e, h1']; rfl
    rw [e2] at q
    exact q
def spSplit : Sp := fun vs H Q _ => ∃ x : Str, vs = [.str x] ∧ (cz x).length ≤ 5000 ∧ ∀ (p : Addr) (us : List V) (H' : Hp), H p = none → H' p = some (.lst us) → TkL H' us (sp (cz x) 1 1) → Kp [] H H' → Q (.ref p) H'
theorem use_split (T : Txt K mg CR CT CO CF WA fR fT fO) : Use P w K mg base CX0 2 "_split" p__split spSplit := by
  have U__run_end : Use P w K mg base CX0 1 "_run_end" p__run_end spRunEnd := use_runEnd T
  have pas__run_end : ∀ {X : Cx}, Passes CX0 X E0 := pass0
  refine use_of T.d_split (fun f fd F => F.binds fun _ _ _ _ _ _ us hl => match us, hl with | [_], _ => rfl) fun f fd F => ?_
  refine F.ok sc__split (fun vs H Q E h => ?_) (fun cdv A outer s H vs Q E hr h => ?_)
  · obtain ⟨x, rfl, _⟩ := h
    rfl
  obtain ⟨x, rfl, hx, q⟩ := h
  have lx := len_cz x
  refine ⟨_, (pss_cons (ps_set (i := 1) sc__split.nd rfl (Or.inl rfl) (pe_lst pa_nil))
      (pss_cons (ps_set (i := 2) sc__split.nd rfl (Or.inl rfl) pe_int)
      (pss_cons (ps_set (i := 3) sc__split.nd rfl (Or.inl rfl) pe_int)
      (pss_cons (ps_set (i := 4) sc__split.nd rfl (Or.inl rfl) pe_int)
      (pss_cons (ps_while PassesOwn.never (pt_cmpR op_lt (pv 2) (pe_callB call_len_str (by rfl) T.n_len PySem.boot_len (pa_cons (pv 0) pa_nil)) (nomark _)) (pss_cons (ps_set (i := 5) sc__split.nd rfl (Or.inl rfl) (pe_op op_add (pv 2) pe_int))
      (Evl.pss_cut (ps_if (pt_cmpR op_eq (pe_ix ix_str (pv 0) (pv 2) (fun _ _ => rfl)) pe_str (nomark _)) (pss_cons (ps_set (i := 3) sc__split.nd rfl (Or.inl rfl) (pe_op op_add (pv 3) pe_int))
      (pss_one (ps_set (i := 4) sc__split.nd rfl (Or.inl rfl) (pv 5)))) (pss_one (ps_if (pt_cmpR op_ne (pe_ix ix_str (pv 0) (pv 2) (fun _ _ => rfl)) pe_str (nomark _)) (Evl.pss_cut (ps_if (pt_cmpR op_in_sign (pe_ix ix_str (pv 0) (pv 2) (fun _ _ => rfl)) (pe_g (by rfl) T.gLETTERS) (by with_unfolding_all rfl)) (pss_one (ps_set (i := 5) sc__split.nd rfl (Or.inl rfl) (pe_use U__run_end (hr.mono (by decide)) (by rfl) pas__run_end (pa_cons (pv 0) (pa_cons (pv 2) (pa_cons (pe_g (by rfl) T.gLETTERS) pa_nil)))))) (pss_one (ps_if (pt_cmpR op_in_sign (pe_ix ix_str (pv 0) (pv 2) (fun _ _ => rfl)) (pe_g (by rfl) T.gDIGITS) (by with_unfolding_all rfl)) (pss_one (ps_set (i := 5) sc__split.nd rfl (Or.inl rfl) (pe_use U__run_end (hr.mono (by decide)) (by rfl) pas__run_end (pa_cons (pv 0) (pa_cons (pv 2) (pa_cons (pe_g (by rfl) T.gDIGITS) pa_nil)))))) pss_nil)))
      (pss_one (ps_expr (pe_bm PySem.F.plainAttrs_list PySem.F.slot_list_append PySem.F.type_list_append mt_append (pv 1) (pa_cons (pe_tup (pa_cons (pe_slice sl_str (pv 0) (po_some (pv 2)) (po_some (pv 5))) (pa_cons (pv 3) (pa_cons (pe_op op_add (pe_op op_sub (pv 2) (pv 4)) pe_int) pa_nil)))) pa_nil))))) pss_nil)))
      (pss_one (ps_set (i := 2) sc__split.nd rfl (Or.inl rfl) (pv 5))))))
      (pss_cons (ps_expr (pe_bm PySem.F.plainAttrs_list PySem.F.slot_list_append PySem.F.type_list_append mt_append (pv 1) (pa_cons (pe_tup (pa_cons pe_str (pa_cons (pv 3) (pa_cons (pe_op op_add (pe_op op_sub (pe_callB call_len_str (by rfl) T.n_len PySem.boot_len (pa_cons (pv 0) pa_nil)) (pv 4)) pe_int) pa_nil)))) pa_nil)))
      (pss_one (ps_ret (pv 1))))))))), ?_⟩
  refine ⟨(by show 0 ≤ sizeLine; decide), fun tl htl => ?_⟩
  have k0 : Kp [] H (upd H tl (.lst [])) := (Kp.refl _ _).new htl
  refine ⟨fun k σ H' => ∃ (n l fi : Nat) (us : List V) (T0 : List Tk) (v5 : Option V), k = (cz x).length - n ∧ σ = [some (.str x), some (.ref tl), some (ni n), some (ni l), some (ni fi), v5] ∧ fi ≤ n ∧ n ≤ (cz x).length ∧ H' tl = some (.lst us) ∧ TkL H' us T0 ∧ T0.length ≤ n ∧
    T0 ++ sp ((cz x).drop n) l (n - fi + 1) = sp (cz x) 1 1 ∧ Kp [] H H', ⟨_, 0, 1, 0, [], [], _, rfl, rfl, Nat.le_refl _, Nat.zero_le _, upd_same, .nil, Nat.le_refl _, rfl, k0⟩, ?_⟩
  rintro k σ H1 ⟨n, l, fi, us, T0, v5, rfl, rfl, hfi, hn, e1, hus, hlen, es, k1⟩
  refine ⟨_, rfl, _, rfl, x, rfl, szle (by omega), _, _, rfl, rfl, _, rfl, ?_⟩
  refine ite2 (fun h1 => ?_) (fun h1 => ?_)
  · have h1' : n < (cz x).length := by
      have := of_decide_eq_true h1
      omega
    obtain ⟨c, hc, hd⟩ := drop_at h1'
    have en : ((n : Int) + 1) = ((n + 1 : Nat) : Int) := by omega
    refine ⟨fun σ' H' => ∃ (m l fi : Nat) (us : List V) (T0 : List Tk) (v5 : Option V), σ' = [some (.str x), some (.ref tl), some (ni m), some (ni l), some (ni fi), v5] ∧ n < m ∧ fi ≤ m ∧ m ≤ (cz x).length ∧ H' tl = some (.lst us) ∧ TkL H' us T0 ∧ T0.length ≤ m ∧
      T0 ++ sp ((cz x).drop m) l (m - fi + 1) = sp (cz x) 1 1 ∧ Kp [] H H', ?_, ?_⟩
    · rintro σ' H' ⟨m, l', fi', us', T', v5', rfl, h0, h2, h3, h4, h5, h6, h7, h8⟩
      exact ⟨_, by omega, m, l', fi', us', T', v5', rfl, rfl, h2, h3, h4, h5, h6, h7, h8⟩
    -- end = at + 1
    refine ⟨_, rfl, _, _, rfl, rfl, ?_⟩
    -- the if, then at = end
    refine ⟨fun σ' H' => ∃ (m l fi : Nat) (us : List V) (T0 : List Tk), σ' = [some (.str x), some (.ref tl), some (ni n), some (ni l), some (ni fi), some (ni m)] ∧ n < m ∧ fi ≤ m ∧ m ≤ (cz x).length ∧ H' tl = some (.lst us) ∧ TkL H' us T0 ∧ T0.length ≤ m ∧
      T0 ++ sp ((cz x).drop m) l (m - fi + 1) = sp (cz x) 1 1 ∧ Kp [] H H', ?_, ?_⟩
    · refine ⟨_, rfl, _, rfl, x, _, c, rfl, rfl, szle (by omega), atI_nat hc, rfl, ?_⟩
      by_cases c10 : c = 10
      · subst c10
        refine ⟨true, ttT (by decide +kernel), iteT ?_⟩
        refine ⟨_, rfl, _, _, rfl, rfl, _, rfl, ?_⟩
        refine ⟨n + 1, l + 1, n + 1, us, T0, rfl, by omega, Nat.le_refl _, by omega, e1, hus, by omega, ?_, k1⟩
        rw [hd, sp_nl] at es
        rw [Nat.sub_self]
        exact es
      · have nc : ∀ {d : Nat} {s : Str}, cz s = [d] → c ≠ d → V.str (⟨#[c]⟩ : Str) ≠ V.str s := fun {d s} e ne => nstr fun z => by
          have e2 := congrArg cz z
          rw [show cz (⟨#[c]⟩ : Str) = [c] from rfl, e] at e2
          exact ne (List.cons.inj e2).1
        refine ⟨false, ttF (nc (d := 10) (by decide +kernel) c10), iteF ?_⟩
        refine ⟨_, rfl, _, rfl, x, _, c, rfl, rfl, szle (by omega), atI_nat hc, rfl, ?_⟩
        by_cases c32 : c = 32
        · subst c32
          refine ⟨false, ?_, iteF ?_⟩
          · show V.bl (!decide _) = V.bl false
            rw [decide_eq_true (by decide +kernel)]
            rfl
          · refine ⟨n + 1, l, fi, us, T0, rfl, by omega, by omega, by omega, e1, hus, by omega, ?_, k1⟩
            rw [hd, sp_bl] at es
            rw [show n + 1 - fi + 1 = n - fi + 1 + 1 by omega]
            exact es
        · refine ⟨true, ?_, iteT ?_⟩
          · show V.bl (!decide _) = V.bl true
            rw [decide_eq_false (nc (d := 32) (by decide +kernel) c32)]
            rfl
          -- where the token ends
          refine ⟨fun σ' H' => ∃ (m : Nat), σ' = [some (.str x), some (.ref tl), some (ni n), some (ni l), some (ni fi), some (ni m)] ∧ n < m ∧ m ≤ (cz x).length ∧ sp ((cz x).drop n) l (n - fi + 1) = ⟨⟨(((cz x).drop n).take (m - n)).toArray⟩, l, n - fi + 1⟩ :: sp ((cz x).drop m) l (m - fi + 1) ∧ H' = H1, ?_, ?_⟩
          · have run : ∀ (f : Nat → Bool), f c = true → (∀ r l' c', sp (c :: r) l' c' = ⟨⟨(c :: r.takeWhile f).toArray⟩, l', c'⟩ :: sp (r.dropWhile f) l' (c' + 1 + (r.takeWhile f).length)) →
                n < n + (((cz x).drop n).takeWhile f).length ∧ n + (((cz x).drop n).takeWhile f).length ≤ (cz x).length ∧ sp ((cz x).drop n) l (n - fi + 1) = ⟨⟨(((cz x).drop n).take (n + (((cz x).drop n).takeWhile f).length - n)).toArray⟩, l, n - fi + 1⟩ :: sp ((cz x).drop (n + (((cz x).drop n).takeWhile f).length)) l (n + (((cz x).drop n).takeWhile f).length - fi + 1) := by
              intro f hf hs
              have t1 := tw_take f ((cz x).drop n)
              have t2 := tw_len f ((cz x).drop n)
              rw [List.length_drop] at t2
              have e3 : n + (((cz x).drop n).takeWhile f).length - n = (((cz x).drop n).takeWhile f).length := by omega
              rw [e3, t1.1, ← List.drop_drop, t1.2]
              rw [hd, List.takeWhile_cons, if_pos hf, List.dropWhile_cons, if_pos hf, hs, List.length_cons]
              rw [hd, List.takeWhile_cons, if_pos hf, List.length_cons] at t2
              refine ⟨by omega, by omega, ?_⟩
              rw [show n - fi + 1 + 1 + (((cz x).drop (n + 1)).takeWhile f).length = n + ((((cz x).drop (n + 1)).takeWhile f).length + 1) - fi + 1 by omega]
            refine ⟨_, rfl, _, rfl, x, _, c, rfl, rfl, szle (by omega), atI_nat hc, c, _, rfl, rfl, isL c, congrArg V.bl (mem_lets c), ?_⟩
            refine ite2 (fun hL => ?_) (fun hL => ?_)
            · refine ⟨_, rfl, _, rfl, x, _, n, isL, rfl, hn, hx, mem_lets, ?_⟩
              obtain ⟨r1, r2, r3⟩ := run isL hL fun r l' c' => sp_word r l' c' hL
              exact ⟨_, rfl, r1, r2, r3, rfl⟩
            · refine ⟨_, rfl, _, rfl, x, _, c, rfl, rfl, szle (by omega), atI_nat hc, c, _, rfl, rfl, isD c, congrArg V.bl (mem_digs c), ?_⟩
              refine ite2 (fun hD => ?_) (fun hD => ?_)
              · refine ⟨_, rfl, _, rfl, x, _, n, isD, rfl, hn, hx, mem_digs, ?_⟩
                obtain ⟨r1, r2, r3⟩ := run isD hD fun r l' c' => sp_num r l' c' hD
                exact ⟨_, rfl, r1, r2, r3, rfl⟩
              · refine ⟨n + 1, rfl, by omega, by omega, ?_, rfl⟩
                have hs : SignC c := ⟨Bool.eq_false_iff.mpr hL, Bool.eq_false_iff.mpr hD, c10, c32⟩
                rw [hd, sp_sign _ _ _ hs, show n + 1 - n = 1 by omega, show n + 1 - fi + 1 = n - fi + 1 + 1 by omega]
                rfl
          · rintro σ' H' ⟨m, rfl, hm1, hm2, et, rfl⟩
            refine ⟨_, rfl, .inl ⟨rfl, _, SqL.of e1⟩, _, rfl, _, rfl, _, rfl, _, rfl, _, rfl, x, rfl, szle (by omega), _, rfl, _, rfl, _, rfl, _, _, rfl, rfl, _, _, rfl, rfl, (by show 3 ≤ sizeLine; decide), fun p hp => ?_⟩
            have ec : (n : Int) - (fi : Int) + 1 = ((n - fi + 1 : Nat) : Int) := by omega
            have ew : cutS x (some (n : Int)) (some (m : Int)) = ⟨(((cz x).drop n).take (m - n)).toArray⟩ := TL.ext_tl (cutS_cz x (by omega) hm2)
            have k2 : Kp [] H' (upd H' p (.tup [.str (cutS x (some (n : Int)) (some (m : Int))), ni l, .int ((n : Int) - (fi : Int) + 1)])) := (Kp.refl _ _).new hp
            have e2 := k2.keep tl _ (by simp) e1
            refine ⟨_, _, _, rfl, rfl, e2, szl (by rw [hus.len]; omega), ?_⟩
            have k3 : Kp [tl] (upd H' p (.tup [.str (cutS x (some (n : Int)) (some (m : Int))), ni l, .int ((n : Int) - (fi : Int) + 1)])) (upd (upd H' p (.tup [.str (cutS x (some (n : Int)) (some (m : Int))), ni l, .int ((n : Int) - (fi : Int) + 1)])) tl (.lst (us ++ [.ref p]))) := (Kp.refl _ _).lst (by simp) e2
            refine ⟨m, l, fi, us ++ [.ref p], T0 ++ [⟨⟨(((cz x).drop n).take (m - n)).toArray⟩, l, n - fi + 1⟩], rfl, hm1, by omega, hm2, upd_same, ((hus.kp k2).kp k3).app (.cons (k3.tup _ _ ?_) .nil), by rw [List.length_append]; simp; omega, ?_, (k1.new hp).mutN htl⟩
            · rw [upd_same, ew]
              show some (HO.tup [_, _, V.int ((n : Int) - (fi : Int) + 1)]) = _
              rw [ec]
            · rw [et] at es
              rw [← es, List.append_assoc]
              rfl
    · rintro σ' H' ⟨m, l', fi', us', T', rfl, h0, h2, h3, h4, h5, h6, h7, h8⟩
      exact ⟨_, rfl, m, l', fi', us', T', _, rfl, h0, h2, h3, h4, h5, h6, h7, h8⟩
  · have h1' : n = (cz x).length := by
      have := of_decide_eq_false (Bool.eq_false_iff.mpr h1)
      omega
    refine ⟨_, rfl, .inl ⟨rfl, _, SqL.of e1⟩, _, rfl, _, rfl, x, rfl, szle (by omega), _, rfl, _, _, rfl, rfl, _, _, rfl, rfl, (by show 3 ≤ sizeLine; decide), fun p hp => ?_⟩
    have ec : (x.length : Int) - (fi : Int) + 1 = ((n - fi + 1 : Nat) : Int) := by omega
    have k2 : Kp [] H1 (upd H1 p (.tup [.str "", ni l, .int ((x.length : Int) - (fi : Int) + 1)])) := (Kp.refl _ _).new hp
    have e2 := k2.keep tl _ (by simp) e1
    refine ⟨_, _, _, rfl, rfl, e2, szl (by rw [hus.len]; omega), ?_⟩
    have k3 : Kp [tl] (upd H1 p (.tup [.str "", ni l, .int ((x.length : Int) - (fi : Int) + 1)])) (upd (upd H1 p (.tup [.str "", ni l, .int ((x.length : Int) - (fi : Int) + 1)])) tl (.lst (us ++ [.ref p]))) := (Kp.refl _ _).lst (by simp) e2
    rw [h1', List.drop_length, sp_nil, ← h1'] at es
    refine ⟨_, rfl, q tl _ _ htl upd_same ?_ ((k1.new hp).mutN htl)⟩
    rw [← es]
    refine ((hus.kp k2).kp k3).app (.cons (k3.tup _ _ ?_) .nil)
    rw [upd_same]
    show some (HO.tup [_, _, V.int ((x.length : Int) - (fi : Int) + 1)]) = _
    rw [ec]
end
end K6
namespace K6
open PySem L2
section
variable {P : Program} {w : World} {K : PySem.W.Frag} {mg : Str → Option Value} {base : Heap} {CR CT CO CF WA fR fT fO : Addr}
def spTf (CT : Addr) : Sp := fun vs H Q _ => ∃ (a : Addr) (v1 v2 v3 : V), vs = [.ref a, v1, v2, v3] ∧ H a = some (exo a CT none) ∧ ∀ (d : Addr) (H' : Hp), d ≠ a → H d = none → H' a = some (exo a CT (some d)) → H' d = some (exd d [("words", v3), ("column", v2), ("line", v1)]) → (∀ b, b ≠ a → b ≠ d → H' b = H b) → Q .non H'
theorem ok_tf (T : Txt K mg CR CT CO CF WA fR fT fO) : ∃ fd, Binds K fd p_TextFault__init_ [] ∧ FnOk P w K mg base CX0 1 fT fd p_TextFault__init_ (spTf CT) := by
  obtain ⟨fd, F⟩ := T.tf.fn
  refine ⟨fd, F.binds fun _ _ _ _ _ _ us hl => match us, hl with | [_, _, _, _], _ => rfl, ?_⟩
  refine F.ok sc_TextFault__init_ (fun vs H Q E h => ?_) (fun cdv A outer s H vs Q E hr h => ?_)
  · obtain ⟨a, v1, v2, v3, rfl, _⟩ := h
    rfl
  obtain ⟨a, v1, v2, v3, rfl, e, q⟩ := h
  refine ⟨_, (pss_cons (ps_ost (pv 0) (pv 1))
      (pss_cons (ps_ost (pv 0) (pv 2))
      (pss_one (ps_ost (pv 0) (pv 3))))), ?_⟩
  refine ⟨_, rfl, _, rfl, a, CT, rfl, T.tf.ox, T.n_line, .inl ⟨e, fun d hd hda => ?_⟩⟩
  refine ⟨_, rfl, _, rfl, a, CT, rfl, T.tf.ox, T.n_column, .inr ⟨d, _, upd_same, by rw [upd_ne hda]; exact upd_same, Nat.le_of_ble_eq_true rfl, ?_⟩⟩
  refine ⟨_, rfl, _, rfl, a, CT, rfl, T.tf.ox, T.n_words, .inr ⟨d, _, by rw [upd_ne hda.symm]; exact upd_same, upd_same, Nat.le_of_ble_eq_true rfl, ?_⟩⟩
  refine q d _ hda hd (by rw [upd_ne hda.symm, upd_ne hda.symm]; exact upd_same) upd_same fun b h1 h2 => ?_
  rw [upd_ne h2, upd_ne h2, upd_ne h1, upd_ne h2]
def spOf (CO : Addr) : Sp := fun vs H Q _ => ∃ (a : Addr) (v1 : V), vs = [.ref a, v1] ∧ H a = some (exo a CO none) ∧ ∀ (d : Addr) (H' : Hp), d ≠ a → H d = none → H' a = some (exo a CO (some d)) → H' d = some (exd d [("name", v1)]) → (∀ b, b ≠ a → b ≠ d → H' b = H b) → Q .non H'
theorem ok_of (T : Txt K mg CR CT CO CF WA fR fT fO) : ∃ fd, Binds K fd p_OutOfRange__init_ [] ∧ FnOk P w K mg base CX0 1 fO fd p_OutOfRange__init_ (spOf CO) := by
  obtain ⟨fd, F⟩ := T.of.fn
  refine ⟨fd, F.binds fun _ _ _ _ _ _ us hl => match us, hl with | [_, _], _ => rfl, ?_⟩
  refine F.ok sc_OutOfRange__init_ (fun vs H Q E h => ?_) (fun cdv A outer s H vs Q E hr h => ?_)
  · obtain ⟨a, v1, rfl, _⟩ := h
    rfl
  obtain ⟨a, v1, rfl, e, q⟩ := h
  refine ⟨_, (pss_one (ps_ost (pv 0) (pv 1))), ?_⟩
  refine ⟨_, rfl, _, rfl, a, CO, rfl, T.of.ox, T.n_name, .inl ⟨e, fun d hd hda => ?_⟩⟩
  refine q d _ hda hd upd_same (by rw [upd_ne hda]; exact upd_same) fun b h1 h2 => ?_
  rw [upd_ne h1, upd_ne h2]
/-! ### the reader -/
def rf (tk nd : Addr) (p g : Nat) : List (Str × V) := [("_tokens", .ref tk), ("_at", ni p), ("_begun", ni g), ("nodes", .ref nd)]
structure Rt (CR x dx tk nd : Addr) (us : List V) (R : List Tk) (p g : Nat) (H : Hp) : Prop where
  ins : H x = some (.ins CR dx (rf tk nd p g))
  tks : H tk = some (.lst us)
  tl : TkL H us R
  tn : tk ≠ nd
  sz : R.length ≤ 5000
  wz : ∀ k ∈ R, (cz k.w).length ≤ 5000
theorem Rt.kp {x dx tk nd : Addr} {us : List V} {R : List Tk} {p g : Nat} {S : List Addr} {H H' : Hp} (r : Rt CR x dx tk nd us R p g H) (k : Kp S H H') (h1 : x ∉ S) (h2 : tk ∉ S) : Rt CR x dx tk nd us R p g H' :=
  ⟨k.keep _ _ h1 r.ins, k.keep _ _ h2 r.tks, r.tl.kp k, r.tn, r.sz, r.wz⟩
theorem Rt.move {x dx tk nd : Addr} {us : List V} {R : List Tk} {p g : Nat} {H : Hp} (r : Rt CR x dx tk nd us R p g H) (p' g' : Nat) : Rt CR x dx tk nd us R p' g' (upd H x (.ins CR dx (rf tk nd p' g'))) :=
  have k : Kp [x] H (upd H x (.ins CR dx (rf tk nd p' g'))) := (Kp.refl _ _).ins (by simp) r.ins
  have e : tk ≠ x := fun z => by
    have := r.ins
    rw [← z, r.tks] at this
    cases this
  ⟨upd_same, k.keep _ _ (by simpa using e) r.tks, r.tl.kp k, r.tn, r.sz, r.wz⟩
theorem Rt.mkp {x dx tk nd : Addr} {us : List V} {R : List Tk} {p g : Nat} {H : Hp} (r : Rt CR x dx tk nd us R p g H) (p' g' : Nat) : Kp [x] H (upd H x (.ins CR dx (rf tk nd p' g'))) := (Kp.refl _ _).ins (by simp) r.ins
theorem Rt.xne {x dx tk nd : Addr} {us vs : List V} {R : List Tk} {p g : Nat} {H : Hp} (r : Rt CR x dx tk nd us R p g H) (h : H nd = some (.lst vs)) : nd ≠ x := fun z => by
  have := r.ins
  rw [← z, h] at this
  cases this
theorem Rt.tne {x dx tk nd : Addr} {us : List V} {R : List Tk} {p g : Nat} {H : Hp} (r : Rt CR x dx tk nd us R p g H) : tk ≠ x := fun z => by
  have := r.ins
  rw [← z, r.tks] at this
  cases this
theorem put_at (tk nd : Addr) (p g p' : Nat) : putF "_at" (ni p') (rf tk nd p g) = rf tk nd p' g := by rfl
theorem put_begun (tk nd : Addr) (p g g' : Nat) : putF "_begun" (ni g') (rf tk nd p g) = rf tk nd p g' := by rfl
/-- the fault at token k with the words w -/
def Fl (CT : Addr) (S : List Addr) (H : Hp) (E : XK) (k : Tk) (w : Str) : Prop := ∀ (d : Addr) (H' : Hp), Kp S H H' → H' d = some (.xd [("words", .str w), ("column", ni k.c), ("line", ni k.l)]) → E (.ref CT) (some d) H'
theorem Fl.on {S S' : List Addr} {H H1 : Hp} {E : XK} {k : Tk} {w : Str} (f : Fl CT S H E k w) (a : Kp S H H1) (h : ∀ b ∈ S', b ∈ S) : Fl CT S' H1 E k w := fun d H' k' e => f d H' (a.trans (k'.mono h)) e
/-! ### word, refuse -/
def spWord (CR : Addr) : Sp := fun vs H Q _ => ∃ (x dx tk nd : Addr) (us : List V) (R : List Tk) (p g : Nat) (k : Tk), vs = [.ref x] ∧ Rt CR x dx tk nd us R p g H ∧ R[p]? = some k ∧ Q (.str k.w) H
theorem use_word (T : Txt K mg CR CT CO CF WA fR fT fO) : UseM P w K mg base CX0 1 CR "word" p_Reader_word (spWord CR) := by
  refine useM_of T.m_word (fun f fd F => F.binds fun _ _ _ _ _ _ us hl => match us, hl with | [_], _ => rfl) fun f fd F => ?_
  refine F.ok sc_Reader_word (fun vs H Q E h => ?_) (fun cdv A outer s H vs Q E hr h => ?_)
  · obtain ⟨x, dx, tk, nd, us, R, p, g, k, rfl, _⟩ := h
    rfl
  obtain ⟨x, dx, tk, nd, us, R, p, g, k, rfl, r, hk, q⟩ := h
  obtain ⟨a, ha, hb⟩ := r.tl.get hk
  refine ⟨_, (pss_one (ps_ret (pe_ix ix_tup (pe_ix ix_list (pe_fld (pv 0) rfl) (pe_fld (pv 0) rfl) (fun _ _ => rfl)) pe_int (fun _ _ => rfl)))), ?_⟩
  refine ⟨_, rfl, x, CR, dx, _, _, rfl, r.ins, T.cl, T.a_tokens, rfl, ?_⟩
  refine ⟨_, rfl, x, CR, dx, _, _, rfl, r.ins, T.cl, T.a_at, rfl, ?_⟩
  exact ⟨_, _, _, _, rfl, rfl, SqL.of r.tks, atI_nat ha, _, _, _, _, rfl, rfl, SqT.of hb, rfl, q⟩
def spRefuse (CR CT : Addr) : Sp := fun vs H Q E => ∃ (x dx tk nd : Addr) (us : List V) (R : List Tk) (p g : Nat) (k : Tk) (w : Str), vs = [.ref x, .str w] ∧ Rt CR x dx tk nd us R p g H ∧ R[p]? = some k ∧ Fl CT [] H E k w
theorem use_refuse (T : Txt K mg CR CT CO CF WA fR fT fO) : UseM P w K mg base (L2.CX P w) 3 CR "refuse" p_Reader_refuse (spRefuse CR CT) := by
  obtain ⟨fdT, bTextFault, UTextFault⟩ := ok_tf (P := P) (w := w) (base := base) T
  refine useM_of T.m_refuse (fun f fd F => F.binds fun _ _ _ _ _ _ us hl => match us, hl with | [_, _], _ => rfl) fun f fd F => ?_
  refine F.okX sc_Reader_refuse (fun vs H Q E h => ?_) (fun cdv A outer s H vs Q E hr h => ?_)
  · obtain ⟨x, dx, tk, nd, us, R, p, g, k, w, rfl, _⟩ := h
    rfl
  obtain ⟨x, dx, tk, nd, us, R, p, g, k, w, rfl, r, hk, q⟩ := h
  obtain ⟨a, ha, hb⟩ := r.tl.get hk
  refine ⟨_, (pss_cons (ps_asg (pe_ix ix_list (pe_fld (pv 0) rfl) (pe_fld (pv 0) rfl) (fun _ _ => rfl)) (pg_tup (by rfl) (pgs_cons (pg_name (i := 2) sc_Reader_refuse.nd rfl (Or.inl rfl)) (pgs_cons (pg_name (i := 3) sc_Reader_refuse.nd rfl (Or.inl rfl)) (pgs_cons (pg_name (i := 4) sc_Reader_refuse.nd rfl (Or.inl rfl)) pgs_nil)))))
      (pss_one (ps_raise rfl (takes_of rfl rfl rfl rfl) (pmk_oex T.tf.ox T.tf.iC T.tf.tI UTextFault (hr.mono (by decide)) bTextFault .nil pass0 (by rfl) T.gTextFault (pa_cons (pv 3) (pa_cons (pv 4) (pa_cons (pv 1) pa_nil))))))), ?_⟩
  refine ⟨_, rfl, x, CR, dx, _, _, rfl, r.ins, T.cl, T.a_tokens, rfl, ?_⟩
  refine ⟨_, rfl, x, CR, dx, _, _, rfl, r.ins, T.cl, T.a_at, rfl, ?_⟩
  refine ⟨_, _, _, _, rfl, rfl, SqL.of r.tks, atI_nat ha, a, _, rfl, SqT.of hb, rfl, ?_⟩
  refine ⟨_, _, rfl, _, _, rfl, _, _, rfl, rfl, ?_⟩
  refine ⟨_, rfl, _, rfl, _, rfl, Nat.le_of_ble_eq_true rfl, fun e he => ?_⟩
  refine ⟨e, _, _, _, rfl, upd_same, fun d H' hde hd e1 e2 ho => ⟨rfl, d, _, e1, e2, by rw [upd_ne hde] at hd; exact hd, q d _ ⟨?_, ?_⟩ upd_same⟩⟩
  · intro b o _ hbo
    have h1 : b ≠ e := ne_of_none hbo he
    have h2 : b ≠ d := ne_of_none hbo (by rw [upd_ne hde] at hd; exact hd)
    rw [upd_ne h2, del_ne h1, ho b h1 h2, upd_ne h1]
    exact hbo
  · intro b o hbo
    have h1 : b ≠ e := ne_of_none hbo he
    have h2 : b ≠ d := ne_of_none hbo (by rw [upd_ne hde] at hd; exact hd)
    rw [upd_ne h2, del_ne h1, ho b h1 h2, upd_ne h1]
    exact hbo
end
end K6
namespace K6
open PySem L2
theorem tnT {x y : V} (h : x ≠ y) : V.bl (!decide (x = y)) = V.bl true := by rw [decide_eq_false h]; rfl
theorem tnF {x y : V} (h : x = y) : V.bl (!decide (x = y)) = V.bl false := by rw [decide_eq_true h]; rfl
theorem cmpT {p : Prop} [Decidable p] (h : p) : V.bl (decide p) = V.bl true := congrArg V.bl (decide_eq_true h)
theorem cmpF {p : Prop} [Decidable p] (h : ¬ p) : V.bl (decide p) = V.bl false := congrArg V.bl (decide_eq_false h)
theorem nil_str {x : Str} (h : cz x = []) : x = "" := TL.ext_tl (h.trans (by decide +kernel : cz "" = ([] : Cs)).symm)
theorem ite_both {c : Bool} {p q r : Prop} (hq : c = false → r → q) (hp : c = true → r → p) (h : r) : if c = true then p else q := by
  cases c with
  | false => exact iteF (hq rfl h)
  | true => exact iteT (hp rfl h)
theorem Bad.ne {w s : Str} (b : Bad w) (h : s ∈ signs) : w ≠ s := fun e => b.ns (by rw [e]; exact h)
theorem Run.one {R : List Tk} {p : Nat} {s x : Str} {o : Option (Tk × Str)} (h : Run R p [(s, x)] o) : ∃ k, R[p]? = some k ∧ ((k.w = s ∧ o = none) ∨ (Bad k.w ∧ o = some (k, x))) := h
theorem Run.fit1 {R : List Tk} {p : Nat} {s x : Str} {k : Tk} (h : R[p]? = some k) (e : k.w = s) : Run R p [(s, x)] none := ⟨k, h, .inl ⟨e, rfl⟩⟩
theorem num_first : ∀ n, 1 ≤ n → ∃ c r, TL.numL n = c :: r ∧ c ≠ 48 := by
  intro n
  induction n using Nat.strongRecOn with
  | _ n ih =>
    intro h
    by_cases h10 : n < 10
    · exact ⟨48 + n, [], TL.numL_lt h10, by omega⟩
    · obtain ⟨c, r, e, hc⟩ := ih (n / 10) (by omega) (by omega)
      exact ⟨c, r ++ [48 + n % 10], by rw [TL.numL_step (by omega), e]; rfl, hc⟩
theorem num_head (n : Nat) : ∃ c r, cz (num n) = c :: r ∧ isD c = true ∧ (c = 48 → num n = "0") := by
  have e : cz (num n) = TL.numL n := TL.tl_num n
  have hd : ∀ c ∈ TL.numL n, isD c = true := fun x hx => by
    have := TL.numL_digits n x hx
    simp only [isD, decide_eq_true_eq]
    exact this
  by_cases h : n = 0
  · subst h
    have e0 : TL.numL 0 = [48] := TL.numL_lt (by decide)
    exact ⟨48, [], e.trans e0, hd 48 (by rw [e0]; simp), fun _ => TL.ext_tl (by
      show cz (num 0) = cz "0"
      rw [e, e0]; decide +kernel)⟩
  · obtain ⟨c, r, e1, hc⟩ := num_first n (by omega)
    exact ⟨c, r, e.trans e1, hd c (by rw [e1]; simp), fun z => absurd z hc⟩
section
variable {P : Program} {w : World} {K : PySem.W.Frag} {mg : Str → Option Value} {base : Heap} {CR CT CO CF WA fR fT fO : Addr}
theorem Rt.bump {x dx tk nd : Addr} {us : List V} {R : List Tk} {p g : Nat} {H : Hp} (r : Rt CR x dx tk nd us R p g H) : Rt CR x dx tk nd us R (p + 1) g (upd H x (.ins CR dx (putF "_at" (.int ((p : Int) + 1)) (rf tk nd p g)))) ∧ Kp [x] H (upd H x (.ins CR dx (putF "_at" (.int ((p : Int) + 1)) (rf tk nd p g)))) :=
  ⟨r.move (p + 1) g, r.mkp (p + 1) g⟩
/-! ### check_more -/
def spMore (CR CT : Addr) : Sp := fun vs H Q E => ∃ (x dx tk nd : Addr) (us : List V) (R : List Tk) (p g : Nat) (k : Tk), vs = [.ref x] ∧ Rt CR x dx tk nd us R p g H ∧ R[p]? = some k ∧ ((k.w = "," ∨ k.w = ")") → Q .non H) ∧ (k.w ≠ "," → k.w ≠ ")" → Fl CT [] H E k "expected , or )")
theorem use_more (T : Txt K mg CR CT CO CF WA fR fT fO) : UseM P w K mg base (L2.CX P w) 4 CR "check_more" p_Reader_check_more (spMore CR CT) := by
  have U_word : UseM P w K mg base CX0 1 CR "word" p_Reader_word (spWord CR) := use_word T
  have U_refuse : UseM P w K mg base (L2.CX P w) 3 CR "refuse" p_Reader_refuse (spRefuse CR CT) := use_refuse T
  have pas_word : ∀ {X : Cx}, Passes CX0 X E0 := pass0
  refine useM_of T.m_check_more (fun f fd F => F.binds fun _ _ _ _ _ _ us hl => match us, hl with | [_], _ => rfl) fun f fd F => ?_
  refine F.okX sc_Reader_check_more (fun vs H Q E h => ?_) (fun cdv A outer s H vs Q E hr h => ?_)
  · obtain ⟨x, dx, tk, nd, us, R, p, g, k, rfl, _⟩ := h
    rfl
  have pas_refuse : Passes (L2.CX P w) (cxOf (L2.CX P w) P w K mg base n_Reader_check_more "Reader.check_more" (defScope s_Reader_check_more) f cdv A outer s H E) E := pasX rfl rfl rfl rfl
  obtain ⟨x, dx, tk, nd, us, R, p, g, k, rfl, r, hk, q1, q2⟩ := h
  refine ⟨_, (pss_one (ps_if (PW.pt (pw_and (pt_cmpR op_ne (pm_use0 T.cl U_word (hr.mono (by decide)) pas_word (pv 0)) pe_str (nomark _)) (pw_and1 (pt_cmpR op_ne (pm_use0 T.cl U_word (hr.mono (by decide)) pas_word (pv 0)) pe_str (nomark _))))) (pss_one (ps_expr (pm_use T.cl U_refuse (hr.mono (by decide)) pas_refuse (pv 0) (pa_cons pe_str pa_nil)))) pss_nil)), ?_⟩
  refine ⟨_, rfl, x, dx, _, rfl, r.ins, rfl, x, dx, tk, nd, us, R, p, g, k, rfl, r, hk, rfl, ?_⟩
  by_cases h1 : k.w = ","
  · exact ⟨false, tnF (congrArg V.str h1), iteF (iteF (q1 (.inl h1)))⟩
  · refine ⟨true, tnT (nstr h1), iteT ?_⟩
    refine ⟨_, rfl, x, dx, _, rfl, r.ins, rfl, x, dx, tk, nd, us, R, p, g, k, rfl, r, hk, rfl, ?_⟩
    by_cases h2 : k.w = ")"
    · exact ⟨false, tnF (congrArg V.str h2), iteF (q1 (.inr h2))⟩
    · refine ⟨true, tnT (nstr h2), iteT ?_⟩
      exact ⟨_, rfl, x, dx, _, rfl, r.ins, rfl, x, dx, tk, nd, us, R, p, g, k, _, rfl, r, hk, q2 h1 h2⟩
/-! ### expect -/
def spExpect (CR CT : Addr) : Sp := fun vs H Q E => ∃ (x dx tk nd : Addr) (us : List V) (R : List Tk) (p g : Nat) (s m : Str) (o : Option (Tk × Str)), vs = [.ref x, .str s] ∧ s ∈ signs ∧ ("expected " : Str) ++ s = m ∧ Rt CR x dx tk nd us R p g H ∧ Run R p [(s, m)] o ∧
  (o = none → ∀ H', Rt CR x dx tk nd us R (p + 1) g H' → Kp [x] H H' → Q .non H') ∧ (∀ k z, o = some (k, z) → Fl CT [] H E k z)
theorem use_expect (T : Txt K mg CR CT CO CF WA fR fT fO) : UseM P w K mg base (L2.CX P w) 4 CR "expect" p_Reader_expect (spExpect CR CT) := by
  have U_word : UseM P w K mg base CX0 1 CR "word" p_Reader_word (spWord CR) := use_word T
  have U_refuse : UseM P w K mg base (L2.CX P w) 3 CR "refuse" p_Reader_refuse (spRefuse CR CT) := use_refuse T
  have pas_word : ∀ {X : Cx}, Passes CX0 X E0 := pass0
  refine useM_of T.m_expect (fun f fd F => F.binds fun _ _ _ _ _ _ us hl => match us, hl with | [_, _], _ => rfl) fun f fd F => ?_
  refine F.okX sc_Reader_expect (fun vs H Q E h => ?_) (fun cdv A outer s H vs Q E hr h => ?_)
  · obtain ⟨x, dx, tk, nd, us, R, p, g, s, m, o, rfl, _⟩ := h
    rfl
  have pas_refuse : Passes (L2.CX P w) (cxOf (L2.CX P w) P w K mg base n_Reader_expect "Reader.expect" (defScope s_Reader_expect) f cdv A outer s H E) E := pasX rfl rfl rfl rfl
  obtain ⟨x, dx, tk, nd, us, R, p, g, s, m, o, rfl, hs, rfl, r, hrun, q1, q2⟩ := h
  obtain ⟨k, hk, hh⟩ := hrun.one
  have ls : s.length ≤ 10 := by
    simp only [signs, List.mem_cons, List.not_mem_nil, or_false] at hs
    rcases hs with rfl | rfl | rfl | rfl | rfl | rfl <;> decide +kernel
  refine ⟨_, (pss_cons (ps_if (pt_cmpR op_ne (pm_use0 T.cl U_word (hr.mono (by decide)) pas_word (pv 0)) (pv 1) (nomark _)) (pss_one (ps_expr (pm_use T.cl U_refuse (hr.mono (by decide)) pas_refuse (pv 0) (pa_cons (pe_op op_add_str pe_str (pv 1)) pa_nil)))) pss_nil)
      (pss_one (ps_fld (pv 0) (pe_op op_add (pe_fld (pv 0) rfl) pe_int) rfl))), ?_⟩
  refine ⟨_, rfl, x, dx, _, rfl, r.ins, rfl, x, dx, tk, nd, us, R, p, g, k, rfl, r, hk, _, rfl, rfl, ?_⟩
  rcases hh with ⟨e, rfl⟩ | ⟨b, rfl⟩
  · refine ⟨false, tnF (congrArg V.str e), iteF ?_⟩
    refine ⟨_, rfl, x, CR, dx, _, _, rfl, r.ins, T.cl, T.a_at, rfl, _, _, rfl, rfl, _, rfl, x, CR, dx, _, rfl, r.ins, T.cl, T.a_at, Nat.le_of_ble_eq_true rfl, ?_⟩
    exact q1 rfl _ r.bump.1 r.bump.2
  · refine ⟨true, tnT (nstr (b.ne hs)), iteT ?_⟩
    refine ⟨_, rfl, x, dx, _, rfl, r.ins, rfl, _, rfl, _, _, rfl, rfl, ?_, x, dx, tk, nd, us, R, p, g, k, _, rfl, r, hk, q2 k _ rfl⟩
    have : ("expected " : Str).length = 9 := by decide +kernel
    have := sizeLine_eq
    omega
/-! ### number -/
def spNumber (CR CT : Addr) : Sp := fun vs H Q E => ∃ (x dx tk nd : Addr) (us : List V) (R : List Tk) (p g : Nat) (lo hi n : Nat) (o : Option (Tk × Str)), vs = [.ref x, ni lo, ni hi] ∧ lo ≤ n ∧ n ≤ hi ∧ n ≤ 1000 ∧ Rt CR x dx tk nd us R p g H ∧ Run R p [rNum n] o ∧
  (o = none → ∀ H', Rt CR x dx tk nd us R (p + 1) g H' → Kp [x] H H' → Q (ni n) H') ∧ (∀ k z, o = some (k, z) → Fl CT [] H E k z)
theorem use_number (T : Txt K mg CR CT CO CF WA fR fT fO) : UseM P w K mg base (L2.CX P w) 4 CR "number" p_Reader_number (spNumber CR CT) := by
  have U_word : UseM P w K mg base CX0 1 CR "word" p_Reader_word (spWord CR) := use_word T
  have U_refuse : UseM P w K mg base (L2.CX P w) 3 CR "refuse" p_Reader_refuse (spRefuse CR CT) := use_refuse T
  have pas_word : ∀ {X : Cx}, Passes CX0 X E0 := pass0
  refine useM_of T.m_number (fun f fd F => F.binds fun _ _ _ _ _ _ us hl => match us, hl with | [_, _, _], _ => rfl) fun f fd F => ?_
  refine F.okX sc_Reader_number (fun vs H Q E h => ?_) (fun cdv A outer s H vs Q E hr h => ?_)
  · obtain ⟨x, dx, tk, nd, us, R, p, g, lo, hi, n, o, rfl, _⟩ := h
    rfl
  have pas_refuse : Passes (L2.CX P w) (cxOf (L2.CX P w) P w K mg base n_Reader_number "Reader.number" (defScope s_Reader_number) f cdv A outer s H E) E := pasX rfl rfl rfl rfl
  obtain ⟨x, dx, tk, nd, us, R, p, g, lo, hi, n, o, rfl, hlo, hhi, hn, r, hrun, q1, q2⟩ := h
  obtain ⟨k, hk, hh⟩ := hrun.one
  refine ⟨_, (pss_cons (ps_set (i := 3) sc_Reader_number.nd rfl (Or.inl rfl) (pm_use0 T.cl U_word (hr.mono (by decide)) pas_word (pv 0)))
      (pss_cons (ps_if (PW.pt (pw_or (pt_cmpR op_eq (pv 3) pe_str (nomark _)) (pw_or (pt_cmpR op_notIn_sign (pe_ix ix_str (pv 3) pe_int (fun _ _ => rfl)) (pe_g (by rfl) T.gDIGITS) (by with_unfolding_all rfl)) (pw_or1 (PW.pt (pw_and (pt_cmpR op_eq (pe_ix ix_str (pv 3) pe_int (fun _ _ => rfl)) pe_str (nomark _)) (pw_and1 (pt_cmpR op_ne (pv 3) pe_str (nomark _))))))))) (pss_one (ps_expr (pm_use T.cl U_refuse (hr.mono (by decide)) pas_refuse (pv 0) (pa_cons pe_str pa_nil)))) pss_nil)
      (pss_cons (ps_set (i := 4) sc_Reader_number.nd rfl (Or.inl rfl) (pe_callTy call_int_str (by rfl) T.n_int (by decide +kernel) (pa_cons (pv 3) pa_nil)))
      (pss_cons (ps_if (pt_cmpR op_gt (pv 4) (pv 2) (nomark _)) (pss_one (ps_expr (pm_use T.cl U_refuse (hr.mono (by decide)) pas_refuse (pv 0) (pa_cons pe_str pa_nil)))) pss_nil)
      (pss_cons (ps_if (pt_cmpR op_lt (pv 4) (pv 1) (nomark _)) (pss_one (ps_expr (pm_use T.cl U_refuse (hr.mono (by decide)) pas_refuse (pv 0) (pa_cons pe_str pa_nil)))) pss_nil)
      (pss_cons (ps_fld (pv 0) (pe_op op_add (pe_fld (pv 0) rfl) pe_int) rfl)
      (pss_one (ps_ret (pv 4))))))))), ?_⟩
  refine ⟨_, rfl, x, dx, _, rfl, r.ins, rfl, x, dx, tk, nd, us, R, p, g, k, rfl, r, hk, ?_⟩
  refine ⟨_, rfl, rfl, ?_⟩
  rcases hh with ⟨e, rfl⟩ | ⟨b, rfl⟩
  · obtain ⟨c, t, ec, hc, h0⟩ := num_head n
    have ew : cz k.w = c :: t := by rw [e]; exact ec
    have lw : k.w.length ≤ 4 := by
      rw [len_cz, e]
      exact num_len (by omega)
    have lw2 : k.w.length ≤ sizeLine := szle (by omega)
    have ne0 : k.w ≠ "" := fun z => by
      rw [z] at ew
      exact absurd ew (by rw [show cz ("" : Str) = [] by decide +kernel]; simp)
    have a0 : atI (cz k.w) 0 = some c := by rw [ew]; exact atI_nat (xs := c :: t) (j := 0) rfl
    refine ⟨false, ttF (nstr ne0), iteF ?_⟩
    refine ⟨_, rfl, k.w, 0, c, rfl, rfl, lw2, a0, c, _, rfl, rfl, false, ?_, iteF ?_⟩
    · have := mem_digs c
      show V.bl (!decide _) = _
      rw [this, hc]; rfl
    refine ⟨_, rfl, k.w, 0, c, rfl, rfl, lw2, a0, rfl, decide (c = 48), ?_, ?_⟩
    · by_cases h48 : c = 48
      · subst h48
        exact ttT (by decide +kernel)
      · rw [decide_eq_false h48]
        exact ttF (nstr fun z => by
          have e2 := congrArg cz z
          rw [show cz (⟨#[c]⟩ : Str) = [c] from rfl, show cz ("0" : Str) = [48] by decide +kernel] at e2
          exact h48 (List.cons.inj e2).1)
    refine ite_both (fun _ z => z) (fun h48 z => ⟨_, rfl, rfl, false, tnF (congrArg V.str ?_), z⟩) (iteF ?_)
    · rw [e]
      exact h0 (of_decide_eq_true h48)
    refine ⟨_, rfl, _, (n : Int), rfl, ?_, by omega, ?_⟩
    · rw [e]
      exact TL.int_num (by
        have h4 := num_len (n := n) (by omega)
        rw [show cz (num n) = TL.numL n from TL.tl_num n] at h4
        omega)
    refine ⟨_, rfl, _, rfl, _, _, rfl, rfl, false, cmpF (by omega), iteF ?_⟩
    refine ⟨_, rfl, _, rfl, _, _, rfl, rfl, false, cmpF (by omega), iteF ?_⟩
    refine ⟨_, rfl, x, CR, dx, _, _, rfl, r.ins, T.cl, T.a_at, rfl, _, _, rfl, rfl, _, rfl, x, CR, dx, _, rfl, r.ins, T.cl, T.a_at, Nat.le_of_ble_eq_true rfl, ?_⟩
    exact ⟨_, rfl, q1 rfl _ r.bump.1 r.bump.2⟩
  · by_cases ne0 : k.w = ""
    · refine ⟨true, ttT (congrArg V.str ne0), iteT (iteT ?_)⟩
      exact ⟨_, rfl, x, dx, _, rfl, r.ins, rfl, x, dx, tk, nd, us, R, p, g, k, _, rfl, r, hk, q2 k _ rfl⟩
    rcases b.nn with e0 | ⟨c, t, ew, hc⟩
    · exact absurd (nil_str e0) ne0
    have lw2 : k.w.length ≤ sizeLine := szle (by
      rw [len_cz]
      exact Nat.le_trans (r.wz k (List.mem_of_getElem? hk)) (by decide))
    have a0 : atI (cz k.w) 0 = some c := by rw [ew]; exact atI_nat (xs := c :: t) (j := 0) rfl
    refine ⟨false, ttF (nstr ne0), iteF ?_⟩
    refine ⟨_, rfl, k.w, 0, c, rfl, rfl, lw2, a0, c, _, rfl, rfl, !(isD c), ?_, ?_⟩
    · have := mem_digs c
      show V.bl (!decide _) = _
      rw [this]
    rcases hc with hc | ⟨rfl, ht⟩
    · rw [hc]
      exact iteT (iteT ⟨_, rfl, x, dx, _, rfl, r.ins, rfl, x, dx, tk, nd, us, R, p, g, k, _, rfl, r, hk, q2 k _ rfl⟩)
    · refine iteF ?_
      refine ⟨_, rfl, k.w, 0, 48, rfl, rfl, lw2, a0, rfl, true, ttT (by decide +kernel), iteT ?_⟩
      refine ⟨_, rfl, rfl, true, tnT (nstr fun z => ?_), iteT ?_⟩
      · rw [z, show cz ("0" : Str) = [48] by decide +kernel] at ew
        exact ht (List.cons.inj ew).2.symm
      exact ⟨_, rfl, x, dx, _, rfl, r.ins, rfl, x, dx, tk, nd, us, R, p, g, k, _, rfl, r, hk, q2 k _ rfl⟩
end
end K6
namespace K6
open PySem L2
theorem Run.step {R : List Tk} {p : Nat} {r : Row} {S : List Row} {o : Option (Tk × Str)} (h : Run R p (r :: S) o) : ∃ o1, Run R p [r] o1 ∧ (o1 = none → Run R (p + 1) S o) ∧ ∀ k z, o1 = some (k, z) → o = some (k, z) := by
  obtain ⟨o1, h1, h2, h3⟩ := Run.cut (R := [r]) h
  exact ⟨o1, h1, h2, fun k z e => h3 _ e⟩
section
variable {P : Program} {w : World} {K : PySem.W.Frag} {mg : Str → Option Value} {base : Heap} {CR CT CO CF WA fR fT fO : Addr}
/-! ### lead -/
def spLead (CR CT : Addr) : Sp := fun vs H Q E => ∃ (x dx tk nd : Addr) (us : List V) (R : List Tk) (p g : Nat) (hi n : Nat) (o : Option (Tk × Str)), vs = [.ref x, ni hi] ∧ n ≤ hi ∧ n ≤ 1000 ∧ Rt CR x dx tk nd us R p g H ∧ Run R p (nums n) o ∧
  (o = none → ∀ H', Rt CR x dx tk nd us R (p + 2) g H' → Kp [x] H H' → Q (ni n) H') ∧ (∀ k z, o = some (k, z) → Fl CT [x] H E k z)
theorem use_lead (T : Txt K mg CR CT CO CF WA fR fT fO) : UseM P w K mg base (L2.CX P w) 5 CR "lead" p_Reader_lead (spLead CR CT) := by
  have U_number : UseM P w K mg base (L2.CX P w) 4 CR "number" p_Reader_number (spNumber CR CT) := use_number T
  have U_expect : UseM P w K mg base (L2.CX P w) 4 CR "expect" p_Reader_expect (spExpect CR CT) := use_expect T
  refine useM_of T.m_lead (fun f fd F => F.binds fun _ _ _ _ _ _ us hl => match us, hl with | [_, _], _ => rfl) fun f fd F => ?_
  refine F.okX sc_Reader_lead (fun vs H Q E h => ?_) (fun cdv A outer s H vs Q E hr h => ?_)
  · obtain ⟨x, dx, tk, nd, us, R, p, g, hi, n, o, rfl, _⟩ := h
    rfl
  have pas_number : Passes (L2.CX P w) (cxOf (L2.CX P w) P w K mg base n_Reader_lead "Reader.lead" (defScope s_Reader_lead) f cdv A outer s H E) E := pasX rfl rfl rfl rfl
  have pas_expect : Passes (L2.CX P w) (cxOf (L2.CX P w) P w K mg base n_Reader_lead "Reader.lead" (defScope s_Reader_lead) f cdv A outer s H E) E := pasX rfl rfl rfl rfl
  obtain ⟨x, dx, tk, nd, us, R, p, g, hi, n, o, rfl, h1, h2, r, run, q1, q2⟩ := h
  obtain ⟨o1, r1, n1, s1⟩ := Run.step run
  refine ⟨_, (pss_cons (ps_set (i := 2) sc_Reader_lead.nd rfl (Or.inl rfl) (pm_use T.cl U_number (hr.mono (by decide)) pas_number (pv 0) (pa_cons pe_int (pa_cons (pv 1) pa_nil))))
      (pss_cons (ps_expr (pm_use T.cl U_expect (hr.mono (by decide)) pas_expect (pv 0) (pa_cons pe_str pa_nil)))
      (pss_one (ps_ret (pv 2))))), ?_⟩
  refine ⟨_, rfl, x, dx, _, rfl, r.ins, rfl, _, rfl, x, dx, tk, nd, us, R, p, g, 0, hi, n, o1, rfl, Nat.zero_le _, h1, h2, r, r1, fun e1 H1 r' k1 => ?_, fun k z e => (q2 k z (s1 k z e)).on (Kp.refl _ _) (by simp)⟩
  obtain ⟨o2, r2, n2, s2⟩ := Run.step (n1 e1)
  refine ⟨_, rfl, x, dx, _, rfl, r'.ins, rfl, x, dx, tk, nd, us, R, p + 1, g, ",", _, o2, rfl, by decide +kernel, by decide +kernel, r', r2, fun e2 H2 r'' k2 => ?_, fun k z e => (q2 k z (s2 k z e)).on k1 (by simp)⟩
  exact ⟨_, rfl, q1 (n2 e2) H2 r'' (k1.trans k2)⟩
/-! ### begin -/
def spBegin (CR CT : Addr) : Sp := fun vs H Q E => ∃ (x dx tk nd : Addr) (us : List V) (R : List Tk) (p g : Nat) (d m : Nat) (w : Str) (o : Option (Tk × Str)), vs = [.ref x, ni d, ni m] ∧ w ∈ planWords ∧ d ≤ 8 ∧ m < 6 ∧ g < 40 ∧ Rt CR x dx tk nd us R p g H ∧ Run R p (hd w) o ∧
  (o = none → ∀ H', Rt CR x dx tk nd us R (p + 2) (g + 1) H' → Kp [x] H H' → Q (.str w) H') ∧ (∀ k z, o = some (k, z) → Fl CT [x] H E k z)
theorem use_begin (T : Txt K mg CR CT CO CF WA fR fT fO) : UseM P w K mg base (L2.CX P w) 5 CR "begin" p_Reader_begin (spBegin CR CT) := by
  have U_word : UseM P w K mg base CX0 1 CR "word" p_Reader_word (spWord CR) := use_word T
  have U_refuse : UseM P w K mg base (L2.CX P w) 3 CR "refuse" p_Reader_refuse (spRefuse CR CT) := use_refuse T
  have pas_word : ∀ {X : Cx}, Passes CX0 X E0 := pass0
  have U_expect : UseM P w K mg base (L2.CX P w) 4 CR "expect" p_Reader_expect (spExpect CR CT) := use_expect T
  refine useM_of T.m_begin (fun f fd F => F.binds fun _ _ _ _ _ _ us hl => match us, hl with | [_, _, _], _ => rfl) fun f fd F => ?_
  refine F.okX sc_Reader_begin (fun vs H Q E h => ?_) (fun cdv A outer s H vs Q E hr h => ?_)
  · obtain ⟨x, dx, tk, nd, us, R, p, g, d, m, w, o, rfl, _⟩ := h
    rfl
  have pas_refuse : Passes (L2.CX P w) (cxOf (L2.CX P w) P w K mg base n_Reader_begin "Reader.begin" (defScope s_Reader_begin) f cdv A outer s H E) E := pasX rfl rfl rfl rfl
  have pas_expect : Passes (L2.CX P w) (cxOf (L2.CX P w) P w K mg base n_Reader_begin "Reader.begin" (defScope s_Reader_begin) f cdv A outer s H E) E := pasX rfl rfl rfl rfl
  obtain ⟨x, dx, tk, nd, us, R, p, g, d, m, v, o, rfl, hw, hd8, hm, hg, r, run, q1, q2⟩ := h
  obtain ⟨o1, r1, n1, s1⟩ := Run.step run
  obtain ⟨k, hk, hh⟩ := r1.one
  refine ⟨_, (pss_cons (ps_set (i := 3) sc_Reader_begin.nd rfl (Or.inl rfl) (pm_use0 T.cl U_word (hr.mono (by decide)) pas_word (pv 0)))
      (pss_cons (ps_if (pt_cmpR op_notIn_seq (pv 3) (pe_g (by rfl) T.gWORDS) (by with_unfolding_all rfl)) (pss_one (ps_expr (pm_use T.cl U_refuse (hr.mono (by decide)) pas_refuse (pv 0) (pa_cons pe_str pa_nil)))) pss_nil)
      (pss_cons (ps_if (pt_cmpR op_gt (pv 1) (pe_g (by rfl) T.gDEPTH_MOST) (nomark _)) (pss_one (ps_expr (pm_use T.cl U_refuse (hr.mono (by decide)) pas_refuse (pv 0) (pa_cons pe_str pa_nil)))) pss_nil)
      (pss_cons (ps_if (pt_cmpR op_eq (pv 2) (pe_g (by rfl) T.gPARTS_MOST) (nomark _)) (pss_one (ps_expr (pm_use T.cl U_refuse (hr.mono (by decide)) pas_refuse (pv 0) (pa_cons pe_str pa_nil)))) pss_nil)
      (pss_cons (ps_if (pt_cmpR op_eq (pe_fld (pv 0) rfl) (pe_g (by rfl) T.gNODES_MOST) (nomark _)) (pss_one (ps_expr (pm_use T.cl U_refuse (hr.mono (by decide)) pas_refuse (pv 0) (pa_cons pe_str pa_nil)))) pss_nil)
      (pss_cons (ps_fld (pv 0) (pe_op op_add (pe_fld (pv 0) rfl) pe_int) rfl)
      (pss_cons (ps_fld (pv 0) (pe_op op_add (pe_fld (pv 0) rfl) pe_int) rfl)
      (pss_cons (ps_expr (pm_use T.cl U_expect (hr.mono (by decide)) pas_expect (pv 0) (pa_cons pe_str pa_nil)))
      (pss_one (ps_ret (pv 3))))))))))), ?_⟩
  refine ⟨_, rfl, x, dx, _, rfl, r.ins, rfl, x, dx, tk, nd, us, R, p, g, k, rfl, r, hk, ?_⟩
  refine ⟨_, rfl, WA, _, rfl, .inr (T.words _), rfl, rfl, ?_⟩
  rcases hh with ⟨e, rfl⟩ | ⟨b, rfl⟩
  · refine ⟨false, ?_, iteF ?_⟩
    · show V.bl (!inV (.str k.w) (planWords.map V.str)) = _
      rw [inV_str, e, decide_eq_true hw]; rfl
    refine ⟨_, rfl, _, _, rfl, rfl, false, cmpF (by omega), iteF ?_⟩
    refine ⟨_, rfl, rfl, false, ttF (fun z => ?_), iteF ?_⟩
    · have := V.int.inj z
      omega
    refine ⟨_, rfl, x, CR, dx, _, _, rfl, r.ins, T.cl, T.a_begun, rfl, rfl, false, ttF (fun z => ?_), iteF ?_⟩
    · have := V.int.inj z
      omega
    refine ⟨_, rfl, x, CR, dx, _, _, rfl, r.ins, T.cl, T.a_begun, rfl, _, _, rfl, rfl, _, rfl, x, CR, dx, _, rfl, r.ins, T.cl, T.a_begun, Nat.le_of_ble_eq_true rfl, ?_⟩
    have ra : Rt CR x dx tk nd us R p (g + 1) (upd H x (.ins CR dx (putF "_begun" (.int ((g : Int) + 1)) (rf tk nd p g)))) := r.move p (g + 1)
    have ka : Kp [x] H (upd H x (.ins CR dx (putF "_begun" (.int ((g : Int) + 1)) (rf tk nd p g)))) := r.mkp p (g + 1)
    refine ⟨_, rfl, x, CR, dx, _, _, rfl, ra.ins, T.cl, T.a_at, rfl, _, _, rfl, rfl, _, rfl, x, CR, dx, _, rfl, ra.ins, T.cl, T.a_at, Nat.le_of_ble_eq_true rfl, ?_⟩
    have rb := ra.bump.1
    have kb := ka.trans ra.bump.2
    obtain ⟨o2, r2, n2, s2⟩ := Run.step (n1 rfl)
    refine ⟨_, rfl, x, dx, _, rfl, rb.ins, rfl, x, dx, tk, nd, us, R, p + 1, g + 1, "(", _, o2, rfl, by decide +kernel, by decide +kernel, rb, r2, fun e2 H2 r'' k2 => ?_, fun k z e => (q2 k z (s2 k z e)).on kb (by simp)⟩
    refine ⟨_, rfl, ?_⟩
    rw [e]
    exact q1 (n2 e2) H2 r'' (kb.trans k2)
  · refine ⟨true, ?_, iteT ?_⟩
    · show V.bl (!inV (.str k.w) (planWords.map V.str)) = _
      rw [inV_str, decide_eq_false b.nw]; rfl
    exact ⟨_, rfl, x, dx, _, rfl, r.ins, rfl, x, dx, tk, nd, us, R, p, g, k, _, rfl, r, hk, (q2 k _ (s1 _ _ rfl)).on (Kp.refl _ _) (by simp)⟩
/-! ### close -/
def spClose (CR CT : Addr) : Sp := fun vs0 H Q E => ∃ (x dx tk nd : Addr) (us : List V) (R : List Tk) (p g : Nat) (a : Addr) (vs : List V) (o : Option (Tk × Str)), vs0 = [.ref x, .ref a] ∧ Rt CR x dx tk nd us R p g H ∧ H nd = some (.lst vs) ∧ vs.length ≤ 100 ∧ Run R p [rShut] o ∧
  (o = none → ∀ H', Rt CR x dx tk nd us R (p + 1) g H' → H' nd = some (.lst (vs ++ [.ref a])) → Kp [x, nd] H H' → Q (ni vs.length) H') ∧ (∀ k z, o = some (k, z) → Fl CT [x, nd] H E k z)
theorem use_close (T : Txt K mg CR CT CO CF WA fR fT fO) : UseM P w K mg base (L2.CX P w) 5 CR "close" p_Reader_close (spClose CR CT) := by
  have U_expect : UseM P w K mg base (L2.CX P w) 4 CR "expect" p_Reader_expect (spExpect CR CT) := use_expect T
  refine useM_of T.m_close (fun f fd F => F.binds fun _ _ _ _ _ _ us hl => match us, hl with | [_, _], _ => rfl) fun f fd F => ?_
  refine F.okX sc_Reader_close (fun vs H Q E h => ?_) (fun cdv A outer s H vs Q E hr h => ?_)
  · obtain ⟨x, dx, tk, nd, us, R, p, g, a, vs, o, rfl, _⟩ := h
    rfl
  have pas_expect : Passes (L2.CX P w) (cxOf (L2.CX P w) P w K mg base n_Reader_close "Reader.close" (defScope s_Reader_close) f cdv A outer s H E) E := pasX rfl rfl rfl rfl
  obtain ⟨x, dx, tk, nd, us, R, p, g, a, vs, o, rfl, r, hnd, hl, run, q1, q2⟩ := h
  have xn := r.xne hnd
  refine ⟨_, (pss_cons (ps_expr (pm_use T.cl U_expect (hr.mono (by decide)) pas_expect (pv 0) (pa_cons pe_str pa_nil)))
      (pss_cons (ps_expr (pe_bm PySem.F.plainAttrs_list PySem.F.slot_list_append PySem.F.type_list_append mt_append (pe_fld (pv 0) rfl) (pa_cons (pv 1) pa_nil)))
      (pss_one (ps_ret (pe_op op_sub (pe_callB call_len_seq (by rfl) T.n_len PySem.boot_len (pa_cons (pe_fld (pv 0) rfl) pa_nil)) pe_int))))), ?_⟩
  refine ⟨_, rfl, x, dx, _, rfl, r.ins, rfl, x, dx, tk, nd, us, R, p, g, ")", _, o, rfl, by decide +kernel, by decide +kernel, r, run, fun e1 H1 r1 k1 => ?_, fun k z e => (q2 k z e).on (Kp.refl _ _) (by simp)⟩
  have hnd1 := k1.keep nd _ (by simpa using xn) hnd
  refine ⟨_, rfl, x, CR, dx, _, _, rfl, r1.ins, T.cl, T.a_nodes, rfl, .inl ⟨rfl, _, SqL.of hnd1⟩, _, rfl, _, _, _, rfl, rfl, hnd1, szl (by omega), ?_⟩
  have k2 : Kp [x, nd] H1 (upd H1 nd (.lst (vs ++ [.ref a]))) := (Kp.refl _ _).lst (by simp) hnd1
  have r2 : Rt CR x dx tk nd us R (p + 1) g (upd H1 nd (.lst (vs ++ [.ref a]))) := r1.kp (S := [nd]) ((Kp.refl _ _).lst (by simp) hnd1) (by simpa using xn.symm) (by simpa using r1.tn)
  refine ⟨_, rfl, x, CR, dx, _, _, rfl, r2.ins, T.cl, T.a_nodes, rfl, _, _, rfl, .inl (SqL.of upd_same), _, _, rfl, rfl, ?_⟩
  have e3 : (((vs ++ [V.ref a]).length : Nat) : Int) - 1 = ((vs.length : Nat) : Int) := by rw [List.length_append]; simp
  show Q (.int ((((vs ++ [V.ref a]).length : Nat) : Int) - 1)) _
  rw [e3]
  exact q1 e1 _ r2 upd_same ((k1.mono (by simp)).trans k2)
end
end K6
namespace K6
open PySem L2
section
variable {P : Program} {w : World} {K : PySem.W.Frag} {mg : Str → Option Value} {base : Heap} {CR CT CO CF WA fR fT fO : Addr}
def jrows (d : Nat) (g : Bool) (v c : Nat) (f : Option Nat) : List Row := (jobRows d g v c f).drop 2
theorem jrows_eq (d : Nat) (g : Bool) (v c : Nat) (f : Option Nat) : jrows d g v c f = rNum d :: rComma :: rSign g :: rNum v :: rComma :: rNum c :: (match f with | none => [rShutM] | some k => [rMore, rBang, rNum k, rShut]) := rfl
def spRJob (CR CT : Addr) : Sp := fun vs0 H Q E => ∃ (x dx tk nd : Addr) (us : List V) (R : List Tk) (p g : Nat) (vs : List V) (ts : List Tr) (d : Nat) (gg : Bool) (v c : Nat) (f : Option Nat) (o : Option (Tk × Str)), vs0 = [.ref x] ∧ d ≤ 1000 ∧ v ≤ 999 ∧ c ≤ 100 ∧ (∀ k, f = some k → k ≤ 999) ∧
  Rt CR x dx tk nd us R p g H ∧ H nd = some (.lst vs) ∧ Nds H vs ts ∧ vs.length ≤ 100 ∧ Run R p (jrows d gg v c f) o ∧
  (o = none → ∀ (a : Addr) (H' : Hp), Rt CR x dx tk nd us R (p + (jrows d gg v c f).length) g H' → H' nd = some (.lst (vs ++ [.ref a])) → Nds H' (vs ++ [.ref a]) (ts ++ [.job d gg v c f]) → Kp [x, nd] H H' → Q (ni vs.length) H') ∧ (∀ k z, o = some (k, z) → Fl CT [x, nd] H E k z)
theorem use_rjob (T : Txt K mg CR CT CO CF WA fR fT fO) : UseM P w K mg base (L2.CX P w) 6 CR "job" p_Reader_job (spRJob CR CT) := by
  have U_word : UseM P w K mg base CX0 1 CR "word" p_Reader_word (spWord CR) := use_word T
  have U_refuse : UseM P w K mg base (L2.CX P w) 3 CR "refuse" p_Reader_refuse (spRefuse CR CT) := use_refuse T
  have pas_word : ∀ {X : Cx}, Passes CX0 X E0 := pass0
  have U_expect : UseM P w K mg base (L2.CX P w) 4 CR "expect" p_Reader_expect (spExpect CR CT) := use_expect T
  have U_number : UseM P w K mg base (L2.CX P w) 4 CR "number" p_Reader_number (spNumber CR CT) := use_number T
  have U_check_more : UseM P w K mg base (L2.CX P w) 4 CR "check_more" p_Reader_check_more (spMore CR CT) := use_more T
  have U_close : UseM P w K mg base (L2.CX P w) 5 CR "close" p_Reader_close (spClose CR CT) := use_close T
  refine useM_of T.m_job (fun f fd F => F.binds fun _ _ _ _ _ _ us hl => match us, hl with | [_], _ => rfl) fun f fd F => ?_
  refine F.okX sc_Reader_job (fun vs H Q E h => ?_) (fun cdv A outer s H vs Q E hr h => ?_)
  · obtain ⟨x, dx, tk, nd, us, R, p, g, vs, ts, d, gg, v, c, fo, o, rfl, _⟩ := h
    rfl
  have pas_refuse : Passes (L2.CX P w) (cxOf (L2.CX P w) P w K mg base n_Reader_job "Reader.job" (defScope s_Reader_job) f cdv A outer s H E) E := pasX rfl rfl rfl rfl
  have pas_expect : Passes (L2.CX P w) (cxOf (L2.CX P w) P w K mg base n_Reader_job "Reader.job" (defScope s_Reader_job) f cdv A outer s H E) E := pasX rfl rfl rfl rfl
  have pas_number : Passes (L2.CX P w) (cxOf (L2.CX P w) P w K mg base n_Reader_job "Reader.job" (defScope s_Reader_job) f cdv A outer s H E) E := pasX rfl rfl rfl rfl
  have pas_check_more : Passes (L2.CX P w) (cxOf (L2.CX P w) P w K mg base n_Reader_job "Reader.job" (defScope s_Reader_job) f cdv A outer s H E) E := pasX rfl rfl rfl rfl
  have pas_close : Passes (L2.CX P w) (cxOf (L2.CX P w) P w K mg base n_Reader_job "Reader.job" (defScope s_Reader_job) f cdv A outer s H E) E := pasX rfl rfl rfl rfl
  obtain ⟨x, dx, tk, nd, us, R, p, g, vs, ts, d, gg, v, c, fo, o, rfl, hd, hv, hc, hf, r, hnd, hnds, hl, run, q1, q2⟩ := h
  have xn := r.xne hnd
  rw [jrows_eq] at run q1
  refine ⟨_, (pss_cons (ps_set (i := 1) sc_Reader_job.nd rfl (Or.inl rfl) (pm_use T.cl U_number (hr.mono (by decide)) pas_number (pv 0) (pa_cons pe_int (pa_cons (pe_g (by rfl) T.gDURATION_MOST) pa_nil))))
      (pss_cons (ps_expr (pm_use T.cl U_expect (hr.mono (by decide)) pas_expect (pv 0) (pa_cons pe_str pa_nil)))
      (pss_cons (ps_set (i := 2) sc_Reader_job.nd rfl (Or.inl rfl) (pm_use0 T.cl U_word (hr.mono (by decide)) pas_word (pv 0)))
      (pss_cons (ps_if (PW.pt (pw_and (pt_cmpR op_ne (pv 2) pe_str (nomark _)) (pw_and1 (pt_cmpR op_ne (pv 2) pe_str (nomark _))))) (pss_one (ps_expr (pm_use T.cl U_refuse (hr.mono (by decide)) pas_refuse (pv 0) (pa_cons pe_str pa_nil)))) pss_nil)
      (pss_cons (ps_fld (pv 0) (pe_op op_add (pe_fld (pv 0) rfl) pe_int) rfl)
      (pss_cons (ps_set (i := 3) sc_Reader_job.nd rfl (Or.inl rfl) (pm_use T.cl U_number (hr.mono (by decide)) pas_number (pv 0) (pa_cons pe_int (pa_cons (pe_g (by rfl) T.gVALUE_MOST) pa_nil))))
      (pss_cons (ps_expr (pm_use T.cl U_expect (hr.mono (by decide)) pas_expect (pv 0) (pa_cons pe_str pa_nil)))
      (pss_cons (ps_set (i := 4) sc_Reader_job.nd rfl (Or.inl rfl) (pm_use T.cl U_number (hr.mono (by decide)) pas_number (pv 0) (pa_cons pe_int (pa_cons (pe_g (by rfl) T.gCLEANUP_MOST) pa_nil))))
      (pss_cons (ps_set (i := 5) sc_Reader_job.nd rfl (Or.inl rfl) pe_non)
      (Evl.pss_cut (ps_if (pt_cmpR op_ne (pm_use0 T.cl U_word (hr.mono (by decide)) pas_word (pv 0)) pe_str (nomark _)) (pss_one (ps_expr (pm_use0 T.cl U_check_more (hr.mono (by decide)) pas_check_more (pv 0)))) (pss_cons (ps_expr (pm_use T.cl U_expect (hr.mono (by decide)) pas_expect (pv 0) (pa_cons pe_str pa_nil)))
      (pss_cons (ps_expr (pm_use T.cl U_expect (hr.mono (by decide)) pas_expect (pv 0) (pa_cons pe_str pa_nil)))
      (pss_one (ps_set (i := 5) sc_Reader_job.nd rfl (Or.inl rfl) (pm_use T.cl U_number (hr.mono (by decide)) pas_number (pv 0) (pa_cons pe_int (pa_cons (pe_g (by rfl) T.gVALUE_MOST) pa_nil))))))))
      (pss_one (ps_ret (pm_use T.cl U_close (hr.mono (by decide)) pas_close (pv 0) (pa_cons (pe_tup (pa_cons pe_str (pa_cons (pv 1) (pa_cons (pe_ifExp (pt_cmpR op_eq (pv 2) pe_str (nomark _)) pe_str pe_str) (pa_cons (pv 3) (pa_cons (pv 4) (pa_cons (pv 5) pa_nil))))))) pa_nil)))))))))))))), ?_⟩
  -- duration
  obtain ⟨o1, r1, n1, s1⟩ := Run.step run
  refine ⟨_, rfl, x, dx, _, rfl, r.ins, rfl, x, dx, tk, nd, us, R, p, g, 0, 1000, d, o1, rfl, Nat.zero_le _, hd, hd, r, r1, fun e1 H1 ra k1 => ?_, fun k z e => (q2 k z (s1 k z e)).on (Kp.refl _ _) (by simp)⟩
  -- ,
  obtain ⟨o2, r2, n2, s2⟩ := Run.step (n1 e1)
  refine ⟨_, rfl, x, dx, _, rfl, ra.ins, rfl, x, dx, tk, nd, us, R, p + 1, g, ",", _, o2, rfl, by decide +kernel, by decide +kernel, ra, r2, fun e2 H2 rb k2 => ?_, fun k z e => (q2 k z (s2 k z e)).on (k1.mono (by simp)) (by simp)⟩
  have kb : Kp [x] H H2 := k1.trans k2
  -- the sign
  obtain ⟨o3, r3, n3, s3⟩ := Run.step (n2 e2)
  obtain ⟨k3, hk3, hh3⟩ := r3.one
  refine ⟨_, rfl, x, dx, _, rfl, rb.ins, rfl, x, dx, tk, nd, us, R, p + 1 + 1, g, k3, rfl, rb, hk3, ?_⟩
  refine ⟨_, rfl, rfl, ?_⟩
  rcases hh3 with ⟨ew, rfl⟩ | ⟨bd, rfl⟩
  case inr =>
    refine ⟨true, tnT (nstr (bd.ne (by decide +kernel))), iteT ?_⟩
    refine ⟨_, rfl, rfl, true, tnT (nstr (bd.ne (by decide +kernel))), iteT ?_⟩
    exact ⟨_, rfl, x, dx, _, rfl, rb.ins, rfl, x, dx, tk, nd, us, R, p + 1 + 1, g, k3, _, rfl, rb, hk3, (q2 _ _ (s3 _ _ rfl)).on (kb.mono (by simp)) (by simp)⟩
  refine ⟨!gg, ?_, ite_both (fun _ z => z) (fun hg z => ⟨_, rfl, rfl, false, tnF (congrArg V.str ?_), z⟩) (iteF ?_)⟩
  · rw [ew]
    cases gg
    · exact tnT (nstr (by decide +kernel))
    · exact tnF rfl
  · rw [ew]
    cases gg
    · rfl
    · cases hg
  refine ⟨_, rfl, x, CR, dx, _, _, rfl, rb.ins, T.cl, T.a_at, rfl, _, _, rfl, rfl, _, rfl, x, CR, dx, _, rfl, rb.ins, T.cl, T.a_at, Nat.le_of_ble_eq_true rfl, ?_⟩
  obtain ⟨rc, kc0⟩ := rb.bump
  have kc := kb.trans kc0
  -- value
  obtain ⟨o4, r4, n4, s4⟩ := Run.step (n3 rfl)
  refine ⟨_, rfl, x, dx, _, rfl, rc.ins, rfl, x, dx, tk, nd, us, R, p + 1 + 1 + 1, g, 0, 999, v, o4, rfl, Nat.zero_le _, hv, by omega, rc, r4, fun e4 H4 rd k4 => ?_, fun k z e => (q2 k z (s4 k z e)).on (kc.mono (by simp)) (by simp)⟩
  have kd := kc.trans k4
  -- ,
  obtain ⟨o5, r5, n5, s5⟩ := Run.step (n4 e4)
  refine ⟨_, rfl, x, dx, _, rfl, rd.ins, rfl, x, dx, tk, nd, us, R, p + 1 + 1 + 1 + 1, g, ",", _, o5, rfl, by decide +kernel, by decide +kernel, rd, r5, fun e5 H5 re k5 => ?_, fun k z e => (q2 k z (s5 k z e)).on (kd.mono (by simp)) (by simp)⟩
  have ke := kd.trans k5
  -- cleanup
  obtain ⟨o6, r6, n6, s6⟩ := Run.step (n5 e5)
  refine ⟨_, rfl, x, dx, _, rfl, re.ins, rfl, x, dx, tk, nd, us, R, p + 1 + 1 + 1 + 1 + 1, g, 0, 100, c, o6, rfl, Nat.zero_le _, hc, by omega, re, r6, fun e6 H6 rg k6 => ?_, fun k z e => (q2 k z (s6 k z e)).on (ke.mono (by simp)) (by simp)⟩
  have kg := ke.trans k6
  have run7 := n6 e6
  -- the fault
  refine ⟨fun σ' H' => ∃ p' : Nat, σ' = [some (.ref x), some (ni d), some (.str (if gg then "+" else "-")), some (ni v), some (ni c), some (fv fo)] ∧ Rt CR x dx tk nd us R p' g H' ∧ Kp [x] H H' ∧ p' + 1 = p + (6 + (match fo with | none => [rShutM] | some k => [rMore, rBang, rNum k, rShut]).length) ∧
    ∃ o', Run R p' [rShut] o' ∧ (∀ k z, o' = some (k, z) → o = some (k, z)) ∧ (o' = none → o = none), ?_, ?_⟩
  · cases fo with
    | none =>
      obtain ⟨k7, hk7, hh7⟩ := run7
      refine ⟨_, rfl, x, dx, _, rfl, rg.ins, rfl, x, dx, tk, nd, us, R, _, g, k7, rfl, rg, hk7, rfl, true, tnT (nstr ?_), iteT ?_⟩
      · rcases hh7 with ⟨e, _⟩ | ⟨b, _⟩
        · rw [e]; show (")" : Str) ≠ ","; decide +kernel
        · exact b.ne (by decide +kernel)
      refine ⟨_, rfl, x, dx, _, rfl, rg.ins, rfl, x, dx, tk, nd, us, R, _, g, k7, rfl, rg, hk7, fun hq => ?_, fun h1 h2 => ?_⟩
      · rcases hh7 with ⟨e, eo⟩ | ⟨b, _⟩
        · exact ⟨_, by rw [ew]; rfl, rg, kg, rfl, none, Run.fit1 hk7 e, fun _ _ z => (nomatch z), fun _ => eo⟩
        · rcases hq with hq | hq
          · exact absurd hq (b.ne (by decide +kernel))
          · exact absurd hq (b.ne (by decide +kernel))
      · rcases hh7 with ⟨e, eo⟩ | ⟨b, eo⟩
        · exact absurd e h2
        · exact (q2 _ _ eo).on (kg.mono (by simp)) (by simp)
    | some y =>
      obtain ⟨o7, r7, n7, s7⟩ := Run.step run7
      obtain ⟨k7, hk7, hh7⟩ := r7.one
      refine ⟨_, rfl, x, dx, _, rfl, rg.ins, rfl, x, dx, tk, nd, us, R, _, g, k7, rfl, rg, hk7, rfl, ?_⟩
      rcases hh7 with ⟨e, rfl⟩ | ⟨b, rfl⟩
      · refine ⟨false, tnF (congrArg V.str e), iteF ?_⟩
        refine ⟨_, rfl, x, dx, _, rfl, rg.ins, rfl, x, dx, tk, nd, us, R, _, g, ",", "expected ,", none, rfl, by decide +kernel, by decide +kernel, rg, Run.fit1 hk7 e, fun e7 H7 rh k7 => ?_, fun k z e => nomatch e⟩
        have kh := kg.trans k7
        obtain ⟨o8, r8, n8, s8⟩ := Run.step (n7 rfl)
        refine ⟨_, rfl, x, dx, _, rfl, rh.ins, rfl, x, dx, tk, nd, us, R, _, g, "!", _, o8, rfl, by decide +kernel, by decide +kernel, rh, r8, fun e8 H8 rj k8 => ?_, fun k z e => (q2 k z (s8 k z e)).on (kh.mono (by simp)) (by simp)⟩
        have kj := kh.trans k8
        obtain ⟨o9, r9, n9, s9⟩ := Run.step (n8 e8)
        refine ⟨_, rfl, x, dx, _, rfl, rj.ins, rfl, x, dx, tk, nd, us, R, _, g, 0, 999, y, o9, rfl, Nat.zero_le _, hf y rfl, by have := hf y rfl; omega, rj, r9, fun e9 H9 rl k9 => ?_, fun k z e => (q2 k z (s9 k z e)).on (kj.mono (by simp)) (by simp)⟩
        exact ⟨_, by rw [ew]; rfl, rl, kj.trans k9, rfl, o, n9 e9, fun _ _ z => z, fun z => z⟩
      · refine ⟨true, tnT (nstr (b.ne (by decide +kernel))), iteT ?_⟩
        refine ⟨_, rfl, x, dx, _, rfl, rg.ins, rfl, x, dx, tk, nd, us, R, _, g, k7, rfl, rg, hk7, fun hq => ?_, fun h1 h2 => (q2 _ _ (s7 _ _ rfl)).on (kg.mono (by simp)) (by simp)⟩
        rcases hq with hq | hq
        · exact absurd hq (b.ne (by decide +kernel))
        · exact absurd hq (b.ne (by decide +kernel))
  · rintro σ' H7 ⟨p', rfl, rh, kh, ep, o', ro, so, no⟩
    have hnd7 := kh.keep nd _ (by simpa using xn) hnd
    rw [List.length_cons, List.length_cons, List.length_cons, List.length_cons, List.length_cons, List.length_cons] at q1
    cases gg
    all_goals
      refine ⟨_, rfl, x, dx, _, rfl, rh.ins, rfl, _, rfl, _, rfl, rfl, ?_⟩
      first
        | refine ⟨false, ttF (nstr (by decide +kernel)), iteF ?_⟩
        | refine ⟨true, ttT rfl, iteT ?_⟩
      refine ⟨_, rfl, _, rfl, _, rfl, (by show 6 ≤ sizeLine; decide), fun a ha => ?_⟩
      have ka : ∀ u : HO, Kp [] H7 (upd H7 a u) := fun u => (Kp.refl [] H7).new ha
      have kz : ∀ u : HO, Kp [x, nd] H (upd H7 a u) := fun u => (kh.trans ((ka u).mono (by simp))).mono (by simp)
      refine ⟨x, dx, tk, nd, us, R, p', g, a, vs, o', rfl, rh.kp (ka _) (by simp) (by simp), (ka _).keep nd _ (by simp) hnd7, hl, ro, fun eo H8 rm hnd8 k8 => ?_, fun k z e => (q2 k z (so k z e)).on (kz _) (by simp)⟩
      have kt : Kp [x, nd] H H8 := (kz _).trans k8
      refine q1 (no eo) a H8 ?_ hnd8 ((hnds.kp kt).snoc (.job (k8.tup _ _ upd_same))) kt
      have ee : p + ((match fo with | none => [rShutM] | some k => [rMore, rBang, rNum k, rShut]).length + 1 + 1 + 1 + 1 + 1 + 1) = p' + 1 := by omega
      rw [ee]
      exact rm
end
end K6
namespace K6
open PySem L2
def mrows (cs : List Tr) : List Row := (more cs).drop 1
theorem mrows_cons (t : Tr) (r : List Tr) : mrows (t :: r) = toks t ++ more r := by simp [mrows, more]
theorem mrows_app {a b : List Tr} (h : a ≠ []) : mrows (a ++ b) = mrows a ++ more b := by
  cases a with
  | nil => exact absurd rfl h
  | cons t r => rw [List.cons_append, mrows_cons, mrows_cons, more_app, List.append_assoc]
theorem Run.end_ {R : List Tk} {p : Nat} {o : Option (Tk × Str)} (h : Run R p [] o) : o = none := h
theorem Run.mid {R : List Tk} {p : Nat} {A B : List Row} {o : Option (Tk × Str)} (h : Run R p (A ++ B) o) : ∃ o1, Run R p A o1 ∧ (o1 = none → Run R (p + A.length) B o) ∧ ∀ k z, o1 = some (k, z) → o = some (k, z) := by
  obtain ⟨o1, h1, h2, h3⟩ := Run.cut h
  exact ⟨o1, h1, h2, fun k z e => h3 _ e⟩
theorem more_head {R : List Tk} {p : Nat} {r : List Tr} {o : Option (Tk × Str)} (h : Run R p (more r ++ [rShutM]) o) :
    ∃ k, R[p]? = some k ∧ ((r = [] ∧ k.w = ")" ∧ o = none) ∨ (∃ t s, r = t :: s ∧ k.w = "," ∧ Run R (p + 1) (toks t ++ (more s ++ [rShutM])) o) ∨ (Bad k.w ∧ o = some (k, ("expected , or )" : Str)))) := by
  cases r with
  | nil =>
    obtain ⟨k, hk, h⟩ := h
    refine ⟨k, hk, ?_⟩
    rcases h with ⟨e, h⟩ | ⟨b, e⟩
    · exact .inl ⟨rfl, e, h⟩
    · exact .inr (.inr ⟨b, e⟩)
  | cons t s =>
    have h' : Run R p (rMore :: (toks t ++ (more s ++ [rShutM]))) o := by
      have e : more (t :: s) ++ [rShutM] = rMore :: (toks t ++ (more s ++ [rShutM])) := by simp [more]
      rw [← e]
      exact h
    obtain ⟨k, hk, h⟩ := h'
    refine ⟨k, hk, ?_⟩
    rcases h with ⟨e, h⟩ | ⟨b, e⟩
    · exact .inr (.inl ⟨t, s, rfl, e, h⟩)
    · exact .inr (.inr ⟨b, e⟩)
theorem deps_app (a b : List Tr) : deps (a ++ b) = max (deps a) (deps b) := by
  induction a with
  | nil => simp [deps]
  | cons t r ih => rw [List.cons_append]; simp only [deps, ih]; omega
theorem fits_app {a b : List Tr} : fits (a ++ b) ↔ fits a ∧ fits b := by
  induction a with
  | nil => simp [fits]
  | cons t r ih => rw [List.cons_append]; simp only [fits, ih, and_assoc]
section
variable {P : Program} {w : World} {K : PySem.W.Frag} {mg : Str → Option Value} {base : Heap} {CR CT CO CF WA fR fT fO : Addr}
def spRPlan (CR CT : Addr) (h : Nat) : Sp := fun vs0 H Q E => ∃ (x dx tk nd : Addr) (us : List V) (R : List Tk) (p g : Nat) (vs : List V) (ts : List Tr) (d m : Nat) (t : Tr) (o : Option (Tk × Str)), vs0 = [.ref x, ni d, ni m] ∧ fit t ∧ dep t ≤ h ∧ d + dep t ≤ 9 ∧ m < 6 ∧ g + sz t ≤ 40 ∧
  Rt CR x dx tk nd us R p g H ∧ H nd = some (.lst vs) ∧ Nds H vs ts ∧ vs.length + sz t ≤ 100 ∧ Run R p (toks t) o ∧
  (o = none → ∀ (vs' : List V) (ts' : List Tr) (H' : Hp), Rt CR x dx tk nd us R (p + (toks t).length) (g + sz t) H' → H' nd = some (.lst (vs ++ vs')) → Nds H' (vs ++ vs') (ts ++ ts') → ts'.length = sz t → (∀ c ∈ ts', fit c) → (ts ++ ts')[ts.length + sz t - 1]? = some t → Kp [x, nd] H H' → Q (ni (ts.length + sz t - 1)) H') ∧
  (∀ k z, o = some (k, z) → Fl CT [x, nd] H E k z)
def spRParts (CR CT : Addr) (h : Nat) : Sp := fun vs0 H Q E => ∃ (x dx tk nd : Addr) (us : List V) (R : List Tk) (p g : Nat) (vs : List V) (ts : List Tr) (d : Nat) (cs : List Tr) (o : Option (Tk × Str)), vs0 = [.ref x, ni d] ∧ fits cs ∧ cs ≠ [] ∧ cs.length ≤ 6 ∧ deps cs ≤ h ∧ d + deps cs ≤ 9 ∧ g + szs cs ≤ 40 ∧
  Rt CR x dx tk nd us R p g H ∧ H nd = some (.lst vs) ∧ Nds H vs ts ∧ vs.length + szs cs ≤ 100 ∧ Run R p (mrows cs ++ [rShutM]) o ∧
  (o = none → ∀ (q : Addr) (js : List Nat) (vs' : List V) (ts' : List Tr) (H' : Hp), Rt CR x dx tk nd us R (p + (mrows cs).length) (g + szs cs) H' → Run R (p + (mrows cs).length) [rShut] none → H' q = some (.tup (js.map ni)) → Kids (ts ++ ts') js cs → H' nd = some (.lst (vs ++ vs')) → Nds H' (vs ++ vs') (ts ++ ts') →
    ts'.length = szs cs → (∀ c ∈ ts', fit c) → Kp [x, nd] H H' → Q (.ref q) H') ∧
  (∀ k z, o = some (k, z) → Fl CT [x, nd] H E k z)
/-- how the parts stand when so many are read -/
structure PS_ (CR : Addr) (x dx tk nd : Addr) (us : List V) (R : List Tk) (p g : Nat) (vs : List V) (ts done : List Tr) (H H' : Hp) (l : Addr) : Prop where
  ex : ∃ (js : List Nat) (vs' : List V) (ts' : List Tr), Rt CR x dx tk nd us R (p + (mrows done).length) (g + szs done) H' ∧ H' l = some (.lst (js.map ni)) ∧ Kids (ts ++ ts') js done ∧ H' nd = some (.lst (vs ++ vs')) ∧ Nds H' (vs ++ vs') (ts ++ ts') ∧ ts'.length = szs done ∧ ∀ c ∈ ts', fit c
  kp : Kp [x, nd] H H'
  nx : l ≠ x
  nn : l ≠ nd
  nl : H l = none
theorem use_parts (T : Txt K mg CR CT CO CF WA fR fT fO) (h : Nat) (U_plan : UseM P w K mg base (L2.CX P w) (7 + 2 * h) CR "plan" p_Reader_plan (spRPlan CR CT h)) : UseM P w K mg base (L2.CX P w) (8 + 2 * h) CR "parts" p_Reader_parts (spRParts CR CT h) := by
  have U_word : UseM P w K mg base CX0 1 CR "word" p_Reader_word (spWord CR) := use_word T
  have pas_word : ∀ {X : Cx}, Passes CX0 X E0 := pass0
  have U_expect : UseM P w K mg base (L2.CX P w) 4 CR "expect" p_Reader_expect (spExpect CR CT) := use_expect T
  have U_check_more : UseM P w K mg base (L2.CX P w) 4 CR "check_more" p_Reader_check_more (spMore CR CT) := use_more T
  refine useM_of T.m_parts (fun f fd F => F.binds fun _ _ _ _ _ _ us hl => match us, hl with | [_, _], _ => rfl) fun f fd F => ?_
  rw [show 8 + 2 * h = (7 + 2 * h) + 1 by omega]
  refine F.okX sc_Reader_parts (fun vs H Q E h => ?_) (fun cdv A outer s H vs Q E hr hh => ?_)
  · obtain ⟨x, dx, tk, nd, us, R, p, g, vs, ts, d, cs, o, rfl, _⟩ := h
    rfl
  have pas_expect : Passes (L2.CX P w) (cxOf (L2.CX P w) P w K mg base n_Reader_parts "Reader.parts" (defScope s_Reader_parts) f cdv A outer s H E) E := pasX rfl rfl rfl rfl
  have pas_check_more : Passes (L2.CX P w) (cxOf (L2.CX P w) P w K mg base n_Reader_parts "Reader.parts" (defScope s_Reader_parts) f cdv A outer s H E) E := pasX rfl rfl rfl rfl
  have pas_plan : Passes (L2.CX P w) (cxOf (L2.CX P w) P w K mg base n_Reader_parts "Reader.parts" (defScope s_Reader_parts) f cdv A outer s H E) E := pasX rfl rfl rfl rfl
  obtain ⟨x, dx, tk, nd, us, R, p, g, vs, ts, d, cs, o, rfl, hf, hne, h6, hdp, hd9, hg, r, hnd, hnds, hl, run, q1, q2⟩ := hh
  have xn := r.xne hnd
  refine ⟨_, (pss_cons (ps_set (i := 2) sc_Reader_parts.nd rfl (Or.inl rfl) (pe_lst (pa_cons (pm_use T.cl U_plan (hr.mono (by omega)) pas_plan (pv 0) (pa_cons (pv 1) (pa_cons pe_int pa_nil))) pa_nil)))
      (pss_cons (ps_expr (pm_use0 T.cl U_check_more (hr.mono (by omega)) pas_check_more (pv 0)))
      (pss_cons (ps_while (passes_of rfl) (pt_cmpR op_eq (pm_use0 T.cl U_word (hr.mono (by omega)) pas_word (pv 0)) pe_str (nomark _)) (pss_cons (ps_expr (pm_use T.cl U_expect (hr.mono (by omega)) pas_expect (pv 0) (pa_cons pe_str pa_nil)))
      (pss_cons (ps_expr (pe_bm PySem.F.plainAttrs_list PySem.F.slot_list_append PySem.F.type_list_append mt_append (pv 2) (pa_cons (pm_use T.cl U_plan (hr.mono (by omega)) pas_plan (pv 0) (pa_cons (pv 1) (pa_cons (pe_callB call_len_seq (by rfl) T.n_len PySem.boot_len (pa_cons (pv 2) pa_nil)) pa_nil))) pa_nil)))
      (pss_one (ps_expr (pm_use0 T.cl U_check_more (hr.mono (by omega)) pas_check_more (pv 0)))))))
      (pss_one (ps_ret (pe_callTy call_tuple_of (by rfl) T.n_tuple (by decide +kernel) (pa_cons (pv 2) pa_nil))))))), ?_⟩
  -- the first
  obtain ⟨t0, r0, rfl⟩ : ∃ t r, cs = t :: r := by
    cases cs with
    | nil => exact absurd rfl hne
    | cons t r => exact ⟨t, r, rfl⟩
  rw [mrows_cons, List.append_assoc] at run
  obtain ⟨o1, r1, n1, s1⟩ := Run.mid run
  have hf0 := hf
  have hdp0 := hdp
  simp only [fits] at hf0
  simp only [deps] at hdp hd9
  simp only [szs] at hg hl
  refine ⟨_, rfl, x, dx, _, rfl, r.ins, rfl, _, rfl, x, dx, tk, nd, us, R, p, g, vs, ts, d, 0, t0, o1, rfl, hf0.1, by omega, by omega, by omega, by omega, r, hnd, hnds, by omega, r1, fun e1 vs' ts' H1 ra hnd1 hnds1 lt ft hlast k1 => ?_, fun k z e => (q2 k z (s1 k z e)).on (Kp.refl _ _) (by simp)⟩
  have run1 := n1 e1
  refine ⟨(by show 1 ≤ sizeLine; decide), fun l hl0 => ?_⟩
  have kl := (Kp.refl [] H1).new (o := .lst [ni (ts.length + sz t0 - 1)]) hl0
  have nlx : l ≠ x := (ne_of_none ra.ins hl0).symm
  have nln : l ≠ nd := (ne_of_none hnd1 hl0).symm
  have S0 : PS_ CR x dx tk nd us R p g vs ts [t0] H (upd H1 l (.lst [ni (ts.length + sz t0 - 1)])) l :=
    ⟨⟨[ts.length + sz t0 - 1], vs', ts', by
      have e : mrows [t0] = toks t0 := by rw [mrows_cons]; simp [more]
      rw [e, show szs [t0] = sz t0 by simp [szs]]
      exact ra.kp kl (by simp) (by simp), upd_same, by simp [Kids, hlast], kl.keep _ _ (by simp) hnd1, hnds1.kp kl, by simp [szs, lt], ft⟩, k1.trans (kl.mono (by simp)), nlx, nln, by
      cases e : H l with
      | none => rfl
      | some u =>
        have := k1.keep l u (by simp [nlx, nln]) e
        rw [hl0] at this
        cases this⟩
  have hcs : ∀ {done rest : List Tr}, t0 :: r0 = done ++ rest → fits rest ∧ deps rest ≤ max (dep t0) (deps r0) ∧ szs done + szs rest = sz t0 + szs r0 ∧ done.length + rest.length ≤ 6 := fun {done rest} e => by
    have e1 : fits (done ++ rest) := by rw [← e]; exact hf
    have e2 : deps (done ++ rest) = max (dep t0) (deps r0) := by rw [← e]; simp [deps]
    have e3 : szs (done ++ rest) = sz t0 + szs r0 := by rw [← e]; simp [szs]
    have e4 : (done ++ rest).length ≤ 6 := by rw [← e]; exact h6
    rw [deps_app] at e2
    rw [szs_app] at e3
    rw [List.length_append] at e4
    exact ⟨(fits_app.mp e1).2, by omega, e3, e4⟩
  have chk : ∀ (done rest : List Tr) (H' : Hp), PS_ CR x dx tk nd us R p g vs ts done H H' l → Run R (p + (mrows done).length) (more rest ++ [rShutM]) o →
      ∃ kk, R[p + (mrows done).length]? = some kk ∧ ((kk.w = "," ∨ kk.w = ")") → ((rest = [] ∧ kk.w = ")" ∧ o = none) ∨ (∃ t s, rest = t :: s ∧ kk.w = "," ∧ Run R (p + (mrows done).length + 1) (toks t ++ (more s ++ [rShutM])) o))) ∧
        (kk.w ≠ "," → kk.w ≠ ")" → Fl CT [] H' E kk "expected , or )") := by
    intro done rest H' S hrun
    obtain ⟨kk, hkk, hh⟩ := more_head hrun
    refine ⟨kk, hkk, fun hw => ?_, fun w1 w2 => ?_⟩
    · rcases hh with hh | hh | ⟨b, _⟩
      · exact .inl hh
      · exact .inr hh
      · rcases hw with hw | hw
        · exact absurd hw (b.ne (by decide +kernel))
        · exact absurd hw (b.ne (by decide +kernel))
    · rcases hh with ⟨_, hw, _⟩ | ⟨_, _, _, hw, _⟩ | ⟨b, eo⟩
      · exact absurd hw w2
      · exact absurd hw w1
      · exact (q2 _ _ eo).on S.kp (by simp)
  have em : mrows [t0] = toks t0 := by rw [mrows_cons]; simp [more]
  obtain ⟨js0, vs0, ts0, rr0, _⟩ := S0.ex
  obtain ⟨k0, hk0, hy0, hn0⟩ := chk [t0] r0 _ S0 (by rw [em]; exact run1)
  refine ⟨_, rfl, x, dx, _, rfl, rr0.ins, rfl, x, dx, tk, nd, us, R, _, _, k0, rfl, rr0, hk0, fun hw0 => ?_, hn0⟩
  refine ⟨fun k σ H' => ∃ (done rest : List Tr), t0 :: r0 = done ++ rest ∧ done ≠ [] ∧ k = rest.length ∧ σ = [some (.ref x), some (ni d), some (.ref l)] ∧ PS_ CR x dx tk nd us R p g vs ts done H H' l ∧
    ∃ kk, R[p + (mrows done).length]? = some kk ∧ ((rest = [] ∧ kk.w = ")" ∧ o = none) ∨ (∃ t s, rest = t :: s ∧ kk.w = "," ∧ Run R (p + (mrows done).length + 1) (toks t ++ (more s ++ [rShutM])) o)), ⟨_, [t0], r0, rfl, by simp, rfl, rfl, S0, k0, hk0, hy0 hw0⟩, ?_⟩
  rintro k σ H2 ⟨done, rest, ecs, dne, rfl, rfl, S, kk, hkk, hh⟩
  obtain ⟨js, vs', ts', rr, hjl, hkids, hnd2, hnds2, hlt, hft⟩ := S.ex
  have hjs := hkids.len
  obtain ⟨hfr, hdr, hsr, hlr⟩ := hcs ecs
  refine ⟨_, rfl, x, dx, _, rfl, rr.ins, rfl, x, dx, tk, nd, us, R, _, _, kk, rfl, rr, hkk, rfl, ?_⟩
  rcases hh with ⟨rfl, hw, eo⟩ | ⟨t, s', rfl, hw, hrun⟩
  · refine ⟨false, ttF (nstr (by rw [hw]; decide +kernel)), iteF ?_⟩
    rw [List.append_nil] at ecs
    refine ⟨_, rfl, _, _, rfl, .inl ⟨SqL.of hjl, fun q hq => ?_⟩⟩
    have kq := (Kp.refl [] H2).new (o := .tup (js.map ni)) hq
    refine q1 eo q js vs' ts' _ ?_ ?_ upd_same ?_ (kq.keep nd _ (by simp) hnd2) (hnds2.kp kq) ?_ hft (S.kp.trans (kq.mono (by simp)))
    · rw [ecs]
      exact rr.kp kq (by simp) (by simp)
    · rw [ecs]
      exact Run.fit1 hkk hw
    · rw [ecs]
      exact hkids
    · rw [ecs]
      exact hlt
  · refine ⟨true, ttT (congrArg V.str hw), iteT ?_⟩
    refine ⟨fun σ' H' => ∃ (done rest : List Tr), t0 :: r0 = done ++ rest ∧ done ≠ [] ∧ rest.length = s'.length ∧ σ' = [some (.ref x), some (ni d), some (.ref l)] ∧ PS_ CR x dx tk nd us R p g vs ts done H H' l ∧
    ∃ kk, R[p + (mrows done).length]? = some kk ∧ ((rest = [] ∧ kk.w = ")" ∧ o = none) ∨ (∃ t s, rest = t :: s ∧ kk.w = "," ∧ Run R (p + (mrows done).length + 1) (toks t ++ (more s ++ [rShutM])) o)), fun σ' H' ⟨dn, rt, z1, z2, z3, z4, z5, z6⟩ => ⟨s'.length, by rw [List.length_cons]; exact Nat.lt_succ_self _, dn, rt, z1, z2, z3.symm, z4, z5, z6⟩, ?_⟩
    refine ⟨_, rfl, x, dx, _, rfl, rr.ins, rfl, x, dx, tk, nd, us, R, _, _, ",", "expected ,", none, rfl, by decide +kernel, by decide +kernel, rr, Run.fit1 hkk hw, fun _ H3 rb k3 => ?_, fun k z e => nomatch e⟩
    have hjl3 := k3.keep l _ (by simpa using S.nx) hjl
    have hnd3 := k3.keep nd _ (by simpa using xn) hnd2
    obtain ⟨o4, r4, n4, s4⟩ := Run.mid hrun
    have k03 := S.kp.trans (k3.mono (S' := [x, nd]) (by simp))
    simp only [fits, deps, szs, List.length_cons] at hfr hdr hsr hlr
    have hvl : (vs ++ vs').length = vs.length + szs done := by
      rw [hnds2.1, List.length_append, hlt, hnds.1]
    refine ⟨_, rfl, .inl ⟨rfl, _, SqL.of hjl3⟩, ?_⟩
    refine ⟨_, rfl, x, dx, _, rfl, rb.ins, rfl, _, rfl, _, rfl, _, _, rfl, .inl (SqL.of hjl3), ?_⟩
    refine ⟨x, dx, tk, nd, us, R, _, _, vs ++ vs', ts ++ ts', d, (js.map ni).length, t, o4, rfl, hfr.1, by omega, by omega, by rw [List.length_map, hjs]; omega, by omega, rb, hnd3, hnds2.kp k3, by omega, r4, fun e4 vs4 ts4 H4 rc hnd4 hnds4 lt4 ft4 hlast4 k4 => ?_, fun k z e => (q2 k z (s4 k z e)).on k03 (by simp)⟩
    have hjl4 := k4.keep l _ (by simp [S.nx, S.nn]) hjl3
    refine ⟨_, _, _, rfl, rfl, hjl4, szl (by rw [List.length_map, hjs]; omega), ?_⟩
    have kl5 : Kp [l] H4 (upd H4 l (.lst (js.map ni ++ [ni ((ts ++ ts').length + sz t - 1)]))) := (Kp.refl _ _).lst (by simp) hjl4
    have S5 : PS_ CR x dx tk nd us R p g vs ts (done ++ [t]) H (upd H4 l (.lst (js.map ni ++ [ni ((ts ++ ts').length + sz t - 1)]))) l := by
      have e1 : mrows (done ++ [t]) = mrows done ++ (rMore :: toks t) := by rw [mrows_app dne, more_one]
      have e2 : szs (done ++ [t]) = szs done + sz t := by rw [szs_app]; simp [szs]
      refine ⟨⟨js ++ [(ts ++ ts').length + sz t - 1], vs' ++ vs4, ts' ++ ts4, ?_, ?_, ?_, ?_, ?_, ?_, fun c hc => (List.mem_append.mp hc).elim (hft c) (ft4 c)⟩, ?_, S.nx, S.nn, S.nl⟩
      · rw [e1, e2, List.length_append, List.length_cons]
        have := rc.kp kl5 (by simpa using S.nx.symm) (by simpa using ne_of_none r.tks S.nl)
        rw [show p + ((mrows done).length + ((toks t).length + 1)) = p + (mrows done).length + 1 + (toks t).length by omega, ← Nat.add_assoc]
        exact this
      · rw [upd_same, List.map_append]; rfl
      · rw [← List.append_assoc]
        refine hkids.more.app ?_
        show [(ts ++ ts' ++ ts4)[(ts ++ ts').length + sz t - 1]?] = [some t]
        rw [hlast4]
      · rw [← List.append_assoc]
        exact kl5.keep nd _ (by simpa using S.nn.symm) hnd4
      · rw [← List.append_assoc, ← List.append_assoc]
        exact hnds4.kp kl5
      · rw [List.length_append, hlt, lt4, e2]
      · exact (k03.trans k4).mutN S.nl
    obtain ⟨js5, vs5, ts5, rr5, _⟩ := S5.ex
    have e1 : mrows (done ++ [t]) = mrows done ++ (rMore :: toks t) := by rw [mrows_app dne, more_one]
    have u5 : Run R (p + (mrows (done ++ [t])).length) (more s' ++ [rShutM]) o := by
      rw [e1, List.length_append, List.length_cons, show p + ((mrows done).length + ((toks t).length + 1)) = p + (mrows done).length + 1 + (toks t).length by omega]
      exact n4 e4
    obtain ⟨k5, hk5, hy5, hn5⟩ := chk (done ++ [t]) s' _ S5 u5
    refine ⟨_, rfl, x, dx, _, rfl, rr5.ins, rfl, x, dx, tk, nd, us, R, _, _, k5, rfl, rr5, hk5, fun hw5 => ?_, hn5⟩
    exact ⟨done ++ [t], s', by rw [ecs, List.append_assoc]; rfl, by simp, rfl, rfl, S5, k5, hk5, hy5 hw5⟩
end
end K6
namespace K6
open PySem L2
theorem toks_job (d : Nat) (g : Bool) (v c : Nat) (f : Option Nat) : toks (.job d g v c f) = hd "job" ++ jrows d g v c f := rfl
theorem toks_grp (w : Str) (cs : List Tr) : toks (.grp w cs) = hd w ++ (mrows cs ++ [rShutM]) := by simp only [toks, mrows, List.append_assoc]
theorem toks_pool (s : Nat) (cs : List Tr) : toks (.pool s cs) = hd "pool" ++ (rNum s :: rComma :: (mrows cs ++ [rShutM])) := by simp only [toks, mrows, nums, List.append_assoc, List.cons_append, List.nil_append]
theorem toks_tmo (n : Nat) (t : Tr) : toks (.tmo n t) = hd "timeout" ++ (nums n ++ (toks t ++ [rShut])) := by simp only [toks, List.append_assoc]
theorem toks_ore (a b : Tr) : toks (.ore a b) = hd "orelse" ++ (toks a ++ (rComma :: (toks b ++ [rShut]))) := by simp only [toks, List.append_assoc, List.cons_append, List.nil_append]
theorem toks_rty (r d : Nat) (t : Tr) : toks (.rty r d t) = hd "retry" ++ (nums r ++ (nums d ++ (toks t ++ [rShut]))) := by simp only [toks, List.append_assoc]
theorem hd_len (w : Str) : (hd w).length = 2 := rfl
theorem nums_len (n : Nat) : (nums n).length = 2 := rfl
def wordOf : Tr → Str
  | .job _ _ _ _ _ => "job"
  | .grp w _ => w
  | .pool _ _ => "pool"
  | .tmo _ _ => "timeout"
  | .ore _ _ => "orelse"
  | .rty _ _ _ => "retry"
theorem wordOf_mem {t : Tr} (h : fit t) : wordOf t ∈ planWords := by
  cases t with
  | grp w cs => exact grpW_mem h.1
  | _ => simp only [wordOf]; decide +kernel
def tail : Tr → List Row
  | .job d g v c f => jrows d g v c f
  | .grp w cs => mrows cs ++ [rShutM]
  | .pool s cs => rNum s :: rComma :: (mrows cs ++ [rShutM])
  | .tmo n t => nums n ++ (toks t ++ [rShut])
  | .ore a b => toks a ++ (rComma :: (toks b ++ [rShut]))
  | .rty r d t => nums r ++ (nums d ++ (toks t ++ [rShut]))
theorem toks_eq (t : Tr) : toks t = hd (wordOf t) ++ tail t := by
  cases t with
  | job d g v c f => exact toks_job d g v c f
  | grp w cs => exact toks_grp w cs
  | pool s cs => exact toks_pool s cs
  | tmo n t => exact toks_tmo n t
  | ore a b => exact toks_ore a b
  | rty r d t => exact toks_rty r d t
section
variable {P : Program} {w : World} {K : PySem.W.Frag} {mg : Str → Option Value} {base : Heap} {CR CT CO CF WA fR fT fO : Addr}
theorem use_rplan (T : Txt K mg CR CT CO CF WA fR fT fO) : ∀ h : Nat, UseM P w K mg base (L2.CX P w) (7 + 2 * h) CR "plan" p_Reader_plan (spRPlan CR CT h)
  | 0 => by
    refine useM_of T.m_plan (fun f fd F => F.binds fun _ _ _ _ _ _ us hl => match us, hl with | [_, _, _], _ => rfl) fun f fd F => ?_
    rw [show 7 + 2 * 0 = 6 + 1 by omega]
    refine F.okX sc_Reader_plan (fun vs H Q E h => ?_) (fun cdv A outer s H vs Q E hr hh => ?_)
    · obtain ⟨x, dx, tk, nd, us, R, p, g, vs, ts, d, m, t, o, rfl, _⟩ := h
      rfl
    obtain ⟨x, dx, tk, nd, us, R, p, g, vs, ts, d, m, t, o, rfl, _, h0, _⟩ := hh
    have := dep_pos t
    omega
  | h + 1 => by
    have U_plan : UseM P w K mg base (L2.CX P w) (7 + 2 * h) CR "plan" p_Reader_plan (spRPlan CR CT h) := use_rplan T h
    have U_parts : UseM P w K mg base (L2.CX P w) (8 + 2 * h) CR "parts" p_Reader_parts (spRParts CR CT h) := use_parts T h U_plan
    have U_begin : UseM P w K mg base (L2.CX P w) 5 CR "begin" p_Reader_begin (spBegin CR CT) := use_begin T
    have U_job : UseM P w K mg base (L2.CX P w) 6 CR "job" p_Reader_job (spRJob CR CT) := use_rjob T
    have U_number : UseM P w K mg base (L2.CX P w) 4 CR "number" p_Reader_number (spNumber CR CT) := use_number T
    have U_expect : UseM P w K mg base (L2.CX P w) 4 CR "expect" p_Reader_expect (spExpect CR CT) := use_expect T
    have U_lead : UseM P w K mg base (L2.CX P w) 5 CR "lead" p_Reader_lead (spLead CR CT) := use_lead T
    have U_close : UseM P w K mg base (L2.CX P w) 5 CR "close" p_Reader_close (spClose CR CT) := use_close T
    refine useM_of T.m_plan (fun f fd F => F.binds fun _ _ _ _ _ _ us hl => match us, hl with | [_, _, _], _ => rfl) fun f fd F => ?_
    rw [show 7 + 2 * (h + 1) = (8 + 2 * h) + 1 by omega]
    refine F.okX sc_Reader_plan (fun vs H Q E h => ?_) (fun cdv A outer s H vs Q E hr hh => ?_)
    · obtain ⟨x, dx, tk, nd, us, R, p, g, vs, ts, d, m, t, o, rfl, _⟩ := h
      rfl
    have pas_plan : Passes (L2.CX P w) (cxOf (L2.CX P w) P w K mg base n_Reader_plan "Reader.plan" (defScope s_Reader_plan) f cdv A outer s H E) E := pasX rfl rfl rfl rfl
    have pas_parts : Passes (L2.CX P w) (cxOf (L2.CX P w) P w K mg base n_Reader_plan "Reader.plan" (defScope s_Reader_plan) f cdv A outer s H E) E := pas_plan
    have pas_begin : Passes (L2.CX P w) (cxOf (L2.CX P w) P w K mg base n_Reader_plan "Reader.plan" (defScope s_Reader_plan) f cdv A outer s H E) E := pas_plan
    have pas_job : Passes (L2.CX P w) (cxOf (L2.CX P w) P w K mg base n_Reader_plan "Reader.plan" (defScope s_Reader_plan) f cdv A outer s H E) E := pas_plan
    have pas_number : Passes (L2.CX P w) (cxOf (L2.CX P w) P w K mg base n_Reader_plan "Reader.plan" (defScope s_Reader_plan) f cdv A outer s H E) E := pas_plan
    have pas_expect : Passes (L2.CX P w) (cxOf (L2.CX P w) P w K mg base n_Reader_plan "Reader.plan" (defScope s_Reader_plan) f cdv A outer s H E) E := pas_plan
    have pas_lead : Passes (L2.CX P w) (cxOf (L2.CX P w) P w K mg base n_Reader_plan "Reader.plan" (defScope s_Reader_plan) f cdv A outer s H E) E := pas_plan
    have pas_close : Passes (L2.CX P w) (cxOf (L2.CX P w) P w K mg base n_Reader_plan "Reader.plan" (defScope s_Reader_plan) f cdv A outer s H E) E := pas_plan
    obtain ⟨x, dx, tk, nd, us, R, p, g, vs, ts, d, m, t, o, rfl, hf, hdp, hd9, hm, hg, r, hnd, hnds, hl, run, q1, q2⟩ := hh
    have xn := r.xne hnd
    have hlen := hnds.1
    have dp := dep_pos t
    have sp1 := sz_pos t
    refine ⟨_, (pss_cons (ps_set (i := 3) sc_Reader_plan.nd rfl (Or.inl rfl) (pm_use T.cl U_begin (hr.mono (by omega)) pas_begin (pv 0) (pa_cons (pv 1) (pa_cons (pv 2) pa_nil))))
      (pss_cons (ps_if (pt_cmpR op_eq (pv 3) pe_str (nomark _)) (pss_one (ps_ret (pm_use0 T.cl U_job (hr.mono (by omega)) pas_job (pv 0)))) pss_nil)
      (pss_cons (ps_if (pt_cmpR op_eq (pv 3) pe_str (nomark _)) (pss_cons (ps_set (i := 4) sc_Reader_plan.nd rfl (Or.inl rfl) (pm_use T.cl U_number (hr.mono (by omega)) pas_number (pv 0) (pa_cons pe_int (pa_cons (pe_g (by rfl) T.gSIZE_MOST) pa_nil))))
      (pss_cons (ps_expr (pm_use T.cl U_expect (hr.mono (by omega)) pas_expect (pv 0) (pa_cons pe_str pa_nil)))
      (pss_one (ps_ret (pm_use T.cl U_close (hr.mono (by omega)) pas_close (pv 0) (pa_cons (pe_tup (pa_cons (pv 3) (pa_cons (pv 4) (pa_cons (pm_use T.cl U_parts (hr.mono (by omega)) pas_parts (pv 0) (pa_cons (pe_op op_add (pv 1) pe_int) pa_nil)) pa_nil)))) pa_nil)))))) pss_nil)
      (pss_cons (ps_if (pt_cmpR op_eq (pv 3) pe_str (nomark _)) (pss_cons (ps_set (i := 5) sc_Reader_plan.nd rfl (Or.inl rfl) (pm_use T.cl U_lead (hr.mono (by omega)) pas_lead (pv 0) (pa_cons (pe_g (by rfl) T.gTICKS_MOST) pa_nil)))
      (pss_one (ps_ret (pm_use T.cl U_close (hr.mono (by omega)) pas_close (pv 0) (pa_cons (pe_tup (pa_cons (pv 3) (pa_cons (pv 5) (pa_cons (pm_use T.cl U_plan (hr.mono (by omega)) pas_plan (pv 0) (pa_cons (pe_op op_add (pv 1) pe_int) (pa_cons pe_int pa_nil))) pa_nil)))) pa_nil))))) pss_nil)
      (pss_cons (ps_if (pt_cmpR op_eq (pv 3) pe_str (nomark _)) (pss_cons (ps_set (i := 6) sc_Reader_plan.nd rfl (Or.inl rfl) (pm_use T.cl U_plan (hr.mono (by omega)) pas_plan (pv 0) (pa_cons (pe_op op_add (pv 1) pe_int) (pa_cons pe_int pa_nil))))
      (pss_cons (ps_expr (pm_use T.cl U_expect (hr.mono (by omega)) pas_expect (pv 0) (pa_cons pe_str pa_nil)))
      (pss_one (ps_ret (pm_use T.cl U_close (hr.mono (by omega)) pas_close (pv 0) (pa_cons (pe_tup (pa_cons (pv 3) (pa_cons (pv 6) (pa_cons (pm_use T.cl U_plan (hr.mono (by omega)) pas_plan (pv 0) (pa_cons (pe_op op_add (pv 1) pe_int) (pa_cons pe_int pa_nil))) pa_nil)))) pa_nil)))))) pss_nil)
      (pss_cons (ps_if (pt_cmpR op_eq (pv 3) pe_str (nomark _)) (pss_cons (ps_set (i := 7) sc_Reader_plan.nd rfl (Or.inl rfl) (pm_use T.cl U_lead (hr.mono (by omega)) pas_lead (pv 0) (pa_cons (pe_g (by rfl) T.gRETRIES_MOST) pa_nil)))
      (pss_cons (ps_set (i := 8) sc_Reader_plan.nd rfl (Or.inl rfl) (pm_use T.cl U_lead (hr.mono (by omega)) pas_lead (pv 0) (pa_cons (pe_g (by rfl) T.gDELAY_MOST) pa_nil)))
      (pss_one (ps_ret (pm_use T.cl U_close (hr.mono (by omega)) pas_close (pv 0) (pa_cons (pe_tup (pa_cons (pv 3) (pa_cons (pv 7) (pa_cons (pv 8) (pa_cons (pm_use T.cl U_plan (hr.mono (by omega)) pas_plan (pv 0) (pa_cons (pe_op op_add (pv 1) pe_int) (pa_cons pe_int pa_nil))) pa_nil))))) pa_nil)))))) pss_nil)
      (pss_one (ps_ret (pm_use T.cl U_close (hr.mono (by omega)) pas_close (pv 0) (pa_cons (pe_tup (pa_cons (pv 3) (pa_cons (pm_use T.cl U_parts (hr.mono (by omega)) pas_parts (pv 0) (pa_cons (pe_op op_add (pv 1) pe_int) pa_nil)) pa_nil))) pa_nil)))))))))), ?_⟩
    have etl : (toks t).length = 2 + (tail t).length := by rw [toks_eq, List.length_append, hd_len]
    rw [toks_eq] at run
    have fin : ∀ (a : Addr) (H1 : Hp) (vs1 : List V) (ts1 : List Tr) (p1 g1 : Nat) (o1 : Option (Tk × Str)), Rt CR x dx tk nd us R p1 g1 H1 → g1 = g + sz t → H1 nd = some (.lst (vs ++ vs1)) → Nds H1 (vs ++ vs1) (ts ++ ts1) → (ts1.length + 1 = sz t ∧ ∀ c ∈ ts1, fit c) → p1 + 1 = p + (toks t).length → Kp [x, nd] H H1 →
        NdAt H1 (ts ++ ts1) (.ref a) t → Run R p1 [rShut] o1 → (o1 = none → o = none) → (∀ k z, o1 = some (k, z) → o = some (k, z)) → spClose CR CT [.ref x, .ref a] H1 Q E := by
      rintro a H1 vs1 ts1 p1 g1 o1 r1 rfl hnd1 hnds1 ⟨hl1, hft⟩ hp1 k1 hnd_ ro no so
      have e1 : (vs ++ vs1).length = ts.length + sz t - 1 := by
        rw [hnds1.1, List.length_append]
        omega
      refine ⟨x, dx, tk, nd, us, R, p1, g + sz t, a, vs ++ vs1, o1, rfl, r1, hnd1, by omega, ro, fun e H' r' hnd' k' => ?_, fun k z e => (q2 k z (so k z e)).on k1 (by simp)⟩
      rw [e1]
      refine q1 (no e) (vs1 ++ [.ref a]) (ts1 ++ [t]) H' (by rw [← hp1]; exact r') (by rw [← List.append_assoc]; exact hnd') (by rw [← List.append_assoc, ← List.append_assoc]; exact (hnds1.kp k').snoc (hnd_.kp k')) (by rw [List.length_append]; exact hl1) (fun c hc => (mem_snoc hc).elim (hft c) (fun e => by rw [e]; exact hf)) ?_ (k1.trans k')
      have e2 : ts.length + sz t - 1 = (ts ++ ts1).length := by rw [List.length_append]; omega
      rw [e2, ← List.append_assoc, List.getElem?_append_right (Nat.le_refl _), Nat.sub_self]
      rfl
    obtain ⟨o1, r1, n1, s1⟩ := Run.mid run
    refine ⟨_, rfl, x, dx, _, rfl, r.ins, rfl, _, rfl, _, rfl, x, dx, tk, nd, us, R, p, g, d, m, wordOf t, o1, rfl, wordOf_mem hf, by omega, hm, by omega, r, r1, fun e1 H1 ra k1 => ?_, fun k z e => (q2 k z (s1 k z e)).on (Kp.refl _ _) (by simp)⟩
    have run1 := n1 e1
    rw [hd_len] at run1
    have kx := k1.mono (S' := [x, nd]) (by simp)
    have hnd1 := k1.keep nd _ (by simpa using xn) hnd
    have hnds1 := hnds.kp k1
    cases t with
    | job jd jg jv jc jf =>
      obtain ⟨f1, f2, f3, f4⟩ := hf
      refine ⟨_, rfl, rfl, true, ttT rfl, iteT ?_⟩
      refine ⟨_, rfl, x, dx, _, rfl, ra.ins, rfl, x, dx, tk, nd, us, R, p + 2, g + 1, vs, ts, jd, jg, jv, jc, jf, o, rfl, f1, f2, f3, f4, ra, hnd1, hnds1, by omega, run1, fun e a H2 rb hnd2 hnds2 k2 => ?_, fun k z e => (q2 k z e).on kx (by simp)⟩
      have := q1 e [.ref a] [_] H2 (by rw [etl]; rw [show p + (2 + (tail (.job jd jg jv jc jf)).length) = p + 2 + (jrows jd jg jv jc jf).length by rw [← Nat.add_assoc]; rfl]; exact rb) hnd2 hnds2 rfl (fun c hc => by rw [List.mem_singleton.mp hc]; exact ⟨f1, f2, f3, f4⟩) (by simp [sz]) (kx.trans k2)
      have e3 : ts.length + sz (.job jd jg jv jc jf) - 1 = vs.length := by simp [sz, hlen]
      rw [e3] at this
      exact this
    | grp w cs =>
      obtain ⟨hw, hne, h6, hfs⟩ := hf
      obtain ⟨w1, w2, w3, w4, w5⟩ := grpW_ne hw
      simp only [dep, sz] at hdp hd9 hg hl
      refine ⟨_, rfl, rfl, false, ttF (nstr w5), iteF ?_⟩
      refine ⟨_, rfl, rfl, false, ttF (nstr w4), iteF ?_⟩
      refine ⟨_, rfl, rfl, false, ttF (nstr w1), iteF ?_⟩
      refine ⟨_, rfl, rfl, false, ttF (nstr w3), iteF ?_⟩
      refine ⟨_, rfl, rfl, false, ttF (nstr w2), iteF ?_⟩
      refine ⟨_, rfl, x, dx, _, rfl, ra.ins, rfl, _, rfl, ?_⟩
      refine ⟨_, rfl, x, dx, _, rfl, ra.ins, rfl, _, rfl, _, _, rfl, rfl, x, dx, tk, nd, us, R, p + 2, g + 1, vs, ts, d + 1, cs, o, rfl, hfs, hne, h6, by omega, by omega, by omega, ra, hnd1, hnds1, by omega, run1, fun e q js vs2 ts2 H2 rb rsh hq hkids hnd2 hnds2 hl2 ft2 k2 => ?_, fun k z e => (q2 k z e).on kx (by simp)⟩
      refine ⟨(by show 2 ≤ sizeLine; decide), fun a ha => ?_⟩
      have ka := (Kp.refl [] H2).new (o := .tup [.str w, .ref q]) ha
      exact fin a _ vs2 ts2 _ _ none (rb.kp ka (by simp) (by simp)) (by simp only [sz]; omega) (ka.keep nd _ (by simp) hnd2) (hnds2.kp ka) ⟨by simp only [sz]; omega, ft2⟩
        (by rw [etl]; simp only [tail, List.length_append, List.length_cons, List.length_nil]; omega) ((kx.trans k2).trans (ka.mono (by simp))) (.grp upd_same (ka.tup _ _ hq) hkids) rsh (fun _ => e) (fun _ _ z => nomatch z)
    | pool s cs =>
      obtain ⟨hs1, hs6, hne, h6, hfs⟩ := hf
      simp only [dep, sz] at hdp hd9 hg hl
      refine ⟨_, rfl, rfl, false, ttF (nstr (by show ("pool" : Str) ≠ "job"; decide +kernel)), iteF ?_⟩
      refine ⟨_, rfl, rfl, true, ttT rfl, iteT ?_⟩
      obtain ⟨o2, r2, n2, s2⟩ := Run.step run1
      refine ⟨_, rfl, x, dx, _, rfl, ra.ins, rfl, x, dx, tk, nd, us, R, p + 2, g + 1, 1, 6, s, o2, rfl, hs1, hs6, by omega, ra, r2, fun e2 H2 rb k2 => ?_, fun k z e => (q2 k z (s2 k z e)).on kx (by simp)⟩
      have kb := kx.trans (k2.mono (S' := [x, nd]) (by simp))
      obtain ⟨o3, r3, n3, s3⟩ := Run.step (n2 e2)
      refine ⟨_, rfl, x, dx, _, rfl, rb.ins, rfl, x, dx, tk, nd, us, R, p + 2 + 1, g + 1, ",", _, o3, rfl, by decide +kernel, by decide +kernel, rb, r3, fun e3 H3 rc k3 => ?_, fun k z e => (q2 k z (s3 k z e)).on kb (by simp)⟩
      have kc := kb.trans (k3.mono (S' := [x, nd]) (by simp))
      have hnd3 := (k2.trans k3).keep nd _ (by simpa using xn) hnd1
      have hnds3 := hnds1.kp (k2.trans k3)
      refine ⟨_, rfl, x, dx, _, rfl, rc.ins, rfl, _, rfl, _, rfl, ?_⟩
      refine ⟨_, rfl, x, dx, _, rfl, rc.ins, rfl, _, rfl, _, _, rfl, rfl, x, dx, tk, nd, us, R, p + 2 + 1 + 1, g + 1, vs, ts, d + 1, cs, o, rfl, hfs, hne, h6, by omega, by omega, by omega, rc, hnd3, hnds3, by omega, n3 e3, fun e q js vs2 ts2 H4 rd rsh hq hkids hnd4 hnds4 hl4 ft4 k4 => ?_, fun k z e => (q2 k z e).on kc (by simp)⟩
      refine ⟨(by show 3 ≤ sizeLine; decide), fun a ha => ?_⟩
      have ka := (Kp.refl [] H4).new (o := .tup [.str "pool", ni s, .ref q]) ha
      exact fin a _ vs2 ts2 _ _ none (rd.kp ka (by simp) (by simp)) (by simp only [sz]; omega) (ka.keep nd _ (by simp) hnd4) (hnds4.kp ka) ⟨by simp only [sz]; omega, ft4⟩
        (by rw [etl]; simp only [tail, List.length_append, List.length_cons, List.length_nil]; omega) ((kc.trans k4).trans (ka.mono (by simp))) (.pool upd_same (ka.tup _ _ hq) hkids) rsh (fun _ => e) (fun _ _ z => nomatch z)
    | tmo n t =>
      obtain ⟨hn, hft⟩ := hf
      simp only [dep, sz] at hdp hd9 hg hl
      refine ⟨_, rfl, rfl, false, ttF (nstr (by show ("timeout" : Str) ≠ "job"; decide +kernel)), iteF ?_⟩
      refine ⟨_, rfl, rfl, false, ttF (nstr (by show ("timeout" : Str) ≠ "pool"; decide +kernel)), iteF ?_⟩
      refine ⟨_, rfl, rfl, true, ttT rfl, iteT ?_⟩
      obtain ⟨o2, r2, n2, s2⟩ := Run.mid run1
      refine ⟨_, rfl, x, dx, _, rfl, ra.ins, rfl, x, dx, tk, nd, us, R, p + 2, g + 1, 1000, n, o2, rfl, hn, hn, ra, r2, fun e2 H2 rb k2 => ?_, fun k z e => (q2 k z (s2 k z e)).on kx (by simp)⟩
      have kb := kx.trans (k2.mono (S' := [x, nd]) (by simp))
      have hnd2 := k2.keep nd _ (by simpa using xn) hnd1
      have hnds2 := hnds1.kp k2
      obtain ⟨o3, r3, n3, s3⟩ := Run.mid (n2 e2)
      rw [nums_len] at r3 n3
      have spt := sz_pos t
      refine ⟨_, rfl, x, dx, _, rfl, rb.ins, rfl, _, rfl, _, rfl, ?_⟩
      refine ⟨_, rfl, x, dx, _, rfl, rb.ins, rfl, _, rfl, _, _, rfl, rfl, x, dx, tk, nd, us, R, p + 2 + 2, g + 1, vs, ts, d + 1, 0, t, o3, rfl, hft, by omega, by omega, by omega, by omega, rb, hnd2, hnds2, by omega, r3, fun e3 vs3 ts3 H3 rc hnd3 hnds3 hl3 ft3 hlast k3 => ?_, fun k z e => (q2 k z (s3 k z e)).on kb (by simp)⟩
      refine ⟨(by show 3 ≤ sizeLine; decide), fun a ha => ?_⟩
      have ka := (Kp.refl [] H3).new (o := .tup [.str "timeout", ni n, ni (ts.length + sz t - 1)]) ha
      exact fin a _ vs3 ts3 _ _ o (rc.kp ka (by simp) (by simp)) (by simp only [sz]; omega) (ka.keep nd _ (by simp) hnd3) (hnds3.kp ka) ⟨by simp only [sz]; omega, ft3⟩
        (by rw [etl]; simp only [tail, List.length_append, List.length_cons, List.length_nil, nums_len]; omega) ((kb.trans k3).trans (ka.mono (by simp))) (.tmo upd_same hlast) (n3 e3) (fun z => z) (fun _ _ z => z)
    | ore a b =>
      obtain ⟨hfa, hfb⟩ := hf
      simp only [dep, sz] at hdp hd9 hg hl
      have spa := sz_pos a
      have spb := sz_pos b
      refine ⟨_, rfl, rfl, false, ttF (nstr (by show ("orelse" : Str) ≠ "job"; decide +kernel)), iteF ?_⟩
      refine ⟨_, rfl, rfl, false, ttF (nstr (by show ("orelse" : Str) ≠ "pool"; decide +kernel)), iteF ?_⟩
      refine ⟨_, rfl, rfl, false, ttF (nstr (by show ("orelse" : Str) ≠ "timeout"; decide +kernel)), iteF ?_⟩
      refine ⟨_, rfl, rfl, true, ttT rfl, iteT ?_⟩
      obtain ⟨o2, r2, n2, s2⟩ := Run.mid run1
      refine ⟨_, rfl, x, dx, _, rfl, ra.ins, rfl, _, rfl, _, _, rfl, rfl, x, dx, tk, nd, us, R, p + 2, g + 1, vs, ts, d + 1, 0, a, o2, rfl, hfa, by omega, by omega, by omega, by omega, ra, hnd1, hnds1, by omega, r2, fun e2 vs2 ts2 H2 rb hnd2 hnds2 hl2 ft2 hlast2 k2 => ?_, fun k z e => (q2 k z (s2 k z e)).on kx (by simp)⟩
      have kb := kx.trans k2
      obtain ⟨o3, r3, n3, s3⟩ := Run.step (n2 e2)
      refine ⟨_, rfl, x, dx, _, rfl, rb.ins, rfl, x, dx, tk, nd, us, R, _, _, ",", _, o3, rfl, by decide +kernel, by decide +kernel, rb, r3, fun e3 H3 rc k3 => ?_, fun k z e => (q2 k z (s3 k z e)).on kb (by simp)⟩
      have kc := kb.trans (k3.mono (S' := [x, nd]) (by simp))
      have hnd3 := k3.keep nd _ (by simpa using xn) hnd2
      have hnds3 := hnds2.kp k3
      obtain ⟨o4, r4, n4, s4⟩ := Run.mid (n3 e3)
      have l2 : (vs ++ vs2).length = vs.length + sz a := by rw [hnds3.1, List.length_append]; omega
      refine ⟨_, rfl, x, dx, _, rfl, rc.ins, rfl, _, rfl, _, rfl, ?_⟩
      refine ⟨_, rfl, x, dx, _, rfl, rc.ins, rfl, _, rfl, _, _, rfl, rfl, x, dx, tk, nd, us, R, _, _, vs ++ vs2, ts ++ ts2, d + 1, 0, b, o4, rfl, hfb, by omega, by omega, by omega, by omega, rc, hnd3, hnds3, by omega, r4, fun e4 vs4 ts4 H4 rd hnd4 hnds4 hl4 ft4 hlast4 k4 => ?_, fun k z e => (q2 k z (s4 k z e)).on kc (by simp)⟩
      refine ⟨(by show 3 ≤ sizeLine; decide), fun c hc => ?_⟩
      have ka := (Kp.refl [] H4).new (o := .tup [.str "orelse", ni (ts.length + sz a - 1), ni ((ts ++ ts2).length + sz b - 1)]) hc
      rw [List.append_assoc] at hnd4
      rw [List.append_assoc, List.append_assoc] at hnds4
      rw [List.append_assoc] at hlast4
      have hlast2' : (ts ++ (ts2 ++ ts4))[ts.length + sz a - 1]? = some a := by
        rw [← List.append_assoc, List.getElem?_append_left (by rw [List.length_append]; omega)]
        exact hlast2
      exact fin c _ (vs2 ++ vs4) (ts2 ++ ts4) _ _ o (rd.kp ka (by simp) (by simp)) (by simp only [sz]; omega) (ka.keep nd _ (by simp) hnd4) (hnds4.kp ka) ⟨by simp only [sz, List.length_append]; omega, fun c hc => (List.mem_append.mp hc).elim (ft2 c) (ft4 c)⟩
        (by rw [etl]; simp only [tail, List.length_append, List.length_cons, List.length_nil, nums_len]; omega) ((kc.trans k4).trans (ka.mono (by simp))) (.ore upd_same hlast2' hlast4) (n4 e4) (fun z => z) (fun _ _ z => z)
    | rty rr dd t =>
      obtain ⟨hr5, hd100, hft⟩ := hf
      simp only [dep, sz] at hdp hd9 hg hl
      refine ⟨_, rfl, rfl, false, ttF (nstr (by show ("retry" : Str) ≠ "job"; decide +kernel)), iteF ?_⟩
      refine ⟨_, rfl, rfl, false, ttF (nstr (by show ("retry" : Str) ≠ "pool"; decide +kernel)), iteF ?_⟩
      refine ⟨_, rfl, rfl, false, ttF (nstr (by show ("retry" : Str) ≠ "timeout"; decide +kernel)), iteF ?_⟩
      refine ⟨_, rfl, rfl, false, ttF (nstr (by show ("retry" : Str) ≠ "orelse"; decide +kernel)), iteF ?_⟩
      refine ⟨_, rfl, rfl, true, ttT rfl, iteT ?_⟩
      obtain ⟨o2, r2, n2, s2⟩ := Run.mid run1
      refine ⟨_, rfl, x, dx, _, rfl, ra.ins, rfl, x, dx, tk, nd, us, R, p + 2, g + 1, 5, rr, o2, rfl, hr5, by omega, ra, r2, fun e2 H2 rb k2 => ?_, fun k z e => (q2 k z (s2 k z e)).on kx (by simp)⟩
      have kb := kx.trans (k2.mono (S' := [x, nd]) (by simp))
      obtain ⟨o3, r3, n3, s3⟩ := Run.mid (n2 e2)
      rw [nums_len] at r3 n3
      refine ⟨_, rfl, x, dx, _, rfl, rb.ins, rfl, x, dx, tk, nd, us, R, p + 2 + 2, g + 1, 100, dd, o3, rfl, hd100, by omega, rb, r3, fun e3 H3 rc k3 => ?_, fun k z e => (q2 k z (s3 k z e)).on kb (by simp)⟩
      have kc := kb.trans (k3.mono (S' := [x, nd]) (by simp))
      have hnd3 := (k2.trans k3).keep nd _ (by simpa using xn) hnd1
      have hnds3 := hnds1.kp (k2.trans k3)
      obtain ⟨o4, r4, n4, s4⟩ := Run.mid (n3 e3)
      rw [nums_len] at r4 n4
      have spt := sz_pos t
      refine ⟨_, rfl, x, dx, _, rfl, rc.ins, rfl, _, rfl, _, rfl, _, rfl, ?_⟩
      refine ⟨_, rfl, x, dx, _, rfl, rc.ins, rfl, _, rfl, _, _, rfl, rfl, x, dx, tk, nd, us, R, p + 2 + 2 + 2, g + 1, vs, ts, d + 1, 0, t, o4, rfl, hft, by omega, by omega, by omega, by omega, rc, hnd3, hnds3, by omega, r4, fun e4 vs4 ts4 H4 rd hnd4 hnds4 hl4 ft4 hlast k4 => ?_, fun k z e => (q2 k z (s4 k z e)).on kc (by simp)⟩
      refine ⟨(by show 4 ≤ sizeLine; decide), fun a ha => ?_⟩
      have ka := (Kp.refl [] H4).new (o := .tup [.str "retry", ni rr, ni dd, ni (ts.length + sz t - 1)]) ha
      exact fin a _ vs4 ts4 _ _ o (rd.kp ka (by simp) (by simp)) (by simp only [sz]; omega) (ka.keep nd _ (by simp) hnd4) (hnds4.kp ka) ⟨by simp only [sz]; omega, ft4⟩
        (by rw [etl]; simp only [tail, List.length_append, List.length_cons, List.length_nil, nums_len]; omega) ((kc.trans k4).trans (ka.mono (by simp))) (.rty upd_same hlast) (n4 e4) (fun z => z) (fun _ _ z => z)
end
end K6
namespace K6
open PySem L2
def kids : Tr → List Tr
  | .job _ _ _ _ _ => []
  | .grp _ cs => cs
  | .pool _ cs => cs
  | .tmo _ t => [t]
  | .ore a b => [a, b]
  | .rty _ _ t => [t]
theorem kids_len {t : Tr} (h : fit t) : (kids t).length ≤ 6 := by
  cases t with
  | job _ _ _ _ _ => simp [kids]
  | grp w cs => exact h.2.2.1
  | pool s cs => exact h.2.2.2.1
  | tmo _ t => simp [kids]
  | ore a b => simp [kids]
  | rty _ _ t => simp [kids]
theorem rns_cast : ∀ l : List Tr, (l.map fun t => ((rn t : Nat) : Int)).sum = ((rns l : Nat) : Int)
  | [] => rfl
  | t :: r => by
    rw [List.map_cons, List.sum_cons, rns_cast r]
    simp only [rns]
    omega
theorem rns_kids (t : Tr) : rns (kids t) = match t with | .job _ _ _ _ _ => 0 | .rty _ _ t => rn t | t => rn t := by
  cases t <;> simp [kids, rns, rn]
section
variable {P : Program} {w : World} {K : PySem.W.Frag} {mg : Str → Option Value} {base : Heap} {CR CT CO CF WA fR fT fO : Addr}
def spPartsOf : Sp := fun vs H Q _ => ∃ (a : Addr) (ts : List Tr) (t : Tr), vs = [.ref a] ∧ NdAt H ts (.ref a) t ∧ fit t ∧ ∀ (q : Addr) (js : List Nat) (H' : Hp), H' q = some (.tup (js.map ni)) → Kids ts js (kids t) → Kp [] H H' → Q (.ref q) H'
theorem use_partsOf (T : Txt K mg CR CT CO CF WA fR fT fO) : Use P w K mg base CX0 1 "parts_of" p_parts_of spPartsOf := by
  refine use_of T.dparts_of (fun f fd F => F.binds fun _ _ _ _ _ _ us hl => match us, hl with | [_], _ => rfl) fun f fd F => ?_
  refine F.ok sc_parts_of (fun vs H Q E h => ?_) (fun cdv A outer s H vs Q E hr h => ?_)
  · obtain ⟨a, ts, t, rfl, _⟩ := h
    rfl
  obtain ⟨a, ts, t, rfl, hn, hf, q⟩ := h
  refine ⟨_, (pss_cons (ps_if (pt_cmpR op_eq (pe_ix ix_tup (pv 0) pe_int (fun _ _ => rfl)) pe_str (nomark _)) (pss_one (ps_ret (pe_tup pa_nil))) pss_nil)
      (pss_cons (ps_if (pt_cmpR op_eq (pe_ix ix_tup (pv 0) pe_int (fun _ _ => rfl)) pe_str (nomark _)) (pss_one (ps_ret (pe_tup (pa_cons (pe_ix ix_tup (pv 0) pe_int (fun _ _ => rfl)) pa_nil)))) pss_nil)
      (pss_cons (ps_if (pt_cmpR op_eq (pe_ix ix_tup (pv 0) pe_int (fun _ _ => rfl)) pe_str (nomark _)) (pss_one (ps_ret (pe_tup (pa_cons (pe_ix ix_tup (pv 0) pe_int (fun _ _ => rfl)) pa_nil)))) pss_nil)
      (pss_cons (ps_if (pt_cmpR op_eq (pe_ix ix_tup (pv 0) pe_int (fun _ _ => rfl)) pe_str (nomark _)) (pss_one (ps_ret (pe_tup (pa_cons (pe_ix ix_tup (pv 0) pe_int (fun _ _ => rfl)) (pa_cons (pe_ix ix_tup (pv 0) pe_int (fun _ _ => rfl)) pa_nil))))) pss_nil)
      (pss_one (ps_ret (pe_ifExp (pt_cmpR op_eq (pe_ix ix_tup (pv 0) pe_int (fun _ _ => rfl)) pe_str (nomark _)) (pe_ix ix_tup (pv 0) pe_int (fun _ _ => rfl)) (pe_ix ix_tup (pv 0) pe_int (fun _ _ => rfl))))))))), ?_⟩
  have one : ∀ {j : Nat} {t : Tr}, ts[j]? = some t → Kids ts [j] [t] := fun e => by simp [Kids, e]
  cases hn with
  | job e =>
    refine ⟨_, rfl, _, _, _, _, rfl, rfl, SqT.of e, rfl, rfl, true, ttT rfl, iteT ?_⟩
    exact ⟨(by show 0 ≤ sizeLine; decide), fun p hp => q p [] _ upd_same rfl ((Kp.refl _ _).new hp)⟩
  | @grp _ p w js cs e1 e2 kd =>
    obtain ⟨w1, w2, w3, w4, w5⟩ := grpW_ne hf.1
    refine ⟨_, rfl, _, _, _, _, rfl, rfl, SqT.of e1, rfl, rfl, false, ttF (nstr w5), iteF ?_⟩
    refine ⟨_, rfl, _, _, _, _, rfl, rfl, SqT.of e1, rfl, rfl, false, ttF (nstr w1), iteF ?_⟩
    refine ⟨_, rfl, _, _, _, _, rfl, rfl, SqT.of e1, rfl, rfl, false, ttF (nstr w2), iteF ?_⟩
    refine ⟨_, rfl, _, _, _, _, rfl, rfl, SqT.of e1, rfl, rfl, false, ttF (nstr w3), iteF ?_⟩
    refine ⟨_, rfl, _, _, _, _, rfl, rfl, SqT.of e1, rfl, rfl, false, ttF (nstr w4), iteF ?_⟩
    exact ⟨_, rfl, _, _, _, _, rfl, rfl, SqT.of e1, rfl, q p js H e2 kd (Kp.refl _ _)⟩
  | @pool _ p s js cs e1 e2 kd =>
    refine ⟨_, rfl, _, _, _, _, rfl, rfl, SqT.of e1, rfl, rfl, false, ttF (nstr (by decide +kernel)), iteF ?_⟩
    refine ⟨_, rfl, _, _, _, _, rfl, rfl, SqT.of e1, rfl, rfl, false, ttF (nstr (by decide +kernel)), iteF ?_⟩
    refine ⟨_, rfl, _, _, _, _, rfl, rfl, SqT.of e1, rfl, rfl, false, ttF (nstr (by decide +kernel)), iteF ?_⟩
    refine ⟨_, rfl, _, _, _, _, rfl, rfl, SqT.of e1, rfl, rfl, false, ttF (nstr (by decide +kernel)), iteF ?_⟩
    refine ⟨_, rfl, _, _, _, _, rfl, rfl, SqT.of e1, rfl, rfl, true, ttT rfl, iteT ?_⟩
    exact ⟨_, rfl, _, _, _, _, rfl, rfl, SqT.of e1, rfl, q p js H e2 kd (Kp.refl _ _)⟩
  | @tmo _ n j t e1 e2 =>
    refine ⟨_, rfl, _, _, _, _, rfl, rfl, SqT.of e1, rfl, rfl, false, ttF (nstr (by decide +kernel)), iteF ?_⟩
    refine ⟨_, rfl, _, _, _, _, rfl, rfl, SqT.of e1, rfl, rfl, true, ttT rfl, iteT ?_⟩
    refine ⟨_, rfl, _, _, _, _, rfl, rfl, SqT.of e1, rfl, (by show 1 ≤ sizeLine; decide), fun p hp => ?_⟩
    exact q p [j] _ upd_same (one e2) ((Kp.refl _ _).new hp)
  | @ore _ i j x y e1 e2 e3 =>
    refine ⟨_, rfl, _, _, _, _, rfl, rfl, SqT.of e1, rfl, rfl, false, ttF (nstr (by decide +kernel)), iteF ?_⟩
    refine ⟨_, rfl, _, _, _, _, rfl, rfl, SqT.of e1, rfl, rfl, false, ttF (nstr (by decide +kernel)), iteF ?_⟩
    refine ⟨_, rfl, _, _, _, _, rfl, rfl, SqT.of e1, rfl, rfl, false, ttF (nstr (by decide +kernel)), iteF ?_⟩
    refine ⟨_, rfl, _, _, _, _, rfl, rfl, SqT.of e1, rfl, rfl, true, ttT rfl, iteT ?_⟩
    refine ⟨_, rfl, _, _, _, _, rfl, rfl, SqT.of e1, rfl, _, rfl, _, _, _, _, rfl, rfl, SqT.of e1, rfl, (by show 2 ≤ sizeLine; decide), fun p hp => ?_⟩
    exact q p [i, j] _ upd_same (by simp [Kids, kids, e2, e3]) ((Kp.refl _ _).new hp)
  | @rty _ r d j t e1 e2 =>
    refine ⟨_, rfl, _, _, _, _, rfl, rfl, SqT.of e1, rfl, rfl, false, ttF (nstr (by decide +kernel)), iteF ?_⟩
    refine ⟨_, rfl, _, _, _, _, rfl, rfl, SqT.of e1, rfl, rfl, false, ttF (nstr (by decide +kernel)), iteF ?_⟩
    refine ⟨_, rfl, _, _, _, _, rfl, rfl, SqT.of e1, rfl, rfl, true, ttT rfl, iteT ?_⟩
    refine ⟨_, rfl, _, _, _, _, rfl, rfl, SqT.of e1, rfl, (by show 1 ≤ sizeLine; decide), fun p hp => ?_⟩
    exact q p [j] _ upd_same (one e2) ((Kp.refl _ _).new hp)
def spRuns : Sp := fun vs0 H Q _ => ∃ (nd : Addr) (vs : List V) (ts : List Tr) (t : Tr), vs0 = [.ref nd] ∧ H nd = some (.lst vs) ∧ Nds H vs ts ∧ ts.length ≤ 100 ∧ ts.getLast? = some t ∧ (∀ t ∈ ts, fit t) ∧ ∀ H', Kp [] H H' → Q (ni (rn t)) H'
theorem use_runs (T : Txt K mg CR CT CO CF WA fR fT fO) : Use P w K mg base CX0 2 "job_runs" p_job_runs spRuns := by
  have U_parts_of : Use P w K mg base CX0 1 "parts_of" p_parts_of spPartsOf := use_partsOf T
  have pas_parts_of : ∀ {X : Cx}, Passes CX0 X E0 := pass0
  refine use_of T.djob_runs (fun f fd F => F.binds fun _ _ _ _ _ _ us hl => match us, hl with | [_], _ => rfl) fun f fd F => ?_
  refine F.ok sc_job_runs (fun vs H Q E h => ?_) (fun cdv A outer s H vs Q E hr h => ?_)
  · obtain ⟨nd, vs, ts, t, rfl, _⟩ := h
    rfl
  obtain ⟨nd, vs, ts, t, rfl, hnd, hnds, hl, hlast, hfit, q⟩ := h
  refine ⟨_, (pss_cons (ps_set (i := 1) sc_job_runs.nd rfl (Or.inr rfl) (pe_lst pa_nil))
      (pss_cons (ps_for PassesOwn.never rfl (pi_list (pv 0)) (pg_name (i := 2) sc_job_runs.nd rfl (Or.inl rfl)) (pss_cons (ps_set (i := 3) sc_job_runs.nd rfl (Or.inl rfl) (pe_callB (cr_sum rfl) (by rfl) T.n_sum (by decide +kernel) (pa_cons (pe_lc (own := [("place", 4)]) (g := gName 4) (tt := tYes) rfl sc_job_runs.nd (pi_tup (pe_use U_parts_of (hr.mono (by decide)) (by rfl) pas_parts_of (pa_cons (pv 2) pa_nil))) (blkOk_by (N := n_job_runs) (sc := defScope s_job_runs) (by decide +kernel)) (fun _ _ _ _ _ => pg_name (i := 4) sc_job_runs.nd rfl (Or.inl rfl)) (fun _ _ _ _ _ => pts_nil) (fun _ _ _ _ _ => (pe_ix (show IxR _ (rIxL K) from ix_list) (pv 1) (pv 4) (fun _ _ => rfl)))) pa_nil)))
      (Evl.pss_cut (ps_if (pt_cmpR op_eq (pe_ix ix_tup (pv 2) pe_int (fun _ _ => rfl)) pe_str (nomark _)) (pss_one (ps_set (i := 3) sc_job_runs.nd rfl (Or.inl rfl) pe_int)) (pss_one (ps_if (pt_cmpR op_eq (pe_ix ix_tup (pv 2) pe_int (fun _ _ => rfl)) pe_str (nomark _)) (pss_one (ps_set (i := 3) sc_job_runs.nd rfl (Or.inl rfl) (pe_op op_mul (pv 3) (pe_op op_add (pe_ix ix_tup (pv 2) pe_int (fun _ _ => rfl)) pe_int)))) pss_nil)))
      (pss_one (ps_expr (pe_bm PySem.F.plainAttrs_list PySem.F.slot_list_append PySem.F.type_list_append mt_append (pv 1) (pa_cons (pv 3) pa_nil)))))))
      (pss_one (ps_ret (pe_ix ix_list (pv 1) (pe_un un_neg pe_int) (fun _ _ => rfl)))))), ?_⟩
  refine ⟨(by show 0 ≤ sizeLine; decide), fun kn hkn => ?_⟩
  have kk := (Kp.refl [] H).new (o := .lst []) hkn
  refine ⟨_, rfl, nd, rfl, ⟨vs, SqL.of (kk.keep _ _ (by simp) hnd)⟩, ?_⟩
  refine for_list (K := K) (a := nd) (xs := vs) (fun i σ H' => ∃ (v2 v3 : Option V), σ = [some (.ref nd), some (.ref kn), v2, v3, none] ∧ H' kn = some (.lst ((ts.take i).map fun t => ni (rn t))) ∧ Kp [] H H')
    ⟨_, _, rfl, upd_same, kk⟩ (fun i σ H' _ ⟨_, _, _, _, k⟩ => SqL.of (k.keep _ _ (by simp) hnd)) ?_ ?_
  · rintro i v σ H1 hi ⟨v2, v3, rfl, e1, k1⟩
    have hlt := (List.getElem?_eq_some_iff.mp hi).1
    have hltT : i < ts.length := by rw [← hnds.1]; exact hlt
    have hTi : ts[i]? = some ts[i] := List.getElem?_eq_getElem hltT
    obtain ⟨z, ez⟩ : ∃ z, ts[i] = z := ⟨_, rfl⟩
    rw [ez] at hTi
    have hn := (hnds.2 i v z hi hTi).kp k1
    obtain ⟨a, rfl⟩ : ∃ a, v = .ref a := by
      cases hn <;> exact ⟨_, rfl⟩
    have hfz := hfit z (List.mem_of_getElem? hTi)
    refine ⟨_, rfl, a, ts.take i, z, rfl, hn, hfz, fun q1 js H2 hq hk k2 => ?_⟩
    have k02 := k1.trans k2
    have e2 := k2.keep kn _ (by simp) e1
    refine ⟨q1, rfl, ⟨_, SqT.of hq⟩, fun D hD => ?_⟩
    have hjs := hk.len
    refine lc_tup (K := K) (a := q1) (xs := js.map ni) (fun j H' => H' D = some (.lst (((kids z).take j).map fun t => ni (rn t))) ∧ Kp [] H2 H') ⟨upd_same, (Kp.refl _ _).new hD⟩ (fun j H' _ ⟨_, k⟩ => SqT.of (k.tup _ _ hq)) ?_ ?_
    · rintro j x H3 hj ⟨e3, k3⟩
      rw [List.getElem?_map] at hj
      obtain ⟨pj, hpj, ex⟩ := Option.map_eq_some_iff.mp hj
      subst ex
      have hjl := (List.getElem?_eq_some_iff.mp hpj).1
      have hjk : j < (kids z).length := by omega
      have hkj : (kids z)[j]? = some (kids z)[j] := List.getElem?_eq_getElem hjk
      obtain ⟨c, ec⟩ : ∃ c, (kids z)[j] = c := ⟨_, rfl⟩
      rw [ec] at hkj
      have hc : (ts.take i)[pj]? = some c := by
        have h1 := congrArg (fun l => l[j]?) hk
        simp only [List.getElem?_map, hpj, hkj, Option.map_some] at h1
        exact Option.some.inj h1
      have e23 := k3.keep kn _ (by simp) e2
      have et : ((kids z).take (j + 1)).map (fun t => ni (rn t)) = ((kids z).take j).map (fun t => ni (rn t)) ++ [ni (rn c)] := by
        rw [List.take_add_one, hkj, List.map_append]
        rfl
      refine ⟨rfl, ?_⟩
      refine ⟨_, rfl, _, rfl, _, _, _, _, rfl, rfl, SqL.of e23, atI_nat (by rw [List.getElem?_map, hc]; rfl), _, e3, ?_, ?_⟩
      · rw [List.length_map, List.length_take]
        have := kids_len hfz
        exact szl (by omega)
      · rw [et]
        exact ⟨upd_same, k3.mutN hD⟩
    · rintro H3 ⟨e3, k3⟩
      have elen : (js.map ni).length = (kids z).length := by rw [List.length_map, hjs]
      rw [elen, List.take_length] at e3
      have e23 := k3.keep kn _ (by simp) e2
      have k03 := k02.trans k3
      have hn3 := hn.kp (k2.trans k3)
      have et : (ts.take (i + 1)).map (fun t => ni (rn t)) = (ts.take i).map (fun t => ni (rn t)) ++ [ni (rn z)] := by
        rw [List.take_add_one, hTi, List.map_append]
        rfl
      have elt : ((ts.take i).map (fun t => ni (rn t))).length < sizeLine := by
        rw [List.length_map, List.length_take]
        exact szl (by omega)
      have eD : (kids z).map (fun t => ni (rn t)) = ((kids z).map fun t => ((rn t : Nat) : Int)).map V.int := by simp
      refine ⟨D, (kids z).map fun t => ((rn t : Nat) : Int), rfl, SqL.of (by rw [← eD]; exact e3), ?_⟩
      rw [rns_cast]
      refine ⟨fun σ' H' => σ' = [some (.ref nd), some (.ref kn), some (.ref a), some (ni (rn z)), none] ∧ H' = H3, ?_, ?_⟩
      · cases hn3 with
        | job e =>
          refine ⟨_, rfl, _, _, _, _, rfl, rfl, SqT.of e, rfl, rfl, true, ttT rfl, iteT ?_⟩
          exact ⟨rfl, rfl⟩
        | @grp _ p w js cs x1 x2 kd =>
          obtain ⟨w1, w2, w3, w4, w5⟩ := grpW_ne hfz.1
          refine ⟨_, rfl, _, _, _, _, rfl, rfl, SqT.of x1, rfl, rfl, false, ttF (nstr w5), iteF ?_⟩
          refine ⟨_, rfl, _, _, _, _, rfl, rfl, SqT.of x1, rfl, rfl, false, ttF (nstr w2), iteF ?_⟩
          exact ⟨rfl, rfl⟩
        | @pool _ p s js cs x1 x2 kd =>
          refine ⟨_, rfl, _, _, _, _, rfl, rfl, SqT.of x1, rfl, rfl, false, ttF (nstr (by decide +kernel)), iteF ?_⟩
          refine ⟨_, rfl, _, _, _, _, rfl, rfl, SqT.of x1, rfl, rfl, false, ttF (nstr (by decide +kernel)), iteF ?_⟩
          exact ⟨rfl, rfl⟩
        | @tmo _ n j t x1 x2 =>
          refine ⟨_, rfl, _, _, _, _, rfl, rfl, SqT.of x1, rfl, rfl, false, ttF (nstr (by decide +kernel)), iteF ?_⟩
          refine ⟨_, rfl, _, _, _, _, rfl, rfl, SqT.of x1, rfl, rfl, false, ttF (nstr (by decide +kernel)), iteF ?_⟩
          exact ⟨by simp [kids, rns, rn], rfl⟩
        | @ore _ i j x y x1 x2 x3 =>
          refine ⟨_, rfl, _, _, _, _, rfl, rfl, SqT.of x1, rfl, rfl, false, ttF (nstr (by decide +kernel)), iteF ?_⟩
          refine ⟨_, rfl, _, _, _, _, rfl, rfl, SqT.of x1, rfl, rfl, false, ttF (nstr (by decide +kernel)), iteF ?_⟩
          exact ⟨by simp [kids, rns, rn], rfl⟩
        | @rty _ r d j t x1 x2 =>
          refine ⟨_, rfl, _, _, _, _, rfl, rfl, SqT.of x1, rfl, rfl, false, ttF (nstr (by decide +kernel)), iteF ?_⟩
          refine ⟨_, rfl, _, _, _, _, rfl, rfl, SqT.of x1, rfl, rfl, true, ttT rfl, iteT ?_⟩
          refine ⟨_, rfl, _, rfl, _, _, _, _, rfl, rfl, SqT.of x1, rfl, _, _, rfl, rfl, _, _, rfl, rfl, .inr ⟨by have := hfz.1; omega, by have := hfz.1; omega⟩, ?_⟩
          refine ⟨?_, rfl⟩
          show [some (V.ref nd), some (V.ref kn), some (V.ref a), some (V.int (((rns (kids (.rty r d t)) : Nat) : Int) * ((r : Int) + 1))), none] = _
          have ee : ((rns (kids (.rty r d t)) : Nat) : Int) * ((r : Int) + 1) = ((rn (.rty r d t) : Nat) : Int) := by simp [kids, rns, rn]
          rw [ee]
      · rintro σ' H' ⟨rfl, rfl⟩
        refine ⟨_, rfl, .inl ⟨rfl, _, SqL.of e23⟩, _, rfl, _, _, _, rfl, rfl, e23, elt, ?_⟩
        rw [← et]
        exact ⟨_, _, rfl, upd_same, k03.mutN hkn⟩
  · rintro σ H1 ⟨v2, v3, rfl, e1, k1⟩
    rw [hnds.1, List.take_length] at e1
    obtain ⟨ts0, rfl⟩ := List.getLast?_eq_some_iff.mp hlast
    rw [List.map_append] at e1
    exact ⟨_, rfl, _, rfl, _, _, _, _, rfl, rfl, SqL.of e1, atI_last _ _, q H1 k1⟩
end
end K6
namespace K6
open PySem L2
theorem dw_len (f : Nat → Bool) : ∀ l : Cs, (l.takeWhile f).length ≤ l.length ∧ (l.dropWhile f).length ≤ l.length
  | [] => ⟨Nat.le_refl _, Nat.le_refl _⟩
  | c :: r => by
    obtain ⟨h1, h2⟩ := dw_len f r
    rw [List.takeWhile_cons, List.dropWhile_cons]
    split
    · exact ⟨by simp only [List.length_cons]; omega, by simp only [List.length_cons]; omega⟩
    · exact ⟨by simp, Nat.le_refl _⟩
theorem sp_fits : ∀ (n : Nat) (z : Cs) (l c : Nat), z.length ≤ n → (sp z l c).length ≤ z.length + 1 ∧ ∀ k ∈ sp z l c, (cz k.w).length ≤ z.length := by
  intro n
  induction n with
  | zero =>
    intro z l c h
    have e : z = [] := by cases z with | nil => rfl | cons _ _ => simp at h
    subst e
    rw [sp_nil]
    refine ⟨by simp, fun k hk => ?_⟩
    rw [List.mem_singleton.mp hk]
    exact Nat.le_of_eq (show (cz ("" : Str)).length = 0 by decide +kernel)
  | succ n ih =>
    intro z l c h
    cases z with
    | nil =>
      rw [sp_nil]
      refine ⟨by simp, fun k hk => ?_⟩
      rw [List.mem_singleton.mp hk]
      exact Nat.le_of_eq (show (cz ("" : Str)).length = 0 by decide +kernel)
    | cons a r =>
      rw [List.length_cons] at h
      by_cases h10 : a = 10
      · subst h10
        rw [sp_nl]
        obtain ⟨i1, i2⟩ := ih r (l + 1) 1 (by omega)
        exact ⟨by rw [List.length_cons]; omega, fun k hk => by have := i2 k hk; rw [List.length_cons]; omega⟩
      by_cases h32 : a = 32
      · subst h32
        rw [sp_bl]
        obtain ⟨i1, i2⟩ := ih r l (c + 1) (by omega)
        exact ⟨by rw [List.length_cons]; omega, fun k hk => by have := i2 k hk; rw [List.length_cons]; omega⟩
      have go : ∀ (f : Nat → Bool) (l' c' : Nat), (sp (r.dropWhile f) l' c').length ≤ r.length + 1 ∧ ∀ k ∈ sp (r.dropWhile f) l' c', (cz k.w).length ≤ r.length := fun f l' c' => by
        have d := (dw_len f r).2
        obtain ⟨i1, i2⟩ := ih (r.dropWhile f) l' c' (by omega)
        exact ⟨by omega, fun k hk => by have := i2 k hk; omega⟩
      have fin : ∀ (t : Cs) (l' c' : Nat) (S : List Tk), t.length ≤ r.length → (S.length ≤ r.length + 1 ∧ ∀ k ∈ S, (cz k.w).length ≤ r.length) → ((⟨⟨(a :: t).toArray⟩, l', c'⟩ : Tk) :: S).length ≤ (a :: r).length + 1 ∧ ∀ k ∈ (⟨⟨(a :: t).toArray⟩, l', c'⟩ : Tk) :: S, (cz k.w).length ≤ (a :: r).length := fun t l' c' S ht ⟨h1, h2⟩ => by
        refine ⟨by simp only [List.length_cons]; omega, fun k hk => ?_⟩
        rcases List.mem_cons.mp hk with rfl | hk
        · show (a :: t).length ≤ _
          simp only [List.length_cons]
          omega
        · have := h2 k hk
          simp only [List.length_cons]
          omega
      by_cases hL : isL a = true
      · rw [sp_word _ _ _ hL]
        exact fin _ _ _ _ (dw_len isL r).1 (go isL _ _)
      by_cases hD : isD a = true
      · rw [sp_num _ _ _ hD]
        exact fin _ _ _ _ (dw_len isD r).1 (go isD _ _)
      rw [sp_sign _ _ _ ⟨Bool.eq_false_iff.mpr hL, Bool.eq_false_iff.mpr hD, h10, h32⟩]
      obtain ⟨i1, i2⟩ := ih r l (c + 1) (by omega)
      exact fin [] _ _ _ (by simp) ⟨i1, i2⟩
theorem Kp.freeS {S : List Addr} {H H' : Hp} {p : Addr} (k : Kp S H H') (h : H' p = none) (hS : ∀ b ∈ S, H' b ≠ none) : H p = none := by
  cases e : H p with
  | none => rfl
  | some o =>
    have np : p ∉ S := fun z => hS p z h
    rw [k.keep p o np e] at h
    cases h
section
variable {P : Program} {w : World} {K : PySem.W.Frag} {mg : Str → Option Value} {base : Heap} {CR CT CO CF WA fR fT fO : Addr}
/-! ### finish -/
def spFinish (CR CT : Addr) : Sp := fun vs0 H Q E => ∃ (x dx tk nd : Addr) (us : List V) (R : List Tk) (p g : Nat) (vs : List V) (ts : List Tr) (t : Tr) (k : Tk), vs0 = [.ref x] ∧ Rt CR x dx tk nd us R p g H ∧ R[p]? = some k ∧ H nd = some (.lst vs) ∧ Nds H vs ts ∧ ts.length ≤ 100 ∧ ts.getLast? = some t ∧ (∀ t ∈ ts, fit t) ∧ rn t ≤ 60 ∧
  (k.w = "" → ∀ H', Kp [] H H' → Q .non H') ∧ (k.w ≠ "" → Fl CT [] H E k "expected the end")
theorem use_finish (T : Txt K mg CR CT CO CF WA fR fT fO) : UseM P w K mg base (L2.CX P w) 4 CR "finish" p_Reader_finish (spFinish CR CT) := by
  have U_word : UseM P w K mg base CX0 1 CR "word" p_Reader_word (spWord CR) := use_word T
  have U_refuse : UseM P w K mg base (L2.CX P w) 3 CR "refuse" p_Reader_refuse (spRefuse CR CT) := use_refuse T
  have U_job_runs : Use P w K mg base CX0 2 "job_runs" p_job_runs spRuns := use_runs T
  have pas_word : ∀ {X : Cx}, Passes CX0 X E0 := pass0
  have pas_job_runs : ∀ {X : Cx}, Passes CX0 X E0 := pass0
  refine useM_of T.m_finish (fun f fd F => F.binds fun _ _ _ _ _ _ us hl => match us, hl with | [_], _ => rfl) fun f fd F => ?_
  refine F.okX sc_Reader_finish (fun vs H Q E h => ?_) (fun cdv A outer s H vs Q E hr h => ?_)
  · obtain ⟨x, dx, tk, nd, us, R, p, g, vs, ts, t, k, rfl, _⟩ := h
    rfl
  have pas_refuse : Passes (L2.CX P w) (cxOf (L2.CX P w) P w K mg base n_Reader_finish "Reader.finish" (defScope s_Reader_finish) f cdv A outer s H E) E := pasX rfl rfl rfl rfl
  obtain ⟨x, dx, tk, nd, us, R, p, g, vs, ts, t, k, rfl, r, hk, hnd, hnds, hl, hlast, hfit, hrn, q1, q2⟩ := h
  refine ⟨_, (pss_cons (ps_if (pt_cmpR op_ne (pm_use0 T.cl U_word (hr.mono (by decide)) pas_word (pv 0)) pe_str (nomark _)) (pss_one (ps_expr (pm_use T.cl U_refuse (hr.mono (by decide)) pas_refuse (pv 0) (pa_cons pe_str pa_nil)))) pss_nil)
      (pss_one (ps_if (pt_cmpR op_gt (pe_use U_job_runs (hr.mono (by decide)) (by rfl) pas_job_runs (pa_cons (pe_fld (pv 0) rfl) pa_nil)) (pe_g (by rfl) T.gRUNS_MOST) (nomark _)) (pss_one (ps_expr (pm_use T.cl U_refuse (hr.mono (by decide)) pas_refuse (pv 0) (pa_cons pe_str pa_nil)))) pss_nil))), ?_⟩
  refine ⟨_, rfl, x, dx, _, rfl, r.ins, rfl, x, dx, tk, nd, us, R, p, g, k, rfl, r, hk, rfl, ?_⟩
  by_cases e : k.w = ""
  · refine ⟨false, tnF (congrArg V.str e), iteF ?_⟩
    refine ⟨_, rfl, x, CR, dx, _, _, rfl, r.ins, T.cl, T.a_nodes, rfl, nd, vs, ts, t, rfl, hnd, hnds, hl, hlast, hfit, fun H' k' => ?_⟩
    exact ⟨_, _, rfl, rfl, false, cmpF (by omega), iteF (q1 e H' k')⟩
  · refine ⟨true, tnT (nstr e), iteT ?_⟩
    exact ⟨_, rfl, x, dx, _, rfl, r.ins, rfl, x, dx, tk, nd, us, R, p, g, k, _, rfl, r, hk, q2 e⟩
/-! ### Reader(text) -/
def spInit (CR : Addr) : Sp := fun vs0 H Q _ => ∃ (x dx : Addr) (z : Str), vs0 = [.ref x, .str z] ∧ H x = some (.ins CR dx []) ∧ (cz z).length ≤ 2000 ∧ ∀ (tk nd : Addr) (us : List V) (H' : Hp), Rt CR x dx tk nd us (sp (cz z) 1 1) 0 0 H' → H' nd = some (.lst []) → nd ≠ x → H nd = none → Kp [x] H H' → Q .non H'
theorem ok_init (T : Txt K mg CR CT CO CF WA fR fT fO) : ∃ fd, Binds K fd p_Reader__init_ [] ∧ FnOk P w K mg base CX0 3 fR fd p_Reader__init_ (spInit CR) := by
  have U__split : Use P w K mg base CX0 2 "_split" p__split spSplit := use_split T
  have pas__split : ∀ {X : Cx}, Passes CX0 X E0 := pass0
  obtain ⟨fd, F⟩ := T.rdFn
  refine ⟨fd, F.binds fun _ _ _ _ _ _ us hl => match us, hl with | [_, _], _ => rfl, ?_⟩
  refine F.ok sc_Reader__init_ (fun vs H Q E h => ?_) (fun cdv A outer s H vs Q E hr h => ?_)
  · obtain ⟨x, dx, z, rfl, _⟩ := h
    rfl
  obtain ⟨x, dx, z, rfl, hx, hz, q⟩ := h
  refine ⟨_, (pss_cons (ps_fld (pv 0) (pe_use U__split (hr.mono (by decide)) (by rfl) pas__split (pa_cons (pv 1) pa_nil)) rfl)
      (pss_cons (ps_fld (pv 0) pe_int rfl)
      (pss_cons (ps_fld (pv 0) pe_int rfl)
      (pss_one (ps_fld (pv 0) (pe_lst pa_nil) rfl))))), ?_⟩
  refine ⟨_, rfl, z, rfl, by omega, fun tk us H1 htk e1 hus k1 => ?_⟩
  have hx1 := k1.keep x _ (by simp) hx
  refine ⟨_, rfl, x, CR, dx, _, rfl, hx1, T.cl, T.a_tokens, Nat.le_of_ble_eq_true rfl, ?_⟩
  refine ⟨_, rfl, x, CR, dx, _, rfl, upd_same, T.cl, T.a_at, Nat.le_of_ble_eq_true rfl, ?_⟩
  refine ⟨_, rfl, x, CR, dx, _, rfl, upd_same, T.cl, T.a_begun, Nat.le_of_ble_eq_true rfl, ?_⟩
  refine ⟨(by show 0 ≤ sizeLine; decide), fun nd hnd => ?_⟩
  have kx : ∀ {G : Hp} {fs fs' : List (Str × V)}, G x = some (.ins CR dx fs) → Kp [x] G (upd G x (.ins CR dx fs')) := fun e => (Kp.refl _ _).ins (by simp) e
  have k4 := (((kx (fs' := putF "_tokens" (.ref tk) []) hx1).trans (kx (fs' := putF "_at" (.int 0) (putF "_tokens" (.ref tk) [])) upd_same)).trans (kx (fs' := putF "_begun" (.int 0) (putF "_at" (.int 0) (putF "_tokens" (.ref tk) []))) upd_same))
  have nx : nd ≠ x := fun z => by rw [z, upd_same] at hnd; cases hnd
  have tx : tk ≠ x := (ne_of_none hx htk).symm
  have e1' := k4.keep tk _ (by simpa using tx) e1
  have tn : tk ≠ nd := ne_of_none e1' hnd
  have k5 := k4.new (o := .lst []) hnd
  have hx5 : (upd (upd (upd (upd H1 x (.ins CR dx (putF "_tokens" (.ref tk) []))) x (.ins CR dx (putF "_at" (.int 0) (putF "_tokens" (.ref tk) [])))) x (.ins CR dx (putF "_begun" (.int 0) (putF "_at" (.int 0) (putF "_tokens" (.ref tk) []))))) nd (.lst [])) x = some (.ins CR dx (putF "_begun" (.int 0) (putF "_at" (.int 0) (putF "_tokens" (.ref tk) [])))) := by
    rw [upd_ne nx.symm, upd_same]
  refine ⟨_, rfl, x, CR, dx, _, rfl, hx5, T.cl, T.a_nodes, Nat.le_of_ble_eq_true rfl, ?_⟩
  have k6 := k5.trans (kx (fs' := rf tk nd 0 0) hx5)
  have kt : Kp [x] H _ := (k1.mono (by simp)).trans k6
  have fits := sp_fits (cz z).length (cz z) 1 1 (Nat.le_refl _)
  refine q tk nd us _ ⟨upd_same, k6.keep tk _ (by simpa using tx) e1, hus.kp k6, tn, by omega, fun k hk => by have := fits.2 k hk; omega⟩ ?_ nx ?_ kt
  · show upd _ x _ nd = _
    rw [upd_ne nx, upd_same]
  · exact ((k1.mono (by simp)).trans k4).freeS hnd fun b hb => by
      rw [List.mem_singleton.mp hb, upd_same]
      simp
end
end K6
namespace K6
open PySem L2
section
variable {P : Program} {w : World} {K : PySem.W.Frag} {mg : Str → Option Value} {base : Heap} {CR CT CO CF WA fR fT fO : Addr}
def spRead (CT CO : Addr) : Sp := fun vs H Q E => ∃ x : Str, vs = [.str x] ∧ (cz x).length ≤ 100000 ∧ (2000 < (cz x).length → ∀ (d : Addr) (H' : Hp), Kp [] H H' → H' d = some (.xd [("name", .str "text")]) → E (.ref CO) (some d) H') ∧
  ((cz x).length ≤ 2000 → ∃ (t : Tr) (o : Option (Tk × Str)), fit t ∧ dep t ≤ 8 ∧ sz t ≤ 40 ∧ rn t ≤ 60 ∧ Run (sp (cz x) 1 1) 0 (toks t) o ∧ (∀ k z, o = some (k, z) → Fl CT [] H E k z) ∧
    (o = none → ∃ k, (sp (cz x) 1 1)[(toks t).length]? = some k ∧ (k.w = "" → ∀ (q : Addr) (us : List V) (H' : Hp), H' q = some (.tup us) → us.length = sz t → Kp [] H H' → Q (.ref q) H') ∧ (k.w ≠ "" → Fl CT [] H E k "expected the end")))
theorem use_read (T : Txt K mg CR CT CO CF WA fR fT fO) : Use P w K mg base (L2.CX P w) 24 "read_plan" p_read_plan (spRead CT CO) := by
  obtain ⟨fdO, bOutOfRange, UOutOfRange⟩ := ok_of (P := P) (w := w) (base := base) T
  obtain ⟨fdR, bI, UI⟩ := ok_init (P := P) (w := w) (base := base) T
  have U_plan : UseM P w K mg base (L2.CX P w) 23 CR "plan" p_Reader_plan (spRPlan CR CT 8) := use_rplan T 8
  have U_finish : UseM P w K mg base (L2.CX P w) 4 CR "finish" p_Reader_finish (spFinish CR CT) := use_finish T
  refine use_of T.dread_plan (fun f fd F => F.binds fun _ _ _ _ _ _ us hl => match us, hl with | [_], _ => rfl) fun f fd F => ?_
  refine F.okX sc_read_plan (fun vs H Q E h => ?_) (fun cdv A outer s H vs Q E hr h => ?_)
  · obtain ⟨x, rfl, _⟩ := h
    rfl
  have pas_plan : Passes (L2.CX P w) (cxOf (L2.CX P w) P w K mg base n_read_plan "read_plan" (defScope s_read_plan) f cdv A outer s H E) E := pasX rfl rfl rfl rfl
  have pas_finish : Passes (L2.CX P w) (cxOf (L2.CX P w) P w K mg base n_read_plan "read_plan" (defScope s_read_plan) f cdv A outer s H E) E := pas_plan
  obtain ⟨z, rfl, hz, q1, q2⟩ := h
  have lz := len_cz z
  refine ⟨_, (pss_cons (ps_if (pt_cmpR op_gt (pe_callB call_len_str (by rfl) T.n_len PySem.boot_len (pa_cons (pv 0) pa_nil)) (pe_g (by rfl) T.gSOURCE_MOST) (nomark _)) (pss_one (ps_raise rfl (takes_of rfl rfl rfl rfl) (pmk_oex T.of.ox T.of.iC T.of.tI UOutOfRange (hr.mono (by decide)) bOutOfRange .nil pass0 (by rfl) T.gOutOfRange (pa_cons pe_str pa_nil)))) pss_nil)
      (pss_cons (ps_set (i := 1) sc_read_plan.nd rfl (Or.inl rfl) (pe_make T.rdMk UI (hr.mono (by decide)) (by rfl) T.gReader bI .nil pass0 (pa_cons (pv 0) pa_nil)))
      (pss_cons (ps_expr (pm_use T.cl U_plan (hr.mono (by decide)) pas_plan (pv 1) (pa_cons pe_int (pa_cons pe_int pa_nil))))
      (pss_cons (ps_expr (pm_use0 T.cl U_finish (hr.mono (by decide)) pas_finish (pv 1)))
      (pss_one (ps_ret (pe_callTy call_tuple_of (by rfl) T.n_tuple (by decide +kernel) (pa_cons (pe_fld (pv 1) rfl) pa_nil)))))))), ?_⟩
  refine ⟨_, rfl, z, rfl, szle (by omega), _, _, rfl, rfl, ?_⟩
  by_cases h2 : 2000 < (cz z).length
  · refine ⟨true, cmpT (by omega), iteT ?_⟩
    refine ⟨Nat.le_of_ble_eq_true rfl, fun e he => ?_⟩
    refine ⟨e, _, rfl, upd_same, fun d H' hde hd e1 e2 ho => ⟨rfl, d, _, e1, e2, by rw [upd_ne hde] at hd; exact hd, q1 h2 d _ ⟨?_, ?_⟩ upd_same⟩⟩
    · intro b o _ hbo
      have h1 : b ≠ e := ne_of_none hbo he
      have h2 : b ≠ d := ne_of_none hbo (by rw [upd_ne hde] at hd; exact hd)
      rw [upd_ne h2, del_ne h1, ho b h1 h2, upd_ne h1]
      exact hbo
    · intro b o hbo
      have h1 : b ≠ e := ne_of_none hbo he
      have h2 : b ≠ d := ne_of_none hbo (by rw [upd_ne hde] at hd; exact hd)
      rw [upd_ne h2, del_ne h1, ho b h1 h2, upd_ne h1]
      exact hbo
  · obtain ⟨t, o, hf, hd, hs, hrn, run, qf, qn⟩ := q2 (by omega)
    refine ⟨false, cmpF (by omega), iteF ?_⟩
    refine ⟨_, rfl, fun x dx hx hdx hne => ?_⟩
    have k0 : Kp [] H (upd (upd H dx (.own x)) x (.ins CR dx [])) := ((Kp.refl [] H).new hdx).new (by rw [upd_ne hne.symm]; exact hx)
    refine ⟨x, dx, z, rfl, upd_same, by omega, fun tk nd us H1 r hnd nx hnd0 k1 => ⟨rfl, ?_⟩⟩
    have ndH : H nd = none := k0.free hnd0
    have k01 : Kp [x, nd] H H1 := (k0.mono (by simp)).trans (k1.mono (by simp))
    have outs : ∀ {H' : Hp}, Kp [x, nd] H H' → Kp [] H H' := fun k => (k.out hx).out ndH
    have spt := sz_pos t
    refine ⟨_, rfl, x, dx, _, rfl, r.ins, rfl, x, dx, tk, nd, us, _, 0, 0, [], [], 1, 0, t, o, rfl, hf, hd, by omega, by omega, by omega, r, hnd, Nds.nil, by simp; omega, run, fun e vs2 ts2 H2 r2 hnd2 hnds2 hl2 ft2 hlast2 k2 => ?_, fun k w e d H' k' e' => qf k w e d H' (outs (k01.trans k')) e'⟩
    obtain ⟨k, hk, qa, qb⟩ := qn e
    have k02 := k01.trans k2
    rw [List.nil_append] at hnd2 hnds2 hlast2
    rw [List.nil_append] at hnds2
    have hlt : ts2.getLast? = some t := by
      rw [List.getLast?_eq_getElem?, ← hlast2, hl2]
      simp
    refine ⟨_, rfl, x, dx, _, rfl, r2.ins, rfl, x, dx, tk, nd, us, _, _, _, vs2, ts2, t, k, rfl, r2, by rw [Nat.zero_add]; exact hk, hnd2, hnds2, by omega, hlt, ft2, hrn, fun ew H3 k3 => ?_, fun ew d H' k' e' => qb ew d H' (outs (k02.trans (k'.mono (by simp)))) e'⟩
    have r3 := r2.kp k3 (by simp) (by simp)
    have hnd3 := k3.keep nd _ (by simp) hnd2
    refine ⟨_, rfl, x, CR, dx, _, _, rfl, r3.ins, T.cl, T.a_nodes, rfl, _, _, rfl, .inl ⟨SqL.of hnd3, fun q hq => ?_⟩⟩
    exact qa ew q vs2 _ upd_same (by rw [hnds2.1]; exact hl2) (outs ((k02.trans (k3.mono (by simp))).new hq))
end
end K6
namespace K6
open PySem L2
def rLen (K : PySem.W.Frag) : List V → Hp → VK → Prop := fun xs H Q => ∃ p ys, xs = [.ref p] ∧ (SqL K H p ys ∨ SqT K H p ys) ∧ Q (.int ys.length) H
theorem call_lenK {X : Cx} : CallR X (.builtin "len") (rLen X.K) := call_len_seq
section
variable {P : Program} {w : World} {K : PySem.W.Frag} {mg : Str → Option Value} {base : Heap} {CR CT CO CF WA fR fT fO : Addr}
def Ref (H : Hp) (Q : VK) (k : Tk) (z : Str) : Prop := ∀ (q : Addr) (H' : Hp), H' q = some (.tup [.str "refused", ni k.l, ni k.c, .str z]) → Kp [] H H' → Q (.ref q) H'
def spTold : Sp := fun vs H Q _ => ∃ (x : Str) (t : Tr) (o : Option (Tk × Str)), vs = [.str x] ∧ (cz x).length ≤ 2000 ∧ fit t ∧ dep t ≤ 8 ∧ sz t ≤ 40 ∧ rn t ≤ 60 ∧ Run (sp (cz x) 1 1) 0 (toks t) o ∧ (∀ k z, o = some (k, z) → Ref H Q k z) ∧
  (o = none → ∃ k, (sp (cz x) 1 1)[(toks t).length]? = some k ∧ (k.w = "" → ∀ H', Kp [] H H' → Q (ni (sz t)) H') ∧ (k.w ≠ "" → Ref H Q k "expected the end"))
theorem use_told (T : Txt K mg CR CT CO CF WA fR fT fO) : Use P w K mg base CX0 25 "_law_told" p__law_told spTold := by
  obtain ⟨fr, fdr, gm, gk, gb, GF⟩ := (use_read (P := P) (w := w) (base := base) T).ex
  refine use_of T.d_law_told (fun f fd F => F.binds fun _ _ _ _ _ _ us hl => match us, hl with | [_], _ => rfl) fun f fd F => ?_
  refine F.ok sc__law_told (fun vs H Q E h => ?_) (fun cdv A outer s H vs Q E hr h => ?_)
  · obtain ⟨x, t, o, rfl, _⟩ := h
    rfl
  obtain ⟨x, t, o, rfl, hx, hf, hd, hs, hrn, run, qf, qn⟩ := h
  refine ⟨_, (pss_one (ps_try_as (i := 1) (tb := fun W => tRet (tCB (rLen K) (tCons (tCallS (spRead CT CO) (WE W) (tCons (tVar 0) tNil)) tNil))) rfl rfl sc__law_told.nd rfl rfl ⟨by rfl, by decide, Or.inl T.gForetoldError⟩ takes0
    (fun W pn xe tk _ => pss_one (ps_ret (by exact (pe_callB call_lenK (by rfl) T.n_len PySem.boot_len (by exact (pa_cons (pe_callS GF (hr.mono (by decide)) (by rfl) gm gk gb (fun σ => passAt tk σ) (pa_cons (pv 0) pa_nil)) pa_nil))))))
    (fun a oe cls d pn hz hf => (pss_cons (ps_if (PW.pt (pw_and (pt_val (pe_callB (call_isD T.tf.ex hz hf) (by rfl) T.n_isinstance (by decide +kernel) (pa_cons (pv 1) (pa_cons (pe_glob (v := .ref CT) (by rfl) T.gTextFault rfl) pa_nil)))) (pw_and1 (pt_not (pt_val (pe_callB (call_isD T.tf.ex hz hf) (by rfl) T.n_isinstance (by decide +kernel) (pa_cons (pv 1) (pa_cons (pe_glob (v := .ref CO) (by rfl) T.gOutOfRange rfl) pa_nil)))))))) (pss_one (ps_ret (pe_tup (pa_cons pe_str (pa_cons (pe_xf T.tf.xf T.n_line hz hf (pv 1)) (pa_cons (pe_xf T.tf.xf T.n_column hz hf (pv 1)) (pa_cons (pe_xf T.tf.xf T.n_words hz hf (pv 1)) pa_nil))))))) pss_nil)
      (pss_one (ps_ret (pe_tup (pa_cons pe_str (pa_cons pe_int pa_nil))))))))), ?_⟩
  refine ⟨_, rfl, x, rfl, by omega, fun h2 => absurd h2 (by omega), fun _ => ⟨t, o, hf, hd, hs, hrn, run, fun k z e => ?_, fun e => ?_⟩⟩
  · intro d H' k' e'
    refine ⟨true, T.exT, fun _ a ha => ?_, fun e => nomatch e⟩
    refine ⟨_, rfl, _, _, true, d, _, rfl, fun _ h => h, rfl, rfl, e', T.isT, true, rfl, iteT ?_⟩
    refine ⟨_, rfl, _, _, false, d, _, rfl, fun _ h => h, rfl, rfl, e', T.isO, false, rfl, iteT ?_⟩
    refine ⟨_, rfl, rfl, rfl, d, _, _, rfl, e', rfl, _, rfl, rfl, rfl, d, _, _, rfl, e', rfl, _, rfl, rfl, rfl, d, _, _, rfl, e', rfl, (by show 4 ≤ sizeLine; decide), fun q hq => ?_⟩
    exact qf k z e q _ upd_same (k'.new hq)
  · obtain ⟨k, hk, qa, qb⟩ := qn e
    refine ⟨k, hk, fun ew q us H' hq hl k' => ?_, fun ew => ?_⟩
    · refine ⟨q, us, rfl, .inr (SqT.of hq), ?_⟩
      rw [hl]
      exact qa ew H' k'
    · intro d H' k' e'
      refine ⟨true, T.exT, fun _ a ha => ?_, fun e => nomatch e⟩
      refine ⟨_, rfl, _, _, true, d, _, rfl, fun _ h => h, rfl, rfl, e', T.isT, true, rfl, iteT ?_⟩
      refine ⟨_, rfl, _, _, false, d, _, rfl, fun _ h => h, rfl, rfl, e', T.isO, false, rfl, iteT ?_⟩
      refine ⟨_, rfl, rfl, rfl, d, _, _, rfl, e', rfl, _, rfl, rfl, rfl, d, _, _, rfl, e', rfl, _, rfl, rfl, rfl, d, _, _, rfl, e', rfl, (by show 4 ≤ sizeLine; decide), fun q hq => ?_⟩
      exact qb ew q _ upd_same (k'.new hq)
end
end K6
/-! K6Fault: where a laid text's tokens meet the rows; where they do not. -/
namespace K6
open PySem L2
theorem tks_get : ∀ {I : List It} {q : Nat × Nat} {i : Nat} {p : It}, I[i]? = some p → (tks q I)[i]? = some ⟨⟨p.2.toArray⟩, (lcF q (laid (I.take i) ++ p.1)).1, (lcF q (laid (I.take i) ++ p.1)).2⟩
  | [], _, _, _, h => by simp at h
  | j :: I, q, 0, p, h => by
    have e := Option.some.inj h
    subst e
    rfl
  | j :: I, q, i + 1, p, h => by
    have ih := tks_get (I := I) (q := lcF (lcF q j.1) j.2) (i := i) h
    rw [List.take_succ_cons, laid_cons]
    show (tks (lcF (lcF q j.1) j.2) I)[i]? = _
    rw [ih, List.append_assoc, lcF_app, lcF_app q (j.1 ++ j.2), lcF_app q j.1]
    rw [← lcF_app]
theorem map_get {I : List It} {R : List Row} (h : I.map (·.2) = R.map (fun r => cz r.1)) {i : Nat} {r : Row} (e : R[i]? = some r) : ∃ p, I[i]? = some p ∧ p.2 = cz r.1 := by
  have h1 := congrArg (fun l => l[i]?) h
  simp only [List.getElem?_map, e, Option.map_some] at h1
  obtain ⟨p, hp, e2⟩ := Option.map_eq_some_iff.mp h1
  exact ⟨p, hp, e2⟩
theorem back {x : Str} {l : Cs} (h : l = cz x) : (⟨l.toArray⟩ : Str) = x := by
  rw [h]
theorem good_get {I : List It} {R : List Row} (h : I.map (·.2) = R.map (fun r => cz r.1)) {q : Nat × Nat} {S : List Tk} {n : Nat} {i : Nat} {r : Row} (hi : i < n) (hn : n ≤ I.length) (e : R[i]? = some r) : ∃ k, (tks q (I.take n) ++ S)[0 + i]? = some k ∧ k.w = r.1 := by
  obtain ⟨p, hp, ep⟩ := map_get h e
  have hp2 : (I.take n)[i]? = some p := by rw [List.getElem?_take, if_pos hi]; exact hp
  have hg := tks_get (q := q) hp2
  have hb : (⟨p.2.toArray⟩ : Str) = r.1 := back ep
  refine ⟨⟨⟨p.2.toArray⟩, (lcF q (laid ((I.take n).take i) ++ p.1)).1, (lcF q (laid ((I.take n).take i) ++ p.1)).2⟩, ?_, hb⟩
  rw [Nat.zero_add, List.getElem?_append_left (List.getElem?_eq_some_iff.mp hg).1]
  exact hg
theorem run_all {I : List It} {R : List Row} (h : I.map (·.2) = R.map (fun r => cz r.1)) (q : Nat × Nat) (S : List Tk) : Run (tks q I ++ S) 0 R none ∧ (tks q I ++ S)[R.length]? = S[0]? := by
  have hl : I.length = R.length := by
    have := congrArg List.length h
    rw [List.length_map, List.length_map] at this
    exact this
  refine ⟨Run.good fun i r e => ?_, ?_⟩
  · have hi := (List.getElem?_eq_some_iff.mp e).1
    have := good_get h (q := q) (S := S) (n := I.length) (i := i) (by omega) (Nat.le_refl _) e
    rw [List.take_length] at this
    exact this
  · rw [List.getElem?_append_right (by rw [tks_len]; omega), tks_len, hl, Nat.sub_self]
theorem run_miss {I : List It} {R : List Row} (h : I.map (·.2) = R.map (fun r => cz r.1)) {n : Nat} {row : Row} (e : R[n]? = some row) (q : Nat × Nat) (k : Tk) (S : List Tk) (hb : Bad k.w) : Run (tks q (I.take n) ++ (k :: S)) 0 R (some (k, row.2)) := by
  have hl : I.length = R.length := by
    have := congrArg List.length h
    rw [List.length_map, List.length_map] at this
    exact this
  have hn := (List.getElem?_eq_some_iff.mp e).1
  refine Run.miss (n := n) (fun i s hi es => good_get h hi (by omega) es) e ?_ hb
  rw [Nat.zero_add, List.getElem?_append_right (by rw [tks_len, List.length_take]; omega), tks_len, List.length_take, show n - min n I.length = 0 by omega]
  rfl
theorem gap_no_plain {g r : Cs} (hg : Gap g) (h : ∀ y, r.head? = some y → plain y = false) : ∀ y, (g ++ r).head? = some y → plain y = false := fun y hy => by
  rcases head_app hy with e | ⟨_, e⟩
  · exact no_plain_gap hg e
  · exact h y e
/-- the whole text, a gap, r behind it (r: no plain sign ahead) -/
theorem sp_after {I : List It} {x : Nat} (q : Nat × Nat) (ok : Ok x I) {g r : Cs} (hg : Gap g) (hr : ∀ y, r.head? = some y → plain y = false) :
    sp (laid I ++ (g ++ r)) q.1 q.2 = tks q I ++ sp r (lcF q (laid I ++ g)).1 (lcF q (laid I ++ g)).2 := by
  rw [sp_laid q ok (End.blank (gap_no_plain hg hr)), sp_gap _ _ hg, lcF_app]
theorem no_head : ∀ y, ([] : Cs).head? = some y → plain y = false := fun _ h => by cases h
theorem full_run {I : List It} {R : List Row} {x : Nat} (h : I.map (·.2) = R.map (fun r => cz r.1)) (ok : Ok x I) (q : Nat × Nat) : Run (sp (laid I) q.1 q.2) 0 R none ∧ ∃ k, (sp (laid I) q.1 q.2)[R.length]? = some k ∧ k.w = "" := by
  have e := sp_after q ok (g := []) (r := []) (.inl rfl) no_head
  rw [List.append_nil, List.append_nil, sp_nil] at e
  rw [e]
  obtain ⟨h1, h2⟩ := run_all h q [⟨"", (lcF q (laid I)).1, (lcF q (laid I)).2⟩]
  exact ⟨h1, _, h2, rfl⟩
theorem cut_run {I : List It} {R : List Row} (h : I.map (·.2) = R.map (fun r => cz r.1)) (ok : Ok 44 I) {n : Nat} {row : Row} (e : R[n]? = some row) {g : Cs} (hg : Gap g) :
    Run (sp (laid (I.take n) ++ g) 1 1) 0 R (some (⟨"", (lc (laid (I.take n) ++ g)).1, (lc (laid (I.take n) ++ g)).2⟩, row.2)) := by
  have e1 := sp_after (1, 1) (ok.take n) (r := []) hg no_head
  rw [List.append_nil, sp_nil] at e1
  rw [e1]
  exact run_miss h e _ _ _ bad_nil
theorem wrong_run {I : List It} {R : List Row} (h : I.map (·.2) = R.map (fun r => cz r.1)) (ok : Ok 44 I) {n : Nat} {row : Row} {i : It} (e : R[n]? = some row) (hi : I[n]? = some i) {w : Str} (hw : WrongOf row.1 w) (r : Cs) :
    ∃ k : Tk, Run (sp (laid (I.take n) ++ (i.1 ++ (cz w ++ 32 :: r))) 1 1) 0 R (some (k, row.2)) ∧ k.l = (lc (laid (I.take n) ++ i.1)).1 ∧ k.c = (lc (laid (I.take n) ++ i.1)).2 := by
  obtain ⟨p, hp, ep⟩ := map_get h e
  have : p = i := by rw [hi] at hp; exact (Option.some.inj hp).symm
  subst this
  have hgap : Gap p.1 := ok.gaps p (List.mem_of_getElem? hi)
  have hend : End 44 (I.take n) (p.1 ++ (cz w ++ 32 :: r)) := by
    refine End.item ok hi fun y hy py => ?_
    rcases hw with ⟨c, hc, ec⟩ | ⟨z, hz, pz, ec⟩
    · rw [ec] at hy
      have : c = y := Option.some.inj hy
      subst this
      simp only [List.mem_cons, List.not_mem_nil, or_false] at hc
      rcases hc with rfl | rfl | rfl | rfl <;> exact absurd py (by decide)
    · exact ⟨z, by rw [ep]; exact hz, pz⟩
  have e1 := sp_laid (1, 1) (ok.take n) hend
  rw [sp_gap _ _ hgap, ← lcF_app] at e1
  rw [e1]
  rcases hw with ⟨c, hc, ec⟩ | ⟨z, hz, pz, ec⟩
  · have hs : SignC c := by
      simp only [List.mem_cons, List.not_mem_nil, or_false] at hc
      rcases hc with rfl | rfl | rfl | rfl <;> (unfold SignC; decide)
    rw [ec]
    show ∃ k : Tk, Run (_ ++ sp (c :: (32 :: r)) _ _) 0 R _ ∧ _
    rw [sp_sign _ _ _ hs]
    exact ⟨_, run_miss h e _ _ _ (bad_sign (c := c) rfl hc), rfl, rfl⟩
  · rw [ec]
    show ∃ k : Tk, Run (_ ++ sp (48 :: (49 :: (cz row.1 ++ 32 :: r))) _ _) 0 R _ ∧ _
    rw [sp_num _ _ _ (by decide)]
    refine ⟨_, run_miss h e _ _ _ (bad_zero (r := (49 :: (cz row.1 ++ 32 :: r)).takeWhile isD) rfl ?_), rfl, rfl⟩
    rw [List.takeWhile_cons, if_pos (by decide)]
    simp
theorem more_run {I : List It} {R : List Row} (h : I.map (·.2) = R.map (fun r => cz r.1)) (ok : Ok 44 I) {g : Cs} (hg : Gap g) {m : Str} (hm : Tok (cz m)) :
    Run (sp (laid I ++ (g ++ 32 :: cz m)) 1 1) 0 R none ∧ ∃ k : Tk, (sp (laid I ++ (g ++ 32 :: cz m)) 1 1)[R.length]? = some k ∧ k.w ≠ "" ∧ k.l = (lc (laid I ++ g)).1 ∧ k.c = (lc (laid I ++ g)).2 + 1 := by
  have e1 := sp_after (1, 1) ok (r := 32 :: cz m) hg fun y hy => by
    have : 32 = y := Option.some.inj hy
    subst this
    rfl
  rw [e1, sp_bl]
  have e2 := sp_tok (lc (laid I ++ g)).1 ((lc (laid I ++ g)).2 + 1) hm (r := []) (fun x y _ hy => by cases hy)
  rw [List.append_nil] at e2
  rw [e2]
  obtain ⟨h1, h2⟩ := run_all h (1, 1) (⟨⟨(cz m).toArray⟩, (lc (laid I ++ g)).1, (lc (laid I ++ g)).2 + 1⟩ :: sp [] (lc (laid I ++ g)).1 ((lc (laid I ++ g)).2 + 1 + (cz m).length))
  refine ⟨h1, _, h2, fun z => ?_, rfl, rfl⟩
  have z' : (⟨(cz m).toArray⟩ : Str) = "" := z
  have : cz (⟨(cz m).toArray⟩ : Str) = [] := by rw [z']; decide +kernel
  exact tok_ne hm this
theorem nil_run (t : Tr) : Run (sp [] 1 1) 0 (toks t) (some (⟨"", 1, 1⟩, "expected a plan")) := by
  rw [sp_nil, toks_eq]
  exact ⟨⟨"", 1, 1⟩, rfl, .inr ⟨bad_nil, rfl⟩⟩
theorem sp_blanks : ∀ (n : Nat) (r : Cs) (l c : Nat), sp (List.replicate n 32 ++ r) l c = sp r l (c + n)
  | 0, r, l, c => rfl
  | n + 1, r, l, c => by
    rw [List.replicate_succ, List.cons_append, sp_bl, sp_blanks n, show c + 1 + n = c + (n + 1) by omega]
end K6
namespace K6
open PySem L2
def tokB (t : Cs) : Bool := (match t with | [x] => !isL x && !isD x && decide (x ≠ 10) && decide (x ≠ 32) | _ => false) || (!t.isEmpty && t.all isL) || (!t.isEmpty && t.all isD)
theorem tokB_ok {t : Cs} (h : tokB t = true) : Tok t := by
  unfold tokB at h
  rw [Bool.or_eq_true, Bool.or_eq_true] at h
  rcases h with (h | h) | h
  · match t, h with
    | [x], h =>
      simp only [Bool.and_eq_true, Bool.not_eq_true', decide_eq_true_eq] at h
      exact .inl ⟨x, rfl, h.1.1.1, h.1.1.2, h.1.2, h.2⟩
  · rw [Bool.and_eq_true] at h
    refine .inr (.inl ⟨fun e => ?_, List.all_eq_true.mp h.2⟩)
    rw [e] at h
    exact absurd h.1 (by decide)
  · rw [Bool.and_eq_true] at h
    refine .inr (.inr ⟨fun e => ?_, List.all_eq_true.mp h.2⟩)
    rw [e] at h
    exact absurd h.1 (by decide)
def okB : Nat → List It → Bool
  | _, [] => true
  | x, p :: I => p.1.isEmpty && tokB p.2 && (match p.2.head? with | some y => !(plain x && plain y) | none => true) && (match p.2.getLast? with | some z => okB z I | none => true)
theorem okB_ok : ∀ {I : List It} {x : Nat}, okB x I = true → Ok x I
  | [], _, _ => True.intro
  | p :: I, x, h => by
    unfold okB at h
    simp only [Bool.and_eq_true] at h
    obtain ⟨⟨⟨h1, h2⟩, h3⟩, h4⟩ := h
    refine ⟨.inl (List.isEmpty_iff.mp h1), tokB_ok h2, fun _ y hy q => ?_, fun z hz => ?_⟩
    · rw [hy] at h3
      simp only [q.1, q.2] at h3
      exact absurd h3 (by decide)
    · rw [hz] at h4
      exact okB_ok h4
def jt : Tr := .job 1 true 2 33 none
def jI : List It := [([], [106, 111, 98]), ([], [40]), ([], [49]), ([], [44]), ([], [43]), ([], [50]), ([], [44]), ([], [51, 51]), ([], [41])]
theorem jI_ok : Ok 44 jI := okB_ok (by decide +kernel)
theorem jI_map : jI.map (·.2) = (toks jt).map (fun r => cz r.1) := by decide +kernel
theorem jI_laid : laid jI = cz ("job(1,+2,33)" : Str) := by decide +kernel
section
variable {P : Program} {w : World} {K : PySem.W.Frag} {mg : Str → Option Value} {base : Heap} {CR CT CO CF WA fR fT fO : Addr}
def spLong : Sp := fun vs H Q _ => ∃ m : Int, vs = [.int m] ∧ ((m = 2000 ∧ ∀ H', Kp [] H H' → Q (.int 1) H') ∨ (m = 2001 ∧ ∀ (q : Addr) (H' : Hp), H' q = some (.tup [.str "refused", .str "text"]) → Kp [] H H' → Q (.ref q) H'))
theorem use_long (T : Txt K mg CR CT CO CF WA fR fT fO) : Use P w K mg base CX0 25 "_law_long" p__law_long spLong := by
  obtain ⟨fr, fdr, gm, gk, gb, GF⟩ := (use_read (P := P) (w := w) (base := base) T).ex
  refine use_of T.d_law_long (fun f fd F => F.binds fun _ _ _ _ _ _ us hl => match us, hl with | [_], _ => rfl) fun f fd F => ?_
  refine F.ok sc__law_long (fun vs H Q E h => ?_) (fun cdv A outer s H vs Q E hr h => ?_)
  · obtain ⟨m, rfl, _⟩ := h
    rfl
  obtain ⟨m, rfl, hm⟩ := h
  refine ⟨_, (pss_one (ps_try_as (i := 1) (tb := fun W => tRet (tCB (rLen K) (tCons (tCallS (spRead CT CO) (WE W) (tCons _ tNil)) tNil))) rfl rfl sc__law_long.nd rfl rfl ⟨by rfl, by decide, Or.inl T.gOutOfRange⟩ takes0
    (fun W pn xe tk _ => pss_one (ps_ret (by exact (pe_callB call_lenK (by rfl) T.n_len PySem.boot_len (by exact (pa_cons (pe_callS GF (hr.mono (by decide)) (by rfl) gm gk gb (fun σ => passAt tk σ) (pa_cons (pe_op op_add_str (pe_op op_mul_str pe_str (pe_op op_sub (pv 0) pe_int)) pe_str) pa_nil)) pa_nil))))))
    (fun a oe cls d pn hz hf => (pss_one (ps_ret (pe_tup (pa_cons pe_str (pa_cons (pe_xf T.of.xf T.n_name hz hf (pv 1)) pa_nil)))))))), ?_⟩
  have lb : (" " : Str).length = 1 := by decide +kernel
  have lj : ("job(1,+2,33)" : Str).length = 12 := by decide +kernel
  have cb : cz (" " : Str) = [32] := by decide +kernel
  have ecz : ∀ n : Nat, cz (repS " " (n : Int) ++ "job(1,+2,33)") = List.replicate n 32 ++ laid jI := fun n => by
    rw [cz_app, repS_cz, cb, jI_laid]
    congr 1
    rw [Int.toNat_natCast]
    induction n with
    | zero => rfl
    | succ n ih => rw [List.replicate_succ, List.flatten_cons, ih]; rfl
  have ljl : (laid jI).length = 12 := by decide +kernel
  have elen : ∀ n : Nat, (cz (repS " " (n : Int) ++ "job(1,+2,33)")).length = n + 12 := fun n => by rw [ecz, List.length_append, List.length_replicate, ljl]
  have erl : ∀ n : Nat, (repS " " (n : Int)).length = n := fun n => by
    have h1 := elen n
    rw [cz_app, List.length_append, ← len_cz, ← len_cz, lj] at h1
    omega
  rcases hm with ⟨rfl, q⟩ | ⟨rfl, q⟩
  · refine ⟨_, rfl, _, _, rfl, rfl, _, ((1988 : Nat) : Int), rfl, rfl, by decide, by decide, by rw [lb]; decide, by rw [lb]; decide, _, _, rfl, rfl, by rw [erl, lj]; exact szle (by decide), _, rfl, by rw [elen]; decide, fun h => absurd h (by rw [elen]; decide), fun _ => ?_⟩
    rw [ecz, sp_blanks]
    have hrun := full_run jI_map jI_ok (1, 1 + 1988)
    refine ⟨jt, none, ⟨by decide, by decide, by decide, fun k h => nomatch h⟩, by simp [jt, dep], by simp [jt, sz], by simp [jt, rn], hrun.1, (fun k z e => nomatch e), fun _ => ?_⟩
    obtain ⟨k, hk, ek⟩ := hrun.2
    refine ⟨k, hk, fun _ p us H' hp hl k' => ?_, fun ne => absurd ek ne⟩
    refine ⟨p, us, rfl, .inr (SqT.of hp), ?_⟩
    rw [hl]
    exact q H' k'
  · refine ⟨_, rfl, _, _, rfl, rfl, _, ((1989 : Nat) : Int), rfl, rfl, by decide, by decide, by rw [lb]; decide, by rw [lb]; decide, _, _, rfl, rfl, by rw [erl, lj]; exact szle (by decide), _, rfl, by rw [elen]; decide, fun _ d H' k' e' => ?_, fun h => absurd h (by rw [elen]; decide)⟩
    refine ⟨true, T.exO, fun _ a ha => ?_, fun e => nomatch e⟩
    refine ⟨_, rfl, rfl, rfl, d, _, _, rfl, e', rfl, (by show 2 ≤ sizeLine; decide), fun p hp => ?_⟩
    exact q p _ upd_same (k'.new hp)
end
end K6
namespace K6
open PySem L2
theorem units {k : Nat} {A : Around} (r : Room k A) : A.units + 64 < cLine := by
  have := r.un
  omega
section
variable {K : PySem.W.Frag}
theorem dp_four {H : Hp} {q : Addr} {r z : Str} {a b : Int} (h : H q = some (.tup [.str r, .int a, .int b, .str z])) : Dp K H (.ref q) (.tuple [.str r, .int a, .int b, .str z]) :=
  .tup (SqT.of h) (.cons (.str r) (.cons (.int a) (.cons (.int b) (.cons (.str z) .nil))))
theorem sh_four (r z : Str) (a b : Int) (hr : PyData.strOk r = true) (hz : PyData.strOk z = true) : SeqAt.shaped (.tuple [.str r, .int a, .int b, .str z]) = true := by
  simp [SeqAt.shaped, PyData.canLay0, PyData.canLayAll0, PyData.depth, PyData.depthAll, hr, hz]
theorem ok_ref : PyData.strOk ("refused" : Str) = true := by decide +kernel
theorem eq_four' (r z : Str) (a b : Int) : PyData.eqv (.tuple [.str r, .int a, .int b, .str z]) (.tuple [.str r, .int a, .int b, .str z]) = true := by
  simp [PyData.eqv, PyData.eqvAll]
theorem ne_four {H : Hp} {q p : Addr} {z : Str} {a b : Int} {Q : VK} (hz : PyData.strOk z = true) (h1 : H q = some (.tup [.str "refused", .int a, .int b, .str z])) (h2 : H p = some (.tup [.str "refused", .int a, .int b, .str z])) (h : Q (.bl false) H) : rNeD K (.ref q) (.ref p) H Q :=
  ⟨_, _, dp_four h1, dp_four h2, sh_four _ _ _ _ ok_ref hz, sh_four _ _ _ _ ok_ref hz, by rw [eq_four']; exact h⟩
theorem eq_four {H : Hp} {q p : Addr} {z : Str} {a b : Int} {Q : VK} (hz : PyData.strOk z = true) (h1 : H q = some (.tup [.str "refused", .int a, .int b, .str z])) (h2 : H p = some (.tup [.str "refused", .int a, .int b, .str z])) (h : Q (.bl true) H) : rEqD K (.ref q) (.ref p) H Q :=
  ⟨_, _, dp_four h1, dp_four h2, sh_four _ _ _ _ ok_ref hz, sh_four _ _ _ _ ok_ref hz, by rw [eq_four']; exact h⟩
theorem ne_two {H : Hp} {q p : Addr} {Q : VK} (h1 : H q = some (.tup [.str "refused", .str "text"])) (h2 : H p = some (.tup [.str "refused", .str "text"])) (h : Q (.bl false) H) : rNeD K (.ref q) (.ref p) H Q := by
  have ht : PyData.strOk ("text" : Str) = true := by decide +kernel
  have hs : SeqAt.shaped (.tuple [.str "refused", .str "text"]) = true := by
    simp [SeqAt.shaped, PyData.canLay0, PyData.canLayAll0, PyData.depth, PyData.depthAll, ok_ref, ht]
  refine ⟨.tuple [.str "refused", .str "text"], .tuple [.str "refused", .str "text"], .tup (SqT.of h1) (.cons (.str _) (.cons (.str _) .nil)), .tup (SqT.of h2) (.cons (.str _) (.cons (.str _) .nil)), hs, hs, ?_⟩
  have e : PyData.eqv (.tuple [.str "refused", .str "text"]) (.tuple [.str "refused", .str "text"]) = true := by simp [PyData.eqv, PyData.eqvAll]
  rw [e]
  exact h
end
theorem cutN_cz (x : Str) {j : Nat} (h2 : j ≤ (cz x).length) : cz (cutS x none (some (j : Int))) = (cz x).take j := by
  unfold cutS
  rw [HT.sIx_nat]
  have e : x.length = (cz x).length := len_cz x
  have e2 : min j x.length = j := by omega
  rw [e2]
  rfl
theorem cutM_cz (x : Str) {i : Nat} (h1 : i ≤ (cz x).length) : cz (cutS x (some (i : Int)) none) = (cz x).drop i := by
  unfold cutS
  rw [HT.sIx_nat]
  have e : x.length = (cz x).length := len_cz x
  have e2 : min i x.length = i := by omega
  have e3 : HT.sIx x.length x.length none - i = (cz x).length - i := by rw [e]; rfl
  rw [e2, e3]
  exact List.take_of_length_le (by rw [List.length_drop]; exact Nat.le_refl _)
def msgs : List Str := ["expected a plan", "expected (", "expected a number", "expected ,", "expected + or -", "expected , or )", "expected )", "expected !"]
theorem msgs_ok : ∀ z ∈ msgs, PyData.strOk z = true := by
  have h : msgs.all PyData.strOk = true := by decide +kernel
  exact fun z hz => List.all_eq_true.mp h z hz
def MsgR (R : List Row) : Prop := ∀ r ∈ R, r.2 ∈ msgs
theorem MsgR.app {R S : List Row} (a : MsgR R) (b : MsgR S) : MsgR (R ++ S) := fun r hr => (List.mem_append.mp hr).elim (a r) (b r)
theorem MsgR.drop {R : List Row} {n : Nat} (a : MsgR R) : MsgR (R.drop n) := fun r hr => a r (List.mem_of_mem_drop hr)
theorem MsgR.one {r : Row} (h : r.2 ∈ msgs) : MsgR [r] := fun s hs => by rw [List.mem_singleton.mp hs]; exact h
theorem MsgR.cons {r : Row} {R : List Row} (h : r.2 ∈ msgs) (a : MsgR R) : MsgR (r :: R) := fun s hs => (List.mem_cons.mp hs).elim (fun e => by rw [e]; exact h) (a s)
theorem MsgR.nil : MsgR [] := fun _ h => by cases h
theorem m_plan : ("expected a plan" : Str) ∈ msgs := by decide +kernel
theorem m_open : ("expected (" : Str) ∈ msgs := by decide +kernel
theorem m_num : ("expected a number" : Str) ∈ msgs := by decide +kernel
theorem m_comma : ("expected ," : Str) ∈ msgs := by decide +kernel
theorem m_sign : ("expected + or -" : Str) ∈ msgs := by decide +kernel
theorem m_more : ("expected , or )" : Str) ∈ msgs := by decide +kernel
theorem m_shut : ("expected )" : Str) ∈ msgs := by decide +kernel
theorem m_bang : ("expected !" : Str) ∈ msgs := by decide +kernel
theorem MsgR.hd (w : Str) : MsgR (K6.hd w) := .cons m_plan (.one m_open)
theorem MsgR.nums (n : Nat) : MsgR (K6.nums n) := .cons m_num (.one m_comma)
mutual
theorem toks_msg : ∀ t : Tr, MsgR (toks t)
  | .job d g v c f => by
    show MsgR (K6.hd "job" ++ jrows d g v c f)
    rw [jrows_eq]
    refine (MsgR.hd _).app (.cons m_num (.cons m_comma (.cons m_sign (.cons m_num (.cons m_comma (.cons m_num ?_))))))
    cases f with
    | none => exact .one m_more
    | some k => exact .cons m_more (.cons m_bang (.cons m_num (.one m_shut)))
  | .grp w ts => ((MsgR.hd w).app (more_msg ts).drop).app (.one m_more)
  | .pool s ts => (((MsgR.hd _).app (MsgR.nums s)).app (more_msg ts).drop).app (.one m_more)
  | .tmo n t => (((MsgR.hd _).app (MsgR.nums n)).app (toks_msg t)).app (.one m_shut)
  | .ore a b => ((((MsgR.hd _).app (toks_msg a)).app (.one m_comma)).app (toks_msg b)).app (.one m_shut)
  | .rty r d t => ((((MsgR.hd _).app (MsgR.nums r)).app (MsgR.nums d)).app (toks_msg t)).app (.one m_shut)
theorem more_msg : ∀ ts : List Tr, MsgR (more ts)
  | [] => MsgR.nil
  | t :: r => by
    rw [more]
    exact .cons m_more ((toks_msg t).app (more_msg r))
end
theorem row_short : ∀ {R : List Row} {r : Row}, r ∈ R → (cz r.1).length ≤ wd R
  | [], _, h => by cases h
  | s :: R, r, h => by
    rw [wd_cons]
    rcases List.mem_cons.mp h with rfl | h
    · omega
    · have := row_short h
      omega
theorem more_toks : ∀ m ∈ ([")", "1", "job", ","] : List Str), Tok (cz m) ∧ (cz m).length ≤ 3 := by
  have h : ([")", "1", "job", ","] : List Str).all (fun m => tokB (cz m) && decide ((cz m).length ≤ 3)) = true := by decide +kernel
  intro m hm
  have := List.all_eq_true.mp h m hm
  rw [Bool.and_eq_true, decide_eq_true_eq] at this
  exact ⟨tokB_ok this.1, this.2⟩
theorem laid_cut {I : List It} {n : Nat} {i : It} (h : I[n]? = some i) : laid I = laid (I.take n) ++ (i.1 ++ (i.2 ++ laid (I.drop (n + 1)))) := by
  obtain ⟨hl, e⟩ := List.getElem?_eq_some_iff.mp h
  have e1 : I = I.take n ++ i :: I.drop (n + 1) := by
    rw [← e, ← List.drop_eq_getElem_cons hl, List.take_append_drop]
  conv => lhs; rw [e1]
  rw [laid_app, laid_cons, List.append_assoc]
section
variable {P : Program} {w : World} {K : PySem.W.Frag} {mg : Str → Option Value} {base : Heap} {CR CT CO CF WA fR fT fO : Addr}
def spLaw (K : PySem.W.Frag) : Sp := fun vs H Q _ => ∃ (a : Addr) (ns : List Int), vs = [.ref a] ∧ SqL K H a (ns.map V.int) ∧ ∀ H', Q (.bl true) H'
theorem ok_law (T : Txt K mg CR CT CO CF WA fR fT fO) {f : Addr} {fd : FuncData} (F : Fun K "law" "law" s_law f fd) : FnOk P w K mg base CX0 26 f fd p_law (spLaw K) := by
  have U__law_digits : Use P w K mg base CX0 2 "_law_digits" p__law_digits (spDigits K) := use_digits T
  have U__law_long : Use P w K mg base CX0 25 "_law_long" p__law_long spLong := use_long T
  have U__law_plan : Use P w K mg base CX0 3 "_law_plan" p__law_plan spPlan := use_plan T
  have U__law_plan_tokens : Use P w K mg base CX0 3 "_law_plan_tokens" p__law_plan_tokens spToks := use_toks T
  have U__law_lay : Use P w K mg base CX0 2 "_law_lay" p__law_lay spLay := use_lay T
  have U__law_told : Use P w K mg base CX0 25 "_law_told" p__law_told spTold := use_told T
  have U__law_draw : Use P w K mg base CX0 1 "_law_draw" p__law_draw spDraw := use_draw T
  have U__law_end : Use P w K mg base CX0 2 "_law_end" p__law_end spEnd := use_end T
  have U__law_wrong : Use P w K mg base CX0 2 "_law_wrong" p__law_wrong spWrong := use_wrong T
  have pas__law_digits : ∀ {X : Cx}, Passes CX0 X E0 := pass0
  have pas__law_long : ∀ {X : Cx}, Passes CX0 X E0 := pass0
  have pas__law_plan : ∀ {X : Cx}, Passes CX0 X E0 := pass0
  have pas__law_plan_tokens : ∀ {X : Cx}, Passes CX0 X E0 := pass0
  have pas__law_lay : ∀ {X : Cx}, Passes CX0 X E0 := pass0
  have pas__law_told : ∀ {X : Cx}, Passes CX0 X E0 := pass0
  have pas__law_draw : ∀ {X : Cx}, Passes CX0 X E0 := pass0
  have pas__law_end : ∀ {X : Cx}, Passes CX0 X E0 := pass0
  have pas__law_wrong : ∀ {X : Cx}, Passes CX0 X E0 := pass0
  refine F.ok sc_law (fun vs H Q E h => ?_) (fun cdv A outer s H vs Q E hr h => ?_)
  · obtain ⟨a, ns, rfl, _⟩ := h
    rfl
  obtain ⟨a, ns, rfl, hq, q⟩ := h
  refine ⟨_, (pss_cons (ps_set (i := 1) sc_law.nd rfl (Or.inl rfl) (pe_lst (pa_cons (pe_use U__law_digits (hr.mono (by decide)) (by rfl) pas__law_digits (pa_cons (pv 0) (pa_cons pe_int (pa_cons pe_int pa_nil)))) (pa_cons pe_int pa_nil))))
      (pss_cons (ps_if (PW.pt (pw_or (pt_cmpR op_ne (pe_g (by rfl) T.gSOURCE_MOST) pe_int (nomark _)) (pw_or (pt_cmpR op_ne (pe_use U__law_long (hr.mono (by decide)) (by rfl) pas__law_long (pa_cons pe_int pa_nil)) pe_int (nomark _)) (pw_or1 (pt_cmpR (op_neD (units hr)) (pe_use U__law_long (hr.mono (by decide)) (by rfl) pas__law_long (pa_cons pe_int pa_nil)) (pe_tup (pa_cons pe_str (pa_cons pe_str pa_nil))) (nomark _)))))) (pss_one (ps_ret pe_bl)) pss_nil)
      (pss_cons (ps_for PassesOwn.never rfl (pi_range1 (by rfl) T.n_range (pa_cons pe_int pa_nil)) (pg_name (i := 2) sc_law.nd rfl (Or.inl rfl)) (pss_cons (ps_set (i := 3) sc_law.nd rfl (Or.inl rfl) (pe_use U__law_plan (hr.mono (by decide)) (by rfl) pas__law_plan (pa_cons (pv 1) (pa_cons pe_int pa_nil))))
      (pss_cons (ps_set (i := 4) sc_law.nd rfl (Or.inl rfl) (pe_use U__law_plan_tokens (hr.mono (by decide)) (by rfl) pas__law_plan_tokens (pa_cons (pv 3) pa_nil)))
      (pss_cons (ps_set (i := 5) sc_law.nd rfl (Or.inl rfl) (pe_use U__law_lay (hr.mono (by decide)) (by rfl) pas__law_lay (pa_cons (pv 1) (pa_cons (pv 4) pa_nil))))
      (pss_cons (ps_if (pt_cmpR op_ne (pe_use U__law_told (hr.mono (by decide)) (by rfl) pas__law_told (pa_cons (pe_ix ix_list (pv 5) pe_int (fun _ _ => rfl)) pa_nil)) (pe_callB call_len_seq (by rfl) T.n_len PySem.boot_len (pa_cons (pv 3) pa_nil)) (nomark _)) (pss_one (ps_ret pe_bl)) pss_nil)
      (pss_cons (ps_set (i := 6) sc_law.nd rfl (Or.inl rfl) (pe_use U__law_draw (hr.mono (by decide)) (by rfl) pas__law_draw (pa_cons (pv 1) (pa_cons (pe_callB call_len_seq (by rfl) T.n_len PySem.boot_len (pa_cons (pv 4) pa_nil)) pa_nil))))
      (pss_cons (ps_set (i := 7) sc_law.nd rfl (Or.inl rfl) (pe_ix ix_list (pe_ix ix_list (pv 5) pe_int (fun _ _ => rfl)) (pv 6) (fun _ _ => rfl)))
      (pss_cons (ps_set (i := 8) sc_law.nd rfl (Or.inl rfl) (pe_use U__law_end (hr.mono (by decide)) (by rfl) pas__law_end (pa_cons (pv 1) (pa_cons (pe_slice sl_str (pe_ix ix_list (pv 5) pe_int (fun _ _ => rfl)) po_none (po_some (pe_ix ix_tup (pv 7) pe_int (fun _ _ => rfl)))) pa_nil))))
      (pss_cons (ps_if (pt_cmpR (op_neD (units hr)) (pe_use U__law_told (hr.mono (by decide)) (by rfl) pas__law_told (pa_cons (pe_ix ix_list (pv 8) pe_int (fun _ _ => rfl)) pa_nil)) (pe_tup (pa_cons pe_str (pa_cons (pe_ix ix_list (pv 8) pe_int (fun _ _ => rfl)) (pa_cons (pe_ix ix_list (pv 8) pe_int (fun _ _ => rfl)) (pa_cons (pe_ix ix_tup (pe_ix ix_list (pv 4) (pv 6) (fun _ _ => rfl)) pe_int (fun _ _ => rfl)) pa_nil))))) (nomark _)) (pss_one (ps_ret pe_bl)) pss_nil)
      (pss_cons (ps_set (i := 9) sc_law.nd rfl (Or.inl rfl) (pe_op op_add_str (pe_op op_add_str (pe_op op_add_str (pe_slice sl_str (pe_ix ix_list (pv 5) pe_int (fun _ _ => rfl)) po_none (po_some (pe_ix ix_tup (pv 7) pe_int (fun _ _ => rfl)))) (pe_use U__law_wrong (hr.mono (by decide)) (by rfl) pas__law_wrong (pa_cons (pv 1) (pa_cons (pe_ix ix_tup (pe_ix ix_list (pv 4) (pv 6) (fun _ _ => rfl)) pe_int (fun _ _ => rfl)) pa_nil)))) pe_str) (pe_slice sl_str (pe_ix ix_list (pv 5) pe_int (fun _ _ => rfl)) (po_some (pe_ix ix_tup (pv 7) pe_int (fun _ _ => rfl))) po_none)))
      (Evl.pss_cut (ps_if (PW.pt (pw_and (pt_cmpR op_le (pe_callB call_len_str (by rfl) T.n_len PySem.boot_len (pa_cons (pv 9) pa_nil)) pe_int (nomark _)) (pw_and1 (pt_cmpR (op_neD (units hr)) (pe_use U__law_told (hr.mono (by decide)) (by rfl) pas__law_told (pa_cons (pv 9) pa_nil)) (pe_tup (pa_cons pe_str (pa_cons (pe_ix ix_tup (pv 7) pe_int (fun _ _ => rfl)) (pa_cons (pe_ix ix_tup (pv 7) pe_int (fun _ _ => rfl)) (pa_cons (pe_ix ix_tup (pe_ix ix_list (pv 4) (pv 6) (fun _ _ => rfl)) pe_int (fun _ _ => rfl)) pa_nil))))) (nomark _))))) (pss_one (ps_ret pe_bl)) pss_nil)
      (pss_cons (ps_set (i := 10) sc_law.nd rfl (Or.inl rfl) (pe_use U__law_end (hr.mono (by decide)) (by rfl) pas__law_end (pa_cons (pv 1) (pa_cons (pe_ix ix_list (pv 5) pe_int (fun _ _ => rfl)) pa_nil))))
      (pss_cons (ps_set (i := 11) sc_law.nd rfl (Or.inl rfl) (pe_ix ix_list (pe_lst (pa_cons pe_str (pa_cons pe_str (pa_cons pe_str (pa_cons pe_str pa_nil))))) (pe_use U__law_draw (hr.mono (by decide)) (by rfl) pas__law_draw (pa_cons (pv 1) (pa_cons pe_int pa_nil))) (fun _ _ => rfl)))
      (pss_one (ps_if (pt_cmpR (op_neD (units hr)) (pe_use U__law_told (hr.mono (by decide)) (by rfl) pas__law_told (pa_cons (pe_op op_add_str (pe_op op_add_str (pe_ix ix_list (pv 10) pe_int (fun _ _ => rfl)) pe_str) (pv 11)) pa_nil)) (pe_tup (pa_cons pe_str (pa_cons (pe_ix ix_list (pv 10) pe_int (fun _ _ => rfl)) (pa_cons (pe_op op_add (pe_ix ix_list (pv 10) pe_int (fun _ _ => rfl)) pe_int) (pa_cons pe_str pa_nil))))) (nomark _)) (pss_one (ps_ret pe_bl)) pss_nil)))))))))))))))
      (pss_one (ps_ret (pe_cmpR (op_eqD (units hr)) (pe_use U__law_told (hr.mono (by decide)) (by rfl) pas__law_told (pa_cons pe_str pa_nil)) (pe_tup (pa_cons pe_str (pa_cons pe_int (pa_cons pe_int (pa_cons pe_str pa_nil))))) (nomark _))))))), ?_⟩
  refine ⟨_, rfl, a, ns, rfl, hq, fun dp ds H1 hdp k1 e1 => ?_⟩
  refine ⟨(by show 2 ≤ sizeLine; decide), fun b hb => ?_⟩
  have bx0 : Box b dp (upd H1 b (.lst [.ref dp, .int 0])) := ⟨0, ds, upd_same, by rw [upd_ne (ne_of_none e1 hb)]; exact e1, by decide⟩
  refine ⟨rfl, false, tnF rfl, iteF ?_⟩
  refine ⟨2000, rfl, .inl ⟨rfl, fun H2 k2 => ?_⟩⟩
  refine ⟨rfl, false, tnF rfl, iteF ?_⟩
  refine ⟨2001, rfl, .inr ⟨rfl, fun p H3 hp k3 => ?_⟩⟩
  refine ⟨(by show 2 ≤ sizeLine; decide), fun p2 hp2 => ?_⟩
  have bx3 := ((bx0.kp k2 (by simp) (by simp)).kp k3 (by simp) (by simp)).new (o := .tup [.str "refused", .str "text"]) hp2
  refine ne_two (by rw [upd_ne (ne_of_none hp hp2)]; exact hp) upd_same ⟨false, rfl, iteF ?_⟩
  refine ⟨4, rfl, by decide, by decide, ?_⟩
  refine for_range (lo := 0) (n := (4 : Int).toNat) (fun i σ H' => ∃ (v2 v3 v4 v5 v6 v7 v8 v9 v10 v11 : Option V), σ = [some (.ref a), some (.ref b), v2, v3, v4, v5, v6, v7, v8, v9, v10, v11] ∧ Box b dp H')
    ⟨_, _, _, _, _, _, _, _, _, _, rfl, bx3⟩ ?_ ?_
  · rintro i σ H1 hi ⟨v2, v3, v4, v5, v6, v7, v8, v9, v10, v11, rfl, bx1⟩
    refine ⟨_, rfl, b, dp, rfl, bx1, fun p us ts t H2 e2 nds pl bx2 k2 => ?_⟩
    have ft : fit t := pl.fa t (List.mem_of_getLast? pl.la)
    have szt : sz t ≤ 30 := by rw [pl.sz]; exact pl.ct
    have hwd := toks_wd t ft
    have usl : us.length = sz t := by rw [nds.1, pl.sz]
    -- the rows
    refine ⟨_, rfl, p, us, ts, t, rfl, e2, nds, pl, fun l vs H3 hl0 e3 rw3 k3 => ?_⟩
    have bx3 := bx2.kp k3 (by simp) (by simp)
    have nlb : l ≠ b := (bx2.ne hl0).1.symm
    -- the text
    refine ⟨_, rfl, _, rfl, b, dp, l, vs, toks t, rfl, bx3, e3, nlb, rw3, toks_tok t ft, by omega, fun al pa x I ps H4 im ok ex e4 epa hpl nab npb hal hpa0 bx4 k4 => ?_⟩
    have Il : I.length = (toks t).length := by
      have := congrArg List.length im
      rw [List.length_map, List.length_map] at this
      exact this
    have xl : (cz x).length ≤ 1200 := by
      rw [ex]
      exact Nat.le_trans (laid_len ok.gaps im) (by omega)
    have lx := len_cz x
    have e3_4 := k4.keep l _ (by simpa using nlb) e3
    have rw4 := rw3.kp k4
    have ep4 := (k3.mono (S' := [b]) (by simp)).trans k4 |>.tup _ _ e2
    -- the whole
    obtain ⟨fr, kk, hk, hkw⟩ := full_run im ok (1, 1)
    refine ⟨_, rfl, _, _, _, _, rfl, rfl, SqL.of e4, rfl, x, t, none, rfl, by omega, ft, pl.dp, by omega, pl.rn, by rw [ex]; exact fr, (fun k z e => nomatch e), fun _ => ⟨kk, by rw [ex]; exact hk, fun _ H5 k5 => ?_, fun ne => absurd hkw ne⟩⟩
    have ke5 : Kp [b] H4 H5 := k5.mono (by simp)
    have bx5 := bx4.kp k5 (by simp) (by simp)
    refine ⟨_, rfl, _, _, rfl, .inr (SqT.of (k5.tup _ _ ep4)), rfl, false, tnF (by rw [usl]), iteF ?_⟩
    -- the place
    have e3_5 := k5.keep l _ (by simp) e3_4
    have vsl : vs.length = (toks t).length := rw4.len
    have tpos : 0 < (toks t).length := by rw [toks_eq, List.length_append, hd_len]; omega
    refine ⟨_, rfl, _, rfl, _, _, rfl, .inl (SqL.of e3_5), b, dp, _, rfl, bx5, by omega, fun n H6 ln bx6 k6 => ?_⟩
    have ke6 := ke5.trans k6
    have hnR : n < (toks t).length := by omega
    obtain ⟨row, erow⟩ : ∃ row, (toks t)[n]? = some row := ⟨_, List.getElem?_eq_getElem hnR⟩
    obtain ⟨i0, ei, ei2⟩ := map_get im erow
    obtain ⟨pp, hpp1, hpp2⟩ := hpl.2 n i0 ei
    have msg : PyData.strOk row.2 = true := msgs_ok _ (toks_msg t row (List.mem_of_getElem? erow))
    obtain ⟨ra, hra1, hra2⟩ := rw4.get erow
    have hcut := laid_cut ei
    have lcut := congrArg List.length hcut
    simp only [List.length_append] at lcut
    rw [ex] at xl
    have at4 : ∀ {H' : Hp}, Kp [b] H4 H' → H' al = some (.lst [.str x, .ref pa]) ∧ H' pa = some (.lst ps) ∧ H' l = some (.lst vs) := fun k => ⟨k.keep _ _ (by simpa using nab) e4, k.keep _ _ (by simpa using npb) epa, k.keep _ _ (by simpa using nlb) e3_4⟩
    obtain ⟨a6, p6, l6⟩ := at4 ke6
    refine ⟨_, rfl, _, _, _, _, rfl, rfl, SqL.of a6, rfl, _, rfl, _, _, _, _, rfl, rfl, SqL.of p6, atI_nat hpp1, ?_⟩
    -- the cut
    have tp6 := ke6.tup _ _ hpp2
    refine ⟨_, rfl, _, rfl, _, _, _, _, rfl, rfl, SqL.of a6, rfl, _, rfl, _, _, _, _, rfl, rfl, SqT.of tp6, rfl, ?_⟩
    have cy : cz (cutS x none (some (((laid (I.take n)).length : Nat) : Int))) = laid (I.take n) := by
      rw [cutN_cz x (by rw [ex]; omega), ex, hcut, List.take_left']
      rfl
    refine ⟨_, rfl, x, rfl, szle (by rw [lx, ex]; omega), b, dp, _, rfl, bx6, by rw [cy]; omega, fun ae g y H7 hg ey e7 nae bx7 k7 hae => ?_⟩
    rw [cy] at ey
    have ke7 := ke6.trans k7
    -- told of the cut
    have gl := gap_len hg
    have cr := cut_run im ok erow hg
    rw [← ey] at cr
    refine ⟨_, rfl, _, _, _, _, rfl, rfl, SqL.of e7, rfl, y, t, _, rfl, by rw [ey, List.length_append]; omega, ft, pl.dp, by omega, pl.rn, cr, fun k z e q1 H8 hq1 k8 => ?_, (fun e => nomatch e)⟩
    obtain ⟨rfl, rfl⟩ := Prod.mk.inj (Option.some.inj e)
    have ke8 := ke7.trans (k8.mono (S' := [b]) (by simp))
    have bx8 := bx7.kp k8 (by simp) (by simp)
    have e8 := k8.keep ae _ (by simp) e7
    obtain ⟨a8, p8, l8⟩ := at4 ke8
    have hra8 := ke8.tup _ _ hra2
    refine ⟨_, rfl, _, _, _, _, rfl, rfl, SqL.of e8, rfl, _, rfl, _, _, _, _, rfl, rfl, SqL.of e8, rfl, _, rfl, _, rfl, _, _, _, _, rfl, rfl, SqL.of l8, atI_nat hra1, _, _, _, _, rfl, rfl, SqT.of hra8, rfl, (by show 4 ≤ sizeLine; decide), fun p9 hp9 => ?_⟩
    refine ne_four msg (by rw [upd_ne (ne_of_none hq1 hp9)]; exact hq1) upd_same ⟨false, rfl, iteF ?_⟩
    have ke9 := ke8.new (o := .tup [.str "refused", ni (lc (cz y)).1, ni (lc (cz y)).2, .str row.2]) hp9
    have bx9 := bx8.new (o := .tup [.str "refused", ni (lc (cz y)).1, ni (lc (cz y)).2, .str row.2]) hp9
    obtain ⟨a9, pa9, l9⟩ := at4 ke9
    have tp9 := ke9.tup _ _ hpp2
    have hra9 := ke9.tup _ _ hra2
    -- another token
    have rowl : (cz row.1).length ≤ 1200 := Nat.le_trans (row_short (List.mem_of_getElem? erow)) (by omega)
    have em : (laid (I.take n) ++ i0.1).length ≤ (cz x).length := by rw [ex, List.length_append]; omega
    have cz1 : cz (cutS x none (some (((laid (I.take n) ++ i0.1).length : Nat) : Int))) = laid (I.take n) ++ i0.1 := by
      rw [cutN_cz x em, ex, hcut, ← List.append_assoc, List.take_left']
      rfl
    have cz2 : cz (cutS x (some (((laid (I.take n) ++ i0.1).length : Nat) : Int)) none) = i0.2 ++ laid (I.drop (n + 1)) := by
      rw [cutM_cz x em, ex, hcut, ← List.append_assoc, List.drop_left']
      rfl
    have cz1l : (cz (cutS x none (some (((laid (I.take n) ++ i0.1).length : Nat) : Int)))).length ≤ 1200 := by rw [cz1, List.length_append]; omega
    have cz2l : (cz (cutS x (some (((laid (I.take n) ++ i0.1).length : Nat) : Int)) none)).length ≤ 1200 := by rw [cz2, List.length_append]; omega
    have lsp : (" " : Str).length = 1 := by decide +kernel
    refine ⟨_, rfl, _, _, _, _, rfl, rfl, SqL.of a9, rfl, _, rfl, _, _, _, _, rfl, rfl, SqT.of tp9, rfl, _, rfl, x, rfl, szle (by rw [lx, ex]; omega), ?_⟩
    refine ⟨_, rfl, _, rfl, _, rfl, _, _, _, _, rfl, rfl, SqL.of l9, atI_nat hra1, _, _, _, _, rfl, rfl, SqT.of hra9, rfl, b, dp, row.1, rfl, bx9, toks_tok t ft row (List.mem_of_getElem? erow), by omega, fun xw H10 hw bx10 k10 => ?_⟩
    have ke10 := ke9.trans k10
    obtain ⟨a10, pa10, l10⟩ := at4 ke10
    have tp10 := ke10.tup _ _ hpp2
    have xwl : (cz xw).length ≤ 1300 := by
      rcases hw with ⟨c, _, e⟩ | ⟨z, _, _, e⟩
      · rw [e]; simp
      · rw [e]
        simp only [List.length_cons]
        omega
    refine ⟨_, _, rfl, rfl, szle (by rw [len_cz, len_cz]; omega), ?_⟩
    refine ⟨_, _, rfl, rfl, szle (by rw [len_cz, cz_app, List.length_append, lsp]; omega), ?_⟩
    refine ⟨_, rfl, _, _, _, _, rfl, rfl, SqL.of a10, rfl, _, rfl, _, _, _, _, rfl, rfl, SqT.of tp10, rfl, _, rfl, x, rfl, szle (by rw [lx, ex]; omega), ?_⟩
    have cb : cz (" " : Str) = [32] := by decide +kernel
    obtain ⟨Z, eZ⟩ : ∃ Z : Str, Z = cutS x none (some (((laid (I.take n) ++ i0.1).length : Nat) : Int)) ++ xw ++ " " ++ cutS x (some (((laid (I.take n) ++ i0.1).length : Nat) : Int)) none := ⟨_, rfl⟩
    have cZ : cz Z = laid (I.take n) ++ (i0.1 ++ (cz xw ++ 32 :: (i0.2 ++ laid (I.drop (n + 1))))) := by
      rw [eZ, cz_app, cz_app, cz_app, cz1, cz2, cb]
      simp only [List.append_assoc, List.cons_append, List.nil_append]
    have lZ : (cz Z).length ≤ 4000 := by
      rw [eZ, cz_app, cz_app, cz_app, List.length_append, List.length_append, List.length_append, cb, List.length_singleton]
      omega
    refine ⟨_, _, rfl, rfl, szle (by rw [len_cz, len_cz, cz_app, cz_app, List.length_append, List.length_append, cb, List.length_singleton]; omega), ?_⟩
    rw [← eZ]
    obtain ⟨kw, wr, wl, wc⟩ := wrong_run im ok erow ei hw (i0.2 ++ laid (I.drop (n + 1)))
    rw [← cZ] at wr
    refine ⟨fun σ' H' => (∃ (v2 v3 v4 v6 v7 v8 v9 v10 v11 : Option V), σ' = [some (.ref a), some (.ref b), v2, v3, v4, some (.ref al), v6, v7, v8, v9, v10, v11]) ∧ Box b dp H' ∧ Kp [b] H4 H', ?_, ?_⟩
    · refine ⟨_, rfl, Z, rfl, szle (by rw [len_cz]; omega), _, _, rfl, rfl, ?_⟩
      by_cases h2 : (cz Z).length ≤ 2000
      · refine ⟨true, cmpT (by rw [len_cz]; omega), iteT ?_⟩
        refine ⟨_, rfl, Z, t, _, rfl, h2, ft, pl.dp, by omega, pl.rn, wr, fun k z e q1 H11 hq1 k11 => ?_, (fun e => nomatch e)⟩
        obtain ⟨rfl, rfl⟩ := Prod.mk.inj (Option.some.inj e)
        have ke11 := ke10.trans (k11.mono (S' := [b]) (by simp))
        have bx11 := bx10.kp k11 (by simp) (by simp)
        obtain ⟨a11, pa11, l11⟩ := at4 ke11
        have tp11 := ke11.tup _ _ hpp2
        have hra11 := ke11.tup _ _ hra2
        refine ⟨_, rfl, _, _, _, _, rfl, rfl, SqT.of tp11, rfl, _, rfl, _, _, _, _, rfl, rfl, SqT.of tp11, rfl, _, rfl, _, rfl, _, _, _, _, rfl, rfl, SqL.of l11, atI_nat hra1, _, _, _, _, rfl, rfl, SqT.of hra11, rfl, (by show 4 ≤ sizeLine; decide), fun p12 hp12 => ?_⟩
        refine ne_four msg (by rw [upd_ne (ne_of_none hq1 hp12), wl.symm, wc.symm]; exact hq1) upd_same ⟨false, rfl, iteF ?_⟩
        exact ⟨⟨_, _, _, _, _, _, _, _, _, rfl⟩, bx11.new hp12, ke11.new hp12⟩
      · exact ⟨false, cmpF (by rw [len_cz]; omega), iteF (iteF ⟨⟨_, _, _, _, _, _, _, _, _, rfl⟩, bx10, ke10⟩)⟩
    rintro σ' H13 ⟨⟨w2, w3, w4, w6, w7, w8, w9, w10, w11, rfl⟩, bx13, ke13⟩
    obtain ⟨a13, pa13, l13⟩ := at4 ke13
    -- one more token
    refine ⟨_, rfl, _, rfl, _, _, _, _, rfl, rfl, SqL.of a13, rfl, b, dp, x, rfl, bx13, by rw [ex]; omega, fun ae2 g2 y2 H14 hg2 ey2 e14 nae2 bx14 k14 hae2 => ?_⟩
    refine ⟨(by show 4 ≤ sizeLine; decide), fun p15 hp15 => ?_⟩
    have bx15 := bx14.new (o := .lst [.str ")", .str "1", .str "job", .str ","]) hp15
    refine ⟨_, rfl, b, dp, 4, rfl, bx15, by decide, fun r5 H16 l5 bx16 k16 => ?_⟩
    obtain ⟨v1, hv1, a1⟩ := pick (xs := [.str ")", .str "1", .str "job", .str ","]) (r := r5) (by simpa using l5)
    refine ⟨p15, _, _, _, rfl, rfl, SqL.of (k16.keep _ _ (by simpa using (bx14.ne hp15).1.symm) upd_same), a1, ?_⟩
    obtain ⟨m, rfl, hm⟩ : ∃ m : Str, v1 = .str m ∧ m ∈ ([")", "1", "job", ","] : List Str) := by
      simp only [List.mem_cons, List.not_mem_nil, or_false] at hv1
      rcases hv1 with rfl | rfl | rfl | rfl
      · exact ⟨_, rfl, by simp⟩
      · exact ⟨_, rfl, by simp⟩
      · exact ⟨_, rfl, by simp⟩
      · exact ⟨_, rfl, by simp⟩
    obtain ⟨mt, ml⟩ := more_toks m hm
    have k14_16 : Kp [b] H14 H16 := ((Kp.refl [b] H14).new hp15).trans k16
    have e16 := k14_16.keep ae2 _ (by simpa using nae2) e14
    have gl2 := gap_len hg2
    have y2l : (cz y2).length ≤ 1201 := by rw [ey2, ex, List.length_append]; omega
    have cZ2 : cz (y2 ++ " " ++ m) = laid I ++ (g2 ++ 32 :: cz m) := by
      rw [cz_app, cz_app, ey2, ex, cb]
      simp only [List.append_assoc, List.cons_append, List.nil_append]
    obtain ⟨mr, mk, mk1, mk2, mk3, mk4⟩ := more_run im ok hg2 mt
    rw [← cZ2] at mr mk1
    refine ⟨_, rfl, _, _, _, _, rfl, rfl, SqL.of e16, rfl, _, _, rfl, rfl, szle (by rw [len_cz, lsp]; omega), _, rfl, _, _, rfl, rfl, szle (by rw [len_cz, len_cz, cz_app, List.length_append, cb, List.length_singleton]; omega), ?_⟩
    refine ⟨_, t, none, rfl, by rw [cz_app, cz_app, List.length_append, List.length_append, cb, List.length_singleton]; omega, ft, pl.dp, by omega, pl.rn, mr, (fun k z e => nomatch e), fun _ => ⟨mk, mk1, fun ew => absurd ew mk2, fun _ q1 H17 hq1 k17 => ?_⟩⟩
    have e17 := k17.keep ae2 _ (by simp) e16
    have bx17 := bx16.kp k17 (by simp) (by simp)
    refine ⟨_, rfl, _, _, _, _, rfl, rfl, SqL.of e17, rfl, _, rfl, _, _, _, _, rfl, rfl, SqL.of e17, rfl, _, _, rfl, rfl, (by show 4 ≤ sizeLine; decide), fun p18 hp18 => ?_⟩
    have ey3 : cz y2 = laid I ++ g2 := by rw [ey2, ex]
    refine ne_four (z := "expected the end") (a := (((lc (cz y2)).1 : Nat) : Int)) (b := (((lc (cz y2)).2 : Nat) : Int) + 1) (by decide +kernel) ?_ upd_same ⟨false, rfl, iteF ?_⟩
    · rw [upd_ne (ne_of_none hq1 hp18), hq1, mk3, mk4, ey3]
      rfl
    · exact ⟨_, _, _, _, _, _, _, _, _, _, rfl, bx17.new hp18⟩
  · rintro σ H1 ⟨v2, v3, v4, v5, v6, v7, v8, v9, v10, v11, rfl, bx1⟩
    have c0 : cz ("" : Str) = [] := by decide +kernel
    refine ⟨"", jt, some (⟨"", 1, 1⟩, "expected a plan"), rfl, by rw [c0]; decide, ⟨by decide, by decide, by decide, fun k h => nomatch h⟩, by simp [jt, dep], by simp [jt, sz], by simp [jt, rn], by rw [c0]; exact nil_run jt, fun k z e q1 H2 hq1 k2 => ?_, (fun e => nomatch e)⟩
    obtain ⟨rfl, rfl⟩ := Prod.mk.inj (Option.some.inj e)
    refine ⟨(by show 4 ≤ sizeLine; decide), fun p hp => ?_⟩
    exact eq_four (msgs_ok _ m_plan) (by rw [upd_ne (ne_of_none hq1 hp)]; exact hq1) upd_same (q _)
end
end K6
namespace K6
open PySem L2
theorem exm_sub {K : PySem.W.Frag} {C S : Addr} (h1 : PySem.W.subIn K (.ref S) (.type "BaseException") = some true) (h2 : PySem.W.isClsIn K S = true) (h3 : PySem.W.typeIn K (.ref S) = some (.type "type")) (h4 : PySem.W.subIn K (.ref C) (.ref S) = some true) :
    PySem.W.exmOne K (.ref C) (.ref S) = some true := by
  have e1 : (PySem.W.subIn K (.ref S) (.type "BaseException") == some true) = true := by rw [h1] <;> rfl
  have e2 : ((PySem.W.clsIn K S).isSome && PySem.W.typeIn K (.ref S) == some (.type "type")) = true := by
    have h2' : (PySem.W.clsIn K S).isSome = true := h2
    rw [h2', h3] <;> rfl
  unfold PySem.W.exmOne
  rw [if_pos e1]
  unfold PySem.W.kitCls
  show (if ((PySem.W.clsIn K S).isSome && PySem.W.typeIn K (.ref S) == some (.type "type")) = true then PySem.W.subIn K (.ref C) (.ref S) else none) = some true
  rw [if_pos e2]
  exact h4
theorem kit_self {K : PySem.W.Frag} {C : Addr} : PySem.W.kitOne K (.ref C) (.ref C) = some true := by
  unfold PySem.W.kitOne
  rw [if_pos (by simp)]
theorem kit_not {K : PySem.W.Frag} {C S : Addr} (hs : PySem.W.subIn K (.ref S) (.ref S) = some true) (h2 : PySem.W.isClsIn K S = true) (h3 : PySem.W.typeIn K (.ref S) = some (.type "type")) (h4 : PySem.W.subIn K (.ref C) (.ref S) = some false) :
    PySem.W.kitOne K (.ref C) (.ref S) = some false := by
  have ne : C ≠ S := fun e => by
    rw [e, hs] at h4
    cases h4
  have e2 : ((PySem.W.clsIn K S).isSome && PySem.W.typeIn K (.ref S) == some (.type "type")) = true := by
    have h2' : (PySem.W.clsIn K S).isSome = true := h2
    rw [h2', h3] <;> rfl
  unfold PySem.W.kitOne
  rw [if_neg (by simpa using ne)]
  show (if ((PySem.W.clsIn K S).isSome && PySem.W.typeIn K (.ref S) == some (.type "type")) = true then PySem.W.subIn K (.ref C) (.ref S) else none) = some false
  rw [if_pos e2]
  exact h4
theorem all_mk {l : PySem.W.OpenLaw} {w : World} {K : PySem.W.Frag} {h : Heap} {mg : Str → Option Value} {fa : Addr} (X : K.In h) (G : h.Ns mainGlobals mg) (hfa : mg "law" = some (.ref fa))
    {CR CT CO CF WA fR fT fO : Addr}
    {odW : Option Addr} {nW : Nat} {slW : Array (Option Value)} {w0 w1 w2 w3 w4 w5 w6 w7 w8 : PySem.Tok}
    {t_NODES_MOST : PySem.Tok}
    {t_DEPTH_MOST : PySem.Tok}
    {t_RUNS_MOST : PySem.Tok}
    {t_PARTS_MOST : PySem.Tok}
    {t_DURATION_MOST : PySem.Tok}
    {t_VALUE_MOST : PySem.Tok}
    {t_CLEANUP_MOST : PySem.Tok}
    {t_SIZE_MOST : PySem.Tok}
    {t_TICKS_MOST : PySem.Tok}
    {t_RETRIES_MOST : PySem.Tok}
    {t_DELAY_MOST : PySem.Tok}
    {t_SOURCE_MOST : PySem.Tok}
    {t_LETTERS : PySem.Tok}
    {t_DIGITS : PySem.Tok}
    {f_parts_of : Addr} {oc_parts_of kV_parts_of dc_parts_of pm_parts_of cd_parts_of ct_parts_of : Value} {od_parts_of an_parts_of : Option Addr} {sl_parts_of : Array (Option Value)}
    {f_job_runs : Addr} {oc_job_runs kV_job_runs dc_job_runs pm_job_runs cd_job_runs ct_job_runs : Value} {od_job_runs an_job_runs : Option Addr} {sl_job_runs : Array (Option Value)}
    {f__run_end : Addr} {oc__run_end kV__run_end dc__run_end pm__run_end cd__run_end ct__run_end : Value} {od__run_end an__run_end : Option Addr} {sl__run_end : Array (Option Value)}
    {f__split : Addr} {oc__split kV__split dc__split pm__split cd__split ct__split : Value} {od__split an__split : Option Addr} {sl__split : Array (Option Value)}
    {f_read_plan : Addr} {oc_read_plan kV_read_plan dc_read_plan pm_read_plan cd_read_plan ct_read_plan : Value} {od_read_plan an_read_plan : Option Addr} {sl_read_plan : Array (Option Value)}
    {f__law_cell : Addr} {oc__law_cell kV__law_cell dc__law_cell pm__law_cell cd__law_cell ct__law_cell : Value} {od__law_cell an__law_cell : Option Addr} {sl__law_cell : Array (Option Value)}
    {f__law_digits : Addr} {oc__law_digits kV__law_digits dc__law_digits pm__law_digits cd__law_digits ct__law_digits : Value} {od__law_digits an__law_digits : Option Addr} {sl__law_digits : Array (Option Value)}
    {f__law_draw : Addr} {oc__law_draw kV__law_draw dc__law_draw pm__law_draw cd__law_draw ct__law_draw : Value} {od__law_draw an__law_draw : Option Addr} {sl__law_draw : Array (Option Value)}
    {f__law_job : Addr} {oc__law_job kV__law_job dc__law_job pm__law_job cd__law_job ct__law_job : Value} {od__law_job an__law_job : Option Addr} {sl__law_job : Array (Option Value)}
    {f__law_whole : Addr} {oc__law_whole kV__law_whole dc__law_whole pm__law_whole cd__law_whole ct__law_whole : Value} {od__law_whole an__law_whole : Option Addr} {sl__law_whole : Array (Option Value)}
    {f__law_plan : Addr} {oc__law_plan kV__law_plan dc__law_plan pm__law_plan cd__law_plan ct__law_plan : Value} {od__law_plan an__law_plan : Option Addr} {sl__law_plan : Array (Option Value)}
    {f__law_job_tokens : Addr} {oc__law_job_tokens kV__law_job_tokens dc__law_job_tokens pm__law_job_tokens cd__law_job_tokens ct__law_job_tokens : Value} {od__law_job_tokens an__law_job_tokens : Option Addr} {sl__law_job_tokens : Array (Option Value)}
    {f__law_node_tokens : Addr} {oc__law_node_tokens kV__law_node_tokens dc__law_node_tokens pm__law_node_tokens cd__law_node_tokens ct__law_node_tokens : Value} {od__law_node_tokens an__law_node_tokens : Option Addr} {sl__law_node_tokens : Array (Option Value)}
    {f__law_plan_tokens : Addr} {oc__law_plan_tokens kV__law_plan_tokens dc__law_plan_tokens pm__law_plan_tokens cd__law_plan_tokens ct__law_plan_tokens : Value} {od__law_plan_tokens an__law_plan_tokens : Option Addr} {sl__law_plan_tokens : Array (Option Value)}
    {f__law_plain : Addr} {oc__law_plain kV__law_plain dc__law_plain pm__law_plain cd__law_plain ct__law_plain : Value} {od__law_plain an__law_plain : Option Addr} {sl__law_plain : Array (Option Value)}
    {f__law_lay : Addr} {oc__law_lay kV__law_lay dc__law_lay pm__law_lay cd__law_lay ct__law_lay : Value} {od__law_lay an__law_lay : Option Addr} {sl__law_lay : Array (Option Value)}
    {f__law_told : Addr} {oc__law_told kV__law_told dc__law_told pm__law_told cd__law_told ct__law_told : Value} {od__law_told an__law_told : Option Addr} {sl__law_told : Array (Option Value)}
    {f__law_long : Addr} {oc__law_long kV__law_long dc__law_long pm__law_long cd__law_long ct__law_long : Value} {od__law_long an__law_long : Option Addr} {sl__law_long : Array (Option Value)}
    {f__law_end : Addr} {oc__law_end kV__law_end dc__law_end pm__law_end cd__law_end ct__law_end : Value} {od__law_end an__law_end : Option Addr} {sl__law_end : Array (Option Value)}
    {f__law_wrong : Addr} {oc__law_wrong kV__law_wrong dc__law_wrong pm__law_wrong cd__law_wrong ct__law_wrong : Value} {od__law_wrong an__law_wrong : Option Addr} {sl__law_wrong : Array (Option Value)}
    {f_law : Addr} {oc_law kV_law dc_law pm_law cd_law ct_law : Value} {od_law an_law : Option Addr} {sl_law : Array (Option Value)}
    {f_Reader_word : Addr} {oc_Reader_word kV_Reader_word dc_Reader_word pm_Reader_word cd_Reader_word ct_Reader_word : Value} {od_Reader_word an_Reader_word : Option Addr} {sl_Reader_word : Array (Option Value)}
    {f_Reader_refuse : Addr} {oc_Reader_refuse kV_Reader_refuse dc_Reader_refuse pm_Reader_refuse cd_Reader_refuse ct_Reader_refuse : Value} {od_Reader_refuse an_Reader_refuse : Option Addr} {sl_Reader_refuse : Array (Option Value)}
    {f_Reader_expect : Addr} {oc_Reader_expect kV_Reader_expect dc_Reader_expect pm_Reader_expect cd_Reader_expect ct_Reader_expect : Value} {od_Reader_expect an_Reader_expect : Option Addr} {sl_Reader_expect : Array (Option Value)}
    {f_Reader_number : Addr} {oc_Reader_number kV_Reader_number dc_Reader_number pm_Reader_number cd_Reader_number ct_Reader_number : Value} {od_Reader_number an_Reader_number : Option Addr} {sl_Reader_number : Array (Option Value)}
    {f_Reader_begin : Addr} {oc_Reader_begin kV_Reader_begin dc_Reader_begin pm_Reader_begin cd_Reader_begin ct_Reader_begin : Value} {od_Reader_begin an_Reader_begin : Option Addr} {sl_Reader_begin : Array (Option Value)}
    {f_Reader_close : Addr} {oc_Reader_close kV_Reader_close dc_Reader_close pm_Reader_close cd_Reader_close ct_Reader_close : Value} {od_Reader_close an_Reader_close : Option Addr} {sl_Reader_close : Array (Option Value)}
    {f_Reader_job : Addr} {oc_Reader_job kV_Reader_job dc_Reader_job pm_Reader_job cd_Reader_job ct_Reader_job : Value} {od_Reader_job an_Reader_job : Option Addr} {sl_Reader_job : Array (Option Value)}
    {f_Reader_check_more : Addr} {oc_Reader_check_more kV_Reader_check_more dc_Reader_check_more pm_Reader_check_more cd_Reader_check_more ct_Reader_check_more : Value} {od_Reader_check_more an_Reader_check_more : Option Addr} {sl_Reader_check_more : Array (Option Value)}
    {f_Reader_parts : Addr} {oc_Reader_parts kV_Reader_parts dc_Reader_parts pm_Reader_parts cd_Reader_parts ct_Reader_parts : Value} {od_Reader_parts an_Reader_parts : Option Addr} {sl_Reader_parts : Array (Option Value)}
    {f_Reader_lead : Addr} {oc_Reader_lead kV_Reader_lead dc_Reader_lead pm_Reader_lead cd_Reader_lead ct_Reader_lead : Value} {od_Reader_lead an_Reader_lead : Option Addr} {sl_Reader_lead : Array (Option Value)}
    {f_Reader_plan : Addr} {oc_Reader_plan kV_Reader_plan dc_Reader_plan pm_Reader_plan cd_Reader_plan ct_Reader_plan : Value} {od_Reader_plan an_Reader_plan : Option Addr} {sl_Reader_plan : Array (Option Value)}
    {f_Reader_finish : Addr} {oc_Reader_finish kV_Reader_finish dc_Reader_finish pm_Reader_finish cd_Reader_finish ct_Reader_finish : Value} {od_Reader_finish an_Reader_finish : Option Addr} {sl_Reader_finish : Array (Option Value)}
    {oc_Reader__init_ kV_Reader__init_ dc_Reader__init_ pm_Reader__init_ cd_Reader__init_ ct_Reader__init_ : Value} {od_Reader__init_ an_Reader__init_ : Option Addr} {sl_Reader__init_ : Array (Option Value)}
    {oc_TextFault__init_ kV_TextFault__init_ dc_TextFault__init_ pm_TextFault__init_ cd_TextFault__init_ ct_TextFault__init_ : Value} {od_TextFault__init_ an_TextFault__init_ : Option Addr} {sl_TextFault__init_ : Array (Option Value)}
    {oc_OutOfRange__init_ kV_OutOfRange__init_ dc_OutOfRange__init_ pm_OutOfRange__init_ cd_OutOfRange__init_ ct_OutOfRange__init_ : Value} {od_OutOfRange__init_ an_OutOfRange__init_ : Option Addr} {sl_OutOfRange__init_ : Array (Option Value)}
    {nmCT qCT : Str} {NCT : Addr} {bsCT subCT : List Value} {snCT : List Str} {abCT : Bool} {colCT : Option Bool} {ddCT : Option Addr} {m0CT m1CT m2CT m3CT m5CT : Option Value}
    {nmCO qCO : Str} {NCO : Addr} {bsCO subCO : List Value} {snCO : List Str} {abCO : Bool} {colCO : Option Bool} {ddCO : Option Addr} {m0CO m1CO m2CO m3CO m5CO : Option Value}
    (aCR : PySem.W.nsIn K mainGlobals "Reader" = some (some (.ref CR)))
    (aCT : PySem.W.nsIn K mainGlobals "TextFault" = some (some (.ref CT)))
    (aCO : PySem.W.nsIn K mainGlobals "OutOfRange" = some (some (.ref CO)))
    (aCF : PySem.W.nsIn K mainGlobals "ForetoldError" = some (some (.ref CF)))
    (aWA : PySem.W.nsIn K mainGlobals "WORDS" = some (some (.ref WA)))
    (lWA : K.lookup WA = some ⟨.type "tuple", odW, .seq #[.str "job" w0, .str "all" w1, .str "race" w2, .str "any" w3, .str "pool" w4, .str "timeout" w5, .str "sequence" w6, .str "orelse" w7, .str "retry" w8] nW, slW⟩)
    (g_NODES_MOST : PySem.W.nsIn K mainGlobals "NODES_MOST" = some (some (.int 40 t_NODES_MOST)))
    (g_DEPTH_MOST : PySem.W.nsIn K mainGlobals "DEPTH_MOST" = some (some (.int 8 t_DEPTH_MOST)))
    (g_RUNS_MOST : PySem.W.nsIn K mainGlobals "RUNS_MOST" = some (some (.int 60 t_RUNS_MOST)))
    (g_PARTS_MOST : PySem.W.nsIn K mainGlobals "PARTS_MOST" = some (some (.int 6 t_PARTS_MOST)))
    (g_DURATION_MOST : PySem.W.nsIn K mainGlobals "DURATION_MOST" = some (some (.int 1000 t_DURATION_MOST)))
    (g_VALUE_MOST : PySem.W.nsIn K mainGlobals "VALUE_MOST" = some (some (.int 999 t_VALUE_MOST)))
    (g_CLEANUP_MOST : PySem.W.nsIn K mainGlobals "CLEANUP_MOST" = some (some (.int 100 t_CLEANUP_MOST)))
    (g_SIZE_MOST : PySem.W.nsIn K mainGlobals "SIZE_MOST" = some (some (.int 6 t_SIZE_MOST)))
    (g_TICKS_MOST : PySem.W.nsIn K mainGlobals "TICKS_MOST" = some (some (.int 1000 t_TICKS_MOST)))
    (g_RETRIES_MOST : PySem.W.nsIn K mainGlobals "RETRIES_MOST" = some (some (.int 5 t_RETRIES_MOST)))
    (g_DELAY_MOST : PySem.W.nsIn K mainGlobals "DELAY_MOST" = some (some (.int 100 t_DELAY_MOST)))
    (g_SOURCE_MOST : PySem.W.nsIn K mainGlobals "SOURCE_MOST" = some (some (.int 2000 t_SOURCE_MOST)))
    (g_LETTERS : PySem.W.nsIn K mainGlobals "LETTERS" = some (some (.str "abcdefghijklmnopqrstuvwxyz" t_LETTERS)))
    (g_DIGITS : PySem.W.nsIn K mainGlobals "DIGITS" = some (some (.str "0123456789" t_DIGITS)))
    (z_len : PySem.W.nsIn K mainGlobals "len" = some (none))
    (z_min : PySem.W.nsIn K mainGlobals "min" = some (none))
    (z_max : PySem.W.nsIn K mainGlobals "max" = some (none))
    (z_sum : PySem.W.nsIn K mainGlobals "sum" = some (none))
    (z_int : PySem.W.nsIn K mainGlobals "int" = some (none))
    (z_str : PySem.W.nsIn K mainGlobals "str" = some (none))
    (z_tuple : PySem.W.nsIn K mainGlobals "tuple" = some (none))
    (z_range : PySem.W.nsIn K mainGlobals "range" = some (none))
    (z_isinstance : PySem.W.nsIn K mainGlobals "isinstance" = some (none))
    (a_parts_of : PySem.W.nsIn K mainGlobals "parts_of" = some (some (.ref f_parts_of)))
    (l_parts_of : K.lookup f_parts_of = some ⟨oc_parts_of, od_parts_of, .func (PySem.W.fnOf "parts_of" "parts_of" (defArgs s_parts_of) (defBody s_parts_of) (defScope s_parts_of) .none kV_parts_of dc_parts_of pm_parts_of an_parts_of cd_parts_of ct_parts_of), sl_parts_of⟩)
    (c_parts_of : PySem.W.codeIn K cd_parts_of "parts_of" = true)
    (k_parts_of : PySem.W.keepIn K (.ref f_parts_of) = true)
    (a_job_runs : PySem.W.nsIn K mainGlobals "job_runs" = some (some (.ref f_job_runs)))
    (l_job_runs : K.lookup f_job_runs = some ⟨oc_job_runs, od_job_runs, .func (PySem.W.fnOf "job_runs" "job_runs" (defArgs s_job_runs) (defBody s_job_runs) (defScope s_job_runs) .none kV_job_runs dc_job_runs pm_job_runs an_job_runs cd_job_runs ct_job_runs), sl_job_runs⟩)
    (c_job_runs : PySem.W.codeIn K cd_job_runs "job_runs" = true)
    (k_job_runs : PySem.W.keepIn K (.ref f_job_runs) = true)
    (a__run_end : PySem.W.nsIn K mainGlobals "_run_end" = some (some (.ref f__run_end)))
    (l__run_end : K.lookup f__run_end = some ⟨oc__run_end, od__run_end, .func (PySem.W.fnOf "_run_end" "_run_end" (defArgs s__run_end) (defBody s__run_end) (defScope s__run_end) .none kV__run_end dc__run_end pm__run_end an__run_end cd__run_end ct__run_end), sl__run_end⟩)
    (c__run_end : PySem.W.codeIn K cd__run_end "_run_end" = true)
    (k__run_end : PySem.W.keepIn K (.ref f__run_end) = true)
    (a__split : PySem.W.nsIn K mainGlobals "_split" = some (some (.ref f__split)))
    (l__split : K.lookup f__split = some ⟨oc__split, od__split, .func (PySem.W.fnOf "_split" "_split" (defArgs s__split) (defBody s__split) (defScope s__split) .none kV__split dc__split pm__split an__split cd__split ct__split), sl__split⟩)
    (c__split : PySem.W.codeIn K cd__split "_split" = true)
    (k__split : PySem.W.keepIn K (.ref f__split) = true)
    (a_read_plan : PySem.W.nsIn K mainGlobals "read_plan" = some (some (.ref f_read_plan)))
    (l_read_plan : K.lookup f_read_plan = some ⟨oc_read_plan, od_read_plan, .func (PySem.W.fnOf "read_plan" "read_plan" (defArgs s_read_plan) (defBody s_read_plan) (defScope s_read_plan) .none kV_read_plan dc_read_plan pm_read_plan an_read_plan cd_read_plan ct_read_plan), sl_read_plan⟩)
    (c_read_plan : PySem.W.codeIn K cd_read_plan "read_plan" = true)
    (k_read_plan : PySem.W.keepIn K (.ref f_read_plan) = true)
    (a__law_cell : PySem.W.nsIn K mainGlobals "_law_cell" = some (some (.ref f__law_cell)))
    (l__law_cell : K.lookup f__law_cell = some ⟨oc__law_cell, od__law_cell, .func (PySem.W.fnOf "_law_cell" "_law_cell" (defArgs s__law_cell) (defBody s__law_cell) (defScope s__law_cell) .none kV__law_cell dc__law_cell pm__law_cell an__law_cell cd__law_cell ct__law_cell), sl__law_cell⟩)
    (c__law_cell : PySem.W.codeIn K cd__law_cell "_law_cell" = true)
    (k__law_cell : PySem.W.keepIn K (.ref f__law_cell) = true)
    (a__law_digits : PySem.W.nsIn K mainGlobals "_law_digits" = some (some (.ref f__law_digits)))
    (l__law_digits : K.lookup f__law_digits = some ⟨oc__law_digits, od__law_digits, .func (PySem.W.fnOf "_law_digits" "_law_digits" (defArgs s__law_digits) (defBody s__law_digits) (defScope s__law_digits) .none kV__law_digits dc__law_digits pm__law_digits an__law_digits cd__law_digits ct__law_digits), sl__law_digits⟩)
    (c__law_digits : PySem.W.codeIn K cd__law_digits "_law_digits" = true)
    (k__law_digits : PySem.W.keepIn K (.ref f__law_digits) = true)
    (a__law_draw : PySem.W.nsIn K mainGlobals "_law_draw" = some (some (.ref f__law_draw)))
    (l__law_draw : K.lookup f__law_draw = some ⟨oc__law_draw, od__law_draw, .func (PySem.W.fnOf "_law_draw" "_law_draw" (defArgs s__law_draw) (defBody s__law_draw) (defScope s__law_draw) .none kV__law_draw dc__law_draw pm__law_draw an__law_draw cd__law_draw ct__law_draw), sl__law_draw⟩)
    (c__law_draw : PySem.W.codeIn K cd__law_draw "_law_draw" = true)
    (k__law_draw : PySem.W.keepIn K (.ref f__law_draw) = true)
    (a__law_job : PySem.W.nsIn K mainGlobals "_law_job" = some (some (.ref f__law_job)))
    (l__law_job : K.lookup f__law_job = some ⟨oc__law_job, od__law_job, .func (PySem.W.fnOf "_law_job" "_law_job" (defArgs s__law_job) (defBody s__law_job) (defScope s__law_job) .none kV__law_job dc__law_job pm__law_job an__law_job cd__law_job ct__law_job), sl__law_job⟩)
    (c__law_job : PySem.W.codeIn K cd__law_job "_law_job" = true)
    (k__law_job : PySem.W.keepIn K (.ref f__law_job) = true)
    (a__law_whole : PySem.W.nsIn K mainGlobals "_law_whole" = some (some (.ref f__law_whole)))
    (l__law_whole : K.lookup f__law_whole = some ⟨oc__law_whole, od__law_whole, .func (PySem.W.fnOf "_law_whole" "_law_whole" (defArgs s__law_whole) (defBody s__law_whole) (defScope s__law_whole) .none kV__law_whole dc__law_whole pm__law_whole an__law_whole cd__law_whole ct__law_whole), sl__law_whole⟩)
    (c__law_whole : PySem.W.codeIn K cd__law_whole "_law_whole" = true)
    (k__law_whole : PySem.W.keepIn K (.ref f__law_whole) = true)
    (a__law_plan : PySem.W.nsIn K mainGlobals "_law_plan" = some (some (.ref f__law_plan)))
    (l__law_plan : K.lookup f__law_plan = some ⟨oc__law_plan, od__law_plan, .func (PySem.W.fnOf "_law_plan" "_law_plan" (defArgs s__law_plan) (defBody s__law_plan) (defScope s__law_plan) .none kV__law_plan dc__law_plan pm__law_plan an__law_plan cd__law_plan ct__law_plan), sl__law_plan⟩)
    (c__law_plan : PySem.W.codeIn K cd__law_plan "_law_plan" = true)
    (k__law_plan : PySem.W.keepIn K (.ref f__law_plan) = true)
    (a__law_job_tokens : PySem.W.nsIn K mainGlobals "_law_job_tokens" = some (some (.ref f__law_job_tokens)))
    (l__law_job_tokens : K.lookup f__law_job_tokens = some ⟨oc__law_job_tokens, od__law_job_tokens, .func (PySem.W.fnOf "_law_job_tokens" "_law_job_tokens" (defArgs s__law_job_tokens) (defBody s__law_job_tokens) (defScope s__law_job_tokens) .none kV__law_job_tokens dc__law_job_tokens pm__law_job_tokens an__law_job_tokens cd__law_job_tokens ct__law_job_tokens), sl__law_job_tokens⟩)
    (c__law_job_tokens : PySem.W.codeIn K cd__law_job_tokens "_law_job_tokens" = true)
    (k__law_job_tokens : PySem.W.keepIn K (.ref f__law_job_tokens) = true)
    (a__law_node_tokens : PySem.W.nsIn K mainGlobals "_law_node_tokens" = some (some (.ref f__law_node_tokens)))
    (l__law_node_tokens : K.lookup f__law_node_tokens = some ⟨oc__law_node_tokens, od__law_node_tokens, .func (PySem.W.fnOf "_law_node_tokens" "_law_node_tokens" (defArgs s__law_node_tokens) (defBody s__law_node_tokens) (defScope s__law_node_tokens) .none kV__law_node_tokens dc__law_node_tokens pm__law_node_tokens an__law_node_tokens cd__law_node_tokens ct__law_node_tokens), sl__law_node_tokens⟩)
    (c__law_node_tokens : PySem.W.codeIn K cd__law_node_tokens "_law_node_tokens" = true)
    (k__law_node_tokens : PySem.W.keepIn K (.ref f__law_node_tokens) = true)
    (a__law_plan_tokens : PySem.W.nsIn K mainGlobals "_law_plan_tokens" = some (some (.ref f__law_plan_tokens)))
    (l__law_plan_tokens : K.lookup f__law_plan_tokens = some ⟨oc__law_plan_tokens, od__law_plan_tokens, .func (PySem.W.fnOf "_law_plan_tokens" "_law_plan_tokens" (defArgs s__law_plan_tokens) (defBody s__law_plan_tokens) (defScope s__law_plan_tokens) .none kV__law_plan_tokens dc__law_plan_tokens pm__law_plan_tokens an__law_plan_tokens cd__law_plan_tokens ct__law_plan_tokens), sl__law_plan_tokens⟩)
    (c__law_plan_tokens : PySem.W.codeIn K cd__law_plan_tokens "_law_plan_tokens" = true)
    (k__law_plan_tokens : PySem.W.keepIn K (.ref f__law_plan_tokens) = true)
    (a__law_plain : PySem.W.nsIn K mainGlobals "_law_plain" = some (some (.ref f__law_plain)))
    (l__law_plain : K.lookup f__law_plain = some ⟨oc__law_plain, od__law_plain, .func (PySem.W.fnOf "_law_plain" "_law_plain" (defArgs s__law_plain) (defBody s__law_plain) (defScope s__law_plain) .none kV__law_plain dc__law_plain pm__law_plain an__law_plain cd__law_plain ct__law_plain), sl__law_plain⟩)
    (c__law_plain : PySem.W.codeIn K cd__law_plain "_law_plain" = true)
    (k__law_plain : PySem.W.keepIn K (.ref f__law_plain) = true)
    (a__law_lay : PySem.W.nsIn K mainGlobals "_law_lay" = some (some (.ref f__law_lay)))
    (l__law_lay : K.lookup f__law_lay = some ⟨oc__law_lay, od__law_lay, .func (PySem.W.fnOf "_law_lay" "_law_lay" (defArgs s__law_lay) (defBody s__law_lay) (defScope s__law_lay) .none kV__law_lay dc__law_lay pm__law_lay an__law_lay cd__law_lay ct__law_lay), sl__law_lay⟩)
    (c__law_lay : PySem.W.codeIn K cd__law_lay "_law_lay" = true)
    (k__law_lay : PySem.W.keepIn K (.ref f__law_lay) = true)
    (a__law_told : PySem.W.nsIn K mainGlobals "_law_told" = some (some (.ref f__law_told)))
    (l__law_told : K.lookup f__law_told = some ⟨oc__law_told, od__law_told, .func (PySem.W.fnOf "_law_told" "_law_told" (defArgs s__law_told) (defBody s__law_told) (defScope s__law_told) .none kV__law_told dc__law_told pm__law_told an__law_told cd__law_told ct__law_told), sl__law_told⟩)
    (c__law_told : PySem.W.codeIn K cd__law_told "_law_told" = true)
    (k__law_told : PySem.W.keepIn K (.ref f__law_told) = true)
    (a__law_long : PySem.W.nsIn K mainGlobals "_law_long" = some (some (.ref f__law_long)))
    (l__law_long : K.lookup f__law_long = some ⟨oc__law_long, od__law_long, .func (PySem.W.fnOf "_law_long" "_law_long" (defArgs s__law_long) (defBody s__law_long) (defScope s__law_long) .none kV__law_long dc__law_long pm__law_long an__law_long cd__law_long ct__law_long), sl__law_long⟩)
    (c__law_long : PySem.W.codeIn K cd__law_long "_law_long" = true)
    (k__law_long : PySem.W.keepIn K (.ref f__law_long) = true)
    (a__law_end : PySem.W.nsIn K mainGlobals "_law_end" = some (some (.ref f__law_end)))
    (l__law_end : K.lookup f__law_end = some ⟨oc__law_end, od__law_end, .func (PySem.W.fnOf "_law_end" "_law_end" (defArgs s__law_end) (defBody s__law_end) (defScope s__law_end) .none kV__law_end dc__law_end pm__law_end an__law_end cd__law_end ct__law_end), sl__law_end⟩)
    (c__law_end : PySem.W.codeIn K cd__law_end "_law_end" = true)
    (k__law_end : PySem.W.keepIn K (.ref f__law_end) = true)
    (a__law_wrong : PySem.W.nsIn K mainGlobals "_law_wrong" = some (some (.ref f__law_wrong)))
    (l__law_wrong : K.lookup f__law_wrong = some ⟨oc__law_wrong, od__law_wrong, .func (PySem.W.fnOf "_law_wrong" "_law_wrong" (defArgs s__law_wrong) (defBody s__law_wrong) (defScope s__law_wrong) .none kV__law_wrong dc__law_wrong pm__law_wrong an__law_wrong cd__law_wrong ct__law_wrong), sl__law_wrong⟩)
    (c__law_wrong : PySem.W.codeIn K cd__law_wrong "_law_wrong" = true)
    (k__law_wrong : PySem.W.keepIn K (.ref f__law_wrong) = true)
    (a_law : PySem.W.nsIn K mainGlobals "law" = some (some (.ref f_law)))
    (l_law : K.lookup f_law = some ⟨oc_law, od_law, .func (PySem.W.fnOf "law" "law" (defArgs s_law) (defBody s_law) (defScope s_law) .none kV_law dc_law pm_law an_law cd_law ct_law), sl_law⟩)
    (c_law : PySem.W.codeIn K cd_law "law" = true)
    (k_law : PySem.W.keepIn K (.ref f_law) = true)
    (a_Reader_word : PySem.W.findIn K (.ref CR) "word" = some (some (.ref f_Reader_word)))
    (i_Reader_word : PySem.W.isFn K (.ref f_Reader_word) = true)
    (l_Reader_word : K.lookup f_Reader_word = some ⟨oc_Reader_word, od_Reader_word, .func (PySem.W.fnOf "word" "Reader.word" (defArgs s_Reader_word) (defBody s_Reader_word) (defScope s_Reader_word) .none kV_Reader_word dc_Reader_word pm_Reader_word an_Reader_word cd_Reader_word ct_Reader_word), sl_Reader_word⟩)
    (c_Reader_word : PySem.W.codeIn K cd_Reader_word "Reader.word" = true)
    (k_Reader_word : PySem.W.keepIn K (.ref f_Reader_word) = true)
    (a_Reader_refuse : PySem.W.findIn K (.ref CR) "refuse" = some (some (.ref f_Reader_refuse)))
    (i_Reader_refuse : PySem.W.isFn K (.ref f_Reader_refuse) = true)
    (l_Reader_refuse : K.lookup f_Reader_refuse = some ⟨oc_Reader_refuse, od_Reader_refuse, .func (PySem.W.fnOf "refuse" "Reader.refuse" (defArgs s_Reader_refuse) (defBody s_Reader_refuse) (defScope s_Reader_refuse) .none kV_Reader_refuse dc_Reader_refuse pm_Reader_refuse an_Reader_refuse cd_Reader_refuse ct_Reader_refuse), sl_Reader_refuse⟩)
    (c_Reader_refuse : PySem.W.codeIn K cd_Reader_refuse "Reader.refuse" = true)
    (k_Reader_refuse : PySem.W.keepIn K (.ref f_Reader_refuse) = true)
    (a_Reader_expect : PySem.W.findIn K (.ref CR) "expect" = some (some (.ref f_Reader_expect)))
    (i_Reader_expect : PySem.W.isFn K (.ref f_Reader_expect) = true)
    (l_Reader_expect : K.lookup f_Reader_expect = some ⟨oc_Reader_expect, od_Reader_expect, .func (PySem.W.fnOf "expect" "Reader.expect" (defArgs s_Reader_expect) (defBody s_Reader_expect) (defScope s_Reader_expect) .none kV_Reader_expect dc_Reader_expect pm_Reader_expect an_Reader_expect cd_Reader_expect ct_Reader_expect), sl_Reader_expect⟩)
    (c_Reader_expect : PySem.W.codeIn K cd_Reader_expect "Reader.expect" = true)
    (k_Reader_expect : PySem.W.keepIn K (.ref f_Reader_expect) = true)
    (a_Reader_number : PySem.W.findIn K (.ref CR) "number" = some (some (.ref f_Reader_number)))
    (i_Reader_number : PySem.W.isFn K (.ref f_Reader_number) = true)
    (l_Reader_number : K.lookup f_Reader_number = some ⟨oc_Reader_number, od_Reader_number, .func (PySem.W.fnOf "number" "Reader.number" (defArgs s_Reader_number) (defBody s_Reader_number) (defScope s_Reader_number) .none kV_Reader_number dc_Reader_number pm_Reader_number an_Reader_number cd_Reader_number ct_Reader_number), sl_Reader_number⟩)
    (c_Reader_number : PySem.W.codeIn K cd_Reader_number "Reader.number" = true)
    (k_Reader_number : PySem.W.keepIn K (.ref f_Reader_number) = true)
    (a_Reader_begin : PySem.W.findIn K (.ref CR) "begin" = some (some (.ref f_Reader_begin)))
    (i_Reader_begin : PySem.W.isFn K (.ref f_Reader_begin) = true)
    (l_Reader_begin : K.lookup f_Reader_begin = some ⟨oc_Reader_begin, od_Reader_begin, .func (PySem.W.fnOf "begin" "Reader.begin" (defArgs s_Reader_begin) (defBody s_Reader_begin) (defScope s_Reader_begin) .none kV_Reader_begin dc_Reader_begin pm_Reader_begin an_Reader_begin cd_Reader_begin ct_Reader_begin), sl_Reader_begin⟩)
    (c_Reader_begin : PySem.W.codeIn K cd_Reader_begin "Reader.begin" = true)
    (k_Reader_begin : PySem.W.keepIn K (.ref f_Reader_begin) = true)
    (a_Reader_close : PySem.W.findIn K (.ref CR) "close" = some (some (.ref f_Reader_close)))
    (i_Reader_close : PySem.W.isFn K (.ref f_Reader_close) = true)
    (l_Reader_close : K.lookup f_Reader_close = some ⟨oc_Reader_close, od_Reader_close, .func (PySem.W.fnOf "close" "Reader.close" (defArgs s_Reader_close) (defBody s_Reader_close) (defScope s_Reader_close) .none kV_Reader_close dc_Reader_close pm_Reader_close an_Reader_close cd_Reader_close ct_Reader_close), sl_Reader_close⟩)
    (c_Reader_close : PySem.W.codeIn K cd_Reader_close "Reader.close" = true)
    (k_Reader_close : PySem.W.keepIn K (.ref f_Reader_close) = true)
    (a_Reader_job : PySem.W.findIn K (.ref CR) "job" = some (some (.ref f_Reader_job)))
    (i_Reader_job : PySem.W.isFn K (.ref f_Reader_job) = true)
    (l_Reader_job : K.lookup f_Reader_job = some ⟨oc_Reader_job, od_Reader_job, .func (PySem.W.fnOf "job" "Reader.job" (defArgs s_Reader_job) (defBody s_Reader_job) (defScope s_Reader_job) .none kV_Reader_job dc_Reader_job pm_Reader_job an_Reader_job cd_Reader_job ct_Reader_job), sl_Reader_job⟩)
    (c_Reader_job : PySem.W.codeIn K cd_Reader_job "Reader.job" = true)
    (k_Reader_job : PySem.W.keepIn K (.ref f_Reader_job) = true)
    (a_Reader_check_more : PySem.W.findIn K (.ref CR) "check_more" = some (some (.ref f_Reader_check_more)))
    (i_Reader_check_more : PySem.W.isFn K (.ref f_Reader_check_more) = true)
    (l_Reader_check_more : K.lookup f_Reader_check_more = some ⟨oc_Reader_check_more, od_Reader_check_more, .func (PySem.W.fnOf "check_more" "Reader.check_more" (defArgs s_Reader_check_more) (defBody s_Reader_check_more) (defScope s_Reader_check_more) .none kV_Reader_check_more dc_Reader_check_more pm_Reader_check_more an_Reader_check_more cd_Reader_check_more ct_Reader_check_more), sl_Reader_check_more⟩)
    (c_Reader_check_more : PySem.W.codeIn K cd_Reader_check_more "Reader.check_more" = true)
    (k_Reader_check_more : PySem.W.keepIn K (.ref f_Reader_check_more) = true)
    (a_Reader_parts : PySem.W.findIn K (.ref CR) "parts" = some (some (.ref f_Reader_parts)))
    (i_Reader_parts : PySem.W.isFn K (.ref f_Reader_parts) = true)
    (l_Reader_parts : K.lookup f_Reader_parts = some ⟨oc_Reader_parts, od_Reader_parts, .func (PySem.W.fnOf "parts" "Reader.parts" (defArgs s_Reader_parts) (defBody s_Reader_parts) (defScope s_Reader_parts) .none kV_Reader_parts dc_Reader_parts pm_Reader_parts an_Reader_parts cd_Reader_parts ct_Reader_parts), sl_Reader_parts⟩)
    (c_Reader_parts : PySem.W.codeIn K cd_Reader_parts "Reader.parts" = true)
    (k_Reader_parts : PySem.W.keepIn K (.ref f_Reader_parts) = true)
    (a_Reader_lead : PySem.W.findIn K (.ref CR) "lead" = some (some (.ref f_Reader_lead)))
    (i_Reader_lead : PySem.W.isFn K (.ref f_Reader_lead) = true)
    (l_Reader_lead : K.lookup f_Reader_lead = some ⟨oc_Reader_lead, od_Reader_lead, .func (PySem.W.fnOf "lead" "Reader.lead" (defArgs s_Reader_lead) (defBody s_Reader_lead) (defScope s_Reader_lead) .none kV_Reader_lead dc_Reader_lead pm_Reader_lead an_Reader_lead cd_Reader_lead ct_Reader_lead), sl_Reader_lead⟩)
    (c_Reader_lead : PySem.W.codeIn K cd_Reader_lead "Reader.lead" = true)
    (k_Reader_lead : PySem.W.keepIn K (.ref f_Reader_lead) = true)
    (a_Reader_plan : PySem.W.findIn K (.ref CR) "plan" = some (some (.ref f_Reader_plan)))
    (i_Reader_plan : PySem.W.isFn K (.ref f_Reader_plan) = true)
    (l_Reader_plan : K.lookup f_Reader_plan = some ⟨oc_Reader_plan, od_Reader_plan, .func (PySem.W.fnOf "plan" "Reader.plan" (defArgs s_Reader_plan) (defBody s_Reader_plan) (defScope s_Reader_plan) .none kV_Reader_plan dc_Reader_plan pm_Reader_plan an_Reader_plan cd_Reader_plan ct_Reader_plan), sl_Reader_plan⟩)
    (c_Reader_plan : PySem.W.codeIn K cd_Reader_plan "Reader.plan" = true)
    (k_Reader_plan : PySem.W.keepIn K (.ref f_Reader_plan) = true)
    (a_Reader_finish : PySem.W.findIn K (.ref CR) "finish" = some (some (.ref f_Reader_finish)))
    (i_Reader_finish : PySem.W.isFn K (.ref f_Reader_finish) = true)
    (l_Reader_finish : K.lookup f_Reader_finish = some ⟨oc_Reader_finish, od_Reader_finish, .func (PySem.W.fnOf "finish" "Reader.finish" (defArgs s_Reader_finish) (defBody s_Reader_finish) (defScope s_Reader_finish) .none kV_Reader_finish dc_Reader_finish pm_Reader_finish an_Reader_finish cd_Reader_finish ct_Reader_finish), sl_Reader_finish⟩)
    (c_Reader_finish : PySem.W.codeIn K cd_Reader_finish "Reader.finish" = true)
    (k_Reader_finish : PySem.W.keepIn K (.ref f_Reader_finish) = true)
    (a_Reader__init_ : PySem.W.findIn K (.ref CR) "__init__" = some (some (.ref fR)))
    (i_Reader__init_ : PySem.W.isFn K (.ref fR) = true)
    (l_Reader__init_ : K.lookup fR = some ⟨oc_Reader__init_, od_Reader__init_, .func (PySem.W.fnOf "__init__" "Reader.__init__" (defArgs s_Reader__init_) (defBody s_Reader__init_) (defScope s_Reader__init_) .none kV_Reader__init_ dc_Reader__init_ pm_Reader__init_ an_Reader__init_ cd_Reader__init_ ct_Reader__init_), sl_Reader__init_⟩)
    (c_Reader__init_ : PySem.W.codeIn K cd_Reader__init_ "Reader.__init__" = true)
    (k_Reader__init_ : PySem.W.keepIn K (.ref fR) = true)
    (a_TextFault__init_ : PySem.W.findIn K (.ref CT) "__init__" = some (some (.ref fT)))
    (i_TextFault__init_ : PySem.W.isFn K (.ref fT) = true)
    (l_TextFault__init_ : K.lookup fT = some ⟨oc_TextFault__init_, od_TextFault__init_, .func (PySem.W.fnOf "__init__" "TextFault.__init__" (defArgs s_TextFault__init_) (defBody s_TextFault__init_) (defScope s_TextFault__init_) .none kV_TextFault__init_ dc_TextFault__init_ pm_TextFault__init_ an_TextFault__init_ cd_TextFault__init_ ct_TextFault__init_), sl_TextFault__init_⟩)
    (c_TextFault__init_ : PySem.W.codeIn K cd_TextFault__init_ "TextFault.__init__" = true)
    (k_TextFault__init_ : PySem.W.keepIn K (.ref fT) = true)
    (t_TextFault__init_ : PySem.W.typeIn K (.ref fT) = some (.type "function"))
    (a_OutOfRange__init_ : PySem.W.findIn K (.ref CO) "__init__" = some (some (.ref fO)))
    (i_OutOfRange__init_ : PySem.W.isFn K (.ref fO) = true)
    (l_OutOfRange__init_ : K.lookup fO = some ⟨oc_OutOfRange__init_, od_OutOfRange__init_, .func (PySem.W.fnOf "__init__" "OutOfRange.__init__" (defArgs s_OutOfRange__init_) (defBody s_OutOfRange__init_) (defScope s_OutOfRange__init_) .none kV_OutOfRange__init_ dc_OutOfRange__init_ pm_OutOfRange__init_ an_OutOfRange__init_ cd_OutOfRange__init_ ct_OutOfRange__init_), sl_OutOfRange__init_⟩)
    (c_OutOfRange__init_ : PySem.W.codeIn K cd_OutOfRange__init_ "OutOfRange.__init__" = true)
    (k_OutOfRange__init_ : PySem.W.keepIn K (.ref fO) = true)
    (t_OutOfRange__init_ : PySem.W.typeIn K (.ref fO) = some (.type "function"))
    (r_pg : PySem.W.plainGet K CR Str.empty = true)
    (r_hd : PySem.W.hasDictIn K CR = true)
    (r_po : PySem.W.plainOver K CR = true)
    (r_sa : PySem.W.findIn K (.ref CR) "__setattr__" = some (some (.builtin "object.__setattr__")))
    (r_mk : PySem.W.makesIn K CR = true)
    (r_kc : PySem.W.keepIn K (.ref CR) = true)
    (r_n1 : PySem.W.findIn K (.ref CR) "_tokens" = some none)
    (r_n2 : PySem.W.findIn K (.ref CR) "_at" = some none)
    (r_n3 : PySem.W.findIn K (.ref CR) "_begun" = some none)
    (r_n4 : PySem.W.findIn K (.ref CR) "nodes" = some none)
    (xCT : K.lookup CT = some (excClassObj nmCT qCT CT NCT bsCT [.ref CF, .type "ValueError", .type "Exception", .type "BaseException", .type "object"] true snCT subCT abCT colCT ddCT m0CT m1CT m2CT m3CT m5CT "ValueError.__new__"))
    (saCT : PySem.W.findIn K (.ref CT) "__setattr__" = some (some (.builtin "object.__setattr__")))
    (gaCT : PySem.W.findIn K (.ref CT) "__getattribute__" = some (some (.builtin "BaseException.__getattribute__")))
    (ggCT : PySem.W.findIn K (.ref CT) "__getattr__" = some none)
    (haCT : PySem.W.findIn K (.ref CT) "__class__" = some (some (.builtin "object.__class__")))
    (kCCT : PySem.W.keepIn K (.ref CT) = true)
    (eCCT : PySem.W.subIn K (.ref CT) (.type "BaseException") = some true)
    (tCCT : PySem.W.typeIn K (.ref CT) = some (.type "type"))
    (hCCT : PySem.W.hasDictIn K CT = true)
    (iCCT : PySem.W.isClsIn K CT = true)
    (oCCT : PySem.W.mroIn K CT (.type "object") = some true)
    (sCT : PySem.W.subIn K (.ref CT) (.ref CT) = some true)
    (xCO : K.lookup CO = some (excClassObj nmCO qCO CO NCO bsCO [.ref CF, .type "ValueError", .type "Exception", .type "BaseException", .type "object"] true snCO subCO abCO colCO ddCO m0CO m1CO m2CO m3CO m5CO "ValueError.__new__"))
    (saCO : PySem.W.findIn K (.ref CO) "__setattr__" = some (some (.builtin "object.__setattr__")))
    (gaCO : PySem.W.findIn K (.ref CO) "__getattribute__" = some (some (.builtin "BaseException.__getattribute__")))
    (ggCO : PySem.W.findIn K (.ref CO) "__getattr__" = some none)
    (haCO : PySem.W.findIn K (.ref CO) "__class__" = some (some (.builtin "object.__class__")))
    (kCCO : PySem.W.keepIn K (.ref CO) = true)
    (eCCO : PySem.W.subIn K (.ref CO) (.type "BaseException") = some true)
    (tCCO : PySem.W.typeIn K (.ref CO) = some (.type "type"))
    (hCCO : PySem.W.hasDictIn K CO = true)
    (iCCO : PySem.W.isClsIn K CO = true)
    (oCCO : PySem.W.mroIn K CO (.type "object") = some true)
    (sCO : PySem.W.subIn K (.ref CO) (.ref CO) = some true)
    (eCF : PySem.W.subIn K (.ref CF) (.type "BaseException") = some true)
    (iCF : PySem.W.isClsIn K CF = true)
    (tCF : PySem.W.typeIn K (.ref CF) = some (.type "type"))
    (sTF : PySem.W.subIn K (.ref CT) (.ref CF) = some true)
    (sTO : PySem.W.subIn K (.ref CT) (.ref CO) = some false)
    (hn : PySem.W.specialIn K (.builtin "object.__class__") "__get__" = some (some (.builtin "getset_descriptor.__get__")))
    (ht : PySem.W.takesIn K (.builtin "object.__class__") = some true)
    (n_line : PySem.W.findIn K (.ref CT) "line" = some none)
    (n_column : PySem.W.findIn K (.ref CT) "column" = some none)
    (n_words : PySem.W.findIn K (.ref CT) "words" = some none)
    (n_name : PySem.W.findIn K (.ref CO) "name" = some none) :
    ∃ fd : FuncData, (∀ (s : Shared) (v : Value), BindsTo s fd ⟨[v], []⟩ [("_law_script", v)]) ∧ ∀ base : Heap, K.In base → base.Ns mainGlobals mg → FnOk l.prog w K mg base CX0 26 fa fd ["_law_script"] (spLaw K) := by
  have e := hfa.symm.trans (PySem.W.mg_of X G a_law)
  cases e
  have T : Txt K mg CR CT CO CF WA fR fT fO := {
    gNODES_MOST := ⟨_, PySem.W.mg_of X G g_NODES_MOST, ⟨_, rfl⟩⟩,
    gDEPTH_MOST := ⟨_, PySem.W.mg_of X G g_DEPTH_MOST, ⟨_, rfl⟩⟩,
    gRUNS_MOST := ⟨_, PySem.W.mg_of X G g_RUNS_MOST, ⟨_, rfl⟩⟩,
    gPARTS_MOST := ⟨_, PySem.W.mg_of X G g_PARTS_MOST, ⟨_, rfl⟩⟩,
    gDURATION_MOST := ⟨_, PySem.W.mg_of X G g_DURATION_MOST, ⟨_, rfl⟩⟩,
    gVALUE_MOST := ⟨_, PySem.W.mg_of X G g_VALUE_MOST, ⟨_, rfl⟩⟩,
    gCLEANUP_MOST := ⟨_, PySem.W.mg_of X G g_CLEANUP_MOST, ⟨_, rfl⟩⟩,
    gSIZE_MOST := ⟨_, PySem.W.mg_of X G g_SIZE_MOST, ⟨_, rfl⟩⟩,
    gTICKS_MOST := ⟨_, PySem.W.mg_of X G g_TICKS_MOST, ⟨_, rfl⟩⟩,
    gRETRIES_MOST := ⟨_, PySem.W.mg_of X G g_RETRIES_MOST, ⟨_, rfl⟩⟩,
    gDELAY_MOST := ⟨_, PySem.W.mg_of X G g_DELAY_MOST, ⟨_, rfl⟩⟩,
    gSOURCE_MOST := ⟨_, PySem.W.mg_of X G g_SOURCE_MOST, ⟨_, rfl⟩⟩,
    gLETTERS := ⟨_, PySem.W.mg_of X G g_LETTERS, ⟨_, rfl⟩⟩,
    gDIGITS := ⟨_, PySem.W.mg_of X G g_DIGITS, ⟨_, rfl⟩⟩,
    gWORDS := ⟨_, PySem.W.mg_of X G aWA, rfl⟩,
    words := fun H => .inr ⟨_, _, _, lWA, rfl, rfl, (by show 9 ≤ sizeLine; decide), (.cons ⟨_, rfl⟩ (.cons ⟨_, rfl⟩ (.cons ⟨_, rfl⟩ (.cons ⟨_, rfl⟩ (.cons ⟨_, rfl⟩ (.cons ⟨_, rfl⟩ (.cons ⟨_, rfl⟩ (.cons ⟨_, rfl⟩ (.cons ⟨_, rfl⟩ .nil)))))))))⟩,
    gReader := PySem.W.mg_of X G aCR,
    gTextFault := PySem.W.mg_of X G aCT,
    gOutOfRange := PySem.W.mg_of X G aCO,
    gForetoldError := PySem.W.mg_of X G aCF,
    n_len := PySem.W.mg_none_of X G z_len,
    n_min := PySem.W.mg_none_of X G z_min,
    n_max := PySem.W.mg_none_of X G z_max,
    n_sum := PySem.W.mg_none_of X G z_sum,
    n_int := PySem.W.mg_none_of X G z_int,
    n_str := PySem.W.mg_none_of X G z_str,
    n_tuple := PySem.W.mg_none_of X G z_tuple,
    n_range := PySem.W.mg_none_of X G z_range,
    n_isinstance := PySem.W.mg_none_of X G z_isinstance,
    cl := ⟨r_pg, r_hd, r_po, r_sa⟩,
    rdMk := ⟨r_mk, a_Reader__init_, i_Reader__init_, r_kc⟩,
    rdFn := ⟨_, fun_mk l_Reader__init_ c_Reader__init_ k_Reader__init_⟩,
    a_tokens := r_n1,
    a_at := r_n2,
    a_begun := r_n3,
    a_nodes := r_n4,
    tf := { ox := ⟨⟨_, _, _, _, _, _, _, _, _, _, _, _, _, _, _, xCT, by rfl⟩, saCT, eCCT, tCCT, kCCT⟩, iC := a_TextFault__init_, tI := t_TextFault__init_, fn := ⟨_, fun_mk l_TextFault__init_ c_TextFault__init_ k_TextFault__init_⟩, ex := ⟨iCCT, gaCT, ggCT, eCCT, haCT, hn, ht, oCCT⟩, xf := ⟨gaCT, ggCT, eCCT, hCCT⟩ },
    of := { ox := ⟨⟨_, _, _, _, _, _, _, _, _, _, _, _, _, _, _, xCO, by rfl⟩, saCO, eCCO, tCCO, kCCO⟩, iC := a_OutOfRange__init_, tI := t_OutOfRange__init_, fn := ⟨_, fun_mk l_OutOfRange__init_ c_OutOfRange__init_ k_OutOfRange__init_⟩, ex := ⟨iCCO, gaCO, ggCO, eCCO, haCO, hn, ht, oCCO⟩, xf := ⟨gaCO, ggCO, eCCO, hCCO⟩ },
    n_line := n_line,
    n_column := n_column,
    n_words := n_words,
    n_name := n_name,
    isT := kit_self,
    isO := kit_not sCO iCCO tCCO sTO,
    exT := exm_sub eCF iCF tCF sTF,
    exO := exm_sub eCCO iCCO tCCO sCO,
    dparts_of := ⟨_, _, fun_mk l_parts_of c_parts_of k_parts_of, PySem.W.mg_of X G a_parts_of⟩,
    djob_runs := ⟨_, _, fun_mk l_job_runs c_job_runs k_job_runs, PySem.W.mg_of X G a_job_runs⟩,
    d_run_end := ⟨_, _, fun_mk l__run_end c__run_end k__run_end, PySem.W.mg_of X G a__run_end⟩,
    d_split := ⟨_, _, fun_mk l__split c__split k__split, PySem.W.mg_of X G a__split⟩,
    dread_plan := ⟨_, _, fun_mk l_read_plan c_read_plan k_read_plan, PySem.W.mg_of X G a_read_plan⟩,
    d_law_cell := ⟨_, _, fun_mk l__law_cell c__law_cell k__law_cell, PySem.W.mg_of X G a__law_cell⟩,
    d_law_digits := ⟨_, _, fun_mk l__law_digits c__law_digits k__law_digits, PySem.W.mg_of X G a__law_digits⟩,
    d_law_draw := ⟨_, _, fun_mk l__law_draw c__law_draw k__law_draw, PySem.W.mg_of X G a__law_draw⟩,
    d_law_job := ⟨_, _, fun_mk l__law_job c__law_job k__law_job, PySem.W.mg_of X G a__law_job⟩,
    d_law_whole := ⟨_, _, fun_mk l__law_whole c__law_whole k__law_whole, PySem.W.mg_of X G a__law_whole⟩,
    d_law_plan := ⟨_, _, fun_mk l__law_plan c__law_plan k__law_plan, PySem.W.mg_of X G a__law_plan⟩,
    d_law_job_tokens := ⟨_, _, fun_mk l__law_job_tokens c__law_job_tokens k__law_job_tokens, PySem.W.mg_of X G a__law_job_tokens⟩,
    d_law_node_tokens := ⟨_, _, fun_mk l__law_node_tokens c__law_node_tokens k__law_node_tokens, PySem.W.mg_of X G a__law_node_tokens⟩,
    d_law_plan_tokens := ⟨_, _, fun_mk l__law_plan_tokens c__law_plan_tokens k__law_plan_tokens, PySem.W.mg_of X G a__law_plan_tokens⟩,
    d_law_plain := ⟨_, _, fun_mk l__law_plain c__law_plain k__law_plain, PySem.W.mg_of X G a__law_plain⟩,
    d_law_lay := ⟨_, _, fun_mk l__law_lay c__law_lay k__law_lay, PySem.W.mg_of X G a__law_lay⟩,
    d_law_told := ⟨_, _, fun_mk l__law_told c__law_told k__law_told, PySem.W.mg_of X G a__law_told⟩,
    d_law_long := ⟨_, _, fun_mk l__law_long c__law_long k__law_long, PySem.W.mg_of X G a__law_long⟩,
    d_law_end := ⟨_, _, fun_mk l__law_end c__law_end k__law_end, PySem.W.mg_of X G a__law_end⟩,
    d_law_wrong := ⟨_, _, fun_mk l__law_wrong c__law_wrong k__law_wrong, PySem.W.mg_of X G a__law_wrong⟩,
    m_word := ⟨_, _, fun_mk l_Reader_word c_Reader_word k_Reader_word, ⟨a_Reader_word, i_Reader_word, k_Reader_word⟩⟩,
    m_refuse := ⟨_, _, fun_mk l_Reader_refuse c_Reader_refuse k_Reader_refuse, ⟨a_Reader_refuse, i_Reader_refuse, k_Reader_refuse⟩⟩,
    m_expect := ⟨_, _, fun_mk l_Reader_expect c_Reader_expect k_Reader_expect, ⟨a_Reader_expect, i_Reader_expect, k_Reader_expect⟩⟩,
    m_number := ⟨_, _, fun_mk l_Reader_number c_Reader_number k_Reader_number, ⟨a_Reader_number, i_Reader_number, k_Reader_number⟩⟩,
    m_begin := ⟨_, _, fun_mk l_Reader_begin c_Reader_begin k_Reader_begin, ⟨a_Reader_begin, i_Reader_begin, k_Reader_begin⟩⟩,
    m_close := ⟨_, _, fun_mk l_Reader_close c_Reader_close k_Reader_close, ⟨a_Reader_close, i_Reader_close, k_Reader_close⟩⟩,
    m_job := ⟨_, _, fun_mk l_Reader_job c_Reader_job k_Reader_job, ⟨a_Reader_job, i_Reader_job, k_Reader_job⟩⟩,
    m_check_more := ⟨_, _, fun_mk l_Reader_check_more c_Reader_check_more k_Reader_check_more, ⟨a_Reader_check_more, i_Reader_check_more, k_Reader_check_more⟩⟩,
    m_parts := ⟨_, _, fun_mk l_Reader_parts c_Reader_parts k_Reader_parts, ⟨a_Reader_parts, i_Reader_parts, k_Reader_parts⟩⟩,
    m_lead := ⟨_, _, fun_mk l_Reader_lead c_Reader_lead k_Reader_lead, ⟨a_Reader_lead, i_Reader_lead, k_Reader_lead⟩⟩,
    m_plan := ⟨_, _, fun_mk l_Reader_plan c_Reader_plan k_Reader_plan, ⟨a_Reader_plan, i_Reader_plan, k_Reader_plan⟩⟩,
    m_finish := ⟨_, _, fun_mk l_Reader_finish c_Reader_finish k_Reader_finish, ⟨a_Reader_finish, i_Reader_finish, k_Reader_finish⟩⟩ }
  exact ⟨PySem.W.fnOf "law" "law" (defArgs s_law) (defBody s_law) (defScope s_law) .none kV_law dc_law pm_law an_law cd_law ct_law, fun s v => .of_eq rfl, fun base _ _ => ok_law T (fun_mk l_law c_law k_law)⟩
theorem walk {l : PySem.W.OpenLaw} {q : Program} {loose : List Str} {XP : (Str → Option Value) → Heap → Prop} {YP : World → Heap → Prop} {d : DefRec} {K : Params → PySem.W.Frag} (hn : l.most = some 63) (hdf : d.params.defaults = [])
    (hY : ∀ (w : World) (h : Heap), YP w h → (K w.params).In h)
    (F : ∀ (w : World) (mg : Str → Option Value) (fa : Addr) (h : Heap), (K w.params).In h → h.Ns mainGlobals mg → mg d.name = some (.ref fa) →
      ∃ fd : FuncData, (∀ (s : Shared) (u : Value), BindsTo s fd ⟨[u], []⟩ [("_law_script", u)]) ∧ ∀ base : Heap, (K w.params).In base → base.Ns mainGlobals mg → FnOk l.prog w (K w.params) mg base CX0 26 fa fd ["_law_script"] (spLaw (K w.params))) :
    PySem.W.WalkO q loose XP YP l.row.toRowW d [] (fun f vs => PySem.call f vs) :=
  L2.walk_of (n := 63) (k := 26) (x := "_law_script") (CX := fun _ => CX0) (sp := fun w => spLaw (K w.params)) hn (by decide) hdf ⟨rfl, by decide, by decide⟩ hY F (fun _ _ a ns hl _ hS => ⟨a, ns, rfl, hS, fun _ => rfl⟩) fun _ _ _ _ _ z => z
end K6
open PySem PySem.W PyProof.Rows
set_option maxRecDepth 100000 in
set_option maxHeartbeats 0 in
theorem PySem.Challenge.cw_asforetold_k06_first_fault_of_a_source_holds : PySem.Challenge.rw_asforetold_k06_first_fault_of_a_source.Holds := by
  w_on; o_law; k_head; (case hw => w_witness2)
  k_fill
  refine K6.walk (l := PySem.Challenge.rw_asforetold_k06_first_fault_of_a_source) rfl rfl (fun w h Y => PySem.W.kIn_of Y) ?F
  case F =>
    intro w mg fa h KX G hmg
    refine' K6.all_mk KX G hmg ?aCR ?aCT ?aCO ?aCF ?aWA ?lWA ?g_NODES_MOST ?g_DEPTH_MOST ?g_RUNS_MOST ?g_PARTS_MOST ?g_DURATION_MOST ?g_VALUE_MOST ?g_CLEANUP_MOST ?g_SIZE_MOST ?g_TICKS_MOST ?g_RETRIES_MOST ?g_DELAY_MOST ?g_SOURCE_MOST ?g_LETTERS ?g_DIGITS ?z_len ?z_min ?z_max ?z_sum ?z_int ?z_str ?z_tuple ?z_range ?z_isinstance ?a_parts_of ?l_parts_of ?c_parts_of ?k_parts_of ?a_job_runs ?l_job_runs ?c_job_runs ?k_job_runs ?a__run_end ?l__run_end ?c__run_end ?k__run_end ?a__split ?l__split ?c__split ?k__split ?a_read_plan ?l_read_plan ?c_read_plan ?k_read_plan ?a__law_cell ?l__law_cell ?c__law_cell ?k__law_cell ?a__law_digits ?l__law_digits ?c__law_digits ?k__law_digits ?a__law_draw ?l__law_draw ?c__law_draw ?k__law_draw ?a__law_job ?l__law_job ?c__law_job ?k__law_job ?a__law_whole ?l__law_whole ?c__law_whole ?k__law_whole ?a__law_plan ?l__law_plan ?c__law_plan ?k__law_plan ?a__law_job_tokens ?l__law_job_tokens ?c__law_job_tokens ?k__law_job_tokens ?a__law_node_tokens ?l__law_node_tokens ?c__law_node_tokens ?k__law_node_tokens ?a__law_plan_tokens ?l__law_plan_tokens ?c__law_plan_tokens ?k__law_plan_tokens ?a__law_plain ?l__law_plain ?c__law_plain ?k__law_plain ?a__law_lay ?l__law_lay ?c__law_lay ?k__law_lay ?a__law_told ?l__law_told ?c__law_told ?k__law_told ?a__law_long ?l__law_long ?c__law_long ?k__law_long ?a__law_end ?l__law_end ?c__law_end ?k__law_end ?a__law_wrong ?l__law_wrong ?c__law_wrong ?k__law_wrong ?a_law ?l_law ?c_law ?k_law ?a_Reader_word ?i_Reader_word ?l_Reader_word ?c_Reader_word ?k_Reader_word ?a_Reader_refuse ?i_Reader_refuse ?l_Reader_refuse ?c_Reader_refuse ?k_Reader_refuse ?a_Reader_expect ?i_Reader_expect ?l_Reader_expect ?c_Reader_expect ?k_Reader_expect ?a_Reader_number ?i_Reader_number ?l_Reader_number ?c_Reader_number ?k_Reader_number ?a_Reader_begin ?i_Reader_begin ?l_Reader_begin ?c_Reader_begin ?k_Reader_begin ?a_Reader_close ?i_Reader_close ?l_Reader_close ?c_Reader_close ?k_Reader_close ?a_Reader_job ?i_Reader_job ?l_Reader_job ?c_Reader_job ?k_Reader_job ?a_Reader_check_more ?i_Reader_check_more ?l_Reader_check_more ?c_Reader_check_more ?k_Reader_check_more ?a_Reader_parts ?i_Reader_parts ?l_Reader_parts ?c_Reader_parts ?k_Reader_parts ?a_Reader_lead ?i_Reader_lead ?l_Reader_lead ?c_Reader_lead ?k_Reader_lead ?a_Reader_plan ?i_Reader_plan ?l_Reader_plan ?c_Reader_plan ?k_Reader_plan ?a_Reader_finish ?i_Reader_finish ?l_Reader_finish ?c_Reader_finish ?k_Reader_finish ?a_Reader__init_ ?i_Reader__init_ ?l_Reader__init_ ?c_Reader__init_ ?k_Reader__init_ ?a_TextFault__init_ ?i_TextFault__init_ ?l_TextFault__init_ ?c_TextFault__init_ ?k_TextFault__init_ ?t_TextFault__init_ ?a_OutOfRange__init_ ?i_OutOfRange__init_ ?l_OutOfRange__init_ ?c_OutOfRange__init_ ?k_OutOfRange__init_ ?t_OutOfRange__init_ ?r_pg ?r_hd ?r_po ?r_sa ?r_mk ?r_kc ?r_n1 ?r_n2 ?r_n3 ?r_n4 ?xCT ?saCT ?gaCT ?ggCT ?haCT ?kCCT ?eCCT ?tCCT ?hCCT ?iCCT ?oCCT ?sCT ?xCO ?saCO ?gaCO ?ggCO ?haCO ?kCCO ?eCCO ?tCCO ?hCCO ?iCCO ?oCCO ?sCO ?eCF ?iCF ?tCF ?sTF ?sTO ?hn ?ht ?n_line ?n_column ?n_words ?n_name
    (case aCR => k_is); (case aCT => k_is); (case aCO => k_is); (case aCF => k_is); (case aWA => k_is); (case lWA => k_is); (case g_NODES_MOST => k_is); (case g_DEPTH_MOST => k_is)
    (case g_RUNS_MOST => k_is); (case g_PARTS_MOST => k_is); (case g_DURATION_MOST => k_is); (case g_VALUE_MOST => k_is); (case g_CLEANUP_MOST => k_is); (case g_SIZE_MOST => k_is); (case g_TICKS_MOST => k_is); (case g_RETRIES_MOST => k_is)
    (case g_DELAY_MOST => k_is); (case g_SOURCE_MOST => k_is); (case g_LETTERS => k_is); (case g_DIGITS => k_is); (case z_len => k_is); (case z_min => k_is); (case z_max => k_is); (case z_sum => k_is)
    (case z_int => k_is); (case z_str => k_is); (case z_tuple => k_is); (case z_range => k_is); (case z_isinstance => k_is); (case a_parts_of => k_is); (case l_parts_of => k_is); (case c_parts_of => k_is)
    (case k_parts_of => k_is); (case a_job_runs => k_is); (case l_job_runs => k_is); (case c_job_runs => k_is); (case k_job_runs => k_is); (case a__run_end => k_is); (case l__run_end => k_is); (case c__run_end => k_is)
    (case k__run_end => k_is); (case a__split => k_is); (case l__split => k_is); (case c__split => k_is); (case k__split => k_is); (case a_read_plan => k_is); (case l_read_plan => k_is); (case c_read_plan => k_is)
    (case k_read_plan => k_is); (case a__law_cell => k_is); (case l__law_cell => k_is); (case c__law_cell => k_is); (case k__law_cell => k_is); (case a__law_digits => k_is); (case l__law_digits => k_is); (case c__law_digits => k_is)
    (case k__law_digits => k_is); (case a__law_draw => k_is); (case l__law_draw => k_is); (case c__law_draw => k_is); (case k__law_draw => k_is); (case a__law_job => k_is); (case l__law_job => k_is); (case c__law_job => k_is)
    (case k__law_job => k_is); (case a__law_whole => k_is); (case l__law_whole => k_is); (case c__law_whole => k_is); (case k__law_whole => k_is); (case a__law_plan => k_is); (case l__law_plan => k_is); (case c__law_plan => k_is)
    (case k__law_plan => k_is); (case a__law_job_tokens => k_is); (case l__law_job_tokens => k_is); (case c__law_job_tokens => k_is); (case k__law_job_tokens => k_is); (case a__law_node_tokens => k_is); (case l__law_node_tokens => k_is); (case c__law_node_tokens => k_is)
    (case k__law_node_tokens => k_is); (case a__law_plan_tokens => k_is); (case l__law_plan_tokens => k_is); (case c__law_plan_tokens => k_is); (case k__law_plan_tokens => k_is); (case a__law_plain => k_is); (case l__law_plain => k_is); (case c__law_plain => k_is)
    (case k__law_plain => k_is); (case a__law_lay => k_is); (case l__law_lay => k_is); (case c__law_lay => k_is); (case k__law_lay => k_is); (case a__law_told => k_is); (case l__law_told => k_is); (case c__law_told => k_is)
    (case k__law_told => k_is); (case a__law_long => k_is); (case l__law_long => k_is); (case c__law_long => k_is); (case k__law_long => k_is); (case a__law_end => k_is); (case l__law_end => k_is); (case c__law_end => k_is)
    (case k__law_end => k_is); (case a__law_wrong => k_is); (case l__law_wrong => k_is); (case c__law_wrong => k_is); (case k__law_wrong => k_is); (case a_law => k_is); (case l_law => k_is); (case c_law => k_is)
    (case k_law => k_is); (case a_Reader_word => k_is); (case i_Reader_word => k_is); (case l_Reader_word => k_is); (case c_Reader_word => k_is); (case k_Reader_word => k_is); (case a_Reader_refuse => k_is); (case i_Reader_refuse => k_is)
    (case l_Reader_refuse => k_is); (case c_Reader_refuse => k_is); (case k_Reader_refuse => k_is); (case a_Reader_expect => k_is); (case i_Reader_expect => k_is); (case l_Reader_expect => k_is); (case c_Reader_expect => k_is); (case k_Reader_expect => k_is)
    (case a_Reader_number => k_is); (case i_Reader_number => k_is); (case l_Reader_number => k_is); (case c_Reader_number => k_is); (case k_Reader_number => k_is); (case a_Reader_begin => k_is); (case i_Reader_begin => k_is); (case l_Reader_begin => k_is)
    (case c_Reader_begin => k_is); (case k_Reader_begin => k_is); (case a_Reader_close => k_is); (case i_Reader_close => k_is); (case l_Reader_close => k_is); (case c_Reader_close => k_is); (case k_Reader_close => k_is); (case a_Reader_job => k_is)
    (case i_Reader_job => k_is); (case l_Reader_job => k_is); (case c_Reader_job => k_is); (case k_Reader_job => k_is); (case a_Reader_check_more => k_is); (case i_Reader_check_more => k_is); (case l_Reader_check_more => k_is); (case c_Reader_check_more => k_is)
    (case k_Reader_check_more => k_is); (case a_Reader_parts => k_is); (case i_Reader_parts => k_is); (case l_Reader_parts => k_is); (case c_Reader_parts => k_is); (case k_Reader_parts => k_is); (case a_Reader_lead => k_is); (case i_Reader_lead => k_is)
    (case l_Reader_lead => k_is); (case c_Reader_lead => k_is); (case k_Reader_lead => k_is); (case a_Reader_plan => k_is); (case i_Reader_plan => k_is); (case l_Reader_plan => k_is); (case c_Reader_plan => k_is); (case k_Reader_plan => k_is)
    (case a_Reader_finish => k_is); (case i_Reader_finish => k_is); (case l_Reader_finish => k_is); (case c_Reader_finish => k_is); (case k_Reader_finish => k_is); (case a_Reader__init_ => k_is); (case i_Reader__init_ => k_is); (case l_Reader__init_ => k_is)
    (case c_Reader__init_ => k_is); (case k_Reader__init_ => k_is); (case a_TextFault__init_ => k_is); (case i_TextFault__init_ => k_is); (case l_TextFault__init_ => k_is); (case c_TextFault__init_ => k_is); (case k_TextFault__init_ => k_is); (case t_TextFault__init_ => k_is)
    (case a_OutOfRange__init_ => k_is); (case i_OutOfRange__init_ => k_is); (case l_OutOfRange__init_ => k_is); (case c_OutOfRange__init_ => k_is); (case k_OutOfRange__init_ => k_is); (case t_OutOfRange__init_ => k_is); (case r_pg => k_is); (case r_hd => k_is)
    (case r_po => k_is); (case r_sa => k_is); (case r_mk => k_is); (case r_kc => k_is); (case r_n1 => k_is); (case r_n2 => k_is); (case r_n3 => k_is); (case r_n4 => k_is)
    (case xCT => k_is); (case saCT => k_is); (case gaCT => k_is); (case ggCT => k_is); (case haCT => k_is); (case kCCT => k_is); (case eCCT => k_is); (case tCCT => k_is)
    (case hCCT => k_is); (case iCCT => k_is); (case oCCT => k_is); (case sCT => k_is); (case xCO => k_is); (case saCO => k_is); (case gaCO => k_is); (case ggCO => k_is)
    (case haCO => k_is); (case kCCO => k_is); (case eCCO => k_is); (case tCCO => k_is); (case hCCO => k_is); (case iCCO => k_is); (case oCCO => k_is); (case sCO => k_is)
    (case eCF => k_is); (case iCF => k_is); (case tCF => k_is); (case sTF => k_is); (case sTO => k_is); (case hn => k_is); (case ht => k_is); (case n_line => k_is)
    (case n_column => k_is); (case n_words => k_is); (case n_name => k_is)
