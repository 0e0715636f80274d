import PyProof.Rows.All
import HandS.ForMost
import HandS.Zip
import HandS.IsInst
import HandS.Style
import HandS.TupSets
import HandS.TupAny
import HandS.TupMul
import HandS.Deep
import HandS.Flow
import HandS.Conv
import HandS.Exc
import HandS.ExcOwn
import HandS.CallSlots
import HandS.WordsExc
import HandS.WordsDict
import HandS.More
import KE.GoesMore
import KE.GoesEnum
import KE.GoesZip
import HandS.Defaults
import HandS.SortInts
import HandS.HeadHook2
import HandS.Head0
import HandS.Head1
import HandS.Head2
import HandS.HeadEnd
import HandS.HeadHook1
import PySem.Challenge.RW_timesmet_k66_whole_net_steps_written
set_option Elab.async false
set_option linter.all false
set_option maxRecDepth 100000
/-! The engine, part 1: plain data D, the state relation, monotony. -/
namespace Eg
open PySem PySem.Spec PyProof.Rows L2

/-- plain data: ints as linear forms over drawn ints, tuples and unchanging lists inline, changing lists and dicts by number -/
inductive D where
  | und | non | bl (b : Bool) | int (i : Int) | lin (c : Int) (ks : List Int) | str (x : Str)
  | tup (ds : List D) | lst (ds : List D) | dct (ks : List Key) (ds : List D) | ref (n : Nat) | rng (lo hi : Int) | ty (n : String) | fn (n : Nat)

/-- what the engine's own heap holds -/
inductive HObj where
  | gone | lst (ds : List D) | dct (ks : List Key) (ds : List D) | cup (k : Nat)
abbrev HpD := List HObj
abbrev EnvD := List D
abbrev Box := List (Int × Int)

inductive Out (α : Type) where
  | ok (a : α) (h : HpD) | exc (n : Nat) (d : D) (h : HpD) | bad
def Out.bind {α β : Type} (o : Out α) (k : α → HpD → Out β) : Out β := match o with
  | .ok a h => k a h
  | .exc n d h => .exc n d h
  | .bad => .bad

def at_ : List D → Nat → D
  | [], _ => .und
  | d :: _, 0 => d
  | _ :: r, n + 1 => at_ r n
def hat : HpD → Nat → HObj
  | [], _ => .gone
  | o :: _, 0 => o
  | _ :: r, n + 1 => hat r n
theorem at_get : ∀ {ds : List D} {i : Nat} {d : D}, at_ ds i = d → d ≠ .und → ds[i]? = some d
  | [], _, _, h, hn => absurd h.symm hn
  | _ :: _, 0, _, h, _ => by cases h; rfl
  | _ :: r, n + 1, d, h, hn => at_get (ds := r) (i := n) h hn
theorem hat_get : ∀ {ds : HpD} {i : Nat} {d : HObj}, hat ds i = d → d ≠ .gone → ds[i]? = some d
  | [], _, _, h, hn => absurd h.symm hn
  | _ :: _, 0, _, h, _ => by cases h; rfl
  | _ :: r, n + 1, d, h, hn => hat_get (ds := r) (i := n) h hn

/-! ### boxes -/
def inBox : Box → List Int → Prop
  | [], [] => True
  | (l, u) :: b, x :: xs => l ≤ x ∧ x ≤ u ∧ inBox b xs
  | _, _ => False
def dot : List Int → List Int → Int
  | k :: ks, x :: xs => k * x + dot ks xs
  | _, _ => 0
def lo : Box → List Int → Int
  | (l, u) :: b, k :: ks => (match k with | .ofNat n => (n : Int) * l | .negSucc n => (Int.negSucc n) * u) + lo b ks
  | _, _ => 0
def hi : Box → List Int → Int
  | (l, u) :: b, k :: ks => (match k with | .ofNat n => (n : Int) * u | .negSucc n => (Int.negSucc n) * l) + hi b ks
  | _, _ => 0
theorem lo_le : ∀ {β : Box} {ν ks : List Int}, inBox β ν → lo β ks ≤ dot ks ν
  | [], [], ks, _ => by cases ks <;> simp [lo, dot]
  | (l, u) :: b, x :: xs, [], _ => by simp [lo, dot]
  | (l, u) :: b, x :: xs, k :: ks, h => by
    obtain ⟨h1, h2, h3⟩ := h
    have ih := lo_le (ks := ks) h3
    unfold lo dot
    cases k with
    | ofNat n =>
      have : (n : Int) * l ≤ (n : Int) * x := Int.mul_le_mul_of_nonneg_left h1 (Int.natCast_nonneg n)
      show (n : Int) * l + lo b ks ≤ Int.ofNat n * x + dot ks xs
      have e : Int.ofNat n = (n : Int) := rfl
      rw [e]; omega
    | negSucc n =>
      have : (Int.negSucc n) * u ≤ (Int.negSucc n) * x := Int.mul_le_mul_of_nonpos_left (by omega) h2
      show (Int.negSucc n) * u + lo b ks ≤ (Int.negSucc n) * x + dot ks xs
      omega
theorem le_hi : ∀ {β : Box} {ν ks : List Int}, inBox β ν → dot ks ν ≤ hi β ks
  | [], [], ks, _ => by cases ks <;> simp [hi, dot]
  | (l, u) :: b, x :: xs, [], _ => by simp [hi, dot]
  | (l, u) :: b, x :: xs, k :: ks, h => by
    obtain ⟨h1, h2, h3⟩ := h
    have ih := le_hi (ks := ks) h3
    unfold hi dot
    cases k with
    | ofNat n =>
      have : (n : Int) * x ≤ (n : Int) * u := Int.mul_le_mul_of_nonneg_left h2 (Int.natCast_nonneg n)
      show Int.ofNat n * x + dot ks xs ≤ (n : Int) * u + hi b ks
      have e : Int.ofNat n = (n : Int) := rfl
      rw [e]; omega
    | negSucc n =>
      have : (Int.negSucc n) * x ≤ (Int.negSucc n) * l := Int.mul_le_mul_of_nonpos_left (by omega) h1
      show (Int.negSucc n) * x + dot ks xs ≤ (Int.negSucc n) * l + hi b ks
      omega
/-- sums and multiples of coefficients -/
def addK : List Int → List Int → List Int
  | k :: ks, l :: ls => (k + l) :: addK ks ls
  | [], ls => ls
  | ks, [] => ks
def mulK (c : Int) : List Int → List Int
  | [] => []
  | k :: ks => (c * k) :: mulK c ks
theorem dot_add : ∀ (ks ls ν : List Int), dot (addK ks ls) ν = dot ks ν + dot ls ν
  | k :: ks, l :: ls, [] => by simp [addK, dot]
  | k :: ks, l :: ls, x :: xs => by
    simp only [addK, dot]
    rw [dot_add ks ls xs, Int.add_mul]; omega
  | [], ls, ν => by
    have : dot [] ν = 0 := by cases ν <;> rfl
    rw [this]; simp [addK]
  | k :: ks, [], ν => by
    have : dot [] ν = 0 := by cases ν <;> rfl
    rw [this]; simp [addK]
theorem dot_mul (c : Int) : ∀ (ks ν : List Int), dot (mulK c ks) ν = c * dot ks ν
  | [], ν => by simp [mulK, dot]
  | k :: ks, [] => by simp [mulK, dot]
  | k :: ks, x :: xs => by
    simp only [mulK, dot]
    rw [dot_mul c ks xs, Int.mul_add, Int.mul_assoc]
theorem dot_nil (ν : List Int) : dot [] ν = 0 := by cases ν <;> rfl
def zeroK : List Int → Bool
  | [] => true
  | .ofNat 0 :: ks => zeroK ks
  | _ => false
theorem dot_zero : ∀ {ks : List Int} (ν : List Int), zeroK ks = true → dot ks ν = 0
  | [], ν, _ => dot_nil ν
  | .ofNat 0 :: ks, [], _ => rfl
  | .ofNat 0 :: ks, x :: xs, h => by
    have := dot_zero (ks := ks) xs h
    show (Int.ofNat 0) * x + dot ks xs = 0
    rw [this]; simp
  | .ofNat (n + 1) :: ks, _, h => by cases h
  | .negSucc n :: ks, _, h => by cases h

/-! ### data and values -/
/-- what the relation leans on: the written part, the drawn ints, the defs' addresses -/
structure RC where
  K : PySem.W.Frag
  ν : List Int
  fa : Nat → Option Addr
  ca : Nat → Option Addr
  ms : List Int
/-- one draw of a cup -/
def rollV (c0 c1 m : Int) : Int := match c0 with
  | .ofNat (n + 1) => Int.ofNat (n + 1) % m
  | _ => (c1 * 31051 + 7993) % 2147483543 * ((c1 * 31051 + 7993) % 2147483543 + 229) % 2147483587 / 821 % m
def roll0 (c0 m : Int) : Int := match c0 with
  | .ofNat (n + 1) => Int.ofNat (n + 1) / m
  | c0 => c0
def roll1 (c0 c1 : Int) : Int := match c0 with
  | .ofNat (_ + 1) => c1
  | _ => (c1 * 31051 + 7993) % 2147483543
def drawsOf : List Int → Int → Int → List Int
  | [], _, _ => []
  | m :: ms, c0, c1 => rollV c0 c1 m :: drawsOf ms (roll0 c0 m) (roll1 c0 c1)
def isCup (ms ν : List Int) (k : Nat) (o : Option HO) : Prop := ∃ c0 c1, o = some (.lst [.int c0, .int c1]) ∧ 0 ≤ c1 ∧ c1 < 4294967296 ∧ drawsOf (ms.drop k) c0 c1 = ν.drop k

mutual
inductive RV (C : RC) (Z : Addr → Prop) (ρ : List (Option Addr)) (H : Hp) : D → V → Prop
  | non : RV C Z ρ H .non .non
  | bl (b : Bool) : RV C Z ρ H (.bl b) (.bl b)
  | int (i : Int) : RV C Z ρ H (.int i) (.int i)
  | lin (c : Int) (ks : List Int) {i : Int} (e : i = c + dot ks C.ν) : RV C Z ρ H (.lin c ks) (.int i)
  | str (x : Str) : RV C Z ρ H (.str x) (.str x)
  | tup {a : Addr} {xs : List V} {ds : List D} (h : SqT C.K H a xs) (r : RVs C Z ρ H ds xs) : RV C Z ρ H (.tup ds) (.ref a)
  | lst {a : Addr} {xs : List V} {ds : List D} (h : H a = some (.lst xs)) (z : ¬ Z a) (r : RVs C Z ρ H ds xs) : RV C Z ρ H (.lst ds) (.ref a)
  | dct {a : Addr} {kvs : List (Key × V)} {ks : List Key} {ds : List D} (h : H a = some (.dK kvs)) (z : ¬ Z a) (e : kvs.map (·.1) = ks) (r : RVs C Z ρ H ds (kvs.map (·.2))) : RV C Z ρ H (.dct ks ds) (.ref a)
  | ref {n : Nat} {a : Addr} (e : ρ[n]? = some (some a)) : RV C Z ρ H (.ref n) (.ref a)
  | rng {a : Addr} {lo hi : Int} (e : H a = some (.rng lo hi)) : RV C Z ρ H (.rng lo hi) (.ref a)
  | ty (n : String) : RV C Z ρ H (.ty n) (.ty n)
  | fn {n : Nat} {a : Addr} (e : C.fa n = some a) : RV C Z ρ H (.fn n) (.ref a)
inductive RVs (C : RC) (Z : Addr → Prop) (ρ : List (Option Addr)) (H : Hp) : List D → List V → Prop
  | nil : RVs C Z ρ H [] []
  | cons {d : D} {ds : List D} {v : V} {vs : List V} (r : RV C Z ρ H d v) (t : RVs C Z ρ H ds vs) : RVs C Z ρ H (d :: ds) (v :: vs)
end

/-- objects that nobody changes -/
def Imm : HO → Prop
  | .tup _ => True
  | .frz _ _ => True
  | .rng _ _ => True
  | _ => False
/-- from a state to a later one: what is not of our own lists and dicts is as it was -/
structure Step (Z : Addr → Prop) (ρ : List (Option Addr)) (H : Hp) (Z' : Addr → Prop) (ρ' : List (Option Addr)) (H' : Hp) : Prop where
  zin : ∀ a, some a ∈ ρ → Z a
  keep : ∀ a o, H a = some o → some a ∉ ρ → H' a = some o
  imm : ∀ a o, H a = some o → Imm o → H' a = some o
  dom : ∀ a o, H a = some o → ∃ o', H' a = some o'
  rfs : ∀ (n : Nat) a, ρ[n]? = some (some a) → ρ'[n]? = some (some a)
  new : ∀ a, some a ∈ ρ' → some a ∈ ρ ∨ H a = none
  zle : ∀ a, Z a → Z' a
  znew : ∀ a, Z' a → Z a ∨ H a = none
theorem Step.refl {Z : Addr → Prop} {ρ : List (Option Addr)} {H : Hp} (z : ∀ a, some a ∈ ρ → Z a) : Step Z ρ H Z ρ H :=
  ⟨z, fun _ _ h _ => h, fun _ _ h _ => h, fun _ o h => ⟨o, h⟩, fun _ _ h => h, fun _ h => .inl h, fun _ h => h, fun _ h => .inl h⟩
theorem Step.trans {Z Z1 Z2 : Addr → Prop} {ρ ρ1 ρ2 : List (Option Addr)} {H H1 H2 : Hp} (a : Step Z ρ H Z1 ρ1 H1) (b : Step Z1 ρ1 H1 Z2 ρ2 H2) : Step Z ρ H Z2 ρ2 H2 where
  zin := a.zin
  keep := fun p o h n => b.keep p o (a.keep p o h n) fun q => by
    rcases a.new p q with r | r
    · exact n r
    · rw [h] at r; cases r
  imm := fun p o h i => b.imm p o (a.imm p o h i) i
  dom := fun p o h => let ⟨o1, h1⟩ := a.dom p o h; b.dom p o1 h1
  rfs := fun n p h => b.rfs n p (a.rfs n p h)
  new := fun p h => by
    rcases b.new p h with r | r
    · exact a.new p r
    · cases q : H p with
      | none => exact .inr rfl
      | some o => obtain ⟨o', e⟩ := a.dom p o q; rw [e] at r; cases r
  zle := fun p h => b.zle p (a.zle p h)
  znew := fun p h => by
    rcases b.znew p h with r | r
    · exact a.znew p r
    · cases q : H p with
      | none => exact .inr rfl
      | some o => obtain ⟨o', e⟩ := a.dom p o q; rw [e] at r; cases r

section
variable {C : RC} {Z Z' : Addr → Prop} {ρ ρ' : List (Option Addr)} {H H' : Hp}
theorem sqT_imm {K : PySem.W.Frag} {a : Addr} {xs : List V} (h : SqT K H a xs) (k : ∀ a o, H a = some o → Imm o → H' a = some o) : SqT K H' a xs := by
  rcases h with h | h
  · refine .inl ?_
    rcases h with h | ⟨o, h⟩
    · exact .inl (k _ _ h trivial)
    · exact .inr ⟨o, k _ _ h trivial⟩
  · exact .inr h
theorem rd_keep {a : Addr} {u : HO} (h : Rd H a u) (hk : ∀ o, H a = some o → H' a = some o) : Rd H' a u := by
  rcases h with h | ⟨o, h⟩
  · exact .inl (hk _ h)
  · exact .inr ⟨o, hk _ h⟩
theorem Rd.some {a : Addr} {u : HO} (h : Rd H a u) : ∃ o, H a = some o := by
  rcases h with h | ⟨o, h⟩
  · exact ⟨_, h⟩
  · exact ⟨_, h⟩
mutual
theorem RV.step (s : Step Z ρ H Z' ρ' H') : ∀ {d : D} {v : V}, RV C Z ρ H d v → RV C Z' ρ' H' d v
  | _, _, .non => .non
  | _, _, .bl b => .bl b
  | _, _, .int i => .int i
  | _, _, .lin c ks e => .lin c ks e
  | _, _, .str x => .str x
  | _, _, .tup h r => .tup (sqT_imm h s.imm) (RVs.step s r)
  | _, _, .lst (a := a) h z r => .lst (s.keep a _ h fun q => z (s.zin a q)) (fun q => by
      rcases s.znew a q with y | y
      · exact z y
      · rw [h] at y; cases y) (RVs.step s r)
  | _, _, .dct (a := a) h z e r => .dct (s.keep a _ h fun q => z (s.zin a q)) (fun q => by
      rcases s.znew a q with y | y
      · exact z y
      · rw [h] at y; cases y) e (RVs.step s r)
  | _, _, .ref e => .ref (s.rfs _ _ e)
  | _, _, .rng e => .rng (s.imm _ _ e trivial)
  | _, _, .ty n => .ty n
  | _, _, .fn e => .fn e
theorem RVs.step (s : Step Z ρ H Z' ρ' H') : ∀ {ds : List D} {vs : List V}, RVs C Z ρ H ds vs → RVs C Z' ρ' H' ds vs
  | _, _, .nil => .nil
  | _, _, .cons r t => .cons (RV.step s r) (RVs.step s t)
end
/-- only the avoided addresses change -/
theorem RVs.length : ∀ {ds : List D} {vs : List V}, RVs C Z ρ H ds vs → ds.length = vs.length
  | _, _, .nil => rfl
  | _, _, .cons _ t => by simp [RVs.length t]
theorem RVs.get : ∀ {ds : List D} {vs : List V} {i : Nat} {d : D}, RVs C Z ρ H ds vs → ds[i]? = some d → ∃ v, vs[i]? = some v ∧ RV C Z ρ H d v
  | _, _, _, _, .nil, e => by simp at e
  | _, _, 0, _, .cons r _, e => by simp at e; subst e; exact ⟨_, rfl, r⟩
  | _, _, i + 1, d, .cons _ t, e => by
    obtain ⟨v, h1, h2⟩ := RVs.get (i := i) (d := d) t (by simpa using e)
    exact ⟨v, by simpa using h1, h2⟩
theorem RVs.getV : ∀ {ds : List D} {vs : List V} {i : Nat} {v : V}, RVs C Z ρ H ds vs → vs[i]? = some v → ∃ d, ds[i]? = some d ∧ RV C Z ρ H d v
  | _, _, _, _, .nil, e => by simp at e
  | _, _, 0, _, .cons r _, e => by simp at e; subst e; exact ⟨_, rfl, r⟩
  | _, _, i + 1, v, .cons _ t, e => by
    obtain ⟨d, h1, h2⟩ := RVs.getV (i := i) (v := v) t (by simpa using e)
    exact ⟨d, by simpa using h1, h2⟩
theorem RVs.append : ∀ {ds es : List D} {vs ws : List V}, RVs C Z ρ H ds vs → RVs C Z ρ H es ws → RVs C Z ρ H (ds ++ es) (vs ++ ws)
  | _, _, _, _, .nil, s => s
  | _, _, _, _, .cons r t, s => .cons r (RVs.append t s)
theorem RVs.take : ∀ {ds : List D} {vs : List V} (n : Nat), RVs C Z ρ H ds vs → RVs C Z ρ H (ds.take n) (vs.take n)
  | _, _, 0, _ => by simp; exact .nil
  | _, _, _ + 1, .nil => by simp; exact .nil
  | _, _, n + 1, .cons r t => by simp; exact .cons r (RVs.take n t)
theorem RVs.drop : ∀ {ds : List D} {vs : List V} (n : Nat), RVs C Z ρ H ds vs → RVs C Z ρ H (ds.drop n) (vs.drop n)
  | _, _, 0, r => by simpa using r
  | _, _, _ + 1, .nil => by simp; exact .nil
  | _, _, n + 1, .cons _ t => by simpa using RVs.drop n t
theorem RVs.set {d : D} {v : V} (r : RV C Z ρ H d v) : ∀ {ds : List D} {vs : List V} (i : Nat), RVs C Z ρ H ds vs → RVs C Z ρ H (ds.set i d) (vs.set i v)
  | _, _, _, .nil => by simp; exact .nil
  | _, _, 0, .cons _ t => by simp; exact .cons r t
  | _, _, i + 1, .cons q t => by simp; exact .cons q (RVs.set r i t)
theorem RVs.reverse {ds : List D} {vs : List V} (h : RVs C Z ρ H ds vs) : RVs C Z ρ H ds.reverse vs.reverse := by
  induction ds generalizing vs with
  | nil => cases h; simp; exact .nil
  | cons d ds ih => cases h with | cons r t => simp only [List.reverse_cons]; exact (ih t).append (.cons r .nil)
theorem RVs.eraseIdx : ∀ {ds : List D} {vs : List V} (n : Nat), RVs C Z ρ H ds vs → RVs C Z ρ H (ds.eraseIdx n) (vs.eraseIdx n)
  | _, _, _, .nil => by simp; exact .nil
  | _, _, 0, .cons _ t => by simpa using t
  | _, _, n + 1, .cons r t => by simp; exact .cons r (RVs.eraseIdx n t)
theorem RVs.dropLast : ∀ {ds : List D} {vs : List V}, RVs C Z ρ H ds vs → RVs C Z ρ H ds.dropLast vs.dropLast
  | _, _, .nil => .nil
  | _, _, .cons _ .nil => .nil
  | _, _, .cons r (.cons r2 t) => .cons r (RVs.dropLast (.cons r2 t))
theorem RVs.replicate {d : D} {v : V} (r : RV C Z ρ H d v) : ∀ n : Nat, RVs C Z ρ H (List.replicate n d) (List.replicate n v)
  | 0 => .nil
  | n + 1 => .cons r (RVs.replicate r n)
theorem RVs.flatten_rep {ds : List D} {vs : List V} (r : RVs C Z ρ H ds vs) : ∀ n : Nat, RVs C Z ρ H (List.replicate n ds).flatten (List.replicate n vs).flatten
  | 0 => by simp; exact .nil
  | n + 1 => by
    simp only [List.replicate_succ, List.flatten_cons]
    exact r.append (RVs.flatten_rep r n)
end

/-- the engine's heap against the abstract one -/
def HRel (C : RC) (Z : Addr → Prop) (ρ : List (Option Addr)) (H : Hp) (n : Nat) : HObj → Prop
  | .gone => True
  | .lst ds => ∃ a xs, ρ[n]? = some (some a) ∧ H a = some (.lst xs) ∧ RVs C Z ρ H ds xs
  | .dct ks ds => ∃ a kvs, ρ[n]? = some (some a) ∧ H a = some (.dK kvs) ∧ kvs.map (·.1) = ks ∧ RVs C Z ρ H ds (kvs.map (·.2))
  | .cup k => ∃ a, ρ[n]? = some (some a) ∧ isCup C.ms C.ν k (H a)
structure RH (C : RC) (Z : Addr → Prop) (ρ : List (Option Addr)) (H : Hp) (h : HpD) : Prop where
  len : ρ.length = h.length
  inj : ∀ (i j : Nat) a, ρ[i]? = some (some a) → ρ[j]? = some (some a) → i = j
  zin : ∀ a, some a ∈ ρ → Z a
  zdom : ∀ a, Z a → ∃ o, H a = some o
  obj : ∀ (n : Nat) o, h[n]? = some o → HRel C Z ρ H n o
/-- the slots -/
structure RE (C : RC) (Z : Addr → Prop) (ρ : List (Option Addr)) (H : Hp) (env : EnvD) (σ : L2.St) : Prop where
  len : env.length = σ.length
  get : ∀ (i : Nat) d, env[i]? = some d → d ≠ .und → ∃ v, σ[i]? = some (some v) ∧ RV C Z ρ H d v
theorem RE.step {C : RC} {Z Z' : Addr → Prop} {ρ ρ' : List (Option Addr)} {H H' : Hp} {env : EnvD} {σ : L2.St} (s : Step Z ρ H Z' ρ' H') (r : RE C Z ρ H env σ) : RE C Z' ρ' H' env σ :=
  ⟨r.len, fun i d e n => let ⟨v, h1, h2⟩ := r.get i d e n; ⟨v, h1, h2.step s⟩⟩
theorem RE.set {C : RC} {Z : Addr → Prop} {ρ : List (Option Addr)} {H : Hp} {env : EnvD} {σ : L2.St} (r : RE C Z ρ H env σ) {d : D} {v : V} (q : RV C Z ρ H d v) (i : Nat) : RE C Z ρ H (env.set i d) (σ.set i (some v)) := by
  refine ⟨by simp [r.len], fun j e he hn => ?_⟩
  by_cases hj : j = i
  · subst hj
    by_cases hl : j < env.length
    · rw [List.getElem?_set_self hl] at he
      cases he
      exact ⟨v, List.getElem?_set_self (by rw [← r.len]; exact hl), q⟩
    · rw [List.getElem?_eq_none (by simpa using Nat.le_of_not_lt hl)] at he
      cases he
  · rw [List.getElem?_set_ne (Ne.symm hj)] at he ⊢
    exact r.get j e he hn
theorem RE.undef {C : RC} {Z : Addr → Prop} {ρ : List (Option Addr)} {H : Hp} {env : EnvD} {σ : L2.St} (r : RE C Z ρ H env σ) (i : Nat) : RE C Z ρ H (env.set i .und) (σ.set i none) := by
  refine ⟨by simp [r.len], fun j e he hn => ?_⟩
  by_cases hj : j = i
  · subst hj
    by_cases hl : j < env.length
    · rw [List.getElem?_set_self hl] at he
      cases he
      exact absurd rfl hn
    · rw [List.getElem?_eq_none (by simpa using Nat.le_of_not_lt hl)] at he
      cases he
  · rw [List.getElem?_set_ne (Ne.symm hj)] at he ⊢
    exact r.get j e he hn
end Eg

set_option Elab.async false
set_option linter.all false
set_option maxRecDepth 100000
/-! The engine, part 2: what follows (Post), the judgements of expressions, first rules. -/
namespace Eg
open PySem PySem.Spec PyProof.Rows L2

section
variable {C : RC} {Z Z' : Addr → Prop} {ρ ρ' : List (Option Addr)} {H H' : Hp}
mutual
theorem RV.anti {Z2 : Addr → Prop} (hz : ∀ a, Z2 a → Z a) : ∀ {d : D} {v : V}, RV C Z ρ H d v → RV C Z2 ρ H d v
  | _, _, .non => .non
  | _, _, .bl b => .bl b
  | _, _, .int i => .int i
  | _, _, .lin c ks e => .lin c ks e
  | _, _, .str x => .str x
  | _, _, .tup h r => .tup h (RVs.anti hz r)
  | _, _, .lst h z r => .lst h (fun q => z (hz _ q)) (RVs.anti hz r)
  | _, _, .dct h z e r => .dct h (fun q => z (hz _ q)) e (RVs.anti hz r)
  | _, _, .ref e => .ref e
  | _, _, .rng e => .rng e
  | _, _, .ty n => .ty n
  | _, _, .fn e => .fn e
theorem RVs.anti {Z2 : Addr → Prop} (hz : ∀ a, Z2 a → Z a) : ∀ {ds : List D} {vs : List V}, RVs C Z ρ H ds vs → RVs C Z2 ρ H ds vs
  | _, _, .nil => .nil
  | _, _, .cons r t => .cons (RV.anti hz r) (RVs.anti hz t)
end
mutual
theorem RV.rho (k : ∀ (n : Nat) a, ρ[n]? = some (some a) → ρ'[n]? = some (some a)) : ∀ {d : D} {v : V}, RV C Z ρ H d v → RV C Z ρ' H d v
  | _, _, .non => .non
  | _, _, .bl b => .bl b
  | _, _, .int i => .int i
  | _, _, .lin c ks e => .lin c ks e
  | _, _, .str x => .str x
  | _, _, .tup h r => .tup h (RVs.rho k r)
  | _, _, .lst h z r => .lst h z (RVs.rho k r)
  | _, _, .dct h z e r => .dct h z e (RVs.rho k r)
  | _, _, .ref e => .ref (k _ _ e)
  | _, _, .rng e => .rng e
  | _, _, .ty n => .ty n
  | _, _, .fn e => .fn e
theorem RVs.rho (k : ∀ (n : Nat) a, ρ[n]? = some (some a) → ρ'[n]? = some (some a)) : ∀ {ds : List D} {vs : List V}, RVs C Z ρ H ds vs → RVs C Z ρ' H ds vs
  | _, _, .nil => .nil
  | _, _, .cons r t => .cons (RV.rho k r) (RVs.rho k t)
end
theorem HRel.rho {n : Nat} {o : HObj} (k : ∀ (n : Nat) a, ρ[n]? = some (some a) → ρ'[n]? = some (some a)) (x : HRel C Z ρ H n o) : HRel C Z ρ' H n o := by
  cases o with
  | gone => trivial
  | lst ds => obtain ⟨a, xs, e1, e2, r⟩ := x; exact ⟨a, xs, k _ _ e1, e2, r.rho k⟩
  | dct ks ds => obtain ⟨a, xs, e1, e2, e3, r⟩ := x; exact ⟨a, xs, k _ _ e1, e2, e3, r.rho k⟩
  | cup j => obtain ⟨a, e1, e2⟩ := x; exact ⟨a, k _ _ e1, e2⟩
theorem HRel.mono {Z2 : Addr → Prop} {n : Nat} {o : HObj} (hz : ∀ a, Z2 a → Z a) (x : HRel C Z ρ H n o) : HRel C Z2 ρ H n o := by
  cases o with
  | gone => trivial
  | lst ds => obtain ⟨a, xs, e1, e2, r⟩ := x; exact ⟨a, xs, e1, e2, r.anti hz⟩
  | dct ks ds => obtain ⟨a, xs, e1, e2, e3, r⟩ := x; exact ⟨a, xs, e1, e2, e3, r.anti hz⟩
  | cup j => exact x
theorem mem_of_get {n : Nat} {a : Addr} (h : ρ[n]? = some (some a)) : some a ∈ ρ := List.mem_of_getElem? h
theorem RH.ne_none {h : HpD} (x : RH C Z ρ H h) {a p : Addr} (hp : H p = none) (ha : Z a) : a ≠ p := fun e => by
  obtain ⟨o, q⟩ := x.zdom a ha
  rw [e, hp] at q; cases q
/-- a new object that is none of ours -/
theorem step_new {h : HpD} {p : Addr} {o : HO} (x : RH C Z ρ H h) (hp : H p = none) : Step Z ρ H Z ρ (upd H p o) where
  zin := x.zin
  keep := fun a u e _ => by rw [upd_ne (ne_of_none e hp)]; exact e
  imm := fun a u e _ => by rw [upd_ne (ne_of_none e hp)]; exact e
  dom := fun a u e => ⟨u, by rw [upd_ne (ne_of_none e hp)]; exact e⟩
  rfs := fun _ _ e => e
  new := fun _ e => .inl e
  zle := fun _ e => e
  znew := fun _ e => .inl e
theorem HRel.step {n : Nat} {o : HObj} (s : Step Z ρ H Z' ρ' H') (k : ∀ a, ρ[n]? = some (some a) → H' a = H a) (x : HRel C Z ρ H n o) : HRel C Z' ρ' H' n o := by
  cases o with
  | gone => trivial
  | lst ds => obtain ⟨a, xs, e1, e2, r⟩ := x; exact ⟨a, xs, s.rfs _ _ e1, by rw [k a e1]; exact e2, r.step s⟩
  | dct ks ds => obtain ⟨a, xs, e1, e2, e3, r⟩ := x; exact ⟨a, xs, s.rfs _ _ e1, by rw [k a e1]; exact e2, e3, r.step s⟩
  | cup j => obtain ⟨a, e1, e2⟩ := x; exact ⟨a, s.rfs _ _ e1, by rw [k a e1]; exact e2⟩
theorem RH.new {h : HpD} {p : Addr} {o : HO} (x : RH C Z ρ H h) (hp : H p = none) : RH C Z ρ (upd H p o) h where
  len := x.len
  inj := x.inj
  zin := x.zin
  zdom := fun a z => let ⟨u, e⟩ := x.zdom a z; ⟨u, by rw [upd_ne (ne_of_none e hp)]; exact e⟩
  obj := fun n u e => (x.obj n u e).step (step_new x hp) fun a q => by rw [upd_ne (x.ne_none hp (x.zin a (mem_of_get q)))]
end

/-! ### what follows -/
/-- how an exception of the text's class n lies -/
def ExcV (C : RC) (Z : Addr → Prop) (ρ : List (Option Addr)) (H : Hp) (n : Nat) (d : D) (cls : Value) (dx : Option Addr) : Prop :=
  ∃ a, C.ca n = some a ∧ cls = .ref a ∧ ((d = .und ∧ dx = none) ∨ ∃ b v, dx = some b ∧ H b = some (.xd [("limit", v)]) ∧ RV C Z ρ H d v)
def PostG {α : Type} (C : RC) (Z : Addr → Prop) (ρ : List (Option Addr)) (H : Hp) (E : XK) (o : Out α) (R : α → HpD → (Addr → Prop) → List (Option Addr) → Hp → Prop) : Prop := match o with
  | .ok a h' => ∀ Z' ρ' H', Step Z ρ H Z' ρ' H' → RH C Z' ρ' H' h' → R a h' Z' ρ' H'
  | .exc n d h' => ∀ Z' ρ' H', Step Z ρ H Z' ρ' H' → RH C Z' ρ' H' h' → ∀ cls dx, ExcV C Z' ρ' H' n d cls dx → E cls dx H'
  | .bad => False
section
variable {α γ : Type} {C : RC} {Z Z' : Addr → Prop} {ρ ρ' : List (Option Addr)} {H H' : Hp} {E : XK}
theorem PostG.mono {o : Out α} {R R' : α → HpD → (Addr → Prop) → List (Option Addr) → Hp → Prop} (p : PostG C Z ρ H E o R) (k : ∀ a h' Z' ρ' H', o = .ok a h' → Step Z ρ H Z' ρ' H' → RH C Z' ρ' H' h' → R a h' Z' ρ' H' → R' a h' Z' ρ' H') : PostG C Z ρ H E o R' := by
  cases o with
  | ok a h' => exact fun Z' ρ' H' s r => k a h' Z' ρ' H' rfl s r (p Z' ρ' H' s r)
  | exc n d h' => exact p
  | bad => exact p
theorem PostG.later {o : Out α} {R : α → HpD → (Addr → Prop) → List (Option Addr) → Hp → Prop} (s : Step Z ρ H Z' ρ' H') (p : PostG C Z ρ H E o R) : PostG C Z' ρ' H' E o R := by
  cases o with
  | ok a h' => exact fun Z2 ρ2 H2 s2 r => p Z2 ρ2 H2 (s.trans s2) r
  | exc n d h' => exact fun Z2 ρ2 H2 s2 r => p Z2 ρ2 H2 (s.trans s2) r
  | bad => exact p
theorem PostG.bind {o : Out α} {k : α → HpD → Out γ} {R : γ → HpD → (Addr → Prop) → List (Option Addr) → Hp → Prop} (p : PostG C Z ρ H E (o.bind k) R) :
    PostG C Z ρ H E o (fun a h' Z' ρ' H' => PostG C Z' ρ' H' E (k a h') R) := by
  cases o with
  | ok a h' => exact fun Z' ρ' H' s r => PostG.later s p
  | exc n d h' => exact p
  | bad => exact p
theorem PostG.here {a : α} {h : HpD} {R : α → HpD → (Addr → Prop) → List (Option Addr) → Hp → Prop} (x : RH C Z ρ H h) (p : PostG C Z ρ H E (.ok a h) R) : R a h Z ρ H := p Z ρ H (.refl x.zin) x
end
/-- a value is handed on -/
abbrev Hand (C : RC) (Q : VK) : D → HpD → (Addr → Prop) → List (Option Addr) → Hp → Prop := fun d _ Z ρ H => ∀ v, RV C Z ρ H d v → Q v H
abbrev Hands (C : RC) (Q : List V → Hp → Prop) : List D → HpD → (Addr → Prop) → List (Option Addr) → Hp → Prop := fun ds _ Z ρ H => ∀ vs, RVs C Z ρ H ds vs → Q vs H
/-- a new list is handed on: it stands at p, avoided but not yet numbered -/
abbrev HandF (C : RC) (H0 : Hp) (Q : VK) : List D → HpD → (Addr → Prop) → List (Option Addr) → Hp → Prop := fun ds _ Z ρ H => ∀ xs p, Z p → some p ∉ ρ → H0 p = none → H p = some (.lst xs) → RVs C Z ρ H ds xs → Q (.ref p) H
abbrev HandB (Q : Bool → Hp → Prop) : Bool → HpD → (Addr → Prop) → List (Option Addr) → Hp → Prop := fun b _ Z ρ H => Q b H

/-! ### the context -/
structure Cfg where
  β : Box
  fa : Nat → Option Addr
  ca : Nat → Option Addr
  prog : Program
  w : World
  K : PySem.W.Frag
  mg : Str → Option Value
  base : Heap
  N : List Str
  sc : Scope
  fnb : Str → Bool
  lev : Nat
  ms : List Int
def Cfg.rc (G : Cfg) (ν : List Int) : RC := ⟨G.K, ν, G.fa, G.ca, G.ms⟩
structure OkX (G : Cfg) (X : Cx) : Prop where
  prog : X.prog = G.prog
  w : X.w = G.w
  K : X.K = G.K
  mg : X.mg = G.mg
  base : X.base = G.base
  N : X.N = G.N
  nd : G.N.Nodup
  sc : X.env.scope = G.sc
  calm : X.calm = true
  room : Room G.lev X.A
  fn : ∀ x, G.fnb x = true → X.fn x = true ∨ X.env.scope.names.lookup x = some .local
theorem OkX.hu {G : Cfg} {X : Cx} (o : OkX G X) : X.A.units + 150 < cLine := by
  have := o.room.un
  omega
/-- a state of the code that runs -/
structure Stt (G : Cfg) (ν : List Int) (Z : Addr → Prop) (ρ : List (Option Addr)) (σ : L2.St) (H : Hp) (env : EnvD) (h : HpD) : Prop where
  hb : inBox G.β ν
  rh : RH (G.rc ν) Z ρ H h
  re : RE (G.rc ν) Z ρ H env σ
theorem Stt.step {G : Cfg} {ν : List Int} {Z Z' : Addr → Prop} {ρ ρ' : List (Option Addr)} {σ : L2.St} {H H' : Hp} {env : EnvD} {h h' : HpD} (x : Stt G ν Z ρ σ H env h) (s : Step Z ρ H Z' ρ' H') (r : RH (G.rc ν) Z' ρ' H' h') : Stt G ν Z' ρ' σ H' env h' := ⟨x.hb, r, x.re.step s⟩
abbrev Fe := EnvD → HpD → Out D
abbrev Fa := EnvD → HpD → Out (List D)
abbrev Fb := EnvD → HpD → Out Bool
def rE (G : Cfg) (W : WX) (f : Fe) : TE := fun σ H Q => ∃ ν Z ρ env h, Stt G ν Z ρ σ H env h ∧ PostG (G.rc ν) Z ρ H (fun c d H' => W c d σ H') (f env h) (Hand (G.rc ν) Q)
def rA (G : Cfg) (W : WX) (f : Fa) : TA := fun σ H Q => ∃ ν Z ρ env h, Stt G ν Z ρ σ H env h ∧ PostG (G.rc ν) Z ρ H (fun c d H' => W c d σ H') (f env h) (Hands (G.rc ν) Q)
def rF (G : Cfg) (W : WX) (f : Fa) : TE := fun σ H Q => ∃ ν Z ρ env h, Stt G ν Z ρ σ H env h ∧ PostG (G.rc ν) Z ρ H (fun c d H' => W c d σ H') (f env h) (HandF (G.rc ν) H Q)
def rT (G : Cfg) (W : WX) (f : Fb) : TT := fun σ H Q => ∃ ν Z ρ env h, Stt G ν Z ρ σ H env h ∧ PostG (G.rc ν) Z ρ H (fun c d H' => W c d σ H') (f env h) (HandB Q)
/-- an expression is computed by f; a list of them; a new list; a test -/
def SE (G : Cfg) (e : Expr) (f : Fe) : Prop := ∀ X W, OkX G X → Takes X W → PE X e (rE G W f)
def SA (G : Cfg) (es : List Expr) (f : Fa) : Prop := ∀ X W, OkX G X → Takes X W → PA X es (rA G W f)
def SF (G : Cfg) (e : Expr) (f : Fa) : Prop := ∀ X W, OkX G X → Takes X W → PE X e (rF G W f)
def ST (G : Cfg) (e : Expr) (f : Fb) : Prop := ∀ X W, OkX G X → Takes X W → PT X e (rT G W f)
theorem PE.by_ {X : Cx} {e : Expr} {t t' : TE} (h : PE X e t) (k : ∀ σ H Q, t' σ H Q → t σ H Q) : PE X e t' := ⟨fun pins s σ H Q I q => h.run pins s σ H Q I (k σ H Q q)⟩
theorem PT.by_ {X : Cx} {e : Expr} {t t' : TT} (h : PT X e t) (k : ∀ σ H Q, t' σ H Q → t σ H Q) : PT X e t' := ⟨fun pins s σ H Q I q => h.run pins s σ H Q I (k σ H Q q)⟩
theorem PA.by_ {X : Cx} {es : List Expr} {t t' : TA} (h : PA X es t) (k : ∀ σ H Q, t' σ H Q → t σ H Q) : PA X es t' := ⟨fun pos pins s σ H Q I q => h.run pos pins s σ H Q I (k σ H Q q)⟩
theorem PS.by_ {X : Cx} {e : Stmt} {t t' : TS} (h : PS X e t) (k : ∀ D σ H, t' D σ H → t D σ H) : PS X e t' := ⟨fun pins s σ H D I q => h.run pins s σ H D I (k D σ H q)⟩
theorem PSs.by_ {X : Cx} {e : List Stmt} {t t' : TS} (h : PSs X e t) (k : ∀ D σ H, t' D σ H → t D σ H) : PSs X e t' := ⟨fun pins s σ H D I q => h.run pins s σ H D I (k D σ H q)⟩

section
variable {G : Cfg} {X : Cx} {W : WX} {σ : L2.St} {H : Hp} {ν : List Int} {Z : Addr → Prop} {ρ : List (Option Addr)} {env : EnvD} {h : HpD}
/-- the rule for one part: what follows it is k -/
theorem rE.bind {α : Type} {f : Fe} {k : D → HpD → Out α} {R : α → HpD → (Addr → Prop) → List (Option Addr) → Hp → Prop} {Q : VK} (x : Stt G ν Z ρ σ H env h)
    (p : PostG (G.rc ν) Z ρ H (fun c d H' => W c d σ H') ((f env h).bind k) R)
    (q : ∀ d h' Z' ρ' H' v, f env h = .ok d h' → Step Z ρ H Z' ρ' H' → Stt G ν Z' ρ' σ H' env h' → RV (G.rc ν) Z' ρ' H' d v → PostG (G.rc ν) Z' ρ' H' (fun c d H' => W c d σ H') (k d h') R → Q v H') : rE G W f σ H Q :=
  ⟨ν, Z, ρ, env, h, x, (PostG.bind p).mono fun d h' Z' ρ' H' e s r p' v rv => q d h' Z' ρ' H' v e s (x.step s r) rv p'⟩
theorem rA.bind {α : Type} {f : Fa} {k : List D → HpD → Out α} {R : α → HpD → (Addr → Prop) → List (Option Addr) → Hp → Prop} {Q : List V → Hp → Prop} (x : Stt G ν Z ρ σ H env h)
    (p : PostG (G.rc ν) Z ρ H (fun c d H' => W c d σ H') ((f env h).bind k) R)
    (q : ∀ d h' Z' ρ' H' v, f env h = .ok d h' → Step Z ρ H Z' ρ' H' → Stt G ν Z' ρ' σ H' env h' → RVs (G.rc ν) Z' ρ' H' d v → PostG (G.rc ν) Z' ρ' H' (fun c d H' => W c d σ H') (k d h') R → Q v H') : rA G W f σ H Q :=
  ⟨ν, Z, ρ, env, h, x, (PostG.bind p).mono fun d h' Z' ρ' H' e s r p' v rv => q d h' Z' ρ' H' v e s (x.step s r) rv p'⟩
theorem rT.bind {α : Type} {f : Fb} {k : Bool → HpD → Out α} {R : α → HpD → (Addr → Prop) → List (Option Addr) → Hp → Prop} {Q : Bool → Hp → Prop} (x : Stt G ν Z ρ σ H env h)
    (p : PostG (G.rc ν) Z ρ H (fun c d H' => W c d σ H') ((f env h).bind k) R)
    (q : ∀ d h' Z' ρ' H', f env h = .ok d h' → Step Z ρ H Z' ρ' H' → Stt G ν Z' ρ' σ H' env h' → PostG (G.rc ν) Z' ρ' H' (fun c d H' => W c d σ H') (k d h') R → Q d H') : rT G W f σ H Q :=
  ⟨ν, Z, ρ, env, h, x, (PostG.bind p).mono fun d h' Z' ρ' H' e s r p' => q d h' Z' ρ' H' e s (x.step s r) p'⟩
end

/-! ### leaves -/
section
variable {G : Cfg} {pos : Pos}
def fVar (i : Nat) : Fe := fun env h => match at_ env i with
  | .und => .bad
  | d => .ok d h
theorem fVar_ok {i : Nat} {env : EnvD} {h : HpD} {α : Type} {C Z ρ H E} {R : D → HpD → (Addr → Prop) → List (Option Addr) → Hp → Prop} (p : PostG C Z ρ H E (fVar i env h) R) : ∃ d, env[i]? = some d ∧ d ≠ .und ∧ fVar i env h = .ok d h := by
  unfold fVar at p ⊢
  generalize e : at_ env i = d at p ⊢
  cases d with
  | und => exact p.elim
  | _ => exact ⟨_, at_get e (fun z => by cases z), (fun z => by cases z), rfl⟩
theorem se_var {i : Nat} {x : Str} (hN : G.N[i]? = some x) (hv : G.sc.names.lookup x = some .local ∨ G.sc.names.lookup x = some .cell ∨ G.sc.names.lookup x = some .free)
    (hd : (x == ("__debug__" : Str)) = false := by decide) (hcd : (x == ("__classdict__" : Str)) = false := by decide) : SE G (.Name x pos) (fVar i) := by
  intro X W o tk
  refine PE.by_ (pe_var (i := i) (by rw [o.N]; exact hN) (by unfold Vis; rw [o.sc]; exact hv) hd hcd) fun σ H Q q => ?_
  obtain ⟨ν, Z, ρ, env, h, x, p⟩ := q
  obtain ⟨d, e, n, ef⟩ := fVar_ok (α := Unit) p
  rw [ef] at p
  obtain ⟨v, ev, rv⟩ := x.re.get i d e n
  exact ⟨v, ev, p.here x.rh v rv⟩
def fC (d : D) : Fe := fun _ h => .ok d h
theorem se_const {e : Expr} {d : D} {v : V} (hp : ∀ X, PE X e (tC v)) (r : ∀ C Z ρ H, RV C Z ρ H d v) : SE G e (fC d) := by
  intro X W o tk
  refine PE.by_ (hp X) fun σ H Q q => ?_
  obtain ⟨ν, Z, ρ, env, h, x, p⟩ := q
  exact p.here x.rh v (r _ _ _ _)
theorem se_int {i j} : SE G (.Constant (.int i) j pos) (fC (.int i)) := se_const (fun _ => pe_int) fun _ _ _ _ => .int i
theorem se_bl {i j} : SE G (.Constant (.bool i) j pos) (fC (.bl i)) := se_const (fun _ => pe_bl) fun _ _ _ _ => .bl i
theorem se_non {j} : SE G (.Constant .none j pos) (fC .non) := se_const (fun _ => pe_non) fun _ _ _ _ => .non
theorem se_str {x j} : SE G (.Constant (.str x) j pos) (fC (.str x)) := se_const (fun _ => pe_str) fun _ _ _ _ => .str x
/-- a module's global that holds data -/
theorem se_glob {x : Str} {u : Value} {v : V} {d : D} (hg : G.sc.names.lookup x = some .globalImplicit) (hm : G.mg x = some u) (r : RelV v u) (rd : ∀ ν Z ρ H, RV (G.rc ν) Z ρ H d v) (hd : (x == ("__debug__" : Str)) = false := by decide) : SE G (.Name x pos) (fC d) := by
  intro X W o tk
  refine PE.by_ (pe_glob (by show X.env.scope.names.lookup x = _; rw [o.sc]; exact hg) (by rw [o.mg]; exact hm) r hd) fun σ H Q q => ?_
  obtain ⟨ν, Z, ρ, env, h, x, p⟩ := q
  exact p.here x.rh v (rd _ _ _ _)
/-- a built-in class as a value -/
theorem se_ty {x : Str} {T : String} (hg : G.sc.names.lookup x = some .globalImplicit) (hm : G.mg x = none) (hv : bootBuiltins x = some (.type T)) (hn : x ≠ "__name__" := by decide) (hd : (x == ("__debug__" : Str)) = false := by decide) : SE G (.Name x pos) (fC (.ty T)) := by
  intro X W o tk
  refine PE.by_ (pe_bltn (v := .ty T) (by show X.env.scope.names.lookup x = _; rw [o.sc]; exact hg) (by rw [o.mg]; exact hm) hv rfl hn hd) fun σ H Q q => ?_
  obtain ⟨ν, Z, ρ, env, h, x, p⟩ := q
  exact p.here x.rh _ (.ty T)

/-! ### argument lists, displays -/
def faNil : Fa := fun _ h => .ok [] h
def faCons (f : Fe) (g : Fa) : Fa := fun env h => (f env h).bind fun d h => (g env h).bind fun ds h => .ok (d :: ds) h
theorem sa_nil : SA G [] faNil := by
  intro X W o tk
  refine PA.by_ pa_nil fun σ H Q q => ?_
  obtain ⟨ν, Z, ρ, env, h, x, p⟩ := q
  exact p.here x.rh [] .nil
theorem sa_cons {e : Expr} {es : List Expr} {f : Fe} {g : Fa} (he : SE G e f) (hr : SA G es g) (hs : ∀ env, starEach (e :: es) env = (false, eval e env) :: starEach es env := by intro _; rfl) : SA G (e :: es) (faCons f g) := by
  intro X W o tk
  refine PA.by_ (pa_cons (he X W o tk) (hr X W o tk) (hs _)) fun σ H Q q => ?_
  obtain ⟨ν, Z, ρ, env, h, x, p⟩ := q
  refine rE.bind x p fun d h1 Z1 ρ1 H1 v e1 s1 x1 r1 p1 => ?_
  refine rA.bind x1 p1 fun ds h2 Z2 ρ2 H2 vs e2 s2 x2 r2 p2 => ?_
  exact p2.here x2.rh _ (.cons (r1.step s2) r2)
/-- lists and tuples stay short -/
def short : List D → Nat → Bool
  | [], _ => true
  | _ :: _, 0 => false
  | _ :: r, n + 1 => short r n
theorem short_le : ∀ {ds : List D} {n : Nat}, short ds n = true → ds.length ≤ n
  | [], _, _ => Nat.zero_le _
  | _ :: _, 0, h => by cases h
  | _ :: r, n + 1, h => Nat.succ_le_succ (short_le (ds := r) h)
def most : Nat := 100000
theorem most_le {n : Nat} (h : n ≤ most) : n ≤ sizeLine := Nat.le_trans h (by decide)
theorem most_lt {n : Nat} (h : n ≤ most) : n < sizeLine := Nat.lt_of_le_of_lt h (by decide)
def fTup (g : Fa) : Fe := fun env h => (g env h).bind fun ds h => match short ds most with
  | true => .ok (.tup ds) h
  | false => .bad
theorem se_tup {es : List Expr} {g : Fa} {k : Nat} (hr : SA G es g) : SE G (.Tuple es k pos) (fTup g) := by
  intro X W o tk
  refine PE.by_ (pe_tup (hr X W o tk)) fun σ H Q q => ?_
  obtain ⟨ν, Z, ρ, env, h, x, p⟩ := q
  refine rA.bind x p fun ds h1 Z1 ρ1 H1 vs e1 s1 x1 r1 p1 => ?_
  cases hs : short ds most with
  | false => rw [hs] at p1; exact p1.elim
  | true =>
    rw [hs] at p1
    refine ⟨by rw [← r1.length]; exact most_le (short_le hs), fun a na => ?_⟩
    exact p1 Z1 ρ1 _ (step_new x1.rh na) (x1.rh.new na) _ (.tup (.of upd_same) (r1.step (step_new x1.rh na)))
/-- a new list at p, avoided -/
theorem handF {C : RC} {Z : Addr → Prop} {ρ : List (Option Addr)} {H H0 : Hp} {E : XK} {h : HpD} {ds : List D} {Q : VK} {xs : List V} {p : Addr} (s0 : ∀ a o, H0 a = some o → ∃ o', H a = some o') (x : RH C Z ρ H h) (r : RVs C Z ρ H ds xs) (hp : H p = none)
    (q : PostG C Z ρ H E (.ok ds h) (HandF C H0 Q)) : Q (.ref p) (upd H p (.lst xs)) := by
  have np : ∀ a, Z a → a ≠ p := fun a z => x.ne_none hp z
  have st : Step Z ρ H (fun a => Z a ∨ a = p) ρ (upd H p (.lst xs)) :=
    ⟨x.zin, fun a u e _ => by rw [upd_ne (ne_of_none e hp)]; exact e, fun a u e _ => by rw [upd_ne (ne_of_none e hp)]; exact e, fun a u e => ⟨u, by rw [upd_ne (ne_of_none e hp)]; exact e⟩, fun _ _ e => e, fun _ e => .inl e, fun _ e => .inl e, fun a e => e.elim .inl fun e => .inr (by rw [e]; exact hp)⟩
  have nr : some p ∉ ρ := fun z => np p (x.zin p z) rfl
  refine q _ _ _ st ⟨x.len, x.inj, fun a z => .inl (x.zin a z), fun a z => ?_, fun n u e => (x.obj n u e).step st fun a q => by rw [upd_ne (np a (x.zin a (mem_of_get q)))]⟩ xs p (.inr rfl) nr ?_ upd_same (r.step st)
  · rcases z with z | z
    · obtain ⟨u, e⟩ := x.zdom a z
      exact ⟨u, by rw [upd_ne (np a z)]; exact e⟩
    · rw [z]; exact ⟨_, upd_same⟩
  · cases e : H0 p with
    | none => rfl
    | some o => obtain ⟨o', e'⟩ := s0 p o e; rw [hp] at e'; cases e'
def fLst (g : Fa) : Fa := fun env h => (g env h).bind fun ds h => match short ds most with
  | true => .ok ds h
  | false => .bad
theorem sf_lst {es : List Expr} {g : Fa} (hr : SA G es g) : SF G (.List es pos) (fLst g) := by
  intro X W o tk
  refine PE.by_ (pe_lst (hr X W o tk)) fun σ H Q q => ?_
  obtain ⟨ν, Z, ρ, env, h, x, p⟩ := q
  refine rA.bind x p fun ds h1 Z1 ρ1 H1 vs e1 s1 x1 r1 p1 => ?_
  cases hs : short ds most with
  | false => rw [hs] at p1; exact p1.elim
  | true =>
    rw [hs] at p1
    refine ⟨by rw [← r1.length]; exact most_le (short_le hs), fun a na => ?_⟩
    exact handF s1.dom x1.rh r1 na p1
/-- a new list that nobody will change -/
def fFrz (g : Fa) : Fe := fun env h => (g env h).bind fun ds h => .ok (.lst ds) h
/-- a new list that will be changed: it gets a number -/
def fMut (g : Fa) : Fe := fun env h => (g env h).bind fun ds h => .ok (.ref h.length) (h ++ [.lst ds])
theorem RH.unZ {C : RC} {Z : Addr → Prop} {ρ : List (Option Addr)} {H : Hp} {h : HpD} {p : Addr} (x : RH C Z ρ H h) (n : some p ∉ ρ) : RH C (fun a => Z a ∧ a ≠ p) ρ H h :=
  ⟨x.len, x.inj, fun a z => ⟨x.zin a z, fun e => n (e ▸ z)⟩, fun a z => x.zdom a z.1, fun n u e => (x.obj n u e).mono fun a z => z.1⟩
theorem Step.unZ {Z Z' : Addr → Prop} {ρ ρ' : List (Option Addr)} {H H' : Hp} {p : Addr} (s : Step Z ρ H Z' ρ' H') (zd : ∀ a, Z a → ∃ o, H a = some o) (hp : H p = none) : Step Z ρ H (fun a => Z' a ∧ a ≠ p) ρ' H' :=
  ⟨s.zin, s.keep, s.imm, s.dom, s.rfs, s.new, fun a z => ⟨s.zle a z, fun e => by obtain ⟨o, q⟩ := zd a z; rw [e, hp] at q; cases q⟩, fun a z => s.znew a z.1⟩
theorem se_frz {e : Expr} {g : Fa} (hr : SF G e g) : SE G e (fFrz g) := by
  intro X W o tk
  refine PE.by_ (hr X W o tk) fun σ H Q q => ?_
  obtain ⟨ν, Z, ρ, env, h, x, p⟩ := q
  refine ⟨ν, Z, ρ, env, h, x, ?_⟩
  unfold fFrz at p
  cases ef : g env h with
  | bad => rw [ef] at p; exact p
  | exc n d h' => rw [ef] at p; exact p
  | ok ds h' =>
    rw [ef] at p
    intro Z' ρ' H' s r xs a za na ha hxs rs
    exact p _ ρ' H' (s.unZ x.rh.zdom ha) (r.unZ na) _ (.lst hxs (fun z => z.2 rfl) (rs.anti fun b z => z.1))
theorem app_get {ρ : List (Option Addr)} {x : Option Addr} (n : Nat) (a : Addr) (e : ρ[n]? = some (some a)) : (ρ ++ [x])[n]? = some (some a) := by
  rw [List.getElem?_append_left (List.getElem?_eq_some_iff.mp e).1]; exact e
theorem get_snoc {α : Type} {l : List α} {x y : α} {i : Nat} (e : (l ++ [x])[i]? = some y) : l[i]? = some y ∨ (i = l.length ∧ y = x) := by
  by_cases h : i < l.length
  · rw [List.getElem?_append_left h] at e; exact .inl e
  · rw [List.getElem?_append_right (Nat.le_of_not_lt h)] at e
    cases hj : i - l.length with
    | zero => rw [hj] at e; simp at e; exact .inr ⟨by omega, e.symm⟩
    | succ k => rw [hj] at e; simp at e
theorem RH.num {C : RC} {Z : Addr → Prop} {ρ : List (Option Addr)} {H : Hp} {h : HpD} {p : Addr} {o : HObj} (x : RH C Z ρ H h) (zp : Z p) (n : some p ∉ ρ) (ho : HRel C Z (ρ ++ [some p]) H h.length o) :
    RH C Z (ρ ++ [some p]) H (h ++ [o]) := by
  refine ⟨by simp [x.len], fun i j a e1 e2 => ?_, fun a e => ?_, x.zdom, fun m u e => ?_⟩
  · rcases get_snoc e1 with q1 | ⟨q1, r1⟩
    · rcases get_snoc e2 with q2 | ⟨q2, r2⟩
      · exact x.inj i j a q1 q2
      · cases r2; exact absurd (mem_of_get q1) n
    · rcases get_snoc e2 with q2 | ⟨q2, r2⟩
      · cases r1; exact absurd (mem_of_get q2) n
      · omega
  · rcases List.mem_append.mp e with q | q
    · exact x.zin a q
    · simp at q; subst q; exact zp
  · rcases get_snoc e with q | ⟨q, r⟩
    · exact (x.obj m u q).rho app_get
    · subst q; subst r; exact ho
theorem se_mut {e : Expr} {g : Fa} (hr : SF G e g) : SE G e (fMut g) := by
  intro X W o tk
  refine PE.by_ (hr X W o tk) fun σ H Q q => ?_
  obtain ⟨ν, Z, ρ, env, h, x, p⟩ := q
  refine ⟨ν, Z, ρ, env, h, x, ?_⟩
  unfold fMut at p
  cases ef : g env h with
  | bad => rw [ef] at p; exact p
  | exc n d h' => rw [ef] at p; exact p
  | ok ds h' =>
    rw [ef] at p
    intro Z' ρ' H' s r xs a za na ha hxs rs
    have el : (ρ' ++ [some a])[h'.length]? = some (some a) := by rw [← r.len]; simp
    refine p Z' (ρ' ++ [some a]) H' ⟨s.zin, s.keep, s.imm, s.dom, fun n b e => app_get n b (s.rfs n b e), fun b e => ?_, s.zle, s.znew⟩ (r.num za na ⟨a, xs, el, hxs, rs.rho app_get⟩) _ (.ref el)
    rcases List.mem_append.mp e with q | q
    · exact s.new b q
    · simp at q; subst q; exact .inr ha
end
end Eg

set_option Elab.async false
set_option linter.all false
set_option maxRecDepth 100000
/-! The engine, part 3: operators and comparisons over data. -/
namespace Eg
open PySem PySem.Spec PyProof.Rows L2

/-! ### ints -/
def zof : D → Option (Int × List Int)
  | .int i => some (i, [])
  | .lin c ks => some (c, ks)
  | _ => none
def mkz (c : Int) (ks : List Int) : D := match zeroK ks with
  | true => .int c
  | false => .lin c ks
section
variable {C : RC} {Z : Addr → Prop} {ρ : List (Option Addr)} {H : Hp} {E : XK} {h : HpD}
theorem zof_ok {d : D} {v : V} {c : Int} {ks : List Int} (e : zof d = some (c, ks)) (r : RV C Z ρ H d v) : v = .int (c + dot ks C.ν) := by
  cases r <;> simp [zof] at e
  · obtain ⟨rfl, rfl⟩ := e; rw [dot_nil]; simp
  · rename_i q; obtain ⟨rfl, rfl⟩ := e; rw [q]
theorem mkz_ok (c : Int) (ks : List Int) : RV C Z ρ H (mkz c ks) (.int (c + dot ks C.ν)) := by
  unfold mkz
  cases e : zeroK ks with
  | true => rw [dot_zero _ e]; simp; exact .int c
  | false => exact .lin c ks rfl
/-- is c + k·ν below nought? -/
def isNeg (β : Box) (c : Int) (ks : List Int) : Option Bool := match ks with
  | [] => some (match c with | .ofNat _ => false | .negSucc _ => true)
  | ks => match c + hi β ks with
    | .negSucc _ => some true
    | _ => match c + lo β ks with
      | .ofNat _ => some false
      | _ => none
theorem isNeg_ok {β : Box} {ν : List Int} {c : Int} {ks : List Int} {b : Bool} (hb : inBox β ν) (e : isNeg β c ks = some b) : b = decide (c + dot ks ν < 0) := by
  have h1 := lo_le (ks := ks) hb
  have h2 := le_hi (ks := ks) hb
  unfold isNeg at e
  split at e
  · rw [dot_nil]
    cases c with
    | ofNat n => cases e; simp
    | negSucc n => cases e; simp
  · split at e
    · rename_i q
      cases e
      symm
      rw [decide_eq_true_eq]
      omega
    · split at e
      · rename_i q
        cases e
        symm
        rw [decide_eq_false_iff_not]
        have : (0 : Int) ≤ c + lo β ks := by rw [q]; exact Int.natCast_nonneg _
        omega
      · cases e
def isZ0 : Int → Bool
  | .ofNat 0 => true
  | _ => false
theorem isZ0_ok : ∀ c : Int, isZ0 c = decide (c = 0)
  | .ofNat 0 => rfl
  | .ofNat (n + 1) => by symm; rw [show isZ0 (.ofNat (n + 1)) = false from rfl, decide_eq_false_iff_not]; intro h; cases h
  | .negSucc n => by symm; rw [show isZ0 (.negSucc n) = false from rfl, decide_eq_false_iff_not]; intro h; cases h
def isZero (β : Box) (c : Int) (ks : List Int) : Option Bool := match ks with
  | [] => some (isZ0 c)
  | ks => match zeroK ks with
    | true => some (isZ0 c)
    | false => match isNeg β c ks, isNeg β (-c) (mulK (-1) ks) with
      | some true, _ => some false
      | _, some true => some false
      | some false, some false => some true
      | _, _ => none
theorem isZero_ok {β : Box} {ν : List Int} {c : Int} {ks : List Int} {b : Bool} (hb : inBox β ν) (e : isZero β c ks = some b) : b = decide (c + dot ks ν = 0) := by
  unfold isZero at e
  split at e
  · rw [dot_nil]
    cases e; rw [isZ0_ok]; simp
  · split at e
    · rename_i q
      rw [dot_zero _ q]
      cases e; rw [isZ0_ok]; simp
    · split at e
      · rename_i q
        have := isNeg_ok hb q
        cases e
        have := of_decide_eq_true this.symm
        symm; rw [decide_eq_false_iff_not]; omega
      · rename_i q _
        have := isNeg_ok hb q
        cases e
        have := of_decide_eq_true this.symm
        rw [dot_mul] at this
        symm; rw [decide_eq_false_iff_not]; omega
      · rename_i q r
        have h1 := isNeg_ok hb q
        have h2 := isNeg_ok hb r
        cases e
        have h1 := of_decide_eq_false h1.symm
        have h2 := of_decide_eq_false h2.symm
        rw [dot_mul] at h2
        symm; rw [decide_eq_true_eq]; omega
      · cases e
def subK (ks ls : List Int) : List Int := addK ks (mulK (-1) ls)
def ltI : Int → Int → Bool
  | .ofNat a, .ofNat b => Nat.blt a b
  | .negSucc a, .negSucc b => Nat.blt b a
  | .negSucc _, .ofNat _ => true
  | .ofNat _, .negSucc _ => false
theorem ltI_ok (a b : Int) : ltI a b = decide (a < b) := by
  cases a <;> cases b <;> simp [ltI, Nat.blt] <;> first | omega | (rw [Bool.eq_iff_iff]; simp; omega) | skip
def eqI : Int → Int → Bool
  | .ofNat a, .ofNat b => Nat.beq a b
  | .negSucc a, .negSucc b => Nat.beq a b
  | _, _ => false
theorem eqI_ok (a b : Int) : eqI a b = decide (a = b) := by
  cases a <;> cases b <;> simp [eqI, Nat.beq_eq] <;> (try rw [Bool.eq_iff_iff]) <;> (try simp) <;> (try omega)
/-- d < e of ints -/
def dLt (β : Box) (d e : D) : Option Bool := match d, e with
  | .int i, .int j => some (ltI i j)
  | d, e => match zof d, zof e with
    | some (c, ks), some (c', ks') => isNeg β (c - c') (subK ks ks')
    | _, _ => none
theorem dLt_ok {β : Box} {d e : D} {v u : V} {b : Bool} (hb : inBox β C.ν) (q : dLt β d e = some b) (r : RV C Z ρ H d v) (s : RV C Z ρ H e u) : ∃ i j, v = .int i ∧ u = .int j ∧ b = decide (i < j) := by
  unfold dLt at q
  split at q
  · cases r; cases s; cases q; exact ⟨_, _, rfl, rfl, ltI_ok _ _⟩
  · split at q
    · rename_i c ks c' ks' h1 h2
      refine ⟨_, _, zof_ok h1 r, zof_ok h2 s, ?_⟩
      have := isNeg_ok hb q
      rw [subK, dot_add, dot_mul] at this
      rw [this]
      rw [decide_eq_decide]
      omega
    · cases q
/-- equality of ints -/
def dEqZ (β : Box) (d e : D) : Option Bool := match d, e with
  | .int i, .int j => some (eqI i j)
  | d, e => match zof d, zof e with
    | some (c, ks), some (c', ks') => isZero β (c - c') (subK ks ks')
    | _, _ => none
theorem dEqZ_ok {β : Box} {d e : D} {v u : V} {b : Bool} (hb : inBox β C.ν) (q : dEqZ β d e = some b) (r : RV C Z ρ H d v) (s : RV C Z ρ H e u) : ∃ i j, v = .int i ∧ u = .int j ∧ b = decide (i = j) := by
  unfold dEqZ at q
  split at q
  · cases r; cases s; cases q; exact ⟨_, _, rfl, rfl, eqI_ok _ _⟩
  · split at q
    · rename_i c ks c' ks' h1 h2
      refine ⟨_, _, zof_ok h1 r, zof_ok h2 s, ?_⟩
      have := isZero_ok hb q
      rw [subK, dot_add, dot_mul] at this
      rw [this]
      rw [decide_eq_decide]
      omega
    · cases q
end

/-! ### lists and tuples that are read -/
def lookL (h : HpD) : D → Option (List D)
  | .lst ds => some ds
  | .ref n => match hat h n with
    | .lst ds => some ds
    | _ => none
  | _ => none
def look (h : HpD) : D → Option (List D)
  | .tup ds => some ds
  | d => lookL h d
section
variable {C : RC} {Z : Addr → Prop} {ρ : List (Option Addr)} {H : Hp} {E : XK} {h : HpD}
theorem RH.at_ {n : Nat} {o : HObj} (x : RH C Z ρ H h) (e : hat h n = o) (ne : o ≠ .gone) : HRel C Z ρ H n o := x.obj n o (hat_get e ne)
theorem lookL_ok {d : D} {v : V} {ds : List D} (x : RH C Z ρ H h) (e : lookL h d = some ds) (r : RV C Z ρ H d v) : ∃ a xs, v = .ref a ∧ H a = some (.lst xs) ∧ RVs C Z ρ H ds xs := by
  cases r <;> simp [lookL] at e
  · rename_i h0 z rs; subst e; exact ⟨_, _, rfl, h0, rs⟩
  · rename_i n a q
    split at e
    · rename_i ds' q2
      cases e
      obtain ⟨a', xs, e1, e2, rs⟩ := x.at_ q2 (fun z => by cases z)
      rw [q] at e1; cases e1
      exact ⟨_, _, rfl, e2, rs⟩
    · cases e
theorem look_ok {d : D} {v : V} {ds : List D} (x : RH C Z ρ H h) (e : look h d = some ds) (r : RV C Z ρ H d v) : ∃ a xs, v = .ref a ∧ (SqL C.K H a xs ∨ SqT C.K H a xs) ∧ RVs C Z ρ H ds xs := by
  unfold look at e
  split at e
  · cases e
    cases r with | tup q rs => exact ⟨_, _, rfl, .inr q, rs⟩
  · obtain ⟨a, xs, e1, e2, rs⟩ := lookL_ok x e r
    exact ⟨a, xs, e1, .inl (.of e2), rs⟩
end

/-! ### operators -/
def f2 (g : D → D → HpD → Out D) (fa fb : Fe) : Fe := fun env h => (fa env h).bind fun d h => (fb env h).bind fun e h => g d e h
def f1 (g : D → HpD → Out D) (fa : Fe) : Fe := fun env h => (fa env h).bind fun d h => g d h
/-- the operation g over data does what the reading r asks -/
def Impl2 (G : Cfg) (r : R2) (g : D → D → HpD → Out D) : Prop := ∀ ν Z ρ H E h d e v u Q, inBox G.β ν → RH (G.rc ν) Z ρ H h → RV (G.rc ν) Z ρ H d v → RV (G.rc ν) Z ρ H e u → PostG (G.rc ν) Z ρ H E (g d e h) (Hand (G.rc ν) Q) → r v u H Q
def Impl1 (G : Cfg) (r : V → Hp → VK → Prop) (g : D → HpD → Out D) : Prop := ∀ ν Z ρ H E h d v Q, inBox G.β ν → RH (G.rc ν) Z ρ H h → RV (G.rc ν) Z ρ H d v → PostG (G.rc ν) Z ρ H E (g d h) (Hand (G.rc ν) Q) → r v H Q
section
variable {G : Cfg} {a b c : Expr} {fa fb fc : Fe} {pos : Pos}
theorem se_op {op : Operator} {r : PySem.W.Frag → R2} {g : D → D → HpD → Out D} (ho : ∀ X, OkX G X → OpR X (binaryOp op) (r X.K)) (im : Impl2 G (r G.K) g) (ha : SE G a fa) (hb : SE G b fb) : SE G (.BinOp a op b pos) (f2 g fa fb) := by
  intro X W o tk
  refine PE.by_ (pe_op (ho X o) (ha X W o tk) (hb X W o tk)) fun σ H Q q => ?_
  obtain ⟨ν, Z, ρ, env, h, x, p⟩ := q
  refine rE.bind x p fun d h1 Z1 ρ1 H1 v e1 s1 x1 r1 p1 => ?_
  refine rE.bind x1 p1 fun e h2 Z2 ρ2 H2 u e2 s2 x2 r2 p2 => ?_
  rw [o.K]
  exact im ν Z2 ρ2 H2 _ h2 d e v u Q x2.hb x2.rh (r1.step s2) r2 p2
theorem se_un {op : UnaryOp} {r : PySem.W.Frag → V → Hp → VK → Prop} {g : D → HpD → Out D} (ho : ∀ X, OkX G X → UnR X (unaryOp op) (r X.K)) (im : Impl1 G (r G.K) g) (ha : SE G a fa) : SE G (.UnaryOp op a pos) (f1 g fa) := by
  intro X W o tk
  refine PE.by_ (pe_un (ho X o) (ha X W o tk)) fun σ H Q q => ?_
  obtain ⟨ν, Z, ρ, env, h, x, p⟩ := q
  refine rE.bind x p fun d h1 Z1 ρ1 H1 v e1 s1 x1 r1 p1 => ?_
  rw [o.K]
  exact im ν Z1 ρ1 H1 _ h1 d v Q x1.hb x1.rh r1 p1
theorem se_cmp {op : CmpOp} {r : PySem.W.Frag → R2} {g : D → D → HpD → Out D} (ho : ∀ X, OkX G X → OpR X (compareOp op) (r X.K)) (im : Impl2 G (r G.K) g) (ha : SE G a fa) (hb : SE G b fb) (hm : behindInMarks op b = false) : SE G (.Compare a [op] [b] pos) (f2 g fa fb) := by
  intro X W o tk
  refine PE.by_ (pe_cmpR (ho X o) (ha X W o tk) (hb X W o tk) hm) fun σ H Q q => ?_
  obtain ⟨ν, Z, ρ, env, h, x, p⟩ := q
  refine rE.bind x p fun d h1 Z1 ρ1 H1 v e1 s1 x1 r1 p1 => ?_
  refine rE.bind x1 p1 fun e h2 Z2 ρ2 H2 u e2 s2 x2 r2 p2 => ?_
  rw [o.K]
  exact im ν Z2 ρ2 H2 _ h2 d e v u Q x2.hb x2.rh (r1.step s2) r2 p2
/-- a value taken as a truth -/
def asB (o : Out D) : Out Bool := o.bind fun d h => match d with
  | .bl b => .ok b h
  | _ => .bad
/-- the value's test: a bool -/
theorem asB_hand {C : RC} {Z : Addr → Prop} {ρ : List (Option Addr)} {H : Hp} {E : XK} {o : Out D} {Q : Bool → Hp → Prop} (p : PostG C Z ρ H E (asB o) (HandB Q)) : PostG C Z ρ H E o (Hand C fun y H' => ∃ k, y = .bl k ∧ Q k H') := by
  refine (PostG.bind p).mono fun d h' Z' ρ' H' _ s r q v rv => ?_
  cases d with
  | bl b => cases rv; exact ⟨b, rfl, PostG.here r q⟩
  | _ => exact q.elim
theorem st_cmp {op : CmpOp} {r : PySem.W.Frag → R2} {g : D → D → HpD → Out D} (ho : ∀ X, OkX G X → OpR X (compareOp op) (r X.K)) (im : Impl2 G (r G.K) g) (ha : SE G a fa) (hb : SE G b fb) (hm : behindInMarks op b = false) : ST G (.Compare a [op] [b] pos) (fun env h => asB (f2 g fa fb env h)) := by
  intro X W o tk
  refine PT.by_ (pt_cmpR (ho X o) (ha X W o tk) (hb X W o tk) hm) fun σ H Q q => ?_
  obtain ⟨ν, Z, ρ, env, h, x, p⟩ := q
  refine rE.bind x (asB_hand p) fun d h1 Z1 ρ1 H1 v e1 s1 x1 r1 p1 => ?_
  refine rE.bind x1 p1 fun e h2 Z2 ρ2 H2 u e2 s2 x2 r2 p2 => ?_
  rw [o.K]
  exact im ν Z2 ρ2 H2 _ h2 d e v u _ x2.hb x2.rh (r1.step s2) r2 p2
/-- a op1 b op2 c -/
def fCh (g g' : D → D → HpD → Out D) (fa fb fc : Fe) : Fe := fun env h => (fa env h).bind fun d h => (fb env h).bind fun e h => (asB (g d e h)).bind fun k h => match k with
  | true => (fc env h).bind fun y h => g' e y h
  | false => .ok (.bl false) h
theorem chain_core {X : Cx} {W : WX} {op op' : CmpOp} {r r' : PySem.W.Frag → R2} {g g' : D → D → HpD → Out D} (o : OkX G X) (im : Impl2 G (r G.K) g) (im' : Impl2 G (r' G.K) g') {σ : L2.St} {H : Hp} {Q : VK}
    (q : rE G W (fCh g g' fa fb fc) σ H Q) : tChain (r X.K) (r' X.K) (rE G W fa) (rE G W fb) (rE G W fc) σ H Q := by
  obtain ⟨ν, Z, ρ, env, h, x, p⟩ := q
  refine rE.bind x p fun d h1 Z1 ρ1 H1 v e1 s1 x1 r1 p1 => ?_
  refine rE.bind x1 p1 fun e h2 Z2 ρ2 H2 u e2 s2 x2 r2 p2 => ?_
  rw [o.K]
  refine im ν Z2 ρ2 H2 _ h2 d e v u _ x2.hb x2.rh (r1.step s2) r2 ((PostG.bind (PostG.bind p2)).mono fun y h3 Z3 ρ3 H3 e3 s3 rh3 q3 z rz => ?_)
  cases y with
  | bl k =>
    cases rz
    refine ⟨k, rfl, ?_⟩
    have q4 := PostG.here rh3 q3
    cases k with
    | true =>
      refine rE.bind (x2.step s3 rh3) q4 fun y4 h4 Z4 ρ4 H4 v4 e4 s4 x4 r4 p4 => ?_
      exact im' ν Z4 ρ4 H4 _ h4 e y4 u v4 Q x4.hb x4.rh ((r2.step s3).step s4) r4 p4
    | false => exact q4.here rh3 _ (.bl false)
  | _ => exact q3.elim
theorem se_chain {op op' : CmpOp} {r r' : PySem.W.Frag → R2} {g g' : D → D → HpD → Out D} (ho : ∀ X, OkX G X → OpR X (compareOp op) (r X.K)) (ho' : ∀ X, OkX G X → OpR X (compareOp op') (r' X.K)) (im : Impl2 G (r G.K) g) (im' : Impl2 G (r' G.K) g')
    (ha : SE G a fa) (hb : SE G b fb) (hc : SE G c fc) (hm : lastMarks [op, op'] [b, c] = false) : SE G (.Compare a [op, op'] [b, c] pos) (fCh g g' fa fb fc) := by
  intro X W o tk
  exact PE.by_ (pe_chain (ho X o) (ho' X o) (ha X W o tk) (hb X W o tk) (hc X W o tk) hm) fun σ H Q q => chain_core (op := op) (op' := op') o im im' q
theorem st_chain {op op' : CmpOp} {r r' : PySem.W.Frag → R2} {g g' : D → D → HpD → Out D} (ho : ∀ X, OkX G X → OpR X (compareOp op) (r X.K)) (ho' : ∀ X, OkX G X → OpR X (compareOp op') (r' X.K)) (im : Impl2 G (r G.K) g) (im' : Impl2 G (r' G.K) g')
    (ha : SE G a fa) (hb : SE G b fb) (hc : SE G c fc) (hm : lastMarks [op, op'] [b, c] = false) : ST G (.Compare a [op, op'] [b, c] pos) (fun env h => asB (fCh g g' fa fb fc env h)) := by
  intro X W o tk
  refine PT.by_ (pt_chain (ho X o) (ho' X o) (ha X W o tk) (hb X W o tk) (hc X W o tk) hm) fun σ H Q q => ?_
  obtain ⟨ν, Z, ρ, env, h, x, p⟩ := q
  exact chain_core (op := op) (op' := op') o im im' ⟨ν, Z, ρ, env, h, x, asB_hand p⟩
end
end Eg

set_option Elab.async false
set_option linter.all false
set_option maxRecDepth 100000
/-! The engine, part 4: equality, membership, the operators one by one. -/
namespace Eg
open PySem PySem.Spec PyProof.Rows L2

/-! ### data as PyData -/
def normO : HObj → D
  | .lst ds => .lst ds
  | _ => .und
def norm (h : HpD) : D → D
  | .ref n => normO (hat h n)
  | d => d
def mapO {α β : Type} (f : α → Option β) : List α → Option (List β)
  | [] => some []
  | x :: r => match f x with
    | some y => match mapO f r with
      | some ys => some (y :: ys)
      | none => none
    | none => none
/-- what d is worth (n: nesting) -/
def pyv (ν : List Int) (h : HpD) : Nat → D → Option PyData
  | 0, _ => none
  | n + 1, d => match norm h d with
    | .non => some .none
    | .bl b => some (.bool b)
    | .int i => some (.int i)
    | .lin c ks => some (.int (c + dot ks ν))
    | .str x => match PyData.strOk x with
      | true => some (.str x)
      | false => none
    | .tup ds => match mapO (pyv ν h n) ds with
      | some ps => some (.tuple ps)
      | none => none
    | .lst ds => match mapO (pyv ν h n) ds with
      | some ps => some (.list ps)
      | none => none
    | _ => none
def pyable (h : HpD) : Nat → D → Bool
  | 0, _ => false
  | n + 1, d => match norm h d with
    | .non => true
    | .bl _ => true
    | .int _ => true
    | .lin _ _ => true
    | .str x => PyData.strOk x
    | .tup ds => ds.all (pyable h n)
    | .lst ds => ds.all (pyable h n)
    | _ => false
theorem mapO_all {ν : List Int} {h : HpD} {n : Nat} (ih : ∀ d, pyable h n d = true → ∃ p, pyv ν h n d = some p) : ∀ ds : List D, ds.all (pyable h n) = true → ∃ ps, mapO (pyv ν h n) ds = some ps
  | [], _ => ⟨[], rfl⟩
  | d :: r, e => by
    rw [List.all_cons, Bool.and_eq_true] at e
    obtain ⟨p, hp⟩ := ih d e.1
    obtain ⟨ps, hps⟩ := mapO_all ih r e.2
    exact ⟨p :: ps, by simp only [mapO, hp, hps]⟩
theorem pyable_ok {ν : List Int} {h : HpD} : ∀ (n : Nat) (d : D), pyable h n d = true → ∃ p, pyv ν h n d = some p
  | 0, _, e => by cases e
  | n + 1, d, e => by
    unfold pyable at e
    unfold pyv
    cases hd : norm h d with
    | tup ds =>
      rw [hd] at e
      obtain ⟨ps, hps⟩ := mapO_all (pyable_ok (ν := ν) n) ds e
      exact ⟨.tuple ps, by simp only [hps]⟩
    | lst ds =>
      rw [hd] at e
      obtain ⟨ps, hps⟩ := mapO_all (pyable_ok (ν := ν) n) ds e
      exact ⟨.list ps, by simp only [hps]⟩
    | str x =>
      rw [hd] at e
      have e' : PyData.strOk x = true := e
      exact ⟨.str x, by simp only [e']⟩
    | non => exact ⟨_, rfl⟩
    | bl _ => exact ⟨_, rfl⟩
    | int _ => exact ⟨_, rfl⟩
    | lin _ _ => exact ⟨_, rfl⟩
    | und => rw [hd] at e; cases e
    | dct _ _ => rw [hd] at e; cases e
    | ref _ => rw [hd] at e; cases e
    | rng _ _ => rw [hd] at e; cases e
    | ty _ => rw [hd] at e; cases e
    | fn _ => rw [hd] at e; cases e
section
variable {C : RC} {Z : Addr → Prop} {ρ : List (Option Addr)} {H : Hp} {E : XK} {h : HpD}
/-- what norm leaves: a list at its address -/
theorem norm_lst {d : D} {v : V} {ds : List D} (x : RH C Z ρ H h) (e : norm h d = .lst ds) (r : RV C Z ρ H d v) : ∃ a xs, v = .ref a ∧ H a = some (.lst xs) ∧ RVs C Z ρ H ds xs := by
  refine lookL_ok (h := h) (d := d) x ?_ r
  cases d with
  | lst es => cases e; rfl
  | ref n =>
    have e : normO (hat h n) = .lst ds := e
    show (match hat h n with | .lst ds => some ds | _ => none) = some ds
    cases q : hat h n with
    | lst es => rw [q] at e; cases e; rfl
    | gone => rw [q] at e; cases e
    | cup _ => rw [q] at e; cases e
    | dct _ _ => rw [q] at e; cases e
  | _ => cases e
theorem norm_flat {d e : D} (q : norm h d = e) (n1 : ∀ ds, e ≠ .lst ds) (n2 : e ≠ .und) : d = e := by
  cases d with
  | ref n =>
    have q : normO (hat h n) = e := q
    cases z : hat h n with
    | lst es => rw [z] at q; exact absurd q.symm (n1 _)
    | gone => rw [z] at q; exact absurd q.symm n2
    | cup _ => rw [z] at q; exact absurd q.symm n2
    | dct _ _ => rw [z] at q; exact absurd q.symm n2
  | _ => exact q
theorem pyv_all {n : Nat} (ih : ∀ (d : D) (v : V) (p : PyData), pyv C.ν h n d = some p → RV C Z ρ H d v → Dp C.K H v p ∧ p.canLay0 = true ∧ p.depth ≤ n) :
    ∀ (ds : List D) (vs : List V) (ps : List PyData), mapO (pyv C.ν h n) ds = some ps → RVs C Z ρ H ds vs → DpAll C.K H vs ps ∧ PyData.canLayAll0 ps = true ∧ PyData.depthAll ps ≤ n
  | [], _, _, e, .nil => by cases e; exact ⟨.nil, by simp [PyData.canLayAll0], by simp [PyData.depthAll]⟩
  | d :: r, _, _, e, .cons q t => by
    unfold mapO at e
    split at e
    · rename_i y hy
      split at e
      · rename_i ys hys
        cases e
        obtain ⟨a1, a2, a3⟩ := ih _ _ _ hy q
        obtain ⟨b1, b2, b3⟩ := pyv_all ih _ _ _ hys t
        refine ⟨.cons a1 b1, by simp [PyData.canLayAll0, a2, b2], ?_⟩
        simp only [PyData.depthAll]
        omega
      · cases e
    · cases e
theorem pyv_ok (x : RH C Z ρ H h) : ∀ (n : Nat) (d : D) (v : V) (p : PyData), pyv C.ν h n d = some p → RV C Z ρ H d v → Dp C.K H v p ∧ p.canLay0 = true ∧ p.depth ≤ n
  | 0, _, _, _, e, _ => by cases e
  | n + 1, d, v, p, e, r => by
    unfold pyv at e
    cases hd : norm h d with
    | lst ds =>
      rw [hd] at e
      obtain ⟨a, xs, rfl, ha, rs⟩ := norm_lst x hd r
      dsimp only at e
      split at e
      · rename_i ps hps
        cases e
        obtain ⟨b1, b2, b3⟩ := pyv_all (pyv_ok x n) _ _ _ hps rs
        exact ⟨.lst (.of ha) b1, by simpa [PyData.canLay0] using b2, by simp only [PyData.depth]; omega⟩
      · cases e
    | tup ds =>
      have := norm_flat hd (fun _ z => by cases z) (fun z => by cases z)
      subst this
      rw [hd] at e
      dsimp only at e
      split at e
      · rename_i ps hps
        cases e
        cases r with
        | tup ht rs =>
          obtain ⟨b1, b2, b3⟩ := pyv_all (pyv_ok x n) _ _ _ hps rs
          exact ⟨.tup ht b1, by simpa [PyData.canLay0] using b2, by simp only [PyData.depth]; omega⟩
      · cases e
    | str y =>
      have := norm_flat hd (fun _ z => by cases z) (fun z => by cases z)
      subst this
      rw [hd] at e
      dsimp only at e
      split at e
      · rename_i q
        cases e
        cases r
        exact ⟨.str y, by simpa [PyData.canLay0] using q, by simp only [PyData.depth]; omega⟩
      · cases e
    | non =>
      have := norm_flat hd (fun _ z => by cases z) (fun z => by cases z)
      subst this
      rw [hd] at e
      cases e; cases r
      exact ⟨.non, rfl, by simp only [PyData.depth]; omega⟩
    | bl b =>
      have := norm_flat hd (fun _ z => by cases z) (fun z => by cases z)
      subst this
      rw [hd] at e
      cases e; cases r
      exact ⟨.bl b, rfl, by simp only [PyData.depth]; omega⟩
    | int i =>
      have := norm_flat hd (fun _ z => by cases z) (fun z => by cases z)
      subst this
      rw [hd] at e
      cases e; cases r
      exact ⟨.int i, rfl, by simp only [PyData.depth]; omega⟩
    | lin c ks =>
      have := norm_flat hd (fun _ z => by cases z) (fun z => by cases z)
      subst this
      rw [hd] at e
      cases e
      cases r with
      | lin _ _ q => rw [q]; exact ⟨.int _, rfl, by simp only [PyData.depth]; omega⟩
    | und => rw [hd] at e; cases e
    | dct _ _ => rw [hd] at e; cases e
    | ref _ => rw [hd] at e; cases e
    | rng _ _ => rw [hd] at e; cases e
    | ty _ => rw [hd] at e; cases e
    | fn _ => rw [hd] at e; cases e
end

/-! ### equality over data -/
def rk : D → Nat
  | .non => 0
  | .bl _ => 1
  | .int _ => 1
  | .lin _ _ => 1
  | .str _ => 2
  | .tup _ => 3
  | .lst _ => 4
  | _ => 5
def rkP : PyData → Nat
  | .none => 0
  | .bool _ => 1
  | .int _ => 1
  | .str _ => 2
  | .tuple _ => 3
  | .list _ => 4
  | .dict _ => 5
theorem eqv_rk {p q : PyData} (h : rkP p ≠ rkP q) : PyData.eqv p q = false := by
  cases p <;> cases q <;> simp [rkP, PyData.eqv] at h ⊢
def eqL (f : D → D → Option Bool) : List D → List D → Option Bool
  | [], [] => some true
  | d :: ds, e :: es => match f d e with
    | some true => eqL f ds es
    | some false => some false
    | none => none
  | _, _ => some false
def eqN (f : D → D → Option Bool) (β : Box) (d e : D) : Option Bool := match d, e with
  | .int i, .int j => some (eqI i j)
  | .tup ds, .tup es => eqL f ds es
  | .lst ds, .lst es => eqL f ds es
  | .str x, .str y => some (x == y)
  | .bl a, .bl b => some (a == b)
  | .bl a, .int j => some (eqI (if a then 1 else 0) j)
  | .int i, .bl b => some (eqI i (if b then 1 else 0))
  | .non, .non => some true
  | d, e => match dEqZ β d e with
    | some b => some b
    | none => match Nat.beq (rk d) (rk e) with
      | true => none
      | false => some false
/-- d == e -/
def eqD (β : Box) (h : HpD) : Nat → D → D → Option Bool
  | 0, _, _ => none
  | n + 1, d, e => eqN (eqD β h n) β (norm h d) (norm h e)
theorem eqL_ok {β : Box} {ν : List Int} {h : HpD} {n : Nat} (ih : ∀ d e b p q, eqD β h n d e = some b → pyv ν h n d = some p → pyv ν h n e = some q → b = PyData.eqv p q) :
    ∀ (ds es : List D) (b : Bool) (ps qs : List PyData), eqL (eqD β h n) ds es = some b → mapO (pyv ν h n) ds = some ps → mapO (pyv ν h n) es = some qs → b = PyData.eqvAll ps qs
  | [], [], _, _, _, e, e1, e2 => by cases e; cases e1; cases e2; simp [PyData.eqvAll]
  | d :: ds, e :: es, b, ps, qs, q, e1, e2 => by
    unfold mapO at e1 e2
    split at e1
    · rename_i y hy
      split at e1
      · rename_i ys hys
        cases e1
        split at e2
        · rename_i z hz
          split at e2
          · rename_i zs hzs
            cases e2
            unfold eqL at q
            split at q
            · rename_i q1
              rw [PyData.eqvAll, ← ih _ _ _ _ _ q1 hy hz, ← eqL_ok ih _ _ _ _ _ q hys hzs]; simp
            · rename_i q1
              cases q
              rw [PyData.eqvAll, ← ih _ _ _ _ _ q1 hy hz]; simp
            · cases q
          · cases e2
        · cases e2
      · cases e1
    · cases e1
  | [], e :: es, b, ps, qs, q, e1, e2 => by
    cases q; cases e1
    unfold mapO at e2
    split at e2
    · split at e2
      · cases e2; simp [PyData.eqvAll]
      · cases e2
    · cases e2
  | d :: ds, [], b, ps, qs, q, e1, e2 => by
    cases q; cases e2
    unfold mapO at e1
    split at e1
    · split at e1
      · cases e1; simp [PyData.eqvAll]
      · cases e1
    · cases e1
theorem pyv_rk {ν : List Int} {h : HpD} {n : Nat} {d : D} {p : PyData} (e : pyv ν h (n + 1) d = some p) : rkP p = rk (norm h d) := by
  unfold pyv at e
  cases hd : norm h d <;> rw [hd] at e <;> dsimp only at e <;> first
    | (cases e; rfl)
    | (split at e
       · cases e; rfl
       · cases e)
    | cases e
theorem dEqZ_py {β : Box} {ν : List Int} {d e : D} {b : Bool} (hb : inBox β ν) (q : dEqZ β d e = some b) : ∃ i j, (∀ h n, norm h d = d ∧ pyv ν h (n + 1) d = some (.int i)) ∧ (∀ h n, norm h e = e ∧ pyv ν h (n + 1) e = some (.int j)) ∧ b = decide (i = j) := by
  have key : ∀ (d : D) c ks, zof d = some (c, ks) → ∀ h n, norm h d = d ∧ pyv ν h (n + 1) d = some (.int (c + dot ks ν)) := fun d c ks e h n => by
    cases d <;> simp [zof] at e
    · obtain ⟨rfl, rfl⟩ := e; refine ⟨rfl, ?_⟩; rw [dot_nil]; simp [pyv, norm]
    · obtain ⟨rfl, rfl⟩ := e; exact ⟨rfl, rfl⟩
  unfold dEqZ at q
  split at q
  · cases q
    rename_i i j
    exact ⟨i, j, fun h n => ⟨rfl, rfl⟩, fun h n => ⟨rfl, rfl⟩, eqI_ok _ _⟩
  · split at q
    · rename_i c ks c' ks' h1 h2
      refine ⟨_, _, key _ _ _ h1, key _ _ _ h2, ?_⟩
      have := isZero_ok hb q
      rw [subK, dot_add, dot_mul] at this
      rw [this, decide_eq_decide]
      omega
    · cases q
theorem eqN_ok {β : Box} {ν : List Int} {h : HpD} {n : Nat} (hb : inBox β ν) (ih : ∀ d e b p q, eqD β h n d e = some b → pyv ν h n d = some p → pyv ν h n e = some q → b = PyData.eqv p q)
    {d e : D} {b : Bool} {p q : PyData} (x : eqN (eqD β h n) β (norm h d) (norm h e) = some b) (e1 : pyv ν h (n + 1) d = some p) (e2 : pyv ν h (n + 1) e = some q) : b = PyData.eqv p q := by
  have k1 := pyv_rk e1
  have k2 := pyv_rk e2
  unfold pyv at e1 e2
  generalize norm h d = d' at *
  generalize norm h e = e' at *
  unfold eqN at x
  split at x
  · cases x; cases e1; cases e2; rw [PyData.eqv, eqI_ok]; rw [Bool.eq_iff_iff]; simp
  · dsimp only at e1 e2
    split at e1
    · rename_i ps hps
      split at e2
      · rename_i qs hqs
        cases e1; cases e2
        rw [PyData.eqv]
        exact eqL_ok ih _ _ _ _ _ x hps hqs
      · cases e2
    · cases e1
  · dsimp only at e1 e2
    split at e1
    · rename_i ps hps
      split at e2
      · rename_i qs hqs
        cases e1; cases e2
        rw [PyData.eqv]
        exact eqL_ok ih _ _ _ _ _ x hps hqs
      · cases e2
    · cases e1
  · dsimp only at e1 e2
    split at e1
    · split at e2
      · cases e1; cases e2; cases x; rw [PyData.eqv]
      · cases e2
    · cases e1
  · cases x; cases e1; cases e2; rw [PyData.eqv]
  · cases x; cases e1; cases e2; rw [PyData.eqv, eqI_ok]; rw [Bool.eq_iff_iff]; simp
  · cases x; cases e1; cases e2; rw [PyData.eqv, eqI_ok]; rw [Bool.eq_iff_iff]; simp
  · cases x; cases e1; cases e2; rw [PyData.eqv]
  · split at x
    · rename_i b' hz
      cases x
      obtain ⟨i, j, h1, h2, h3⟩ := dEqZ_py hb hz
      have q1 := (h1 h n).2
      have q2 := (h2 h n).2
      unfold pyv at q1 q2
      rw [(h1 h n).1] at q1
      rw [(h2 h n).1] at q2
      rw [q1] at e1; rw [q2] at e2
      cases e1; cases e2
      rw [PyData.eqv, h3]; rw [Bool.eq_iff_iff]; simp
    · split at x
      · cases x
      · rename_i hr
        cases x
        symm
        refine eqv_rk ?_
        rw [k1, k2]
        intro z
        rw [z] at hr
        simp at hr
theorem eqD_ok {β : Box} {ν : List Int} {h : HpD} (hb : inBox β ν) : ∀ (n : Nat) (d e : D) (b : Bool) (p q : PyData), eqD β h n d e = some b → pyv ν h n d = some p → pyv ν h n e = some q → b = PyData.eqv p q
  | 0, _, _, _, _, _, x, _, _ => by cases x
  | n + 1, d, e, b, p, q, x, e1, e2 => eqN_ok hb (eqD_ok hb n) x e1 e2

/-! ### the comparisons -/
/-- how deep data may be nested -/
def deep : Nat := 30
theorem shaped_of {p : PyData} (h1 : p.canLay0 = true) (h2 : p.depth ≤ deep) : SeqAt.shaped p = true := by
  unfold SeqAt.shaped
  rw [h1, decide_eq_true (Nat.le_trans h2 (by decide))]; rfl
def eqF (β : Box) (h : HpD) (d e : D) : Option Bool := match d, e with
  | .int i, .int j => some (eqI i j)
  | .bl i, .bl j => some (i == j)
  | d, e => match pyable h deep d with
    | true => match pyable h deep e with
      | true => eqD β h deep d e
      | false => none
    | false => none
def ofB (o : Option Bool) (h : HpD) : Out D := match o with
  | some b => .ok (.bl b) h
  | none => .bad
def opEq (β : Box) (d e : D) (h : HpD) : Out D := ofB (eqF β h d e) h
def opNe (β : Box) (d e : D) (h : HpD) : Out D := ofB ((eqF β h d e).map not) h
section
variable {G : Cfg} {ν : List Int} {Z : Addr → Prop} {ρ : List (Option Addr)} {H : Hp} {E : XK} {h : HpD}
theorem eqF_ok {d e : D} {v u : V} {b : Bool} (hb : inBox G.β ν) (x : RH (G.rc ν) Z ρ H h) (q : eqF G.β h d e = some b) (r : RV (G.rc ν) Z ρ H d v) (s : RV (G.rc ν) Z ρ H e u) :
    ∃ p q, Dp G.K H v p ∧ Dp G.K H u q ∧ SeqAt.shaped p = true ∧ SeqAt.shaped q = true ∧ b = PyData.eqv p q := by
  unfold eqF at q
  split at q
  · cases q; cases r; cases s
    exact ⟨_, _, .int _, .int _, rfl, rfl, by rw [PyData.eqv, eqI_ok]; rw [Bool.eq_iff_iff]; simp⟩
  · cases q; cases r; cases s
    exact ⟨_, _, .bl _, .bl _, rfl, rfl, by rw [PyData.eqv]⟩
  · split at q
    · rename_i h1
      split at q
      · rename_i h2
        obtain ⟨p1, e1⟩ := pyable_ok (ν := ν) _ _ h1
        obtain ⟨p2, e2⟩ := pyable_ok (ν := ν) _ _ h2
        obtain ⟨a1, a2, a3⟩ := pyv_ok x _ _ _ _ e1 r
        obtain ⟨b1, b2, b3⟩ := pyv_ok x _ _ _ _ e2 s
        exact ⟨p1, p2, a1, b1, shaped_of a2 a3, shaped_of b2 b3, eqD_ok hb _ _ _ _ _ _ q e1 e2⟩
      · cases q
    · cases q
theorem ofB_ok {o : Option Bool} {R : D → HpD → (Addr → Prop) → List (Option Addr) → Hp → Prop} {C : RC} (p : PostG C Z ρ H E (ofB o h) R) : ∃ b, o = some b ∧ PostG C Z ρ H E (.ok (.bl b) h) R := by
  cases o with
  | none => exact p.elim
  | some b => exact ⟨b, rfl, p⟩
theorem im_eq : Impl2 G (rEqD G.K) (opEq G.β) := by
  intro ν Z ρ H E h d e v u Q hb x r s p
  obtain ⟨b, hq, p⟩ := ofB_ok p
  obtain ⟨p1, p2, a1, a2, a3, a4, rfl⟩ := eqF_ok hb x hq r s
  exact ⟨p1, p2, a1, a2, a3, a4, p.here x _ (.bl _)⟩
theorem im_ne : Impl2 G (rNeD G.K) (opNe G.β) := by
  intro ν Z ρ H E h d e v u Q hb x r s p
  obtain ⟨b, hq, p⟩ := ofB_ok p
  cases hz : eqF G.β h d e with
  | none => rw [hz] at hq; cases hq
  | some k =>
    rw [hz] at hq
    cases hq
    obtain ⟨p1, p2, a1, a2, a3, a4, rfl⟩ := eqF_ok hb x hz r s
    exact ⟨p1, p2, a1, a2, a3, a4, p.here x _ (.bl _)⟩
theorem oe_eq : ∀ X, OkX G X → OpR X (compareOp .Eq) (rEqD X.K) := fun X o => op_eqD (by have := o.hu; omega)
theorem oe_ne : ∀ X, OkX G X → OpR X (compareOp .NotEq) (rNeD X.K) := fun X o => op_neD (by have := o.hu; omega)
end
end Eg

set_option Elab.async false
set_option linter.all false
set_option maxRecDepth 100000
/-! The engine, part 5: membership, order, arithmetic, tests. -/
namespace Eg
open PySem PySem.Spec PyProof.Rows L2

/-! ### keys of dicts -/
def keyOf : D → Option Key
  | .int i => some (.inl i)
  | .str x => some (.inr x)
  | _ => none
def eqKey : Key → Key → Bool
  | .inl i, .inl j => eqI i j
  | .inr x, .inr y => x == y
  | _, _ => false
theorem eqKey_ok : ∀ a b : Key, eqKey a b = decide (a = b)
  | .inl i, .inl j => by rw [eqKey, eqI_ok]; rw [Bool.eq_iff_iff]; simp
  | .inr x, .inr y => by rw [eqKey]; rw [Bool.eq_iff_iff]; simp
  | .inl _, .inr _ => by symm; simp [eqKey]
  | .inr _, .inl _ => by symm; simp [eqKey]
def lookD (h : HpD) : D → Option (List Key × List D)
  | .dct ks ds => some (ks, ds)
  | .ref n => match hat h n with
    | .dct ks ds => some (ks, ds)
    | _ => none
  | _ => none
def valD (k : Key) : List Key → List D → Option D
  | a :: ks, d :: ds => match eqKey a k with
    | true => some d
    | false => valD k ks ds
  | _, _ => none
section
variable {C : RC} {Z : Addr → Prop} {ρ : List (Option Addr)} {H : Hp} {E : XK} {h : HpD}
theorem keyOf_ok {d : D} {v : V} {k : Key} (e : keyOf d = some k) (r : RV C Z ρ H d v) : v = kV k := by
  cases r <;> simp [keyOf] at e <;> subst e <;> rfl
theorem lookD_ok {d : D} {v : V} {ks : List Key} {ds : List D} (x : RH C Z ρ H h) (e : lookD h d = some (ks, ds)) (r : RV C Z ρ H d v) : ∃ a kvs, v = .ref a ∧ H a = some (.dK kvs) ∧ kvs.map (·.1) = ks ∧ RVs C Z ρ H ds (kvs.map (·.2)) := by
  cases r <;> simp [lookD] at e
  · rename_i h0 z e0 rs; obtain ⟨rfl, rfl⟩ := e; exact ⟨_, _, rfl, h0, e0, rs⟩
  · rename_i n a q
    split at e
    · rename_i ks' ds' q2
      obtain ⟨rfl, rfl⟩ := e
      obtain ⟨a', xs, e1, e2, e3, rs⟩ := x.at_ q2 (fun z => by cases z)
      rw [q] at e1; cases e1
      exact ⟨_, _, rfl, e2, e3, rs⟩
    · cases e
theorem valD_ok {k : Key} : ∀ {kvs : List (Key × V)} {ds : List D}, RVs C Z ρ H ds (kvs.map (·.2)) →
    (∀ d, valD k (kvs.map (·.1)) ds = some d → ∃ v, valV kvs k = some v ∧ RV C Z ρ H d v) ∧ (valD k (kvs.map (·.1)) ds = none → valV kvs k = none)
  | [], _, .nil => ⟨fun d e => (by cases e), fun _ => rfl⟩
  | (a, v) :: r, _, .cons q t => by
    have ih := valD_ok (k := k) (kvs := r) t
    by_cases e : a = k
    · have e2 : eqKey a k = true := by rw [eqKey_ok]; exact decide_eq_true e
      refine ⟨fun d hd => ?_, fun hd => ?_⟩
      · simp only [List.map_cons, valD, e2] at hd
        cases hd
        exact ⟨v, valV_pos e, q⟩
      · simp only [List.map_cons, valD, e2] at hd
        cases hd
    · have e2 : eqKey a k = false := by rw [eqKey_ok]; exact decide_eq_false e
      refine ⟨fun d hd => ?_, fun hd => ?_⟩
      · simp only [List.map_cons, valD, e2] at hd
        rw [valV_neg e]; exact ih.1 d hd
      · simp only [List.map_cons, valD, e2] at hd
        rw [valV_neg e]; exact ih.2 hd
end

/-! ### in, not in -/
def inL (f : D → Option Bool) : List D → Option Bool
  | [] => some false
  | d :: r => match f d with
    | some true => some true
    | some false => inL f r
    | none => none
def hasK (k : Key) : List Key → Bool
  | [] => false
  | a :: r => match eqKey a k with
    | true => true
    | false => hasK k r
/-- ints among ints at once -/
def inI (i : Int) : List D → Option Bool
  | [] => some false
  | .int j :: r => match inI i r with
    | some b => some (match eqI j i with | true => true | false => b)
    | none => none
  | _ => none
def inF (β : Box) (h : HpD) (d e : D) : Option Bool := match look h e with
  | some ds => match d with
    | .int i => (match inI i ds with
      | some b => some b
      | none => match ds.all (pyable h deep) with
        | true => inL (fun x => eqD β h deep x d) ds
        | false => none)
    | d => match pyable h deep d with
      | true => match ds.all (pyable h deep) with
        | true => inL (fun x => eqD β h deep x d) ds
        | false => none
      | false => none
  | none => match lookD h e with
    | some (ks, _) => match keyOf d with
      | some k => some (hasK k ks)
      | none => none
    | none => none
def rInA (K : PySem.W.Frag) (neg : Bool) : R2 := fun x y H Q => (∃ d ds, Dp K H x d ∧ (Dp K H y (.list ds) ∨ Dp K H y (.tuple ds)) ∧ d.canLay0 = true ∧ d.depth ≤ 60 ∧ PyData.canLayAll0 ds = true ∧ Q (.bl (if neg then !ds.any (fun z => PyData.eqv z d) else ds.any fun z => PyData.eqv z d)) H) ∨
  ∃ a o, y = .ref a ∧ DGet H a x o ∧ Q (.bl (if neg then !o.isSome else o.isSome)) H
theorem op_inA {X : Cx} (hu : X.A.units + 65 < cLine) : OpR X (compareOp .In) (rInA X.K false) := by
  intro pins s σ H x y v u Q I rx ry hh
  rcases hh with ⟨d, ds, hd, he, cd, dd, cs, q⟩ | ⟨a, o, rfl, g, q⟩
  · obtain ⟨as, r1⟩ := Dp.reads I d x v hd rx
    rcases he with he | he
    · obtain ⟨bs, r2⟩ := Dp.reads I (.list ds) y u he ry
      exact SeqAt.in_list_reads r2 r1 cs cd (by omega) ⟨.bl _, H, I, rfl, q⟩
    · obtain ⟨bs, r2⟩ := Dp.reads I (.tuple ds) y u he ry
      exact SeqAt.in_tuple_reads r2 r1 cs cd (by omega) ⟨.bl _, H, I, rfl, q⟩
  · obtain rfl : u = Value.ref a := ry
    exact d_in (by omega) I g rx fun s3 I3 => ⟨.bl o.isSome, H, I3, rfl, q⟩
theorem op_notInA {X : Cx} (hu : X.A.units + 65 < cLine) : OpR X (compareOp .NotIn) (rInA X.K true) := by
  intro pins s σ H x y v u Q I rx ry hh
  rcases hh with ⟨d, ds, hd, he, cd, dd, cs, q⟩ | ⟨a, o, rfl, g, q⟩
  · obtain ⟨as, r1⟩ := Dp.reads I d x v hd rx
    rcases he with he | he
    · obtain ⟨bs, r2⟩ := Dp.reads I (.list ds) y u he ry
      exact SeqAt.notIn_list_reads r2 r1 cs cd (by omega) ⟨.bl _, H, I, rfl, q⟩
    · obtain ⟨bs, r2⟩ := Dp.reads I (.tuple ds) y u he ry
      exact SeqAt.notIn_tuple_reads r2 r1 cs cd (by omega) ⟨.bl _, H, I, rfl, q⟩
  · obtain rfl : u = Value.ref a := ry
    exact d_notIn (by omega) I g rx fun s3 I3 => ⟨.bl (!o.isSome), H, I3, rfl, q⟩
def opIn (β : Box) (d e : D) (h : HpD) : Out D := ofB (inF β h d e) h
def opNi (β : Box) (d e : D) (h : HpD) : Out D := ofB ((inF β h d e).map not) h
theorem inL_ok {β : Box} {ν : List Int} {h : HpD} (hb : inBox β ν) {d : D} {p : PyData} (e1 : pyv ν h deep d = some p) : ∀ (ds : List D) (ps : List PyData) (b : Bool), mapO (pyv ν h deep) ds = some ps → inL (fun x => eqD β h deep x d) ds = some b → b = ps.any fun z => PyData.eqv z p
  | [], ps, b, e, q => by cases e; cases q; rfl
  | x :: r, ps, b, e, q => by
    unfold mapO at e
    split at e
    · rename_i y hy
      split at e
      · rename_i ys hys
        cases e
        unfold inL at q
        rw [List.any_cons]
        split at q
        · rename_i q1
          cases q
          rw [← eqD_ok hb _ _ _ _ _ _ q1 hy e1]; simp
        · rename_i q1
          rw [← eqD_ok hb _ _ _ _ _ _ q1 hy e1, ← inL_ok hb e1 r ys b hys q]; simp
        · cases q
      · cases e
    · cases e
section
variable {G : Cfg} {ν : List Int} {Z : Addr → Prop} {ρ : List (Option Addr)} {H : Hp} {E : XK} {h : HpD}
theorem inI_any {C : RC} {i : Int} : ∀ (ds : List D) (xs : List V) (b : Bool), inI i ds = some b → RVs C Z ρ H ds xs → ∃ js : List Int, xs = js.map V.int ∧ b = js.any fun j => j == i
  | [], _, b, e, .nil => ⟨[], rfl, by cases e; rfl⟩
  | .int j :: r, _, b, e, .cons q t => by
    cases q
    unfold inI at e
    split at e
    · rename_i b' hb
      obtain ⟨js, e1, e2⟩ := inI_any r _ b' hb t
      refine ⟨j :: js, by rw [e1]; rfl, ?_⟩
      cases e
      rw [List.any_cons, ← e2, eqI_ok]
      by_cases z : j = i
      · simp [z]
      · simp [z]
    · cases e
  | .und :: _, _, _, e, _ => by cases e
  | .non :: _, _, _, e, _ => by cases e
  | .bl _ :: _, _, _, e, _ => by cases e
  | .lin _ _ :: _, _, _, e, _ => by cases e
  | .str _ :: _, _, _, e, _ => by cases e
  | .tup _ :: _, _, _, e, _ => by cases e
  | .lst _ :: _, _, _, e, _ => by cases e
  | .dct _ _ :: _, _, _, e, _ => by cases e
  | .ref _ :: _, _, _, e, _ => by cases e
  | .rng _ _ :: _, _, _, e, _ => by cases e
  | .ty _ :: _, _, _, e, _ => by cases e
  | .fn _ :: _, _, _, e, _ => by cases e
theorem dp_ints {K : PySem.W.Frag} : ∀ js : List Int, DpAll K H (js.map V.int) (js.map PyData.int)
  | [] => .nil
  | j :: r => .cons (.int j) (dp_ints r)
theorem canLay_ints : ∀ js : List Int, PyData.canLayAll0 (js.map PyData.int) = true
  | [] => by simp [PyData.canLayAll0]
  | j :: r => by simp [PyData.canLayAll0, PyData.canLay0]; exact canLay_ints r
theorem any_ints (i : Int) : ∀ js : List Int, (js.map PyData.int).any (fun z => PyData.eqv z (.int i)) = js.any fun j => j == i
  | [] => rfl
  | j :: r => by
    rw [List.map_cons, List.any_cons, List.any_cons, any_ints i r, PyData.eqv]
theorem inF_ok {d e : D} {v u : V} {b : Bool} (hb : inBox G.β ν) (x : RH (G.rc ν) Z ρ H h) (q : inF G.β h d e = some b) (r : RV (G.rc ν) Z ρ H d v) (s : RV (G.rc ν) Z ρ H e u) :
    (∃ p ds, Dp G.K H v p ∧ (Dp G.K H u (.list ds) ∨ Dp G.K H u (.tuple ds)) ∧ p.canLay0 = true ∧ p.depth ≤ 60 ∧ PyData.canLayAll0 ds = true ∧ b = ds.any fun z => PyData.eqv z p) ∨ ∃ a o, u = .ref a ∧ DGet H a v o ∧ b = o.isSome := by
  unfold inF at q
  have slow : ∀ {ds : List D}, look h e = some ds → pyable h deep d = true → ds.all (pyable h deep) = true → inL (fun x => eqD G.β h deep x d) ds = some b →
      ∃ p ds, Dp G.K H v p ∧ (Dp G.K H u (.list ds) ∨ Dp G.K H u (.tuple ds)) ∧ p.canLay0 = true ∧ p.depth ≤ 60 ∧ PyData.canLayAll0 ds = true ∧ b = ds.any fun z => PyData.eqv z p := fun {ds} hl h1 h2 q => by
    obtain ⟨p1, e1⟩ := pyable_ok (ν := ν) _ _ h1
    obtain ⟨a1, a2, a3⟩ := pyv_ok x _ _ _ _ e1 r
    obtain ⟨ps, e2⟩ := mapO_all (ν := ν) (pyable_ok deep) ds h2
    obtain ⟨a, xs, rfl, hs, rs⟩ := look_ok x hl s
    obtain ⟨b1, b2, b3⟩ := pyv_all (pyv_ok x deep) _ _ _ e2 rs
    refine ⟨p1, ps, a1, ?_, a2, Nat.le_trans a3 (by decide), b2, inL_ok hb e1 _ _ _ e2 q⟩
    rcases hs with hs | hs
    · exact .inl (.lst hs b1)
    · exact .inr (.tup hs b1)
  split at q
  · rename_i ds hl
    left
    split at q
    · rename_i i
      split at q
      · rename_i b' hi
        cases q
        obtain ⟨a, xs, rfl, hs, rs⟩ := look_ok x hl s
        obtain ⟨js, rfl, hj⟩ := inI_any _ _ _ hi rs
        cases r
        refine ⟨.int i, js.map PyData.int, .int i, ?_, by simp [PyData.canLay0], by simp [PyData.depth], canLay_ints js, by rw [any_ints, hj]⟩
        rcases hs with hs | hs
        · exact .inl (.lst hs (dp_ints js))
        · exact .inr (.tup hs (dp_ints js))
      · split at q
        · rename_i h2
          exact slow hl rfl h2 q
        · cases q
    · split at q
      · rename_i h1
        split at q
        · rename_i h2
          exact slow hl h1 h2 q
        · cases q
      · cases q
  · right
    split at q
    · rename_i ks ds hl
      split at q
      · rename_i k hk
        cases q
        obtain ⟨a, kvs, rfl, ha, e1, rs⟩ := lookD_ok x hl s
        refine ⟨a, valV kvs k, rfl, ?_, ?_⟩
        · rw [keyOf_ok hk r]
          exact .inl ⟨kvs, k, .inl ha, rfl, rfl⟩
        · rw [← valV_any]
          have : ∀ (kvs : List (Key × V)), hasK k (kvs.map (·.1)) = kvs.any fun kv => decide (kv.1 = k) := by
            intro kvs
            induction kvs with
            | nil => rfl
            | cons a r ih =>
              rw [List.map_cons, List.any_cons, ← ih]
              show (match eqKey a.1 k with | true => true | false => hasK k (List.map (fun (x : Key × V) => x.1) r)) = _
              rw [eqKey_ok]
              by_cases z : a.1 = k <;> simp [z]
          rw [← e1, this]
      · cases q
    · cases q
theorem im_in : Impl2 G (rInA G.K false) (opIn G.β) := by
  intro ν Z ρ H E h d e v u Q hb x r s p
  obtain ⟨b, hq, p⟩ := ofB_ok p
  rcases inF_ok hb x hq r s with ⟨p1, ds, a1, a2, a3, a4, a5, rfl⟩ | ⟨a, o, rfl, g, rfl⟩
  · exact .inl ⟨p1, ds, a1, a2, a3, a4, a5, p.here x _ (.bl _)⟩
  · exact .inr ⟨a, o, rfl, g, p.here x _ (.bl _)⟩
theorem im_ni : Impl2 G (rInA G.K true) (opNi G.β) := by
  intro ν Z ρ H E h d e v u Q hb x r s p
  obtain ⟨b, hq, p⟩ := ofB_ok p
  cases hz : inF G.β h d e with
  | none => rw [hz] at hq; cases hq
  | some k =>
    rw [hz] at hq
    cases hq
    rcases inF_ok hb x hz r s with ⟨p1, ds, a1, a2, a3, a4, a5, rfl⟩ | ⟨a, o, rfl, g, rfl⟩
    · exact .inl ⟨p1, ds, a1, a2, a3, a4, a5, p.here x _ (.bl _)⟩
    · exact .inr ⟨a, o, rfl, g, p.here x _ (.bl _)⟩
theorem oe_in : ∀ X, OkX G X → OpR X (compareOp .In) (rInA X.K false) := fun X o => op_inA (by have := o.hu; omega)
theorem oe_ni : ∀ X, OkX G X → OpR X (compareOp .NotIn) (rInA X.K true) := fun X o => op_notInA (by have := o.hu; omega)

/-! ### order -/
def allZ : List D → Bool
  | [] => true
  | d :: r => match zof d with
    | some _ => allZ r
    | none => false
def lexD (β : Box) : List D → List D → Option Bool
  | [], [] => some false
  | [], _ :: _ => some true
  | _ :: _, [] => some false
  | d :: ds, e :: es => match dEqZ β d e with
    | some true => lexD β ds es
    | some false => dLt β d e
    | none => none
def opLt (β : Box) (d e : D) (h : HpD) : Out D := match dLt β d e with
  | some b => .ok (.bl b) h
  | none => match d, e with
    | .tup ds, .tup es => match allZ ds with
      | true => match allZ es with
        | true => ofB (lexD β ds es) h
        | false => .bad
      | false => .bad
    | _, _ => .bad
def opGt (β : Box) (d e : D) (h : HpD) : Out D := ofB (dLt β e d) h
def opLe (β : Box) (d e : D) (h : HpD) : Out D := ofB ((dLt β e d).map not) h
def opGe (β : Box) (d e : D) (h : HpD) : Out D := ofB ((dLt β d e).map not) h
theorem allZ_ints {C : RC} : ∀ {ds : List D} {xs : List V}, allZ ds = true → RVs C Z ρ H ds xs → ∃ ns : List Int, xs = ns.map V.int
  | [], _, _, .nil => ⟨[], rfl⟩
  | d :: r, _, e, .cons q t => by
    unfold allZ at e
    split at e
    · rename_i z hz
      obtain ⟨ns, rfl⟩ := allZ_ints e t
      exact ⟨_ :: ns, by rw [zof_ok hz q]; rfl⟩
    · cases e
theorem lexD_ok {C : RC} {β : Box} (hb : inBox β C.ν) : ∀ (ds es : List D) (ns ms : List Int) (b : Bool), lexD β ds es = some b → RVs C Z ρ H ds (ns.map V.int) → RVs C Z ρ H es (ms.map V.int) → b = HT.lexLt ns ms
  | [], [], [], [], b, q, _, _ => by cases q; rfl
  | [], _ :: _, [], _ :: _, b, q, _, _ => by cases q; rfl
  | _ :: _, [], _ :: _, [], b, q, _, _ => by cases q; rfl
  | d :: ds, e :: es, n :: ns, m :: ms, b, q, .cons r1 t1, .cons r2 t2 => by
    rw [HT.lexLt_cons]
    unfold lexD at q
    split at q
    · rename_i q1
      obtain ⟨i, j, e1, e2, e3⟩ := dEqZ_ok hb q1 r1 r2
      cases e1; cases e2
      rw [if_pos (of_decide_eq_true e3.symm)]
      exact lexD_ok hb ds es ns ms b q t1 t2
    · rename_i q1
      obtain ⟨i, j, e1, e2, e3⟩ := dEqZ_ok hb q1 r1 r2
      cases e1; cases e2
      rw [if_neg (of_decide_eq_false e3.symm)]
      obtain ⟨i, j, e1, e2, e3⟩ := dLt_ok hb q r1 r2
      cases e1; cases e2
      exact e3
    · cases q
  | [], _, _ :: _, _, _, _, r, _ => by cases r
  | _ :: _, _, [], _, _, _, r, _ => by cases r
  | _, [], _, _ :: _, _, _, _, r => by cases r
  | _, _ :: _, _, [], _, _, _, r => by cases r
def rLtA (K : PySem.W.Frag) : R2 := fun x y H Q => rI0 (fun i j => .bl (decide (i < j))) x y H Q ∨ rLtT K x y H Q
theorem oe_lt : ∀ X, OkX G X → OpR X (compareOp .Lt) (rLtA X.K) := fun X o => OpR.or op_lt (op_ltT (by have := o.hu; omega))
theorem im_lt : Impl2 G (rLtA G.K) (opLt G.β) := by
  intro ν Z ρ H E h d e v u Q hb x r s p
  unfold opLt at p
  split at p
  · rename_i b hq
    obtain ⟨i, j, rfl, rfl, rfl⟩ := dLt_ok hb hq r s
    exact .inl ⟨i, j, rfl, rfl, p.here x _ (.bl _)⟩
  · split at p
    · rename_i ds es _
      split at p
      · rename_i h1
        split at p
        · rename_i h2
          obtain ⟨b, hq, p⟩ := ofB_ok p
          cases r with
          | tup t1 r1 => cases s with
            | tup t2 r2 =>
              obtain ⟨ns, rfl⟩ := allZ_ints h1 r1
              obtain ⟨ms, rfl⟩ := allZ_ints h2 r2
              have := lexD_ok hb _ _ _ _ _ hq r1 r2
              subst this
              exact .inr ⟨_, _, ns, ms, rfl, rfl, t1, t2, p.here x _ (.bl _)⟩
        · exact p.elim
      · exact p.elim
    · exact p.elim
def rIB (f : Int → Int → Bool) (K : PySem.W.Frag) : R2 := rI0 fun i j => .bl (f i j)
theorem oe_gt : ∀ X, OkX G X → OpR X (compareOp .Gt) (rIB (fun i j => decide (j < i)) X.K) := fun X o => op_gt
theorem oe_le : ∀ X, OkX G X → OpR X (compareOp .LtE) (rIB (fun i j => decide (i ≤ j)) X.K) := fun X o => op_le
theorem oe_ge : ∀ X, OkX G X → OpR X (compareOp .GtE) (rIB (fun i j => decide (j ≤ i)) X.K) := fun X o => op_ge
theorem im_gt : Impl2 G (rIB (fun i j => decide (j < i)) G.K) (opGt G.β) := by
  intro ν Z ρ H E h d e v u Q hb x r s p
  obtain ⟨b, hq, p⟩ := ofB_ok p
  obtain ⟨i, j, rfl, rfl, rfl⟩ := dLt_ok hb hq s r
  exact ⟨j, i, rfl, rfl, p.here x _ (.bl _)⟩
theorem im_le : Impl2 G (rIB (fun i j => decide (i ≤ j)) G.K) (opLe G.β) := by
  intro ν Z ρ H E h d e v u Q hb x r s p
  obtain ⟨b, hq, p⟩ := ofB_ok p
  cases hz : dLt G.β e d with
  | none => rw [hz] at hq; cases hq
  | some k =>
    rw [hz] at hq
    cases hq
    obtain ⟨i, j, rfl, rfl, rfl⟩ := dLt_ok hb hz s r
    refine ⟨j, i, rfl, rfl, ?_⟩
    have := p.here x _ (.bl _)
    show Q (.bl (decide (j ≤ i))) H
    rw [show decide (j ≤ i) = !decide (i < j) by rw [Bool.eq_iff_iff]; simp]
    exact this
theorem im_ge : Impl2 G (rIB (fun i j => decide (j ≤ i)) G.K) (opGe G.β) := by
  intro ν Z ρ H E h d e v u Q hb x r s p
  obtain ⟨b, hq, p⟩ := ofB_ok p
  cases hz : dLt G.β d e with
  | none => rw [hz] at hq; cases hq
  | some k =>
    rw [hz] at hq
    cases hq
    obtain ⟨i, j, rfl, rfl, rfl⟩ := dLt_ok hb hz r s
    refine ⟨i, j, rfl, rfl, ?_⟩
    have := p.here x _ (.bl _)
    show Q (.bl (decide (j ≤ i))) H
    rw [show decide (j ≤ i) = !decide (i < j) by rw [Bool.eq_iff_iff]; simp]
    exact this
/-! ### is None -/
def isN : D → Bool
  | .non => true
  | _ => false
def opIs (d e : D) (h : HpD) : Out D := match e, d with
  | .non, .und => .bad
  | .non, d => .ok (.bl (isN d)) h
  | _, _ => .bad
def opIn' (d e : D) (h : HpD) : Out D := match e, d with
  | .non, .und => .bad
  | .non, d => .ok (.bl (!isN d)) h
  | _, _ => .bad
def rIsA (neg : Bool) (K : PySem.W.Frag) : R2 := fun x y H Q => y = .non ∧ Q (.bl (if neg then !decide (x = .non) else decide (x = .non))) H
theorem oe_is : ∀ X, OkX G X → OpR X (compareOp .Is) (rIsA false X.K) := fun X o => op_isN
theorem oe_isn : ∀ X, OkX G X → OpR X (compareOp .IsNot) (rIsA true X.K) := fun X o => op_notN
theorem isN_ok {C : RC} {d : D} {v : V} (r : RV C Z ρ H d v) : isN d = decide (v = .non) := by
  cases r <;> simp [isN]
theorem im_is : Impl2 G (rIsA false G.K) opIs := by
  intro ν Z ρ H E h d e v u Q hb x r s p
  unfold opIs at p
  split at p
  · cases r
  · cases s
    refine ⟨rfl, ?_⟩
    have := p.here x _ (.bl _)
    rw [isN_ok r] at this
    exact this
  · exact p.elim
theorem im_isn : Impl2 G (rIsA true G.K) opIn' := by
  intro ν Z ρ H E h d e v u Q hb x r s p
  unfold opIn' at p
  split at p
  · cases r
  · cases s
    refine ⟨rfl, ?_⟩
    have := p.here x _ (.bl _)
    rw [isN_ok r] at this
    exact this
  · exact p.elim
end
end Eg

set_option Elab.async false
set_option linter.all false
set_option maxRecDepth 100000
/-! The engine, part 6: arithmetic, tests, subscripts, slices. -/
namespace Eg
open PySem PySem.Spec PyProof.Rows L2
section
variable {G : Cfg} {ν : List Int} {Z : Addr → Prop} {ρ : List (Option Addr)} {H : Hp} {E : XK} {h : HpD}
/-- a new tuple is handed on -/
theorem hand_tup {C : RC} {ds : List D} {xs : List V} {p : Addr} {Q : VK} (x : RH C Z ρ H h) (r : RVs C Z ρ H ds xs) (hp : H p = none) (q : PostG C Z ρ H E (.ok (.tup ds) h) (Hand C Q)) : Q (.ref p) (upd H p (.tup xs)) :=
  q Z ρ _ (step_new x hp) (x.new hp) _ (.tup (.of upd_same) (r.step (step_new x hp)))

/-! ### + -/
def addZ (d e : D) (h : HpD) : Out D := match zof d, zof e with
  | some (c, ks), some (c', ks') => .ok (mkz (c + c') (addK ks ks')) h
  | _, _ => .bad
def opAdd (d e : D) (h : HpD) : Out D := match d, e with
  | .int i, .int j => .ok (.int (i + j)) h
  | .tup a, .tup b => (match short a most with
    | true => match short b most with
      | true => .ok (.tup (a ++ b)) h
      | false => .bad
    | false => .bad)
  | .str x, .str y => (match Nat.ble (x.length + y.length) most with
    | true => .ok (.str (x ++ y)) h
    | false => .bad)
  | d, e => addZ d e h
def rAddA (K : PySem.W.Frag) : R2 := fun x y H Q => rI0 (fun i j => .int (i + j)) x y H Q ∨ rCatA K x y H Q ∨ ∃ i j, x = .str i ∧ y = .str j ∧ i.length + j.length ≤ sizeLine ∧ Q (.str (i ++ j)) H
theorem oe_add : ∀ X, OkX G X → OpR X (binaryOp .Add) (rAddA X.K) := fun X o => OpR.or op_add (OpR.or op_catA op_add_str)
theorem im_add : Impl2 G (rAddA G.K) opAdd := by
  intro ν Z ρ H E h d e v u Q hb x r s p
  unfold opAdd at p
  split at p
  · cases r; cases s
    exact .inl ⟨_, _, rfl, rfl, p.here x _ (.int _)⟩
  · rename_i a b
    split at p
    · rename_i h1
      split at p
      · rename_i h2
        cases r with
        | tup t1 r1 => cases s with
          | tup t2 r2 =>
            have l1 := short_le h1
            have l2 := short_le h2
            rw [r1.length] at l1
            rw [r2.length] at l2
            refine .inr (.inl ⟨_, _, _, _, rfl, rfl, t1, t2, ?_, fun z => ?_, fun z1 z2 => ?_, fun z1 z2 pp np => ?_⟩)
            · have : most + most ≤ sizeLine := by decide
              omega
            · subst z
              cases r1
              exact p.here x _ (.tup t2 r2)
            · subst z2
              cases r2
              rw [List.append_nil] at p
              exact p.here x _ (.tup t1 r1)
            · exact hand_tup x (r1.append r2) np p
      · exact p.elim
    · exact p.elim
  · rename_i a b
    split at p
    · rename_i h1
      cases r; cases s
      exact .inr (.inr ⟨_, _, rfl, rfl, most_le (Nat.le_of_ble_eq_true h1), p.here x _ (.str _)⟩)
    · exact p.elim
  · unfold addZ at p
    split at p
    · rename_i c ks c' ks' h1 h2
      refine .inl ⟨_, _, zof_ok h1 r, zof_ok h2 s, ?_⟩
      have := p.here x _ (mkz_ok _ _)
      rw [dot_add] at this
      show Q (.int (c + dot ks (G.rc ν).ν + (c' + dot ks' (G.rc ν).ν))) H
      rw [show c + dot ks (G.rc ν).ν + (c' + dot ks' (G.rc ν).ν) = c + c' + (dot ks (G.rc ν).ν + dot ks' (G.rc ν).ν) by omega]
      exact this
    · exact p.elim
/-! ### -, *, //, %, **, - -/
def opSub (d e : D) (h : HpD) : Out D := match d, e with
  | .int i, .int j => .ok (.int (i - j)) h
  | d, e => match zof d, zof e with
    | some (c, ks), some (c', ks') => .ok (mkz (c - c') (subK ks ks')) h
    | _, _ => .bad
def rII (f : Int → Int → Int) (K : PySem.W.Frag) : R2 := rI0 fun i j => .int (f i j)
theorem oe_sub : ∀ X, OkX G X → OpR X (binaryOp .Sub) (rII (fun i j => i - j) X.K) := fun X o => op_sub
theorem im_sub : Impl2 G (rII (fun i j => i - j) G.K) opSub := by
  intro ν Z ρ H E h d e v u Q hb x r s p
  unfold opSub at p
  split at p
  · cases r; cases s
    exact ⟨_, _, rfl, rfl, p.here x _ (.int _)⟩
  · split at p
    · rename_i c ks c' ks' h1 h2
      refine ⟨_, _, zof_ok h1 r, zof_ok h2 s, ?_⟩
      have := p.here x _ (mkz_ok _ _)
      rw [subK, dot_add, dot_mul] at this
      show Q (.int (c + dot ks (G.rc ν).ν - (c' + dot ks' (G.rc ν).ν))) H
      rw [show c + dot ks (G.rc ν).ν - (c' + dot ks' (G.rc ν).ν) = c - c' + (dot ks (G.rc ν).ν + -1 * dot ks' (G.rc ν).ν) by omega]
      exact this
    · exact p.elim
def small64 (c : Int) : Bool := Nat.ble c.natAbs 18446744073709551615
theorem small64_ok {c : Int} (e : small64 c = true) : -(2 ^ 64) < c ∧ c < 2 ^ 64 := by
  have := Nat.le_of_ble_eq_true e
  omega
def opMul (d e : D) (h : HpD) : Out D := match d, e with
  | .int i, .int j => (match small64 j with
    | true => .ok (.int (i * j)) h
    | false => match small64 i with
      | true => .ok (.int (i * j)) h
      | false => .bad)
  | .int i, e => (match small64 i with
    | true => match zof e with
      | some (c, ks) => .ok (mkz (i * c) (mulK i ks)) h
      | none => .bad
    | false => .bad)
  | d, .int j => (match small64 j with
    | true => match zof d with
      | some (c, ks) => .ok (mkz (j * c) (mulK j ks)) h
      | none => .bad
    | false => .bad)
  | _, _ => .bad
def rIC (P : Int → Int → Prop) (f : Int → Int → Int) (K : PySem.W.Frag) : R2 := rI P fun i j => .int (f i j)
theorem oe_mul : ∀ X, OkX G X → OpR X (binaryOp .Mult) (rIC CMul (fun i j => i * j) X.K) := fun X o => op_mul
theorem im_mul : Impl2 G (rIC CMul (fun i j => i * j) G.K) opMul := by
  intro ν Z ρ H E h d e v u Q hb x r s p
  unfold opMul at p
  split at p
  · rename_i i j
    cases r; cases s
    split at p
    · rename_i h1
      exact ⟨_, _, rfl, rfl, .inr (small64_ok h1), p.here x _ (.int _)⟩
    · split at p
      · rename_i h1
        exact ⟨_, _, rfl, rfl, .inl (small64_ok h1), p.here x _ (.int _)⟩
      · exact p.elim
  · rename_i i _
    split at p
    · rename_i h1
      split at p
      · rename_i c ks h2
        cases r
        refine ⟨_, _, rfl, zof_ok h2 s, .inl (small64_ok h1), ?_⟩
        have := p.here x _ (mkz_ok _ _)
        rw [dot_mul] at this
        show Q (.int (i * (c + dot ks (G.rc ν).ν))) H
        rw [Int.mul_add]
        exact this
      · exact p.elim
    · exact p.elim
  · rename_i j _
    split at p
    · rename_i h1
      split at p
      · rename_i c ks h2
        cases s
        refine ⟨_, _, zof_ok h2 r, rfl, .inr (small64_ok h1), ?_⟩
        have := p.here x _ (mkz_ok _ _)
        rw [dot_mul] at this
        show Q (.int ((c + dot ks (G.rc ν).ν) * j)) H
        rw [show (c + dot ks (G.rc ν).ν) * j = j * c + j * dot ks (G.rc ν).ν by rw [Int.mul_comm, Int.mul_add]]
        exact this
      · exact p.elim
    · exact p.elim
  · exact p.elim
def opFdiv (d e : D) (h : HpD) : Out D := match d, e with
  | .int i, .int j => (match ltI 0 j with
    | true => match ltI j 1073741824 with
      | true => .ok (.int (i / j)) h
      | false => .bad
    | false => .bad)
  | _, _ => .bad
theorem oe_fdiv : ∀ X, OkX G X → OpR X (binaryOp .FloorDiv) (rIC CDiv (fun i j => i / j) X.K) := fun X o => op_fdiv
theorem im_fdiv : Impl2 G (rIC CDiv (fun i j => i / j) G.K) opFdiv := by
  intro ν Z ρ H E h d e v u Q hb x r s p
  unfold opFdiv at p
  split at p
  · split at p
    · rename_i h1
      split at p
      · rename_i h2
        rw [ltI_ok] at h1 h2
        cases r; cases s
        exact ⟨_, _, rfl, rfl, ⟨of_decide_eq_true h1, of_decide_eq_true h2⟩, p.here x _ (.int _)⟩
      · exact p.elim
    · exact p.elim
  · exact p.elim
def opMod (d e : D) (h : HpD) : Out D := match d, e with
  | .int i, .int j => (match ltI 0 j with
    | true => .ok (.int (i % j)) h
    | false => .bad)
  | _, _ => .bad
theorem oe_mod : ∀ X, OkX G X → OpR X (binaryOp .Mod) (rIC (fun _ j => 0 < j) (fun i j => i % j) X.K) := fun X o => op_mod
theorem im_mod : Impl2 G (rIC (fun _ j => 0 < j) (fun i j => i % j) G.K) opMod := by
  intro ν Z ρ H E h d e v u Q hb x r s p
  unfold opMod at p
  split at p
  · split at p
    · rename_i h1
      rw [ltI_ok] at h1
      cases r; cases s
      exact ⟨_, _, rfl, rfl, of_decide_eq_true h1, p.here x _ (.int _)⟩
    · exact p.elim
  · exact p.elim
def opPow (d e : D) (h : HpD) : Out D := match d, e with
  | .int i, .int (.ofNat n) => (match small64 i with
    | true => match Nat.ble n 1000000 with
      | true => .ok (.int (i ^ n)) h
      | false => .bad
    | false => .bad)
  | _, _ => .bad
theorem oe_pow : ∀ X, OkX G X → OpR X (binaryOp .Pow) (rIC CPow (fun i j => i ^ j.toNat) X.K) := fun X o => op_pow
theorem im_pow : Impl2 G (rIC CPow (fun i j => i ^ j.toNat) G.K) opPow := by
  intro ν Z ρ H E h d e v u Q hb x r s p
  unfold opPow at p
  split at p
  · rename_i i n
    split at p
    · rename_i h1
      split at p
      · rename_i h2
        cases r; cases s
        have h1 := small64_ok h1
        have h2 := Nat.le_of_ble_eq_true h2
        exact ⟨_, _, rfl, rfl, ⟨Int.natCast_nonneg n, by show (n : Int) ≤ 1000000; omega, by omega⟩, p.here x _ (.int _)⟩
      · exact p.elim
    · exact p.elim
  · exact p.elim
def opNeg (d : D) (h : HpD) : Out D := match zof d with
  | some (c, ks) => .ok (mkz (-c) (mulK (-1) ks)) h
  | none => .bad
def rNegA (K : PySem.W.Frag) : V → Hp → VK → Prop := rU fun i => .int (-i)
theorem oe_neg : ∀ X, OkX G X → UnR X (unaryOp .USub) (rNegA X.K) := fun X o => un_neg
theorem im_neg : Impl1 G (rNegA G.K) opNeg := by
  intro ν Z ρ H E h d v Q hb x r p
  unfold opNeg at p
  split at p
  · rename_i c ks h1
    refine ⟨_, zof_ok h1 r, ?_⟩
    have := p.here x _ (mkz_ok _ _)
    rw [dot_mul] at this
    show Q (.int (-(c + dot ks (G.rc ν).ν))) H
    rw [show -(c + dot ks (G.rc ν).ν) = -c + -1 * dot ks (G.rc ν).ν by omega]
    exact this
  · exact p.elim
end

/-! ### tests -/
section
variable {G : Cfg} {a b c e : Expr} {fa fb fc f : Fe} {ga gb : Fb} {pos : Pos} {rest : List Expr}
def SW (G : Cfg) (e : Expr) (f : Fb) : Prop := ∀ X W, OkX G X → Takes X W → PW X e (rT G W f)
theorem PW.by_ {X : Cx} {e : Expr} {t t' : TT} (h : PW X e t) (k : ∀ σ H Q, t' σ H Q → t σ H Q) : PW X e t' := ⟨fun wh pins s σ H Q I q => h.run wh pins s σ H Q I (k σ H Q q)⟩
theorem st_of (hw : SW G e ga) : ST G e ga := fun X W o tk => (hw X W o tk).pt
/-- a call, a name, a subscript .. whose value is a bool -/
theorem st_val (hv : SE G e f) (he : ∀ env whole, isTrue e env whole = (do let v ← whole; standAt e.pos; holding [v] (truthy v)) := by intro _ _; rfl) : ST G e (fun env h => asB (f env h)) := by
  intro X W o tk
  refine PT.by_ (pt_val (hv X W o tk) (he _)) fun σ H Q q => ?_
  obtain ⟨ν, Z, ρ, env, h, x, p⟩ := q
  exact ⟨ν, Z, ρ, env, h, x, asB_hand p⟩
def bNot (g : Fb) : Fb := fun env h => (g env h).bind fun k h => .ok (!k) h
theorem st_not (ha : ST G a ga) : ST G (.UnaryOp .Not a pos) (bNot ga) := by
  intro X W o tk
  refine PT.by_ (pt_not (ha X W o tk)) fun σ H Q q => ?_
  obtain ⟨ν, Z, ρ, env, h, x, p⟩ := q
  exact rT.bind x p fun d h1 Z1 ρ1 H1 e1 s1 x1 p1 => p1.here x1.rh
def bAnd (g g' : Fb) : Fb := fun env h => (g env h).bind fun k h => match k with
  | true => g' env h
  | false => .ok false h
def bOr (g g' : Fb) : Fb := fun env h => (g env h).bind fun k h => match k with
  | true => .ok true h
  | false => g' env h
theorem sw_and1 (ha : ST G a ga) : SW G (.BoolOp .And [a] pos) ga := fun X W o tk => pw_and1 (ha X W o tk)
theorem sw_or1 (ha : ST G a ga) : SW G (.BoolOp .Or [a] pos) ga := fun X W o tk => pw_or1 (ha X W o tk)
theorem sw_and (ha : ST G a ga) (hb : SW G (.BoolOp .And (b :: rest) pos) gb) : SW G (.BoolOp .And (a :: b :: rest) pos) (bAnd ga gb) := by
  intro X W o tk
  refine PW.by_ (pw_and (ha X W o tk) (hb X W o tk)) fun σ H Q q => ?_
  obtain ⟨ν, Z, ρ, env, h, x, p⟩ := q
  refine rT.bind x p fun d h1 Z1 ρ1 H1 e1 s1 x1 p1 => ?_
  cases d with
  | true => exact ⟨ν, Z1, ρ1, env, h1, x1, p1⟩
  | false => exact p1.here x1.rh
theorem sw_or (ha : ST G a ga) (hb : SW G (.BoolOp .Or (b :: rest) pos) gb) : SW G (.BoolOp .Or (a :: b :: rest) pos) (bOr ga gb) := by
  intro X W o tk
  refine PW.by_ (pw_or (ha X W o tk) (hb X W o tk)) fun σ H Q q => ?_
  obtain ⟨ν, Z, ρ, env, h, x, p⟩ := q
  refine rT.bind x p fun d h1 Z1 ρ1 H1 e1 s1 x1 p1 => ?_
  cases d with
  | true => exact p1.here x1.rh
  | false => exact ⟨ν, Z1, ρ1, env, h1, x1, p1⟩
/-- .. as values -/
def fAnd (f g : Fe) : Fe := fun env h => (asB (f env h)).bind fun k h => match k with
  | true => g env h
  | false => .ok (.bl false) h
def fOr (f g : Fe) : Fe := fun env h => (asB (f env h)).bind fun k h => match k with
  | true => .ok (.bl true) h
  | false => g env h
def fNot (f : Fe) : Fe := fun env h => (asB (f env h)).bind fun k h => .ok (.bl (!k)) h
theorem se_one {op} (h : SE G a f) : SE G (.BoolOp op [a] pos) f := fun X W o tk => pe_one (h X W o tk)
theorem asB_cases {C : RC} {Z : Addr → Prop} {ρ : List (Option Addr)} {H : Hp} {E : XK} {o : Out D} {α : Type} {k : Bool → HpD → Out α} {R : α → HpD → (Addr → Prop) → List (Option Addr) → Hp → Prop} (p : PostG C Z ρ H E ((asB o).bind k) R) :
    PostG C Z ρ H E o (fun d h' Z' ρ' H' => ∃ b, d = .bl b ∧ PostG C Z' ρ' H' E (k b h') R) := by
  cases o with
  | ok d h' =>
    cases d with
    | bl b => exact fun Z' ρ' H' s r => ⟨b, rfl, PostG.later s p⟩
    | _ => exact p.elim
  | exc n d h' => exact p
  | bad => exact p
theorem se_and (ha : SE G a fa) (hb : SE G (.BoolOp .And (b :: rest) pos) fb) : SE G (.BoolOp .And (a :: b :: rest) pos) (fAnd fa fb) := by
  intro X W o tk
  refine PE.by_ (pe_and (ha X W o tk) (hb X W o tk)) fun σ H Q q => ?_
  obtain ⟨ν, Z, ρ, env, h, x, p⟩ := q
  refine ⟨ν, Z, ρ, env, h, x, (asB_cases p).mono fun d h1 Z1 ρ1 H1 e1 s1 r1 ⟨b, eb, p1⟩ v rv => ?_⟩
  subst eb
  cases rv
  refine ⟨b, rfl, ?_⟩
  cases b with
  | true => exact ⟨ν, Z1, ρ1, env, h1, x.step s1 r1, p1⟩
  | false => exact p1.here r1 _ (.bl false)
theorem se_or (ha : SE G a fa) (hb : SE G (.BoolOp .Or (b :: rest) pos) fb) : SE G (.BoolOp .Or (a :: b :: rest) pos) (fOr fa fb) := by
  intro X W o tk
  refine PE.by_ (pe_or (ha X W o tk) (hb X W o tk)) fun σ H Q q => ?_
  obtain ⟨ν, Z, ρ, env, h, x, p⟩ := q
  refine ⟨ν, Z, ρ, env, h, x, (asB_cases p).mono fun d h1 Z1 ρ1 H1 e1 s1 r1 ⟨b, eb, p1⟩ v rv => ?_⟩
  subst eb
  cases rv
  refine ⟨b, rfl, ?_⟩
  cases b with
  | true => exact p1.here r1 _ (.bl true)
  | false => exact ⟨ν, Z1, ρ1, env, h1, x.step s1 r1, p1⟩
theorem se_not (ha : SE G a fa) : SE G (.UnaryOp .Not a pos) (fNot fa) := by
  intro X W o tk
  refine PE.by_ (pe_not (ha X W o tk)) fun σ H Q q => ?_
  obtain ⟨ν, Z, ρ, env, h, x, p⟩ := q
  refine ⟨ν, Z, ρ, env, h, x, (asB_cases p).mono fun d h1 Z1 ρ1 H1 e1 s1 r1 ⟨b, eb, p1⟩ v rv => ?_⟩
  subst eb
  cases rv
  exact ⟨b, rfl, p1.here r1 _ (.bl _)⟩
def fIf (g : Fb) (f f' : Fe) : Fe := fun env h => (g env h).bind fun k h => match k with
  | true => f env h
  | false => f' env h
theorem se_if (hc : ST G c ga) (ha : SE G a fa) (hb : SE G b fb) : SE G (.IfExp c a b pos) (fIf ga fa fb) := by
  intro X W o tk
  refine PE.by_ (pe_ifExp (hc X W o tk) (ha X W o tk) (hb X W o tk)) fun σ H Q q => ?_
  obtain ⟨ν, Z, ρ, env, h, x, p⟩ := q
  refine rT.bind x p fun d h1 Z1 ρ1 H1 e1 s1 x1 p1 => ?_
  cases d with
  | true => exact ⟨ν, Z1, ρ1, env, h1, x1, p1⟩
  | false => exact ⟨ν, Z1, ρ1, env, h1, x1, p1⟩
end

/-! ### subscripts -/
def getI (ds : List D) : Int → D
  | .ofNat n => at_ ds n
  | .negSucc n => at_ ds.reverse n
section
variable {G : Cfg} {ν : List Int} {Z : Addr → Prop} {ρ : List (Option Addr)} {H : Hp} {E : XK} {h : HpD}
theorem getI_ok {C : RC} {ds : List D} {xs : List V} {i : Int} {d : D} (e : getI ds i = d) (n : d ≠ .und) (r : RVs C Z ρ H ds xs) : ∃ v j, ixN xs.length i = some j ∧ xs[j]? = some v ∧ ds[j]? = some d ∧ RV C Z ρ H d v := by
  cases i with
  | ofNat k =>
    have g := at_get (show at_ ds k = d from e) n
    obtain ⟨v, hv, rv⟩ := r.get g
    refine ⟨v, k, ?_, hv, g, rv⟩
    have hl := (List.getElem?_eq_some_iff.mp hv).1
    unfold ixN
    have : (0 : Int) ≤ Int.ofNat k := Int.natCast_nonneg k
    rw [if_pos this, if_pos (by show (k : Int) < _; omega)]
    rfl
  | negSucc k =>
    have g := at_get (show at_ ds.reverse k = d from e) n
    have hl := (List.getElem?_eq_some_iff.mp g).1
    rw [List.length_reverse] at hl
    rw [List.getElem?_reverse (by simpa using hl)] at g
    obtain ⟨v, hv, rv⟩ := r.get g
    refine ⟨v, ds.length - 1 - k, ?_, hv, g, rv⟩
    have el := r.length
    unfold ixN
    rw [if_neg (by omega), if_pos (by omega)]
    congr 1
    omega
theorem atI_of {xs : List V} {i : Int} {j : Nat} {v : V} (h1 : ixN xs.length i = some j) (h2 : xs[j]? = some v) : atI xs i = some v := by
  unfold atI
  rw [h1]
  exact h2
def opIx (d e : D) (h : HpD) : Out D := match e with
  | .int i => (match look h d with
    | some ds => match getI ds i with
      | .und => .bad
      | y => .ok y h
    | none => .bad)
  | _ => .bad
theorem okU {d : D} {R : D → HpD → (Addr → Prop) → List (Option Addr) → Hp → Prop} {C : RC} (p : PostG C Z ρ H E (match d with | .und => .bad | y => .ok y h) R) : d ≠ .und ∧ PostG C Z ρ H E (.ok d h) R := by
  cases d with
  | und => exact p.elim
  | _ => exact ⟨(fun z => by cases z), p⟩
def rIxA (K : PySem.W.Frag) : R2 := fun x y H Q => rIxL K x y H Q ∨ rIxT K x y H Q
theorem im_ix : Impl2 G (rIxA G.K) opIx := by
  intro ν Z ρ H E h d e v u Q hb x r s p
  unfold opIx at p
  split at p
  · rename_i i
    cases s
    split at p
    · rename_i ds hl
      obtain ⟨n, p⟩ := okU p
      obtain ⟨a, xs, rfl, hs, rs⟩ := look_ok x hl r
      obtain ⟨w, j, h1, h2, h3, rw'⟩ := getI_ok rfl n rs
      have hq := p.here x _ rw'
      rcases hs with hs | hs
      · exact .inl ⟨a, xs, i, w, rfl, rfl, hs, atI_of h1 h2, hq⟩
      · exact .inr ⟨a, xs, i, w, rfl, rfl, hs, atI_of h1 h2, hq⟩
    · exact p.elim
  · exact p.elim
end
section
variable {G : Cfg} {a b e : Expr} {fa fb f : Fe} {pos p2 : Pos} {lo hi : Option Expr}
theorem se_ix (ha : SE G a fa) (hb : SE G b fb) (hs : PlainIx b := by exact fun _ _ => rfl) : SE G (.Subscript a b pos) (f2 opIx fa fb) := by
  intro X W o tk
  refine PE.by_ (pe_ix (IxR.or ix_list ix_tup) (ha X W o tk) (hb X W o tk) hs) fun σ H Q q => ?_
  obtain ⟨ν, Z, ρ, env, h, x, p⟩ := q
  refine rE.bind x p fun d h1 Z1 ρ1 H1 v e1 s1 x1 r1 p1 => ?_
  refine rE.bind x1 p1 fun e h2 Z2 ρ2 H2 u e2 s2 x2 r2 p2 => ?_
  rw [o.K]
  exact im_ix ν Z2 ρ2 H2 _ h2 d e v u Q x2.hb x2.rh (r1.step s2) r2 p2
/-- d[k] of a dict, there -/
def opGet (d e : D) (h : HpD) : Out D := match lookD h d with
  | some (ks, ds) => match keyOf e with
    | some k => match valD k ks ds with
      | some y => .ok y h
      | none => .bad
    | none => .bad
  | none => .bad
theorem se_get (ha : SE G a fa) (hb : SE G b fb) (hs : NoSl b := by exact fun _ _ => rfl) : SE G (.Subscript a b pos) (f2 opGet fa fb) := by
  intro X W o tk
  refine PE.by_ (pe_dget (by have := o.hu; omega) (ha X W o tk) (hb X W o tk) hs) fun σ H Q q => ?_
  obtain ⟨ν, Z, ρ, env, h, x, p⟩ := q
  refine rE.bind x p fun d h1 Z1 ρ1 H1 v e1 s1 x1 r1 p1 => ?_
  refine rE.bind x1 p1 fun e h2 Z2 ρ2 H2 u e2 s2 x2 r2 p2 => ?_
  unfold opGet at p2
  split at p2
  · rename_i ks ds hl
    split at p2
    · rename_i k hk
      split at p2
      · rename_i y hy
        obtain ⟨a, kvs, rfl, ha, e1, rs⟩ := lookD_ok x2.rh hl (r1.step s2)
        subst e1
        obtain ⟨w, hw, rw'⟩ := (valD_ok rs).1 y hy
        refine ⟨a, w, rfl, ?_, p2.here x2.rh _ rw'⟩
        rw [keyOf_ok hk r2, ← hw]
        exact .k ha
      · exact p2.elim
    · exact p2.elim
  · exact p2.elim

/-! ### slices -/
abbrev Fo := EnvD → HpD → Out (Option Int)
def rO (G : Cfg) (W : WX) (f : Fo) : TO := fun σ H Q => ∃ ν Z ρ env h, Stt G ν Z ρ σ H env h ∧ PostG (G.rc ν) Z ρ H (fun c d H' => W c d σ H') (f env h) (fun o _ _ _ H' => Q o H')
def SO (G : Cfg) (e : Option Expr) (f : Fo) : Prop := ∀ X W, OkX G X → Takes X W → PO X e (rO G W f)
theorem PO.by_ {X : Cx} {e : Option Expr} {t t' : TO} (h : PO X e t) (k : ∀ σ H Q, t' σ H Q → t σ H Q) : PO X e t' := ⟨fun pins s σ H Q I q => h.run pins s σ H Q I (k σ H Q q)⟩
def oNone : Fo := fun _ h => .ok none h
def oSome (f : Fe) : Fo := fun env h => (f env h).bind fun d h => match d with
  | .int i => .ok (some i) h
  | _ => .bad
theorem so_none : SO G none oNone := by
  intro X W o tk
  refine PO.by_ po_none fun σ H Q q => ?_
  obtain ⟨ν, Z, ρ, env, h, x, p⟩ := q
  exact p.here x.rh
theorem so_some (he : SE G e f) : SO G (some e) (oSome f) := by
  intro X W o tk
  refine PO.by_ (po_some (he X W o tk)) fun σ H Q q => ?_
  obtain ⟨ν, Z, ρ, env, h, x, p⟩ := q
  refine rE.bind x p fun d h1 Z1 ρ1 H1 v e1 s1 x1 r1 p1 => ?_
  cases d with
  | int i => cases r1; exact ⟨i, rfl, p1.here x1.rh⟩
  | _ => exact p1.elim
def cutD (ds : List D) (lo hi : Option Int) : List D := (ds.drop (HT.sIx ds.length 0 lo)).take (HT.sIx ds.length ds.length hi - HT.sIx ds.length 0 lo)
def fSlT (f : Fe) (l u : Fo) : Fe := fun env h => (f env h).bind fun d h => (l env h).bind fun lo h => (u env h).bind fun hi h => match d with
  | .tup ds => .ok (.tup (cutD ds lo hi)) h
  | _ => .bad
theorem cutD_ok {C : RC} {Z : Addr → Prop} {ρ : List (Option Addr)} {H : Hp} {ds : List D} {xs : List V} (lo hi : Option Int) (r : RVs C Z ρ H ds xs) : RVs C Z ρ H (cutD ds lo hi) (cutV xs lo hi) := by
  unfold cutD cutV
  rw [r.length]
  exact (r.drop _).take _
theorem se_slT {l u : Fo} (he : SE G e f) (hl : SO G lo l) (hh : SO G hi u) : SE G (.Subscript e (.Slice lo hi none p2) pos) (fSlT f l u) := by
  intro X W o tk
  refine PE.by_ (pe_slice sl_tupA (he X W o tk) (hl X W o tk) (hh X W o tk)) fun σ H Q q => ?_
  obtain ⟨ν, Z, ρ, env, h, x, p⟩ := q
  refine rE.bind x p fun d h1 Z1 ρ1 H1 v e1 s1 x1 r1 p1 => ?_
  refine ⟨ν, Z1, ρ1, env, h1, x1, (PostG.bind p1).mono fun lo' h2 Z2 ρ2 H2 e2 s2 rh2 p2 => ?_⟩
  refine ⟨ν, Z2, ρ2, env, h2, x1.step s2 rh2, (PostG.bind p2).mono fun hi' h3 Z3 ρ3 H3 e3 s3 rh3 p3 => ?_⟩
  cases d with
  | tup ds =>
    cases (r1.step s2).step s3 with
    | tup ht rs =>
      rw [o.K]
      refine ⟨_, _, rfl, ht, fun z => ?_, fun z pp np => ?_⟩
      · have : cutD ds lo' hi' = ds := by
          unfold cutD
          rw [rs.length, z.1, z.2]
          simp [← rs.length]
        have p3 : PostG (G.rc ν) Z3 ρ3 H3 (fun c d H' => W c d σ H') (.ok (.tup (cutD ds lo' hi')) h3) (Hand (G.rc ν) Q) := p3
        rw [this] at p3
        exact p3.here rh3 _ (.tup ht rs)
      · exact hand_tup rh3 (cutD_ok lo' hi' rs) np p3
  | _ => exact p3.elim
def fSlL (f : Fe) (l u : Fo) : Fa := fun env h => (f env h).bind fun d h => (l env h).bind fun lo h => (u env h).bind fun hi h => match lookL h d with
  | some ds => .ok (cutD ds lo hi) h
  | none => .bad
theorem sf_slL {l u : Fo} (he : SE G e f) (hl : SO G lo l) (hh : SO G hi u) : SF G (.Subscript e (.Slice lo hi none p2) pos) (fSlL f l u) := by
  intro X W o tk
  refine PE.by_ (pe_slice sl_list (he X W o tk) (hl X W o tk) (hh X W o tk)) fun σ H Q q => ?_
  obtain ⟨ν, Z, ρ, env, h, x, p⟩ := q
  refine rE.bind x p fun d h1 Z1 ρ1 H1 v e1 s1 x1 r1 p1 => ?_
  refine ⟨ν, Z1, ρ1, env, h1, x1, (PostG.bind p1).mono fun lo' h2 Z2 ρ2 H2 e2 s2 rh2 p2 => ?_⟩
  refine ⟨ν, Z2, ρ2, env, h2, x1.step s2 rh2, (PostG.bind p2).mono fun hi' h3 Z3 ρ3 H3 e3 s3 rh3 p3 => ?_⟩
  split at p3
  · rename_i ds hl
    obtain ⟨a, xs, rfl, ha, rs⟩ := lookL_ok rh3 hl ((r1.step s2).step s3)
    exact ⟨a, xs, rfl, .of ha, fun pp np => handF ((s1.trans s2).trans s3).dom rh3 (cutD_ok lo' hi' rs) np p3⟩
  · exact p3.elim
/-- xs[::-1] -/
def fRev (f : Fe) : Fa := fun env h => (f env h).bind fun d h => match lookL h d with
  | some ds => .ok ds.reverse h
  | none => .bad
theorem sf_rev {k : Nat} {p1 p3 p4 : Pos} (he : SE G e f) : SF G (.Subscript e (.Slice none none (some (.UnaryOp .USub (.Constant (.int 1) k p1) p2)) p3) pos) (fRev f) := by
  intro X W o tk
  refine PE.by_ (pe_revL (he X W o tk)) fun σ H Q q => ?_
  obtain ⟨ν, Z, ρ, env, h, x, p⟩ := q
  refine rE.bind x p fun d h1 Z1 ρ1 H1 v e1 s1 x1 r1 p1 => ?_
  split at p1
  · rename_i ds hl
    obtain ⟨a, xs, rfl, ha, rs⟩ := lookL_ok x1.rh hl r1
    exact ⟨a, xs, rfl, .of ha, fun pp np => handF s1.dom x1.rh rs.reverse np p1⟩
  · exact p1.elim
/-! ### new lists by operators -/
def fCat (fa fb : Fe) : Fa := fun env h => (fa env h).bind fun d h => (fb env h).bind fun e h => match lookL h d with
  | some ds => match lookL h e with
    | some es => match short ds most with
      | true => match short es most with
        | true => .ok (ds ++ es) h
        | false => .bad
      | false => .bad
    | none => .bad
  | none => .bad
theorem sf_cat (ha : SE G a fa) (hb : SE G b fb) : SF G (.BinOp a .Add b pos) (fCat fa fb) := by
  intro X W o tk
  refine PE.by_ (pe_op op_cat (ha X W o tk) (hb X W o tk)) fun σ H Q q => ?_
  obtain ⟨ν, Z, ρ, env, h, x, p⟩ := q
  refine rE.bind x p fun d h1 Z1 ρ1 H1 v e1 s1 x1 r1 p1 => ?_
  refine rE.bind x1 p1 fun e h2 Z2 ρ2 H2 u e2 s2 x2 r2 p2 => ?_
  split at p2
  · rename_i ds hl
    split at p2
    · rename_i es hl2
      split at p2
      · rename_i h3
        split at p2
        · rename_i h4
          obtain ⟨a, xs, rfl, ha, rs⟩ := lookL_ok x2.rh hl (r1.step s2)
          obtain ⟨b, ys, rfl, hb, rt⟩ := lookL_ok x2.rh hl2 r2
          have l1 := short_le h3
          have l2 := short_le h4
          rw [rs.length] at l1
          rw [rt.length] at l2
          have : most + most ≤ sizeLine := by decide
          exact ⟨a, b, xs, ys, rfl, rfl, ha, hb, by omega, fun pp np => handF (s1.trans s2).dom x2.rh (rs.append rt) np p2⟩
        · exact p2.elim
      · exact p2.elim
    · exact p2.elim
  · exact p2.elim
/-- [..] * n -/
def fRep (fa fb : Fe) : Fa := fun env h => (fa env h).bind fun d h => (fb env h).bind fun e h => match lookL h d with
  | some ds => (match e with
    | .int (.ofNat k) => (match Nat.ble (ds.length * k) most with
      | true => match Nat.ble k most with
        | true => .ok (List.replicate k ds).flatten h
        | false => .bad
      | false => .bad)
    | _ => .bad)
  | none => .bad
theorem sf_rep (ha : SE G a fa) (hb : SE G b fb) : SF G (.BinOp a .Mult b pos) (fRep fa fb) := by
  intro X W o tk
  refine PE.by_ (pe_op op_rep (ha X W o tk) (hb X W o tk)) fun σ H Q q => ?_
  obtain ⟨ν, Z, ρ, env, h, x, p⟩ := q
  refine rE.bind x p fun d h1 Z1 ρ1 H1 v e1 s1 x1 r1 p1 => ?_
  refine rE.bind x1 p1 fun e h2 Z2 ρ2 H2 u e2 s2 x2 r2 p2 => ?_
  split at p2
  · rename_i ds hl
    split at p2
    · rename_i k
      split at p2
      · rename_i h3
        split at p2
        · rename_i h4
          obtain ⟨a, xs, rfl, ha, rs⟩ := lookL_ok x2.rh hl (r1.step s2)
          cases r2
          have l1 := Nat.le_of_ble_eq_true h3
          have l2 := Nat.le_of_ble_eq_true h4
          rw [rs.length] at l1
          have lm : most = 100000 := rfl
          exact ⟨a, Int.ofNat k, xs, rfl, rfl, ha, by show _ ≤ (k : Int); omega, by show (k : Int) < _; omega, most_le l1, fun pp np => handF (s1.trans s2).dom x2.rh (rs.flatten_rep k) np p2⟩
        · exact p2.elim
      · exact p2.elim
    · exact p2.elim
  · exact p2.elim
end
end Eg

set_option Elab.async false
set_option linter.all false
set_option maxRecDepth 100000
/-! The engine, part 7: built-in calls. -/
namespace Eg
open PySem PySem.Spec PyProof.Rows L2
def fCall (g : List D → HpD → Out D) (fa : Fa) : Fe := fun env h => (fa env h).bind fun ds h => g ds h
def fCallL (g : List D → HpD → Out (List D)) (fa : Fa) : Fa := fun env h => (fa env h).bind fun ds h => g ds h
/-- the built-in's work over data does what its rule asks -/
def ImplA (G : Cfg) (r : List V → Hp → VK → Prop) (g : List D → HpD → Out D) : Prop := ∀ ν Z ρ H E h ds vs Q, inBox G.β ν → RH (G.rc ν) Z ρ H h → RVs (G.rc ν) Z ρ H ds vs → PostG (G.rc ν) Z ρ H E (g ds h) (Hand (G.rc ν) Q) → r vs H Q
def ImplF (G : Cfg) (r : List V → Hp → VK → Prop) (g : List D → HpD → Out (List D)) : Prop := ∀ ν Z ρ H H0 E h ds vs Q, inBox G.β ν → RH (G.rc ν) Z ρ H h → RVs (G.rc ν) Z ρ H ds vs → (∀ a o, H0 a = some o → ∃ o', H a = some o') → PostG (G.rc ν) Z ρ H E (g ds h) (HandF (G.rc ν) H0 Q) → r vs H Q
section
variable {G : Cfg} {e : Expr} {es : List Expr} {fa : Fa} {x : Str} {p pos : Pos} {id T : String} {r : PySem.W.Frag → List V → Hp → VK → Prop} {g : List D → HpD → Out D} {gl : List D → HpD → Out (List D)}
theorem back_plain : ∀ (es : List Expr) (env : Env) (pos : Pos), (∀ e ∈ es, ∀ x y, e ≠ .Starred x y) → (backTo pos (starEach es env)).any (·.1) = false
  | [], _, _, _ => rfl
  | e :: es, env, pos, h => by
    have ih := back_plain es env pos fun e' m => h e' (List.mem_cons_of_mem _ m)
    have : starEach (e :: es) env = (false, eval e env) :: starEach es env := by
      cases e with
      | Starred x y => exact absurd rfl (h _ (List.mem_cons_self ..) x y)
      | _ => rfl
    rw [this]
    show (false || (backTo pos (starEach es env)).any (·.1)) = false
    rw [ih]; rfl
theorem se_callB (hc : ∀ X, OkX G X → CallR X (.builtin id) (r X.K)) (im : ImplA G (r G.K) g) (hg : G.sc.names.lookup x = some .globalImplicit) (hm : G.mg x = none) (hv : bootBuiltins x = some (.builtin id)) (ha : SA G (e :: es) fa)
    (hn : x ≠ "__name__" := by decide) (hdb : (x == ("__debug__" : Str)) = false := by decide) (he : ∀ env, starEach (e :: es) env = (false, eval e env) :: starEach es env := by intro _; rfl) (hpl : ∀ pos env, (backTo pos (starEach es env)).any (·.1) = false := by intro _ _; rfl) :
    SE G (.Call (.Name x p) (e :: es) [] pos) (fCall g fa) := by
  intro X W o tk
  refine PE.by_ (pe_callB (hc X o) (by show X.env.scope.names.lookup x = _; rw [o.sc]; exact hg) (by rw [o.mg]; exact hm) hv (ha X W o tk) hn hdb (he _) (hpl _ _)) fun σ H Q q => ?_
  obtain ⟨ν, Z, ρ, env, h, x, p⟩ := q
  refine rA.bind x p fun d h1 Z1 ρ1 H1 v e1 s1 x1 r1 p1 => ?_
  rw [o.K]
  exact im ν Z1 ρ1 H1 _ h1 d v Q x1.hb x1.rh r1 p1
theorem se_callT (hc : ∀ X, OkX G X → CallR X (.type T) (r X.K)) (im : ImplA G (r G.K) g) (hg : G.sc.names.lookup x = some .globalImplicit) (hm : G.mg x = none) (hv : bootBuiltins x = some (.type T)) (ha : SA G (e :: es) fa)
    (hn : x ≠ "__name__" := by decide) (hdb : (x == ("__debug__" : Str)) = false := by decide) (he : ∀ env, starEach (e :: es) env = (false, eval e env) :: starEach es env := by intro _; rfl) (hpl : ∀ pos env, (backTo pos (starEach es env)).any (·.1) = false := by intro _ _; rfl) :
    SE G (.Call (.Name x p) (e :: es) [] pos) (fCall g fa) := by
  intro X W o tk
  refine PE.by_ (pe_callTy (hc X o) (by show X.env.scope.names.lookup x = _; rw [o.sc]; exact hg) (by rw [o.mg]; exact hm) hv (ha X W o tk) hn hdb (he _) (hpl _ _)) fun σ H Q q => ?_
  obtain ⟨ν, Z, ρ, env, h, x, p⟩ := q
  refine rA.bind x p fun d h1 Z1 ρ1 H1 v e1 s1 x1 r1 p1 => ?_
  rw [o.K]
  exact im ν Z1 ρ1 H1 _ h1 d v Q x1.hb x1.rh r1 p1
theorem sf_callB (hc : ∀ X, OkX G X → CallR X (.builtin id) (r X.K)) (im : ImplF G (r G.K) gl) (hg : G.sc.names.lookup x = some .globalImplicit) (hm : G.mg x = none) (hv : bootBuiltins x = some (.builtin id)) (ha : SA G (e :: es) fa)
    (hn : x ≠ "__name__" := by decide) (hdb : (x == ("__debug__" : Str)) = false := by decide) (he : ∀ env, starEach (e :: es) env = (false, eval e env) :: starEach es env := by intro _; rfl) (hpl : ∀ pos env, (backTo pos (starEach es env)).any (·.1) = false := by intro _ _; rfl) :
    SF G (.Call (.Name x p) (e :: es) [] pos) (fCallL gl fa) := by
  intro X W o tk
  refine PE.by_ (pe_callB (hc X o) (by show X.env.scope.names.lookup x = _; rw [o.sc]; exact hg) (by rw [o.mg]; exact hm) hv (ha X W o tk) hn hdb (he _) (hpl _ _)) fun σ H Q q => ?_
  obtain ⟨ν, Z, ρ, env, h, x, p⟩ := q
  refine rA.bind x p fun d h1 Z1 ρ1 H1 v e1 s1 x1 r1 p1 => ?_
  rw [o.K]
  exact im ν Z1 ρ1 H1 H _ h1 d v Q x1.hb x1.rh r1 s1.dom p1
theorem sf_callT (hc : ∀ X, OkX G X → CallR X (.type T) (r X.K)) (im : ImplF G (r G.K) gl) (hg : G.sc.names.lookup x = some .globalImplicit) (hm : G.mg x = none) (hv : bootBuiltins x = some (.type T)) (ha : SA G (e :: es) fa)
    (hn : x ≠ "__name__" := by decide) (hdb : (x == ("__debug__" : Str)) = false := by decide) (he : ∀ env, starEach (e :: es) env = (false, eval e env) :: starEach es env := by intro _; rfl) (hpl : ∀ pos env, (backTo pos (starEach es env)).any (·.1) = false := by intro _ _; rfl) :
    SF G (.Call (.Name x p) (e :: es) [] pos) (fCallL gl fa) := by
  intro X W o tk
  refine PE.by_ (pe_callTy (hc X o) (by show X.env.scope.names.lookup x = _; rw [o.sc]; exact hg) (by rw [o.mg]; exact hm) hv (ha X W o tk) hn hdb (he _) (hpl _ _)) fun σ H Q q => ?_
  obtain ⟨ν, Z, ρ, env, h, x, p⟩ := q
  refine rA.bind x p fun d h1 Z1 ρ1 H1 v e1 s1 x1 r1 p1 => ?_
  rw [o.K]
  exact im ν Z1 ρ1 H1 H _ h1 d v Q x1.hb x1.rh r1 s1.dom p1
end

section
variable {G : Cfg} {ν : List Int} {Z : Addr → Prop} {ρ : List (Option Addr)} {H : Hp} {E : XK} {h : HpD}
theorem RVs.one {C : RC} {d : D} {vs : List V} (r : RVs C Z ρ H [d] vs) : ∃ v, vs = [v] ∧ RV C Z ρ H d v := by
  cases r with | cons q t => cases t; exact ⟨_, rfl, q⟩
theorem RVs.uncons {C : RC} {d : D} {ds : List D} {vs : List V} (r : RVs C Z ρ H (d :: ds) vs) : ∃ v us, vs = v :: us ∧ RV C Z ρ H d v ∧ RVs C Z ρ H ds us := by
  cases r with | cons q t => exact ⟨_, _, rfl, q, t⟩
theorem RVs.two {C : RC} {d e : D} {vs : List V} (r : RVs C Z ρ H [d, e] vs) : ∃ v u, vs = [v, u] ∧ RV C Z ρ H d v ∧ RV C Z ρ H e u := by
  cases r with | cons q t => obtain ⟨u, rfl, q2⟩ := t.one; exact ⟨_, u, rfl, q, q2⟩
/-! ### len -/
def opLen (ds : List D) (h : HpD) : Out D := match ds with
  | [d] => (match look h d with
    | some es => .ok (.int (.ofNat es.length)) h
    | none => match lookD h d with
      | some (ks, _) => .ok (.int (.ofNat ks.length)) h
      | none => .bad)
  | _ => .bad
def rLenA (K : PySem.W.Frag) : List V → Hp → VK → Prop := fun xs H Q => (∃ p ys, xs = [.ref p] ∧ (SqL K H p ys ∨ SqT K H p ys) ∧ Q (.int ys.length) H) ∨ ∃ a kvs, xs = [V.ref a] ∧ H a = some (.dK kvs) ∧ Q (.int kvs.length) H
theorem cr_lenA : ∀ X, OkX G X → CallR X (.builtin "len") (rLenA X.K) := fun X o => CallR.or call_len_seq call_lenD
theorem im_len : ImplA G (rLenA G.K) opLen := by
  intro ν Z ρ H E h ds vs Q hb x r p
  unfold opLen at p
  split at p
  · obtain ⟨v, rfl, rv⟩ := r.one
    split at p
    · rename_i es hl
      obtain ⟨a, xs, rfl, hs, rs⟩ := look_ok x hl rv
      refine .inl ⟨a, xs, rfl, hs, ?_⟩
      have := p.here x _ (.int _)
      rw [← rs.length]
      exact this
    · split at p
      · rename_i ks ds' hl
        obtain ⟨a, kvs, rfl, ha, e1, rs⟩ := lookD_ok x hl rv
        refine .inr ⟨a, kvs, rfl, ha, ?_⟩
        have := p.here x _ (.int _)
        rw [← e1, List.length_map] at this
        exact this
      · exact p.elim
  · exact p.elim
/-! ### abs, int -/
def opAbs (ds : List D) (h : HpD) : Out D := match ds with
  | [.int i] => .ok (.int (match ltI i 0 with | true => -i | false => i)) h
  | _ => .bad
def rAbsA (_ : PySem.W.Frag) : List V → Hp → VK → Prop := fun xs H Q => ∃ i, xs = [.int i] ∧ Q (.int (if i < 0 then -i else i)) H
theorem cr_absA : ∀ X, OkX G X → CallR X (.builtin "abs") (rAbsA X.K) := fun X o => call_abs
theorem im_abs : ImplA G (rAbsA G.K) opAbs := by
  intro ν Z ρ H E h ds vs Q hb x r p
  unfold opAbs at p
  split at p
  · rename_i i
    obtain ⟨v, rfl, rv⟩ := r.one
    cases rv
    refine ⟨_, rfl, ?_⟩
    have := p.here x _ (.int _)
    rw [ltI_ok] at this
    by_cases hi : i < 0
    · rw [if_pos hi]; simpa [hi] using this
    · rw [if_neg hi]; simpa [hi] using this
  · exact p.elim
def opInt (ds : List D) (h : HpD) : Out D := match ds with
  | [.int i] => .ok (.int i) h
  | [.bl b] => .ok (.int (if b then 1 else 0)) h
  | [.lin c ks] => .ok (.lin c ks) h
  | _ => .bad
def rIntA (_ : PySem.W.Frag) : List V → Hp → VK → Prop := fun xs H Q => (∃ i, xs = [.int i] ∧ Q (.int i) H) ∨ ∃ k, xs = [.bl k] ∧ Q (.int (if k then 1 else 0)) H
theorem cr_intA : ∀ X, OkX G X → CallR X (.type "int") (rIntA X.K) := fun X o => call_int1
theorem im_int : ImplA G (rIntA G.K) opInt := by
  intro ν Z ρ H E h ds vs Q hb x r p
  unfold opInt at p
  split at p
  · obtain ⟨v, rfl, rv⟩ := r.one
    cases rv
    exact .inl ⟨_, rfl, p.here x _ (.int _)⟩
  · obtain ⟨v, rfl, rv⟩ := r.one
    cases rv
    exact .inr ⟨_, rfl, p.here x _ (.int _)⟩
  · obtain ⟨v, rfl, rv⟩ := r.one
    cases rv with
    | lin _ _ e => exact .inl ⟨_, rfl, p.here x _ (.lin _ _ e)⟩
  · exact p.elim
/-! ### isinstance -/
def tyN : D → String
  | .non => "NoneType"
  | .bl _ => "bool"
  | .int _ => "int"
  | .lin _ _ => "int"
  | .str _ => "str"
  | .tup _ => "tuple"
  | .lst _ => "list"
  | _ => "?"
def tyH (h : HpD) : D → String
  | .ref n => match hat h n with
    | .lst _ => "list"
    | _ => "?"
  | d => tyN d
/-- the built-in types asked for -/
inductive T5 where
  | int | bool | str | tuple | list
def T5.nm : T5 → String
  | .int => "int"
  | .bool => "bool"
  | .str => "str"
  | .tuple => "tuple"
  | .list => "list"
def T5.isL : T5 → Bool
  | .list => true
  | _ => false
def isT (h : HpD) (t : T5) (d : D) : Option Bool := match t, d with
  | .int, .int _ => some true
  | .int, .lin _ _ => some true
  | .int, .bl _ => some true
  | .bool, .bl _ => some true
  | .str, .str _ => some true
  | .tuple, .tup _ => some true
  | .list, .lst _ => some true
  | t, .ref n => match hat h n with
    | .lst _ => some t.isL
    | _ => none
  | _, .non => some false
  | _, .bl _ => some false
  | _, .int _ => some false
  | _, .lin _ _ => some false
  | _, .str _ => some false
  | _, .tup _ => some false
  | _, .lst _ => some false
  | _, _ => none
theorem kit_all : ∀ t : T5, kitB "NoneType" t.nm = some false ∧ kitB "bool" t.nm = some (match t with | .int => true | .bool => true | _ => false) ∧ kitB "int" t.nm = some (match t with | .int => true | _ => false) ∧
    kitB "str" t.nm = some (match t with | .str => true | _ => false) ∧ kitB "tuple" t.nm = some (match t with | .tuple => true | _ => false) ∧ kitB "list" t.nm = some t.isL := by
  intro t
  cases t <;> decide +kernel
theorem isT_ok {C : RC} {t : T5} {d : D} {v : V} {b : Bool} (x : RH C Z ρ H h) (q : isT h t d = some b) (r : RV C Z ρ H d v) : ∃ n, TyX C.K H v (.type n) ∧ kitB n t.nm = some b := by
  obtain ⟨k1, k2, k3, k4, k5, k6⟩ := kit_all t
  have tupTy : ∀ {a xs}, SqT C.K H a xs → TyX C.K H (.ref a) (.type "tuple") := fun {a xs} hs => by
    rcases hs with (hs | ⟨o, hs⟩) | ⟨o, its, n, hk, hc, _⟩
    · exact .base (.tup hs)
    · exact .fTuple hs
    · exact .kTuple hk hc
  cases r with
  | non => cases t <;> (cases q; exact ⟨_, .base .non, k1⟩)
  | bl k => cases t <;> (cases q; exact ⟨_, .base (.bl _), k2⟩)
  | int i => cases t <;> (cases q; exact ⟨_, .base (.int _), k3⟩)
  | lin c ks e => cases t <;> (cases q; exact ⟨_, .base (.int _), k3⟩)
  | str y => cases t <;> (cases q; exact ⟨_, .base (.str _), k4⟩)
  | tup hs rs => cases t <;> (cases q; exact ⟨_, tupTy hs, k5⟩)
  | lst hs z rs => cases t <;> (cases q; exact ⟨_, .base (.lst hs), k6⟩)
  | dct _ _ _ _ => cases t <;> cases q
  | rng _ => cases t <;> cases q
  | ty _ => cases t <;> cases q
  | fn _ => cases t <;> cases q
  | ref e =>
    rename_i n a
    have q : (match hat h n with | .lst _ => some t.isL | _ => none) = some b := by cases t <;> exact q
    cases hh : hat h n with
    | lst ds =>
      rw [hh] at q
      cases q
      obtain ⟨a', xs, e1, e2, rs⟩ := x.at_ hh (fun z => by cases z)
      rw [e] at e1; cases e1
      exact ⟨_, .base (.lst e2), k6⟩
    | gone => rw [hh] at q; cases q
    | cup _ => rw [hh] at q; cases q
    | dct _ _ => rw [hh] at q; cases q
def opIsi (t : T5) (ds : List D) (h : HpD) : Out D := match ds with
  | d :: _ => ofB (isT h t d) h
  | _ => .bad
/-- isinstance(e, T) -/
theorem se_isi {t : T5} {e : Expr} {f : Fe} {x : Str} {p p2 pos : Pos} (hg : G.sc.names.lookup ("isinstance" : Str) = some .globalImplicit) (hm : G.mg "isinstance" = none) (hgt : G.sc.names.lookup x = some .globalImplicit) (hmt : G.mg x = none) (hv : bootBuiltins x = some (.type t.nm)) (hx : x ≠ "__name__" := by decide) (hdb : (x == ("__debug__" : Str)) = false := by decide)
    (he : SE G e f) (hst : ∀ env, starEach [e, .Name x p2] env = (false, eval e env) :: starEach [.Name x p2] env := by intro _; rfl) :
    SE G (.Call (.Name "isinstance" p) [e, .Name x p2] [] pos) (f1 (fun d h => ofB (isT h t d) h) f) := by
  intro X W o tk
  have hT : PE X (.Name x p2) (tC (.ty t.nm)) := pe_bltn (by show X.env.scope.names.lookup x = _; rw [o.sc]; exact hgt) (by rw [o.mg]; exact hmt) hv rfl hx hdb
  refine PE.by_ (pe_callB call_isi (by show X.env.scope.names.lookup _ = _; rw [o.sc]; exact hg) (by rw [o.mg]; exact hm) boot_isinstance (pa_cons (he X W o tk) (pa_cons hT pa_nil) (hst _)) (by decide) (by decide) (hst _)) fun σ H Q q => ?_
  obtain ⟨ν, Z, ρ, env, h, x, p⟩ := q
  refine rE.bind x p fun d h1 Z1 ρ1 H1 v e1 s1 x1 r1 p1 => ?_
  obtain ⟨b, hq, p1⟩ := ofB_ok p1
  obtain ⟨n, ty, kb⟩ := isT_ok x1.rh hq r1
  rw [o.K]
  exact ⟨v, .ty t.nm, .type n, .type t.nm, b, rfl, .ty _, ty, kit_ty kb, p1.here x1.rh _ (.bl b)⟩
/-! ### all, any -/
def bools : List D → Option (List Bool)
  | [] => some []
  | .bl b :: r => match bools r with
    | some bs => some (b :: bs)
    | none => none
  | _ => none
theorem bools_ok {C : RC} : ∀ {ds : List D} {xs : List V} {bs : List Bool}, bools ds = some bs → RVs C Z ρ H ds xs → xs = bs.map V.bl
  | [], _, _, e, .nil => by cases e; rfl
  | d :: r, _, bs, e, .cons q t => by
    cases q <;> simp only [bools] at e <;> first | cases e | skip
    split at e
    · rename_i bs' h1
      cases e
      rw [bools_ok h1 t]; rfl
    · cases e
def opAll (ds : List D) (h : HpD) : Out D := match ds with
  | [d] => (match lookL h d with
    | some es => match bools es with
      | some bs => .ok (.bl (bs.all id)) h
      | none => .bad
    | none => .bad)
  | _ => .bad
def opAny (ds : List D) (h : HpD) : Out D := match ds with
  | [d] => (match lookL h d with
    | some es => match bools es with
      | some bs => .ok (.bl (bs.any id)) h
      | none => .bad
    | none => .bad)
  | _ => .bad
theorem cr_allA : ∀ X, OkX G X → CallR X (.builtin "all") (rAll X.K) := fun X o => cr_all o.calm
theorem cr_anyA : ∀ X, OkX G X → CallR X (.builtin "any") (rAny X.K) := fun X o => cr_any o.calm
theorem im_all : ImplA G (rAll G.K) opAll := by
  intro ν Z ρ H E h ds vs Q hb x r p
  unfold opAll at p
  split at p
  · obtain ⟨v, rfl, rv⟩ := r.one
    split at p
    · rename_i es hl
      split at p
      · rename_i bs hbs
        obtain ⟨a, xs, rfl, ha, rs⟩ := lookL_ok x hl rv
        rw [bools_ok hbs rs] at ha
        exact ⟨a, bs, rfl, .of ha, p.here x _ (.bl _)⟩
      · exact p.elim
    · exact p.elim
  · exact p.elim
theorem im_any : ImplA G (rAny G.K) opAny := by
  intro ν Z ρ H E h ds vs Q hb x r p
  unfold opAny at p
  split at p
  · obtain ⟨v, rfl, rv⟩ := r.one
    split at p
    · rename_i es hl
      split at p
      · rename_i bs hbs
        obtain ⟨a, xs, rfl, ha, rs⟩ := lookL_ok x hl rv
        rw [bools_ok hbs rs] at ha
        exact ⟨a, bs, rfl, .of ha, p.here x _ (.bl _)⟩
      · exact p.elim
    · exact p.elim
  · exact p.elim
/-! ### max, min, sum -/
def bestD (better : D → D → Option Bool) : D → List D → Option D
  | d, [] => some d
  | d, e :: r => match better e d with
    | some true => bestD better e r
    | some false => bestD better d r
    | none => none
theorem bestD_max {C : RC} {β : Box} (hb : inBox β C.ν) : ∀ (es : List D) (d m : D) (v : V) (us : List V), bestD (fun e d => dLt β d e) d es = some m → RV C Z ρ H d v → RVs C Z ρ H es us → allZ (d :: es) = true →
    ∃ i, (v :: us = (v :: us)) ∧ RV C Z ρ H m (.int i) ∧ V.int i ∈ v :: us ∧ ∀ j, V.int j ∈ v :: us → j ≤ i
  | [], d, m, v, _, q, r, .nil, z => by
    cases q
    unfold allZ at z
    split at z
    · rename_i zz hz
      have := zof_ok hz r
      subst this
      exact ⟨_, rfl, r, by simp, fun j hj => by simp at hj; omega⟩
    · cases z
  | e :: es, d, m, v, _, q, r, .cons r2 t, z => by
    unfold bestD at q
    have ze : allZ (e :: es) = true := by
      unfold allZ at z
      split at z
      · exact z
      · cases z
    have zd : allZ (d :: es) = true := by
      unfold allZ at z ze ⊢
      split at z
      · split at ze
        · exact ze
        · cases ze
      · cases z
    split at q
    · rename_i q1
      obtain ⟨a, b, e1, e2, e3⟩ := dLt_ok hb q1 r r2
      subst e1; subst e2
      have e3 := of_decide_eq_true e3.symm
      obtain ⟨i, _, h1, h2, h3⟩ := bestD_max hb es e m _ _ q r2 t ze
      refine ⟨i, rfl, h1, List.mem_cons_of_mem _ h2, fun j hj => ?_⟩
      rcases List.mem_cons.mp hj with hj | hj
      · have := h3 b (List.mem_cons_self ..)
        cases hj; omega
      · exact h3 j hj
    · rename_i q1
      obtain ⟨a, b, e1, e2, e3⟩ := dLt_ok hb q1 r r2
      subst e1; subst e2
      have e3 := of_decide_eq_false e3.symm
      obtain ⟨i, _, h1, h2, h3⟩ := bestD_max hb es d m _ _ q r t zd
      refine ⟨i, rfl, h1, ?_, fun j hj => ?_⟩
      · rcases List.mem_cons.mp h2 with h2 | h2
        · rw [h2]; exact List.mem_cons_self ..
        · exact List.mem_cons_of_mem _ (List.mem_cons_of_mem _ h2)
      · have h4 := h3 a (List.mem_cons_self ..)
        rcases List.mem_cons.mp hj with hj | hj
        · cases hj; exact h4
        · rcases List.mem_cons.mp hj with hj | hj
          · cases hj; omega
          · exact h3 j (List.mem_cons_of_mem _ hj)
    · cases q
theorem bestD_min {C : RC} {β : Box} (hb : inBox β C.ν) : ∀ (es : List D) (d m : D) (v : V) (us : List V), bestD (fun e d => dLt β e d) d es = some m → RV C Z ρ H d v → RVs C Z ρ H es us → allZ (d :: es) = true →
    ∃ i, (v :: us = (v :: us)) ∧ RV C Z ρ H m (.int i) ∧ V.int i ∈ v :: us ∧ ∀ j, V.int j ∈ v :: us → i ≤ j
  | [], d, m, v, _, q, r, .nil, z => by
    cases q
    unfold allZ at z
    split at z
    · rename_i zz hz
      have := zof_ok hz r
      subst this
      exact ⟨_, rfl, r, by simp, fun j hj => by simp at hj; omega⟩
    · cases z
  | e :: es, d, m, v, _, q, r, .cons r2 t, z => by
    unfold bestD at q
    have ze : allZ (e :: es) = true := by
      unfold allZ at z
      split at z
      · exact z
      · cases z
    have zd : allZ (d :: es) = true := by
      unfold allZ at z ze ⊢
      split at z
      · split at ze
        · exact ze
        · cases ze
      · cases z
    split at q
    · rename_i q1
      obtain ⟨b, a, e1, e2, e3⟩ := dLt_ok hb q1 r2 r
      subst e1; subst e2
      have e3 := of_decide_eq_true e3.symm
      obtain ⟨i, _, h1, h2, h3⟩ := bestD_min hb es e m _ _ q r2 t ze
      refine ⟨i, rfl, h1, List.mem_cons_of_mem _ h2, fun j hj => ?_⟩
      rcases List.mem_cons.mp hj with hj | hj
      · have := h3 b (List.mem_cons_self ..)
        cases hj; omega
      · exact h3 j hj
    · rename_i q1
      obtain ⟨b, a, e1, e2, e3⟩ := dLt_ok hb q1 r2 r
      subst e1; subst e2
      have e3 := of_decide_eq_false e3.symm
      obtain ⟨i, _, h1, h2, h3⟩ := bestD_min hb es d m _ _ q r t zd
      refine ⟨i, rfl, h1, ?_, fun j hj => ?_⟩
      · rcases List.mem_cons.mp h2 with h2 | h2
        · rw [h2]; exact List.mem_cons_self ..
        · exact List.mem_cons_of_mem _ (List.mem_cons_of_mem _ h2)
      · have h4 := h3 a (List.mem_cons_self ..)
        rcases List.mem_cons.mp hj with hj | hj
        · cases hj; exact h4
        · rcases List.mem_cons.mp hj with hj | hj
          · cases hj; omega
          · exact h3 j (List.mem_cons_of_mem _ hj)
    · cases q
def bestA (better : D → D → Option Bool) (ds : List D) (h : HpD) : Out D := match ds with
  | [d] => (match lookL h d with
    | some (e :: es) => match allZ (e :: es) with
      | true => match bestD better e es with
        | some m => .ok m h
        | none => .bad
      | false => .bad
    | _ => .bad)
  | [d, e] => (match allZ [d, e] with
    | true => match bestD better d [e] with
      | some m => .ok m h
      | none => .bad
    | false => .bad)
  | _ => .bad
def opMax (β : Box) : List D → HpD → Out D := bestA fun e d => dLt β d e
def opMin (β : Box) : List D → HpD → Out D := bestA fun e d => dLt β e d
def rMaxA (K : PySem.W.Frag) : List V → Hp → VK → Prop := fun xs H Q => rMax K xs H Q ∨ ∃ i j, xs = [.int i, .int j] ∧ Q (.int (if j > i then j else i)) H
def rMinA (K : PySem.W.Frag) : List V → Hp → VK → Prop := fun xs H Q => rMin K xs H Q ∨ ∃ i j, xs = [.int i, .int j] ∧ Q (.int (if j < i then j else i)) H
theorem cr_maxA : ∀ X, OkX G X → CallR X (.builtin "max") (rMaxA X.K) := fun X o => CallR.or (cr_max o.calm) (call_max2 o.calm)
theorem cr_minA : ∀ X, OkX G X → CallR X (.builtin "min") (rMinA X.K) := fun X o => CallR.or (cr_min o.calm) (call_min2 o.calm)
theorem int_mem {ns : List Int} {i : Int} : V.int i ∈ ns.map V.int ↔ i ∈ ns := by
  simp
theorem im_max : ImplA G (rMaxA G.K) (opMax G.β) := by
  intro ν Z ρ H E h ds vs Q hb x r p
  unfold opMax bestA at p
  split at p
  · obtain ⟨v, rfl, rv⟩ := r.one
    split at p
    · rename_i e es hl
      split at p
      · rename_i hz
        split at p
        · rename_i m hm
          obtain ⟨a, xs, rfl, ha, rs⟩ := lookL_ok x hl rv
          obtain ⟨ns, rfl⟩ := allZ_ints hz rs
          obtain ⟨v0, vs0, hv, r1, t1⟩ := rs.uncons
          obtain ⟨i, _, h1, h2, h3⟩ := bestD_max hb _ _ _ _ _ hm r1 t1 hz
          rw [← hv] at h2 h3
          rw [int_mem] at h2
          refine .inl ⟨a, ns, rfl, .of ha, ?_, fun m hm1 hm2 => ?_⟩
          · cases ns with
            | nil => cases h2
            | cons _ _ => simp
          · have : m = i := by
              have q1 := h3 m (int_mem.mpr hm1)
              have q2 := hm2 i h2
              omega
            subst this
            exact p.here x _ h1
        · exact p.elim
      · exact p.elim
    · exact p.elim
  · rename_i d e
    obtain ⟨v, u, rfl, rv, ru⟩ := r.two
    split at p
    · rename_i hz
      split at p
      · rename_i m hm
        obtain ⟨ns, hns⟩ := allZ_ints hz r
        obtain ⟨i, _, h1, h2, h3⟩ := bestD_max hb _ _ _ _ _ hm rv (.cons ru .nil) hz
        cases ns with
        | nil => cases hns
        | cons a t => cases t with
          | nil => cases hns
          | cons b t => cases t with
            | cons _ _ => cases hns
            | nil =>
              cases hns
              refine .inr ⟨a, b, rfl, ?_⟩
              have q1 := h3 a (by simp)
              have q2 := h3 b (by simp)
              have q3 : i = a ∨ i = b := by simpa using h2
              have : (if b > a then b else a) = i := by split <;> omega
              rw [this]
              exact p.here x _ h1
      · exact p.elim
    · exact p.elim
  · exact p.elim
theorem im_min : ImplA G (rMinA G.K) (opMin G.β) := by
  intro ν Z ρ H E h ds vs Q hb x r p
  unfold opMin bestA at p
  split at p
  · obtain ⟨v, rfl, rv⟩ := r.one
    split at p
    · rename_i e es hl
      split at p
      · rename_i hz
        split at p
        · rename_i m hm
          obtain ⟨a, xs, rfl, ha, rs⟩ := lookL_ok x hl rv
          obtain ⟨ns, rfl⟩ := allZ_ints hz rs
          obtain ⟨v0, vs0, hv, r1, t1⟩ := rs.uncons
          obtain ⟨i, _, h1, h2, h3⟩ := bestD_min hb _ _ _ _ _ hm r1 t1 hz
          rw [← hv] at h2 h3
          rw [int_mem] at h2
          refine .inl ⟨a, ns, rfl, .of ha, ?_, fun m hm1 hm2 => ?_⟩
          · cases ns with
            | nil => cases h2
            | cons _ _ => simp
          · have : m = i := by
              have q1 := h3 m (int_mem.mpr hm1)
              have q2 := hm2 i h2
              omega
            subst this
            exact p.here x _ h1
        · exact p.elim
      · exact p.elim
    · exact p.elim
  · rename_i d e
    obtain ⟨v, u, rfl, rv, ru⟩ := r.two
    split at p
    · rename_i hz
      split at p
      · rename_i m hm
        obtain ⟨ns, hns⟩ := allZ_ints hz r
        obtain ⟨i, _, h1, h2, h3⟩ := bestD_min hb _ _ _ _ _ hm rv (.cons ru .nil) hz
        cases ns with
        | nil => cases hns
        | cons a t => cases t with
          | nil => cases hns
          | cons b t => cases t with
            | cons _ _ => cases hns
            | nil =>
              cases hns
              refine .inr ⟨a, b, rfl, ?_⟩
              have q1 := h3 a (by simp)
              have q2 := h3 b (by simp)
              have q3 : i = a ∨ i = b := by simpa using h2
              have : (if b < a then b else a) = i := by split <;> omega
              rw [this]
              exact p.here x _ h1
      · exact p.elim
    · exact p.elim
  · exact p.elim
def sumZ : List D → Option (Int × List Int)
  | [] => some (0, [])
  | d :: r => match zof d with
    | some (c, ks) => match sumZ r with
      | some (c', ks') => some (c + c', addK ks ks')
      | none => none
    | none => none
theorem sumZ_ok {C : RC} : ∀ {ds : List D} {xs : List V} {c : Int} {ks : List Int}, sumZ ds = some (c, ks) → RVs C Z ρ H ds xs → ∃ ns : List Int, xs = ns.map V.int ∧ ns.sum = c + dot ks C.ν
  | [], _, _, _, e, .nil => by cases e; exact ⟨[], rfl, by rw [dot_nil]; rfl⟩
  | d :: r, _, _, _, e, .cons q t => by
    unfold sumZ at e
    split at e
    · rename_i c ks hz
      split at e
      · rename_i c' ks' h2
        cases e
        obtain ⟨ns, e1, e2⟩ := sumZ_ok h2 t
        refine ⟨_ :: ns, by rw [zof_ok hz q, e1]; rfl, ?_⟩
        rw [List.sum_cons, e2, dot_add]
        omega
      · cases e
    · cases e
def opSum (ds : List D) (h : HpD) : Out D := match ds with
  | [d] => (match lookL h d with
    | some es => match sumZ es with
      | some (c, ks) => .ok (mkz c ks) h
      | none => .bad
    | none => .bad)
  | _ => .bad
theorem cr_sumA : ∀ X, OkX G X → CallR X (.builtin "sum") (rSum X.K) := fun X o => cr_sum o.calm
theorem im_sum : ImplA G (rSum G.K) opSum := by
  intro ν Z ρ H E h ds vs Q hb x r p
  unfold opSum at p
  split at p
  · obtain ⟨v, rfl, rv⟩ := r.one
    split at p
    · rename_i es hl
      split at p
      · rename_i c ks hs
        obtain ⟨a, xs, rfl, ha, rs⟩ := lookL_ok x hl rv
        obtain ⟨ns, rfl, e2⟩ := sumZ_ok hs rs
        refine ⟨a, ns, rfl, .of ha, ?_⟩
        rw [e2]
        exact p.here x _ (mkz_ok _ _)
      · exact p.elim
    · exact p.elim
  · exact p.elim
/-! ### list(x), tuple(x) -/
def opList (ds : List D) (h : HpD) : Out (List D) := match ds with
  | [d] => (match look h d with
    | some es => .ok es h
    | none => .bad)
  | _ => .bad
def rListA (K : PySem.W.Frag) : List V → Hp → VK → Prop := fun xs H Q => ∃ p ys, xs = [.ref p] ∧ (SqL K H p ys ∨ SqT K H p ys) ∧ ∀ l, H l = none → Q (.ref l) (upd H l (.lst ys))
theorem cr_listA : ∀ X, OkX G X → CallR X (.type "list") (rListA X.K) := fun X o => call_list_of
theorem im_list : ImplF G (rListA G.K) opList := by
  intro ν Z ρ H H0 E h ds vs Q hb x r dm p
  unfold opList at p
  split at p
  · obtain ⟨v, rfl, rv⟩ := r.one
    split at p
    · rename_i es hl
      obtain ⟨a, xs, rfl, hs, rs⟩ := look_ok x hl rv
      exact ⟨a, xs, rfl, hs, fun l nl => handF dm x rs nl p⟩
    · exact p.elim
  · exact p.elim
def opTuple (ds : List D) (h : HpD) : Out D := match ds with
  | [d] => (match look h d with
    | some es => .ok (.tup es) h
    | none => .bad)
  | _ => .bad
def rTupA (K : PySem.W.Frag) : List V → Hp → VK → Prop := fun xs H Q => ∃ p ys, xs = [.ref p] ∧ ((SqL K H p ys ∧ ∀ l, H l = none → Q (.ref l) (upd H l (.tup ys))) ∨ (SqT K H p ys ∧ Q (.ref p) H))
theorem cr_tupA : ∀ X, OkX G X → CallR X (.type "tuple") (rTupA X.K) := fun X o => call_tuple_of
theorem im_tuple : ImplA G (rTupA G.K) opTuple := by
  intro ν Z ρ H E h ds vs Q hb x r p
  unfold opTuple at p
  split at p
  · obtain ⟨v, rfl, rv⟩ := r.one
    split at p
    · rename_i es hl
      obtain ⟨a, xs, rfl, hs, rs⟩ := look_ok x hl rv
      refine ⟨a, xs, rfl, ?_⟩
      rcases hs with hs | hs
      · exact .inl ⟨hs, fun l nl => hand_tup x rs nl p⟩
      · exact .inr ⟨hs, p.here x _ (.tup hs rs)⟩
    · exact p.elim
  · exact p.elim
end
end Eg

set_option Elab.async false
set_option linter.all false
set_option maxRecDepth 100000
/-! The engine: enumerate over a tuple; zip of a list and a tuple. -/
namespace Eg
open PySem PySem.Spec PyProof.Rows L2
theorem meets_enumerate_newT (l : Addr) (items : Array Value) :
    Meets (Builtin.«enumerate.__new__» ⟨[.type "enumerate", .ref l], []⟩) (fun _ R s => s.heap.IsTuple l items ∧
      R (.ok (.ret (.ref (s.heap.push { cls := .type "tuple_iterator", data := .fields #[.ref l, .int 0 0] }).objs.size)))
        { s with heap := (s.heap.push { cls := .type "tuple_iterator", data := .fields #[.ref l, .int 0 0] }).push { cls := .type "enumerate", data := .fields #[.none, .bool false, .ref s.heap.objs.size, rawInt 0, .none, .none] } }) :=
  .of_wp fun prog w A R s h => by
    obtain ⟨hp, g, d, tk, os⟩ := s; obtain ⟨hL, h⟩ := h
    have hsub := sub_enumerate
    have q1 : ∀ {A' : Around} {E : Value → Shared → Prop} {Q : Value → Shared → Prop}, Q (.ref hp.objs.size) ⟨hp.push { cls := .type "tuple_iterator", data := .fields #[.ref l, .int 0 0] }, g, d, tk, os⟩ → wpAny (model prog w) A' (pyIter (.ref l)) Q E ⟨hp, g, d, tk, os⟩ :=
      fun q => (begins_tuple l items).iter prog w _ _ ⟨hp, g, d, tk, os⟩ _ hL q
    wp_walk using q1
    refine wpAny_stack_any fun st => wpAny_pure ?_
    split
    · rename_i c _ _ _ _ _
      cases (c == Value.type "enumerate")
      · wp_walk using q1
        exact ⟨_, rfl, h⟩
      · wp_walk using q1
        exact ⟨_, rfl, h⟩
    · wp_walk using q1
      exact ⟨_, rfl, h⟩
section
variable {prog : Program} {w : World} {A : Around} {E : Value → Shared → Prop} {s : Shared}
theorem call_enumerate_tuple {l : Addr} {items : Array Value} {Q : Value → Shared → Prop} (hL : s.heap.IsTuple l items)
    (h : ∀ h', IsEnum h' (s.heap.objs.size + 1) s.heap.objs.size 0 .none → h'.IsTupleIter s.heap.objs.size l 0 → h'.objs.size = s.heap.objs.size + 2 →
      (∀ b o, s.heap.get? b = some o → h'.get? b = some o) → Q (.ref (s.heap.objs.size + 1)) { s with heap := h' }) :
    wpAny (model prog w) A (call (.type "enumerate") [.ref l]) Q E s := by
  refine callType_new F.called_enumerate (by decide) (F.typeCall_enumerate_1 _) (F.newCall_enumerate_1 _) (fun obj => F.args_object_init_2 obj _) F.entry_enumerate_new
    (meets_enumerate_newT l items) ⟨hL, ?_⟩
  have hz : (s.heap.push { cls := .type "tuple_iterator", data := .fields #[.ref l, .int 0 0] }).objs.size = s.heap.objs.size + 1 := Heap.size_push ..
  show _ ∧ _
  rw [hz]
  have he : IsEnum ((s.heap.push { cls := .type "tuple_iterator", data := .fields #[.ref l, .int 0 0] }).push
      { cls := .type "enumerate", data := .fields #[.none, .bool false, .ref s.heap.objs.size, rawInt 0, .none, .none] }) (s.heap.objs.size + 1) s.heap.objs.size 0 .none := by
    have := Heap.get?_push_size (s.heap.push { cls := .type "tuple_iterator", data := .fields #[.ref l, .int 0 0] })
      (o := { cls := .type "enumerate", data := .fields #[.none, .bool false, .ref s.heap.objs.size, rawInt 0, .none, .none] }) rfl
    rw [hz] at this; exact this
  refine ⟨⟨_, he, rfl⟩, h _ he ⟨_, Heap.get?_push_of_some _ (Heap.get?_push_size _ rfl), rfl, rfl⟩ (by rw [Heap.size_push, hz]) fun b o x => Heap.get?_push_of_some _ (Heap.get?_push_of_some _ x)⟩
end
/-- the tuple at a, each item in a new pair -/
def IteT (K : PySem.W.Frag) (a : Addr) : It :=
  ⟨fun i H => ∃ (xs : List V) (x : V), SqT K H a xs ∧ xs[i]? = some x, fun i H v H' => ∃ T x, v = .ref T ∧ H T = none ∧ H' = upd H T (.tup [.int (i : Nat), x]) ∧ ∀ xs, SqT K H a xs → xs[i]? = some x, fun i H => ∃ xs : List V, SqT K H a xs ∧ xs.length = i⟩
theorem turn_enumT {P : Program} {w : World} {K : PySem.W.Frag} {elts : List Expr} {kk : Nat} {tpos : Pos} (a e it : Addr) :
    Turn P w K (.Tuple elts kk tpos) (IteT K a) [e, it] e (fun i h => (∃ old, IsEnum h e it ((i : Nat) : Int) old) ∧ h.IsTupleIter it a i ∧ e ≠ it) where
  mem := by simp
  obj := fun i h st b hb => by
    obtain ⟨⟨old, he⟩, ⟨o, ho, hc, hd⟩, _⟩ := st
    have e' : b = e ∨ b = it := by simpa using hb
    rcases e' with z | z
    · rw [z]; exact ⟨_, he, fun v q => nomatch q⟩
    · rw [z]; exact ⟨o, ho, fun v q => by rw [hd] at q; cases q⟩
  keep := fun i h h' st k => let ⟨⟨old, he⟩, hi, hne⟩ := st; ⟨⟨old, k e (by simp) _ he⟩, hi.at fun o q => k it (by simp) o q, hne⟩
  item := by
    intro X hP hw hK hc i pins s σ H E I hf st hg
    subst hP hw hK
    obtain ⟨⟨old, he⟩, hit, hne⟩ := st
    obtain ⟨xs, x, hq, hx⟩ := hg
    obtain ⟨its, rv, p, hz⟩ := I.tuple hq
    obtain ⟨u, hu, ru⟩ := rv.get hx
    have hel : e < s.heap.objs.size := Heap.lt_size he
    have hil : it < s.heap.objs.size := by obtain ⟨_, q, _⟩ := hit; exact Heap.lt_size q
    have hai : a ≠ it := fun z => by
      subst z
      obtain ⟨o, ho, hcl, _⟩ := hit
      obtain ⟨o2, ho2, hc2, _⟩ := p
      rw [ho] at ho2; cases ho2
      rw [hcl] at hc2; injection hc2 with hc2; exact absurd hc2 (by decide)
    have hae : a ≠ e := fun z => by
      subst z
      obtain ⟨o2, ho2, hc2, _⟩ := p
      rw [show s.heap.get? a = _ from he] at ho2; cases ho2
      injection hc2 with hc2; exact absurd hc2 (by decide)
    have D : Draws X.prog X.w X.A.in1 it [it, a] its.toArray.size (fun i v => its.toArray[i]? = some v) (fun i h => h.IsTupleIter it a i ∧ h.IsTuple a its.toArray) := Draws.tuple (A := X.A.in1) (show X.A.in1.handled = none from I.ok.hd hc) it a hai its.toArray
    have hlt : i < its.toArray.size := by
      have := (List.getElem?_eq_some_iff.mp hu).1
      simpa using this
    refine wpAny_pyNext_enum_itemD D he ⟨hit, p⟩ hlt hne (by simp [hne, Ne.symm hae]) fun y h' tk hy ho st' hT hsz hk => ?_
    have ey : y = u := by
      have : its[i]? = some y := by simpa using hy
      rw [hu] at this; cases this; rfl
    subst ey
    refine ⟨_, rfl, wpAny_letOwnedTupleGo_enum (s := { s with heap := h', toks := tk + 1 }) ho fun h'' he' sb => ?_⟩
    have hT2 : h''.get? s.heap.objs.size = some { cls := .type "tuple", data := .seq #[.int i tk, y] } := (sb.2 _ (Nat.ne_of_gt hel)).trans hT
    have new : ObjOk X.prog X.w (upd H s.heap.objs.size (.tup [.int (i : Nat), x])) h'' s.heap.objs.size (.tup [.int (i : Nat), x]) :=
      ⟨by show 2 ≤ sizeLine; decide, [.int i tk, y], .cons ⟨_, rfl⟩ (.cons ru .nil), ⟨_, hT2, rfl, _, rfl⟩⟩
    have I1 : Inv X pins σ (upd H s.heap.objs.size (.tup [.int (i : Nat), x])) { s with heap := h'', toks := tk + 1 } :=
      I.turnedNew (ch := [e, it]) (fun b ob hb q => (sb.2 b (fun z => hb (by simp [z]))).trans (hk b ob (fun z => hb (by simp [z])) (fun z => hb (by simp [z])) q)) hf (Nat.le_refl _) new
    refine ⟨.ref s.heap.objs.size, _, I1, rfl, ⟨_, x, rfl, I.hok.fresh (Nat.le_refl _), rfl, fun ys hy => by rw [I.tuple_inj hy hq]; exact hx⟩, ⟨⟨y, ?_⟩, st'.1.at fun o q => (sb.2 it (Ne.symm hne)).trans q, hne⟩, fun b hb => ?_⟩
    · have e1 : ((i + 1 : Nat) : Int) = (i : Int) + 1 := by omega
      rw [e1]; exact he'
    · have hb' : b < s.heap.objs.size := by
        have e' : b = e ∨ b = it := by simpa using hb
        rcases e' with z | z
        · rw [z]; exact hel
        · rw [z]; exact hil
      rw [upd_ne (Nat.ne_of_lt hb')]
      exact (hf b hb).1
  done := by
    intro X hP hw hK hc i pins s σ H E I hf st hg
    subst hP hw hK
    obtain ⟨⟨old, he⟩, hit, hne⟩ := st
    obtain ⟨xs, hq, hx⟩ := hg
    obtain ⟨its, rv, p, hz⟩ := I.tuple hq
    obtain ⟨f0, f1, f2, f3, f4, f5⟩ := hf it (by simp)
    have hl := rv.length
    have hai : a ≠ it := fun z => by
      subst z
      obtain ⟨o, ho, hcl, _⟩ := hit
      obtain ⟨o2, ho2, hc2, _⟩ := p
      rw [ho] at ho2; cases ho2
      rw [hcl] at hc2; injection hc2 with hc2; exact absurd hc2 (by decide)
    have D : Draws X.prog X.w X.A.in1 it [it, a] its.toArray.size (fun i v => its.toArray[i]? = some v) (fun i h => h.IsTupleIter it a i ∧ h.IsTuple a its.toArray) := Draws.tuple (A := X.A.in1) (show X.A.in1.handled = none from I.ok.hd hc) it a hai its.toArray
    have hn : its.toArray.size = i := by simp; omega
    exact wpAny_pyNext_enum_endD D he (by rw [hn]; exact ⟨hit, p⟩) fun h' eb => ⟨rfl, I.turned (t' := s.toks) (fun b o hb q => eb b o hb q) f0 f1 f3 f4 f5⟩
  self := fun A i s Q E st h => let ⟨⟨_, he⟩, _⟩ := st; wpAny_pyIter_enum he h
def iEnumT (K : PySem.W.Frag) (ta : TA) : TI := fun σ H R => ta σ H fun vs H1 => ∃ a xs, vs = [.ref a] ∧ ((SqL K H1 a xs ∧ R (Ite K a) H1) ∨ (SqT K H1 a xs ∧ R (IteT K a) H1))
theorem pi_enumA {X : Cx} {e : Expr} {ta : TA} {p pos tpos : Pos} {elts : List Expr} {kk : Nat} (hg : Gl X "enumerate") (hm : X.mg "enumerate" = none) (ha : PA X [e] ta) (hs : starEach [e] X.env = [(false, eval e X.env)] := by rfl) :
    PI X (.Tuple elts kk tpos) (.Call (.Name "enumerate" p) [e] [] pos) (iEnumT X.K ta) := by
  refine ⟨fun pins s σ H R I h => ?_⟩
  refine Call_ (ld_blt I hg hm boot_enumerate (PyProof.Rows.callWith_type1 (thn (ha.run pos pins s σ H _ I h) fun us s1 ⟨vs, H1, I1, r1, q1⟩ => ?_) hs rfl))
  obtain ⟨a, xs, ex, q⟩ := q1
  subst ex
  have fin : ∀ (h' : Heap) (J : It) (tn : Nat → Heap → Prop), (∀ b o, s1.heap.get? b = some o → h'.get? b = some o) → Turn X.prog X.w X.K (.Tuple elts kk tpos) J [s1.heap.objs.size + 1, s1.heap.objs.size] (s1.heap.objs.size + 1) tn → tn 0 h' → R J H1 →
      PIE X pins σ (.Tuple elts kk tpos) R (.ref (s1.heap.objs.size + 1)) { s1 with heap := h' } := fun h' J tn hk T t0 q => by
    have I2 : Inv X pins σ H1 { s1 with heap := h' } := I1.kept (t' := s1.toks) hk
    refine ⟨s1.heap.objs.size + 1, [s1.heap.objs.size + 1, s1.heap.objs.size], tn, J, H1, rfl, I2, T, t0, fun b hb => ?_, q⟩
    have e' : b = s1.heap.objs.size + 1 ∨ b = s1.heap.objs.size := by simpa using hb
    have hle : s1.heap.objs.size ≤ b := by
      rcases e' with z | z
      · rw [z]; exact Nat.le_add_right _ _
      · rw [z]; exact Nat.le_refl _
    exact I1.fpOk hle (I1.hok.fresh hle)
  cases r1 with
  | cons r rr =>
    cases rr
    cases r
    rcases q with ⟨hq, q⟩ | ⟨hq, q⟩
    · obtain ⟨its, rv, p', hz⟩ := I1.list hq
      exact call_enumerate_list p'.isList fun h' he hit hsz hk => wpAny_pyIter_enum he (fin h' _ _ hk (turn_enum a _ _) ⟨⟨.none, he⟩, hit, Nat.succ_ne_self _⟩ q)
    · obtain ⟨its, rv, p', hz⟩ := I1.tuple hq
      exact call_enumerate_tuple p' fun h' he hit hsz hk => wpAny_pyIter_enum he (fin h' _ _ hk (turn_enumT a _ _) ⟨⟨.none, he⟩, hit, Nat.succ_ne_self _⟩ q)
end Eg

set_option Elab.async false
set_option linter.all false
set_option maxRecDepth 100000
/-! The engine, part 8: what is walked; targets; list comprehensions. -/
namespace Eg
open PySem PySem.Spec PyProof.Rows L2

/-! ### range as a value -/
theorem pe_range1 {X : Cx} {a : Expr} {ta : TE} {p pos : Pos} (hg : Gl X "range") (hm : X.mg "range" = none) (ha : PE X a ta) (na : starEach [a] X.env = (false, eval a X.env) :: starEach [] X.env) :
    PE X (.Call (.Name "range" p) [a] [] pos) (fun σ H Q => ta σ H fun x H1 => ∃ n, x = .int n ∧ ∀ r, H1 r = none → Q (.ref r) (upd H1 r (.rng 0 n))) := by
  refine ⟨fun pins s σ H Q I h => ?_⟩
  refine Call_ (ld_blt I hg hm boot_range (PyProof.Rows.callWith_type1 (one_arg ha I h (fun v s2 x H2 I2 r q => ?_) na) na))
  obtain ⟨n, rfl, q⟩ := q
  obtain ⟨t, rfl⟩ := r
  exact call_range_1 ⟨.ref s2.heap.objs.size, _, I2.laid (a := s2.heap.objs.size) (o := .rng 0 n) (fun b u e => Heap.get?_push_of_some _ e) (Nat.le_refl _) ⟨_, _, _, Heap.get?_push_size _ rfl⟩, rfl, q _ (I2.hok.fresh (Nat.le_refl _))⟩
theorem pe_range2 {X : Cx} {a b : Expr} {ta tb : TE} {p pos : Pos} (hg : Gl X "range") (hm : X.mg "range" = none) (ha : PE X a ta) (hb : PE X b tb) (na : starEach [a, b] X.env = (false, eval a X.env) :: starEach [b] X.env)
    (nb : starEach [b] X.env = (false, eval b X.env) :: starEach [] X.env) (hp : (backTo pos (starEach [b] X.env)).any (·.1) = false) :
    PE X (.Call (.Name "range" p) [a, b] [] pos) (fun σ H Q => ta σ H fun x H1 => tb σ H1 fun y H2 => ∃ i j, x = .int i ∧ y = .int j ∧ ∀ r, H2 r = none → Q (.ref r) (upd H2 r (.rng i j))) := by
  refine ⟨fun pins s σ H Q I h => ?_⟩
  refine Call_ (ld_blt I hg hm boot_range (PyProof.Rows.callWith_type1 (args_cons (thn (ha.run pins s σ H _ I h) fun v s1 ⟨x, H1, I1, r1, q1⟩ => one_arg hb I1 q1 (fun u s2 y H2 I2 r2 q => ?_) nb) na) na hp))
  obtain ⟨i, j, rfl, rfl, q⟩ := q
  obtain ⟨t, rfl⟩ := r1
  obtain ⟨t', rfl⟩ := r2
  exact call_range_2 ⟨.ref s2.heap.objs.size, _, I2.laid (a := s2.heap.objs.size) (o := .rng i j) (fun b u e => Heap.get?_push_of_some _ e) (Nat.le_refl _) ⟨_, _, _, Heap.get?_push_size _ rfl⟩, rfl, q _ (I2.hok.fresh (Nat.le_refl _))⟩
section
variable {G : Cfg} {a b : Expr} {fa fb : Fe} {p pos : Pos}
def fRng1 (f : Fe) : Fe := f1 (fun d h => match d with
  | .int n => .ok (.rng 0 n) h
  | _ => .bad) f
def opRng2 (d e : D) (h : HpD) : Out D := match d, e with
  | .int i, .int j => .ok (.rng i j) h
  | _, _ => .bad
def fRng2 (f g : Fe) : Fe := f2 opRng2 f g
theorem se_range1 (hg : G.sc.names.lookup ("range" : Str) = some .globalImplicit) (hm : G.mg "range" = none) (ha : SE G a fa) (na : ∀ env, starEach [a] env = (false, eval a env) :: starEach [] env := by intro _; rfl) : SE G (.Call (.Name "range" p) [a] [] pos) (fRng1 fa) := by
  intro X W o tk
  refine PE.by_ (pe_range1 (by show X.env.scope.names.lookup _ = _; rw [o.sc]; exact hg) (by rw [o.mg]; exact hm) (ha X W o tk) (na _)) fun σ H Q q => ?_
  obtain ⟨ν, Z, ρ, env, h, x, p⟩ := q
  refine rE.bind x p fun d h1 Z1 ρ1 H1 v e1 s1 x1 r1 p1 => ?_
  cases d with
  | int n => cases r1; exact ⟨n, rfl, fun r nr => p1 _ _ _ (step_new x1.rh nr) (x1.rh.new nr) _ (.rng upd_same)⟩
  | _ => exact p1.elim
theorem se_range2 (hg : G.sc.names.lookup ("range" : Str) = some .globalImplicit) (hm : G.mg "range" = none) (ha : SE G a fa) (hb : SE G b fb) (na : ∀ env, starEach [a, b] env = (false, eval a env) :: starEach [b] env := by intro _; rfl)
    (nb : ∀ env, starEach [b] env = (false, eval b env) :: starEach [] env := by intro _; rfl) (hp : ∀ pos env, (backTo pos (starEach [b] env)).any (·.1) = false := by intro _ _; rfl) : SE G (.Call (.Name "range" p) [a, b] [] pos) (fRng2 fa fb) := by
  intro X W o tk
  refine PE.by_ (pe_range2 (by show X.env.scope.names.lookup _ = _; rw [o.sc]; exact hg) (by rw [o.mg]; exact hm) (ha X W o tk) (hb X W o tk) (na _) (nb _) (hp _ _)) fun σ H Q q => ?_
  obtain ⟨ν, Z, ρ, env, h, x, p⟩ := q
  refine rE.bind x p fun d h1 Z1 ρ1 H1 v e1 s1 x1 r1 p1 => ?_
  refine rE.bind x1 p1 fun e h2 Z2 ρ2 H2 u e2 s2 x2 r2 p2 => ?_
  unfold opRng2 at p2
  split at p2
  · cases r1; cases r2; exact ⟨_, _, rfl, rfl, fun r nr => p2 _ _ _ (step_new x2.rh nr) (x2.rh.new nr) _ (.rng upd_same)⟩
  · exact p2.elim
end

/-! ### what is walked -/
/-- as Step, but what is avoided may change -/
structure StepW (Z : Addr → Prop) (ρ : List (Option Addr)) (H : Hp) (Z' : Addr → Prop) (ρ' : List (Option Addr)) (H' : Hp) : Prop where
  keep : ∀ a o, H a = some o → ¬ Z a → H' a = some o
  imm : ∀ a o, H a = some o → Imm o → H' a = some o
  dom : ∀ a o, H a = some o → ∃ o', H' a = some o'
  rfs : ∀ (n : Nat) a, ρ[n]? = some (some a) → ρ'[n]? = some (some a)
  zle : ∀ a, Z a → Z' a
  znew : ∀ a, Z' a → Z a ∨ H a = none
theorem Step.w {Z Z' : Addr → Prop} {ρ ρ' : List (Option Addr)} {H H' : Hp} (s : Step Z ρ H Z' ρ' H') : StepW Z ρ H Z' ρ' H' := ⟨fun a o e n => s.keep a o e fun q => n (s.zin a q), s.imm, s.dom, s.rfs, s.zle, s.znew⟩
theorem StepW.trans {Z Z1 Z2 : Addr → Prop} {ρ ρ1 ρ2 : List (Option Addr)} {H H1 H2 : Hp} (a : StepW Z ρ H Z1 ρ1 H1) (b : StepW Z1 ρ1 H1 Z2 ρ2 H2) : StepW Z ρ H Z2 ρ2 H2 where
  keep := fun p o h n => b.keep p o (a.keep p o h n) fun q => by
    rcases a.znew p q with r | r
    · exact n r
    · rw [h] at r; cases r
  imm := fun p o h i => b.imm p o (a.imm p o h i) i
  dom := fun p o h => let ⟨o1, h1⟩ := a.dom p o h; b.dom p o1 h1
  rfs := fun n p h => b.rfs n p (a.rfs n p h)
  zle := fun p h => b.zle p (a.zle p h)
  znew := fun p h => by
    rcases b.znew p h with r | r
    · exact a.znew p r
    · cases q : H p with
      | none => exact .inr rfl
      | some o => obtain ⟨o', e⟩ := a.dom p o q; rw [e] at r; cases r
section
variable {C : RC} {Z Z' : Addr → Prop} {ρ ρ' : List (Option Addr)} {H H' : Hp}
mutual
theorem RV.stepW (s : StepW Z ρ H Z' ρ' H') : ∀ {d : D} {v : V}, RV C Z ρ H d v → RV C Z' ρ' H' d v
  | _, _, .non => .non
  | _, _, .bl b => .bl b
  | _, _, .int i => .int i
  | _, _, .lin c ks e => .lin c ks e
  | _, _, .str x => .str x
  | _, _, .tup h r => .tup (sqT_imm h s.imm) (RVs.stepW s r)
  | _, _, .lst (a := a) h z r => .lst (s.keep a _ h z) (fun q => by
      rcases s.znew a q with y | y
      · exact z y
      · rw [h] at y; cases y) (RVs.stepW s r)
  | _, _, .dct (a := a) h z e r => .dct (s.keep a _ h z) (fun q => by
      rcases s.znew a q with y | y
      · exact z y
      · rw [h] at y; cases y) e (RVs.stepW s r)
  | _, _, .ref e => .ref (s.rfs _ _ e)
  | _, _, .rng e => .rng (s.imm _ _ e trivial)
  | _, _, .ty n => .ty n
  | _, _, .fn e => .fn e
theorem RVs.stepW (s : StepW Z ρ H Z' ρ' H') : ∀ {ds : List D} {vs : List V}, RVs C Z ρ H ds vs → RVs C Z' ρ' H' ds vs
  | _, _, .nil => .nil
  | _, _, .cons r t => .cons (RV.stepW s r) (RVs.stepW s t)
end
end
theorem RE.stepW {C : RC} {Z Z' : Addr → Prop} {ρ ρ' : List (Option Addr)} {H H' : Hp} {env : EnvD} {σ : L2.St} (s : StepW Z ρ H Z' ρ' H') (r : RE C Z ρ H env σ) : RE C Z' ρ' H' env σ :=
  ⟨r.len, fun i d e n => let ⟨v, h1, h2⟩ := r.get i d e n; ⟨v, h1, h2.stepW s⟩⟩

/-! ### data that is the same -/
def eqIs : List Int → List Int → Bool
  | [], [] => true
  | i :: is, j :: js => match eqI i j with
    | true => eqIs is js
    | false => false
  | _, _ => false
theorem eqIs_ok : ∀ {a b : List Int}, eqIs a b = true → a = b
  | [], [], _ => rfl
  | i :: is, j :: js, h => by
    unfold eqIs at h
    split at h
    · rename_i e
      rw [eqI_ok] at e
      rw [of_decide_eq_true e, eqIs_ok h]
    · cases h
  | [], _ :: _, h => by cases h
  | _ :: _, [], h => by cases h
def eqKs : List Key → List Key → Bool
  | [], [] => true
  | i :: is, j :: js => match eqKey i j with
    | true => eqKs is js
    | false => false
  | _, _ => false
theorem eqKs_ok : ∀ {a b : List Key}, eqKs a b = true → a = b
  | [], [], _ => rfl
  | i :: is, j :: js, h => by
    unfold eqKs at h
    split at h
    · rename_i e
      rw [eqKey_ok] at e
      rw [of_decide_eq_true e, eqKs_ok h]
    · cases h
  | [], _ :: _, h => by cases h
  | _ :: _, [], h => by cases h
def sameL (f : D → D → Bool) : List D → List D → Bool
  | [], [] => true
  | i :: is, j :: js => match f i j with
    | true => sameL f is js
    | false => false
  | _, _ => false
theorem sameL_ok {f : D → D → Bool} (hf : ∀ a b, f a b = true → a = b) : ∀ {a b : List D}, sameL f a b = true → a = b
  | [], [], _ => rfl
  | i :: is, j :: js, h => by
    unfold sameL at h
    split at h
    · rename_i e
      rw [hf _ _ e, sameL_ok hf h]
    · cases h
  | [], _ :: _, h => by cases h
  | _ :: _, [], h => by cases h
def sameD : Nat → D → D → Bool
  | 0, _, _ => false
  | n + 1, d, e => match d, e with
    | .int i, .int j => eqI i j
    | .tup ds, .tup es => sameL (sameD n) ds es
    | .ref i, .ref j => Nat.beq i j
    | .non, .non => true
    | .bl a, .bl b => a == b
    | .lin c ks, .lin c' ks' => (match eqI c c' with
      | true => eqIs ks ks'
      | false => false)
    | .str x, .str y => x == y
    | .lst ds, .lst es => sameL (sameD n) ds es
    | .dct ks ds, .dct ls es => (match eqKs ks ls with
      | true => sameL (sameD n) ds es
      | false => false)
    | .rng a b, .rng c d => (match eqI a c with
      | true => eqI b d
      | false => false)
    | .fn i, .fn j => Nat.beq i j
    | _, _ => false
theorem sameD_ok : ∀ (n : Nat) (d e : D), sameD n d e = true → d = e
  | 0, _, _, h => by cases h
  | n + 1, d, e, h => by
    unfold sameD at h
    split at h
    · rw [eqI_ok] at h; rw [of_decide_eq_true h]
    · rw [sameL_ok (sameD_ok n) h]
    · rw [Nat.eq_of_beq_eq_true h]
    · rfl
    · rw [eq_of_beq h]
    · split at h
      · rename_i e1
        rw [eqI_ok] at e1
        rw [of_decide_eq_true e1, eqIs_ok h]
      · cases h
    · rw [eq_of_beq h]
    · rw [sameL_ok (sameD_ok n) h]
    · split at h
      · rename_i e1
        rw [eqKs_ok e1, sameL_ok (sameD_ok n) h]
      · cases h
    · split at h
      · rename_i e1
        rw [eqI_ok] at e1 h
        rw [of_decide_eq_true e1, of_decide_eq_true h]
      · cases h
    · rw [Nat.eq_of_beq_eq_true h]
    · cases h
/-! ### sources -/
abbrev Watch := HpD → Bool
def yesW : Watch := fun _ => true
def atW (n : Nat) (ds : List D) : Watch := fun h => match hat h n with
  | .lst es => sameL (sameD deep) es ds
  | _ => false
/-- what is walked, and what must stay as it is meanwhile -/
abbrev Fi := EnvD → HpD → Out (List D × Watch)
/-- the iterator J, told from this state on, yields the items ds, in any later state -/
def Goes (C : RC) (J : It) (Z : Addr → Prop) (ρ : List (Option Addr)) (H : Hp) (sr : List D × Watch) : Prop :=
  ∀ Z' ρ' H' h', StepW Z ρ H Z' ρ' H' → RH C Z' ρ' H' h' → sr.2 h' = true →
    (∀ i d, sr.1[i]? = some d → J.go i H' ∧ ∀ x H2, J.yld i H' x H2 → Step Z' ρ' H' Z' ρ' H2 ∧ RH C Z' ρ' H2 h' ∧ RV C Z' ρ' H2 d x) ∧ J.stop sr.1.length H'
abbrev GoesR (C : RC) (R : It → Hp → Prop) : List D × Watch → HpD → (Addr → Prop) → List (Option Addr) → Hp → Prop := fun ds _ Z ρ H => ∀ J, Goes C J Z ρ H ds → R J H
def rI' (G : Cfg) (W : WX) (f : Fi) : TI := fun σ H R => ∃ ν Z ρ env h, Stt G ν Z ρ σ H env h ∧ PostG (G.rc ν) Z ρ H (fun c d H' => W c d σ H') (f env h) (GoesR (G.rc ν) R)
def SI (G : Cfg) (tg e : Expr) (f : Fi) : Prop := ∀ X W, OkX G X → Takes X W → PI X tg e (rI' G W f)
theorem PI.by_ {X : Cx} {tg e : Expr} {t t' : TI} (h : PI X tg e t) (k : ∀ σ H Q, t' σ H Q → t σ H Q) : PI X tg e t' := ⟨fun pins s σ H Q I q => h.run pins s σ H Q I (k σ H Q q)⟩
/-- a list, a tuple, a range -/
def iAny (K : PySem.W.Frag) (tl : TE) : TI := fun σ H R => tl σ H fun x H1 => ∃ a, x = .ref a ∧ (((∃ xs, SqL K H1 a xs) ∧ R (Itl K a) H1) ∨ ((∃ xs, SqT K H1 a xs) ∧ R (Itt K a) H1) ∨ ∃ lo hi, H1 a = some (.rng lo hi) ∧ (-(2 ^ 62) ≤ lo ∧ lo < 2 ^ 62 ∧ -(2 ^ 62) ≤ hi ∧ hi < 2 ^ 62) ∧ R (Itr lo (hi - lo).toNat) H1)
theorem pi_any {X : Cx} {tg l : Expr} {tl : TE} (hl : PE X l tl) : PI X tg l (iAny X.K tl) := by
  refine ⟨fun pins s σ H R I h => ?_⟩
  refine thn (hl.run pins s σ H _ I h) fun v s1 ⟨x, H1, I1, r1, q1⟩ => ?_
  obtain ⟨a, e, q⟩ := q1
  subst e
  cases r1
  have fp : ∀ b ∈ [s1.heap.objs.size], FpOk X pins H1 b := fun b hb => by
    have e : b = s1.heap.objs.size := by simpa using hb
    subst e
    exact I1.fpOk (Nat.le_refl _) (I1.hok.fresh (Nat.le_refl _))
  rcases q with ⟨⟨xs, hq⟩, q⟩ | ⟨⟨xs, hq⟩, q⟩ | ⟨lo, hi, hq, ⟨b1, b2, b3, b4⟩, q⟩
  · obtain ⟨its, rv, p, hz⟩ := I1.list hq
    refine wpAny_pyIter_list p.isList ?_
    exact ⟨s1.heap.objs.size, [s1.heap.objs.size], _, _, H1, rfl, I1.kept (t' := s1.toks) fun b o e => Heap.get?_push_of_some _ e, turn_list a _, ⟨_, Heap.get?_push_size _ rfl, rfl, rfl⟩, fp, q⟩
  · obtain ⟨its, rv, p, hz⟩ := I1.tuple hq
    refine wpAny_pyIter_tuple (show s1.heap.IsTuple a its.toArray from p) ?_
    exact ⟨s1.heap.objs.size, [s1.heap.objs.size], _, _, H1, rfl, I1.kept (t' := s1.toks) fun b o e => Heap.get?_push_of_some _ e, turn_tuple a _, ⟨_, Heap.get?_push_size _ rfl, rfl, rfl⟩, fp, q⟩
  · obtain ⟨t, u, w, ho⟩ := I1.hok a _ hq
    refine wpAny_pyIter_range (a := lo) (b := hi) (c := 1) (t := t) (u := u) (v := w) ho (small_one b1 b2 b3 b4) ?_
    refine ⟨s1.heap.objs.size, [s1.heap.objs.size], _, _, H1, rfl, I1.kept (t' := s1.toks) fun b o e => Heap.get?_push_of_some _ e, turn_range _ lo (hi - lo).toNat, ?_, fp, q⟩
    have e1 : lo + ((0 : Nat) : Int) * 1 = lo := by simp
    have e2 : (((hi - lo).toNat : Nat) : Int) - ((0 : Nat) : Int) = Builtin.Range.rangeSize lo hi 1 := by rw [rangeSize_one]; split <;> omega
    show IsRangeIter _ _ (lo + ((0 : Nat) : Int) * 1) ((((hi - lo).toNat : Nat) : Int) - ((0 : Nat) : Int)) 1
    rw [e1, e2]
    exact Heap.get?_push_size _ rfl
def rngD (lo : Int) : Nat → List D
  | 0 => []
  | n + 1 => .int lo :: rngD (lo + 1) n
theorem rngD_get : ∀ (n : Nat) (lo : Int) (i : Nat) (d : D), (rngD lo n)[i]? = some d → i < n ∧ d = .int (lo + i)
  | 0, _, _, _, e => by simp [rngD] at e
  | n + 1, lo, 0, d, e => by simp [rngD] at e; subst e; exact ⟨by omega, by simp⟩
  | n + 1, lo, i + 1, d, e => by
    obtain ⟨h1, h2⟩ := rngD_get n (lo + 1) i d (by simpa [rngD] using e)
    exact ⟨by omega, by rw [h2]; congr 1; omega⟩
theorem rngD_length : ∀ (n : Nat) (lo : Int), (rngD lo n).length = n
  | 0, _ => rfl
  | n + 1, lo => by simp [rngD, rngD_length n]
def small60 (c : Int) : Bool := Nat.ble c.natAbs 1000000000000000
/-- a list that is read -/
def viewL (h : HpD) : D → Option (List D × Watch)
  | .lst ds => some (ds, yesW)
  | .ref n => (match hat h n with
    | .lst ds => some (ds, atW n ds)
    | _ => none)
  | _ => none
def opIter (d : D) (h : HpD) : Out (List D × Watch) := match d with
  | .tup ds => .ok (ds, yesW) h
  | .rng lo hi => (match small60 lo with
    | true => match small60 hi with
      | true => .ok (rngD lo (hi - lo).toNat, yesW) h
      | false => .bad
    | false => .bad)
  | d => (match viewL h d with
    | some sr => .ok sr h
    | none => .bad)
def fIt (f : Fe) : Fi := fun env h => (f env h).bind opIter
section
variable {C : RC} {Z : Addr → Prop} {ρ : List (Option Addr)} {H : Hp}
/-- the list at a is told by sr, from this state on -/
def Held (C : RC) (Z : Addr → Prop) (ρ : List (Option Addr)) (H : Hp) (a : Addr) (sr : List D × Watch) : Prop :=
  ∀ Z' ρ' H' h', StepW Z ρ H Z' ρ' H' → RH C Z' ρ' H' h' → sr.2 h' = true → ∃ xs, H' a = some (.lst xs) ∧ RVs C Z' ρ' H' sr.1 xs
theorem viewL_ok {h : HpD} {d : D} {v : V} {sr : List D × Watch} (x : RH C Z ρ H h) (e : viewL h d = some sr) (r : RV C Z ρ H d v) : ∃ a xs, v = .ref a ∧ H a = some (.lst xs) ∧ Held C Z ρ H a sr := by
  cases r <;> simp [viewL] at e
  · rename_i a xs ds h0 z rs
    subst e
    exact ⟨a, xs, rfl, h0, fun Z' ρ' H' h' s rh hw => ⟨xs, s.keep a _ h0 z, rs.stepW s⟩⟩
  · rename_i n a q
    split at e
    · rename_i ds hh
      cases e
      obtain ⟨a', xs, e1, e2, rs⟩ := x.at_ hh (fun z => by cases z)
      rw [q] at e1; cases e1
      refine ⟨a, xs, rfl, e2, fun Z' ρ' H' h' s rh hw => ?_⟩
      have hw : (match hat h' n with | .lst es => sameL (sameD deep) es ds | _ => false) = true := hw
      split at hw
      · rename_i es he
        have := sameL_ok (sameD_ok deep) hw
        subst this
        obtain ⟨a', xs', e1, e2, rs'⟩ := rh.at_ he (fun z => by cases z)
        rw [s.rfs _ _ q] at e1; cases e1
        exact ⟨xs', e2, rs'⟩
      · cases hw
    · cases e
theorem goes_tup {a : Addr} {xs : List V} {ds : List D} (hs : SqT C.K H a xs) (rs : RVs C Z ρ H ds xs) : Goes C (Itt C.K a) Z ρ H (ds, yesW) := by
  intro Z' ρ' H' h' s rh hw
  have hs' := sqT_imm hs s.imm
  refine ⟨fun i d e => ?_, ⟨xs, hs', by rw [rs.length]; exact Nat.le_refl _⟩⟩
  obtain ⟨v, e1, r1⟩ := rs.get e
  refine ⟨⟨xs, v, hs', e1⟩, fun x H2 y => ?_⟩
  obtain ⟨rfl, f⟩ := y
  have := f xs hs'
  rw [e1] at this; cases this
  exact ⟨.refl rh.zin, rh, r1.stepW s⟩
theorem goes_lst {a : Addr} {sr : List D × Watch} (hd : Held C Z ρ H a sr) : Goes C (Itl C.K a) Z ρ H sr := by
  intro Z' ρ' H' h' s rh hw
  obtain ⟨xs, hs, rs⟩ := hd Z' ρ' H' h' s rh hw
  have hs' : SqL C.K H' a xs := .of hs
  refine ⟨fun i d e => ?_, ⟨xs, hs', by rw [rs.length]; exact Nat.le_refl _⟩⟩
  obtain ⟨v, e1, r1⟩ := rs.get e
  refine ⟨⟨xs, v, hs', e1⟩, fun x H2 y => ?_⟩
  obtain ⟨rfl, f⟩ := y
  have := f xs hs'
  rw [e1] at this; cases this
  exact ⟨.refl rh.zin, rh, r1⟩
theorem goes_rng {lo : Int} {n : Nat} : Goes C (Itr lo n) Z ρ H (rngD lo n, yesW) := by
  intro Z' ρ' H' h' s rh hw
  refine ⟨fun i d e => ?_, by rw [rngD_length]; exact Nat.le_refl n⟩
  obtain ⟨h1, rfl⟩ := rngD_get _ _ _ _ e
  refine ⟨h1, fun x H2 y => ?_⟩
  obtain ⟨rfl, rfl⟩ := y
  exact ⟨.refl rh.zin, rh, .int _⟩
end
theorem small60_ok {c : Int} (e : small60 c = true) : -(2 ^ 62) ≤ c ∧ c < 2 ^ 62 := by
  have := Nat.le_of_ble_eq_true e
  omega
section
variable {G : Cfg} {tg e : Expr} {f : Fe} {es : List Expr} {fa : Fa} {p pos tpos : Pos} {elts : List Expr} {kk : Nat}
theorem si_any (he : SE G e f) : SI G tg e (fIt f) := by
  intro X W o tk
  refine PI.by_ (pi_any (he X W o tk)) fun σ H R q => ?_
  obtain ⟨ν, Z, ρ, env, h, x, p⟩ := q
  refine rE.bind x p fun d h1 Z1 ρ1 H1 v e1 s1 x1 r1 p1 => ?_
  rw [o.K]
  unfold opIter at p1
  split at p1
  · cases r1 with
    | tup hs rs => exact ⟨_, rfl, .inr (.inl ⟨⟨_, hs⟩, p1.here x1.rh _ (goes_tup (C := G.rc ν) hs rs)⟩)⟩
  · split at p1
    · rename_i h1
      split at p1
      · rename_i h2
        cases r1 with
        | rng hs =>
          have a1 := small60_ok h1
          have a2 := small60_ok h2
          exact ⟨_, rfl, .inr (.inr ⟨_, _, hs, ⟨a1.1, a1.2, a2.1, a2.2⟩, p1.here x1.rh _ goes_rng⟩)⟩
      · exact p1.elim
    · exact p1.elim
  · split at p1
    · rename_i sr hv
      obtain ⟨a, xs, rfl, ha, hd⟩ := viewL_ok x1.rh hv r1
      exact ⟨_, rfl, .inl ⟨⟨_, .of ha⟩, p1.here x1.rh _ (goes_lst (C := G.rc ν) hd)⟩⟩
    · exact p1.elim
/-- enumerate(x) -/
def enumD : Nat → List D → List D
  | _, [] => []
  | n, d :: r => .tup [.int (.ofNat n), d] :: enumD (n + 1) r
theorem enumD_get : ∀ (ds : List D) (n i : Nat) (d : D), (enumD n ds)[i]? = some d → ∃ y, ds[i]? = some y ∧ d = .tup [.int ((n + i : Nat) : Int), y]
  | [], _, _, _, e => by simp [enumD] at e
  | x :: r, n, 0, d, e => by simp [enumD] at e; subst e; exact ⟨x, rfl, rfl⟩
  | x :: r, n, i + 1, d, e => by
    obtain ⟨y, h1, h2⟩ := enumD_get r (n + 1) i d (by simpa [enumD] using e)
    exact ⟨y, by simpa using h1, by rw [h2]; congr 4; omega⟩
theorem enumD_length : ∀ (ds : List D) (n : Nat), (enumD n ds).length = ds.length
  | [], _ => rfl
  | x :: r, n => by simp [enumD, enumD_length r]
def opEnum (d : D) (h : HpD) : Out (List D × Watch) := match d with
  | .tup ds => .ok (enumD 0 ds, yesW) h
  | d => (match viewL h d with
    | some sr => .ok (enumD 0 sr.1, sr.2) h
    | none => .bad)
def fEnum (f : Fe) : Fi := fun env h => (f env h).bind opEnum
theorem goes_pair {C : RC} {Z : Addr → Prop} {ρ : List (Option Addr)} {H : Hp} {h : HpD} {T : Addr} {a b : V} {d e : D} (rh : RH C Z ρ H h) (nT : H T = none) (ra : RV C Z ρ H d a) (rb : RV C Z ρ H e b) :
    Step Z ρ H Z ρ (upd H T (.tup [a, b])) ∧ RH C Z ρ (upd H T (.tup [a, b])) h ∧ RV C Z ρ (upd H T (.tup [a, b])) (.tup [d, e]) (.ref T) := by
  have st := step_new (o := .tup [a, b]) rh nT
  exact ⟨st, rh.new nT, .tup (.of upd_same) (.cons (ra.step st) (.cons (rb.step st) .nil))⟩
theorem goes_enumT {C : RC} {Z : Addr → Prop} {ρ : List (Option Addr)} {H : Hp} {a : Addr} {xs : List V} {ds : List D} (hs : SqT C.K H a xs) (rs : RVs C Z ρ H ds xs) : Goes C (IteT C.K a) Z ρ H (enumD 0 ds, yesW) := by
  intro Z' ρ' H' h' s rh hw
  have hs' := sqT_imm hs s.imm
  refine ⟨fun i d e => ?_, ⟨xs, hs', by rw [enumD_length, rs.length]⟩⟩
  obtain ⟨y, ey, rfl⟩ := enumD_get _ _ _ _ e
  obtain ⟨v, e1, r1⟩ := rs.get ey
  refine ⟨⟨xs, v, hs', e1⟩, fun x H2 y => ?_⟩
  obtain ⟨T, x0, rfl, nT, rfl, f⟩ := y
  have := f xs hs'
  rw [e1] at this; cases this
  rw [Nat.zero_add]
  exact goes_pair rh nT (.int _) (r1.stepW s)
theorem goes_enumL {C : RC} {Z : Addr → Prop} {ρ : List (Option Addr)} {H : Hp} {a : Addr} {sr : List D × Watch} (hd : Held C Z ρ H a sr) : Goes C (Ite C.K a) Z ρ H (enumD 0 sr.1, sr.2) := by
  intro Z' ρ' H' h' s rh hw
  obtain ⟨xs, hs, rs⟩ := hd Z' ρ' H' h' s rh hw
  have hs' : SqL C.K H' a xs := .of hs
  refine ⟨fun i d e => ?_, ⟨xs, hs', by rw [enumD_length, rs.length]; exact Nat.le_refl _⟩⟩
  obtain ⟨y, ey, rfl⟩ := enumD_get _ _ _ _ e
  obtain ⟨v, e1, r1⟩ := rs.get ey
  refine ⟨⟨xs, v, hs', e1⟩, fun x H2 y => ?_⟩
  obtain ⟨T, x0, rfl, nT, rfl, f⟩ := y
  have := f xs hs'
  rw [e1] at this; cases this
  rw [Nat.zero_add]
  exact goes_pair rh nT (.int _) r1
theorem si_enum (hg : G.sc.names.lookup ("enumerate" : Str) = some .globalImplicit) (hm : G.mg "enumerate" = none) (he : SE G e f) (hs : ∀ env, starEach [e] env = [(false, eval e env)] := by intro _; rfl) : SI G (.Tuple elts kk tpos) (.Call (.Name "enumerate" p) [e] [] pos) (fEnum f) := by
  intro X W o tk
  refine PI.by_ (pi_enumA (by show X.env.scope.names.lookup _ = _; rw [o.sc]; exact hg) (by rw [o.mg]; exact hm) (pa_cons (he X W o tk) pa_nil (hs _)) (hs _)) fun σ H R q => ?_
  obtain ⟨ν, Z, ρ, env, h, x, p⟩ := q
  refine rE.bind x p fun d h1 Z1 ρ1 H1 v e1 s1 x1 r1 p1 => ?_
  rw [o.K]
  unfold opEnum at p1
  split at p1
  · cases r1 with
    | tup hs rs => exact ⟨_, _, rfl, .inr ⟨hs, p1.here x1.rh _ (goes_enumT (C := G.rc ν) hs rs)⟩⟩
  · split at p1
    · rename_i sr hv
      obtain ⟨a, xs, rfl, ha, hd⟩ := viewL_ok x1.rh hv r1
      exact ⟨_, _, rfl, .inl ⟨.of ha, p1.here x1.rh _ (goes_enumL (C := G.rc ν) hd)⟩⟩
    · exact p1.elim
/-- zip(x, y) of two tuples, two lists -/
def zipD : List D → List D → List D
  | d :: r, e :: q => .tup [d, e] :: zipD r q
  | _, _ => []
theorem zipD_get : ∀ (ds es : List D) (i : Nat) (d : D), (zipD ds es)[i]? = some d → ∃ y z, ds[i]? = some y ∧ es[i]? = some z ∧ d = .tup [y, z]
  | [], _, _, _, e => by simp [zipD] at e
  | _ :: _, [], _, _, e => by simp [zipD] at e
  | x :: r, y :: q, 0, d, e => by simp [zipD] at e; subst e; exact ⟨x, y, rfl, rfl, rfl⟩
  | x :: r, y :: q, i + 1, d, e => by
    obtain ⟨y, z, h1, h2, h3⟩ := zipD_get r q i d (by simpa [zipD] using e)
    exact ⟨y, z, by simpa using h1, by simpa using h2, h3⟩
theorem zipD_length : ∀ (ds es : List D), ds.length ≤ (zipD ds es).length ∨ es.length ≤ (zipD ds es).length
  | [], _ => .inl (Nat.zero_le _)
  | _ :: _, [] => .inr (Nat.zero_le _)
  | x :: r, y :: q => by
    rcases zipD_length r q with h | h
    · exact .inl (by simp [zipD]; exact h)
    · exact .inr (by simp [zipD]; exact h)
def opZip (d e : D) (h : HpD) : Out (List D × Watch) := match d, e with
  | .tup ds, .tup es => .ok (zipD ds es, yesW) h
  | d, e => (match viewL h d, viewL h e with
    | some sr, some st => .ok (zipD sr.1 st.1, fun h => match sr.2 h with | true => st.2 h | false => false) h
    | _, _ => .bad)
def fZip (f g : Fe) : Fi := fun env h => (f env h).bind fun d h => (g env h).bind fun e h => opZip d e h
theorem goes_zipT {C : RC} {Z : Addr → Prop} {ρ : List (Option Addr)} {H : Hp} {a b : Addr} {xs ys : List V} {ds es : List D} (hs : SqT C.K H a xs) (ht : SqT C.K H b ys) (rs : RVs C Z ρ H ds xs) (rt : RVs C Z ρ H es ys) : Goes C (RZ.ItzT C.K a b) Z ρ H (zipD ds es, yesW) := by
  intro Z' ρ' H' h' s rh hw
  have hs' := sqT_imm hs s.imm
  have ht' := sqT_imm ht s.imm
  refine ⟨fun i d e => ?_, ⟨xs, ys, hs', ht', by rw [← rs.length, ← rt.length]; exact zipD_length _ _⟩⟩
  obtain ⟨y, z, ey, ez, rfl⟩ := zipD_get _ _ _ _ e
  obtain ⟨v, e1, r1⟩ := rs.get ey
  obtain ⟨u, e2, r2⟩ := rt.get ez
  refine ⟨⟨xs, ys, v, u, hs', ht', e1, e2⟩, fun x H2 y => ?_⟩
  obtain ⟨T, x0, y0, rfl, nT, rfl, f, g⟩ := y
  have q1 := f xs hs'
  have q2 := g ys ht'
  rw [e1] at q1; cases q1
  rw [e2] at q2; cases q2
  exact goes_pair rh nT (r1.stepW s) (r2.stepW s)
theorem goes_zipL {C : RC} {Z : Addr → Prop} {ρ : List (Option Addr)} {H : Hp} {a b : Addr} {sr st : List D × Watch} (hd : Held C Z ρ H a sr) (he : Held C Z ρ H b st) : Goes C (Itz C.K a b) Z ρ H (zipD sr.1 st.1, fun h => match sr.2 h with | true => st.2 h | false => false) := by
  intro Z' ρ' H' h' s rh hw
  have hw : (match sr.2 h' with | true => st.2 h' | false => false) = true := hw
  split at hw
  · rename_i hw1
    obtain ⟨xs, hs, rs⟩ := hd Z' ρ' H' h' s rh hw1
    obtain ⟨ys, ht, rt⟩ := he Z' ρ' H' h' s rh hw
    have hs' : SqL C.K H' a xs := .of hs
    have ht' : SqL C.K H' b ys := .of ht
    refine ⟨fun i d e => ?_, ⟨xs, ys, hs', ht', by rw [← rs.length, ← rt.length]; exact zipD_length _ _⟩⟩
    obtain ⟨y, z, ey, ez, rfl⟩ := zipD_get _ _ _ _ e
    obtain ⟨v, e1, r1⟩ := rs.get ey
    obtain ⟨u, e2, r2⟩ := rt.get ez
    refine ⟨⟨xs, ys, v, u, hs', ht', e1, e2⟩, fun x H2 y => ?_⟩
    obtain ⟨T, x0, y0, rfl, nT, rfl, f, g⟩ := y
    have q1 := f xs hs'
    have q2 := g ys ht'
    rw [e1] at q1; cases q1
    rw [e2] at q2; cases q2
    exact goes_pair rh nT r1 r2
  · cases hw
theorem si_zip {e2 : Expr} {g : Fe} (hg : G.sc.names.lookup ("zip" : Str) = some .globalImplicit) (hm : G.mg "zip" = none) (he : SE G e f) (he2 : SE G e2 g) (hs : ∀ env, starEach [e, e2] env = (false, eval e env) :: starEach [e2] env := by intro _; rfl) (hs2 : ∀ env, starEach [e2] env = (false, eval e2 env) :: starEach [] env := by intro _; rfl)
    (hpl : ∀ pos env, (backTo pos (starEach [e2] env)).any (·.1) = false := by intro _ _; rfl) : SI G (.Tuple elts kk tpos) (.Call (.Name "zip" p) [e, e2] [] pos) (fZip f g) := by
  intro X W o tk
  refine PI.by_ (RZ.pi_zipA (by show X.env.scope.names.lookup _ = _; rw [o.sc]; exact hg) (by rw [o.mg]; exact hm) (pa_cons (he X W o tk) (pa_cons (he2 X W o tk) pa_nil (hs2 _)) (hs _)) (hs _) (hpl _ _)) fun σ H R q => ?_
  obtain ⟨ν, Z, ρ, env, h, x, p⟩ := q
  refine rE.bind x p fun d h1 Z1 ρ1 H1 v e1 s1 x1 r1 p1 => ?_
  refine rE.bind x1 p1 fun d2 h2 Z2 ρ2 H2 u e2 s2 x2 r2 p2 => ?_
  rw [o.K]
  have r1' := r1.step s2
  unfold opZip at p2
  split at p2
  · cases r1' with
    | tup hs rs => cases r2 with
      | tup ht rt => exact ⟨_, _, _, _, rfl, .inr ⟨hs, ht, p2.here x2.rh _ (goes_zipT (C := G.rc ν) hs ht rs rt)⟩⟩
  · split at p2
    · rename_i sr st hv1 hv2
      obtain ⟨a, xs, rfl, ha, hd⟩ := viewL_ok x2.rh hv1 r1'
      obtain ⟨b, ys, rfl, hb, he⟩ := viewL_ok x2.rh hv2 r2
      exact ⟨_, _, _, _, rfl, .inl ⟨.of ha, .of hb, p2.here x2.rh _ (goes_zipL (C := G.rc ν) hd he)⟩⟩
    · exact p2.elim
end
end Eg

set_option Elab.async false
set_option linter.all false
set_option maxRecDepth 100000
/-! The engine, part 9: targets; list comprehensions. -/
namespace Eg
open PySem PySem.Spec PyProof.Rows L2

/-! ### targets: names and tuples of them -/
abbrev Fg := D → EnvD → Option EnvD
def rG (G : Cfg) (fg : Fg) (sl : List Nat) : TG := fun v σ H Q => ∃ ν Z ρ env h d env', Stt G ν Z ρ σ H env h ∧ RV (G.rc ν) Z ρ H d v ∧ fg d env = some env' ∧
  ∀ σ', RE (G.rc ν) Z ρ H env' σ' → (∀ vs, (∀ i ∈ sl, i ∈ vs) → wipe σ' vs = wipe σ vs) → Q σ' H
def SG (G : Cfg) (tg : Expr) (fg : Fg) (sl : List Nat) : Prop := ∀ X, OkX G X → PG X tg (rG G fg sl)
theorem PG.by_ {X : Cx} {tg : Expr} {t t' : TG} (h : PG X tg t) (k : ∀ v σ H Q, t' v σ H Q → t v σ H Q) : PG X tg t' := ⟨fun pins s σ H v u Q I r q => h.run pins s σ H v u Q I r (k v σ H Q q)⟩
theorem PGs.by_ {X : Cx} {tg : List Expr} {t t' : TGs} (h : PGs X tg t) (k : ∀ v σ H Q, t' v σ H Q → t v σ H Q) : PGs X tg t' := ⟨fun pins s σ H v u Q I r q => h.run pins s σ H v u Q I r (k v σ H Q q)⟩
theorem set_wipe {σ : L2.St} {i : Nat} {x : Option V} : ∀ {vs : List Nat}, i ∈ vs → wipe (σ.set i x) vs = wipe σ vs
  | v :: vs, h => by
    show (wipe (σ.set i x) vs).set v none = (wipe σ vs).set v none
    by_cases e : i = v
    · subst e
      have aux : ∀ (us : List Nat), (wipe (σ.set i x) us).set i none = (wipe σ us).set i none := fun us => by
        induction us with
        | nil => show (σ.set i x).set i none = σ.set i none; simp
        | cons u us ih =>
          show ((wipe (σ.set i x) us).set u none).set i none = ((wipe σ us).set u none).set i none
          by_cases z : i = u
          · subst z; simp [ih]
          · rw [List.set_comm _ _ (Ne.symm z), List.set_comm _ _ (Ne.symm z), ih]
      exact aux vs
    · rw [set_wipe (by simpa [e] using h)]
def gN (i : Nat) : Fg := fun d env => some (env.set i d)
section
variable {G : Cfg} {pos : Pos}
theorem sg_name {i : Nat} {x : Str} (hi : G.N[i]? = some x) (hx : G.sc.names.lookup x = some .local ∨ G.sc.names.lookup x = some .cell) (hf : G.fnb x = true) : SG G (.Name x pos) (gN i) [i] := by
  intro X o
  refine PG.by_ (pg_name (i := i) (by rw [o.N]; exact o.nd) (by rw [o.N]; exact hi) (by unfold L2.Loc; rw [o.sc]; exact hx) (o.fn x hf)) fun v σ H Q q => ?_
  obtain ⟨ν, Z, ρ, env, h, d, env', x, r, e, k⟩ := q
  cases e
  exact k _ (x.re.set r i) fun vs hv => set_wipe (hv i (by simp))
/-- several targets -/
abbrev Fgs := List D → EnvD → Option EnvD
def rGs (G : Cfg) (fg : Fgs) (sl : List Nat) : TGs := fun v σ H Q => ∃ ν Z ρ env h ds env', Stt G ν Z ρ σ H env h ∧ RVs (G.rc ν) Z ρ H ds v ∧ fg ds env = some env' ∧
  ∀ σ', RE (G.rc ν) Z ρ H env' σ' → (∀ vs, (∀ i ∈ sl, i ∈ vs) → wipe σ' vs = wipe σ vs) → Q σ' H
def SGs (G : Cfg) (tg : List Expr) (fg : Fgs) (sl : List Nat) : Prop := ∀ X, OkX G X → PGs X tg (rGs G fg sl)
def gsNil : Fgs := fun ds env => match ds with
  | [] => some env
  | _ => none
def gsCons (g : Fg) (gs : Fgs) : Fgs := fun ds env => match ds with
  | d :: r => match g d env with
    | some env' => gs r env'
    | none => none
  | [] => none
theorem sgs_nil : SGs G [] gsNil [] := by
  intro X o
  refine PGs.by_ pgs_nil fun v σ H Q q => ?_
  obtain ⟨ν, Z, ρ, env, h, ds, env', x, r, e, k⟩ := q
  cases ds with
  | nil => cases e; cases r; exact ⟨rfl, k _ x.re fun vs _ => rfl⟩
  | cons _ _ => cases e
theorem sgs_cons {e : Expr} {es : List Expr} {g : Fg} {gs : Fgs} {sl sl' : List Nat} (h1 : SG G e g sl) (h2 : SGs G es gs sl')
    (hs : ∀ env, (assignEach (e :: es) env).map (·.2) = assign e env :: (assignEach es env).map (·.2) := by intro _; rfl) : SGs G (e :: es) (gsCons g gs) (sl ++ sl') := by
  intro X o
  refine PGs.by_ (pgs_cons (h1 X o) (h2 X o) (hs _)) fun v σ H Q q => ?_
  obtain ⟨ν, Z, ρ, env, h, ds, env', x, r, e, k⟩ := q
  cases ds with
  | nil => cases e
  | cons d ds =>
    obtain ⟨v0, vs, rfl, r0, rs⟩ := r.uncons
    have e : (match g d env with | some env' => gs ds env' | none => none) = some env' := e
    cases eg : g d env with
    | none => rw [eg] at e; cases e
    | some env1 =>
      rw [eg] at e
      refine ⟨v0, vs, rfl, ν, Z, ρ, env, h, d, env1, x, r0, eg, fun σ1 re1 w1 => ?_⟩
      refine ⟨ν, Z, ρ, env1, h, ds, env', ⟨x.hb, x.rh, re1⟩, rs, e, fun σ2 re2 w2 => ?_⟩
      exact k σ2 re2 fun us hu => (w2 us fun i hi => hu i (List.mem_append_right _ hi)).trans (w1 us fun i hi => hu i (List.mem_append_left _ hi))
def gT (n : Nat) (gs : Fgs) : Fg := fun d env => match d with
  | .tup ds => match Nat.beq ds.length n with
    | true => gs ds env
    | false => none
  | _ => none
theorem sg_tup {es : List Expr} {k n : Nat} {gs : Fgs} {sl : List Nat} (h : SGs G es gs sl) (hn : ∀ env, (assignEach es env).length = n := by intro _; rfl) (hst : ∀ env, (assignEach es env).findIdx? (·.1) = none := by intro _; rfl) : SG G (.Tuple es k pos) (gT n gs) sl := by
  intro X o
  refine PG.by_ (pg_tup o.calm (h X o) (hn _) (hst _)) fun v σ H Q q => ?_
  obtain ⟨ν, Z, ρ, env, h, d, env', x, r, e, k⟩ := q
  cases d with
  | tup ds =>
    have e : (match Nat.beq ds.length n with | true => gs ds env | false => none) = some env' := e
    cases en : Nat.beq ds.length n with
    | false => rw [en] at e; cases e
    | true =>
      rw [en] at e
      cases r with
      | tup hs rs =>
        rw [o.K]
        exact ⟨_, _, rfl, hs, by rw [← rs.length]; exact Nat.eq_of_beq_eq_true en, ν, Z, ρ, env, h, ds, env', x, rs, e, k⟩
  | _ => cases e
end

/-! ### list comprehensions -/
def noX {α : Type} : Out α → Out α
  | .exc _ _ _ => .bad
  | o => o
theorem noX_post {α : Type} {C : RC} {Z : Addr → Prop} {ρ : List (Option Addr)} {H : Hp} {E E' : XK} {o : Out α} {R : α → HpD → (Addr → Prop) → List (Option Addr) → Hp → Prop} (p : PostG C Z ρ H E (noX o) R) : PostG C Z ρ H E' o R := by
  cases o with
  | ok a h => exact p
  | exc n d h => exact p.elim
  | bad => exact p
/-- the tests of a clause -/
def STs (G : Cfg) (ifs : List Expr) (f : Fb) : Prop := ∀ X W, OkX G X → Takes X W → PTs X ifs (rT G W f)
theorem PTs.by_ {X : Cx} {es : List Expr} {t t' : TT} (h : PTs X es t) (k : ∀ σ H Q, t' σ H Q → t σ H Q) : PTs X es t' := ⟨fun pins s σ H Q I q => h.run pins s σ H Q I (k σ H Q q)⟩
def bYes : Fb := fun _ h => .ok true h
theorem sts_nil {G : Cfg} : STs G [] bYes := by
  intro X W o tk
  refine PTs.by_ pts_nil fun σ H Q q => ?_
  obtain ⟨ν, Z, ρ, env, h, x, p⟩ := q
  exact p.here x.rh
theorem sts_one {G : Cfg} {c : Expr} {f : Fb} (h : ST G c f) : STs G [c] f := fun X W o tk => pts_one (h X W o tk)
/-- the block's own context -/
def Cfg.blk (G : Cfg) (scope : Scope) : Cfg := { G with sc := relS scope G.sc, fnb := fun x => (relS scope G.sc).names.lookup x == some .local || scope.names.lookup x == some .cell }
theorem okX_blk {G : Cfg} {X : Cx} (o : OkX G X) (s : Shared) (H : Hp) (scope : Scope) (C : Addr) (cl : List (Str × Addr)) (fp : List Addr) : OkX (G.blk scope) (X.blk s H scope (compEnvC scope cl C X.env) fp) where
  prog := o.prog
  w := o.w
  K := o.K
  mg := o.mg
  base := o.base
  N := o.N
  nd := o.nd
  sc := by
    show relabel scope X.env = relS scope G.sc
    rw [← o.sc]; rfl
  calm := o.calm
  room := o.room
  fn := fun x h => by
    have h : ((relS scope G.sc).names.lookup x == some .local || scope.names.lookup x == some .cell) = true := h
    rw [Bool.or_eq_true] at h
    rcases h with h | h
    · right
      show (relabel scope X.env).names.lookup x = _
      have e : relabel scope X.env = relS scope G.sc := by rw [← o.sc]; rfl
      rw [e]
      simpa using h
    · left
      exact h
def wipeE (env : EnvD) : List Nat → EnvD
  | [] => env
  | v :: vs => (wipeE env vs).set v .und
theorem RE.wipe {C : RC} {Z : Addr → Prop} {ρ : List (Option Addr)} {H : Hp} {env : EnvD} {σ : L2.St} (r : RE C Z ρ H env σ) : ∀ vs : List Nat, RE C Z ρ H (wipeE env vs) (L2.wipe σ vs)
  | [] => r
  | v :: vs => (RE.wipe r vs).undef v
/-- the turns -/
def lcGo (w : Watch) (fg : Fg) (ft : Fb) (fe : Fe) (env : EnvD) : List D → HpD → Out (List D)
  | [], h => (match w h with
    | true => .ok [] h
    | false => .bad)
  | d :: ds, h => match w h with
    | true => (match fg d env with
      | none => .bad
      | some env' => (noX (ft env' h)).bind fun b h => match b with
        | true => (noX (fe env' h)).bind fun y h => (lcGo w fg ft fe env ds h).bind fun ys h => .ok (y :: ys) h
        | false => lcGo w fg ft fe env ds h)
    | false => .bad
def fLc (vs : List Nat) (fi : Fi) (fg : Fg) (ft : Fb) (fe : Fe) : Fa := fun env h => (fi env h).bind fun sr h => match short sr.1 most with
  | true => lcGo sr.2 fg ft fe (wipeE env vs) sr.1 h
  | false => .bad
theorem noX_ok {α : Type} {o : Out α} {a : α} {h : HpD} (e : noX o = .ok a h) : o = .ok a h := by
  cases o with
  | ok b k => exact e
  | exc n d k => cases e
  | bad => cases e
theorem bind_ok {α β : Type} {o : Out α} {k : α → HpD → Out β} {b : β} {h : HpD} (e : o.bind k = .ok b h) : ∃ a h1, o = .ok a h1 ∧ k a h1 = .ok b h := by
  cases o with
  | ok a h1 => exact ⟨a, h1, rfl, e⟩
  | exc n d k => cases e
  | bad => cases e
theorem lcGo_nil {w : Watch} {fg : Fg} {ft : Fb} {fe : Fe} {env : EnvD} {h h' : HpD} {ys : List D} (e : lcGo w fg ft fe env [] h = .ok ys h') : w h = true ∧ ys = [] ∧ h' = h := by
  unfold lcGo at e
  split at e
  · rename_i hw
    cases e
    exact ⟨hw, rfl, rfl⟩
  · cases e
theorem lcGo_cons {w : Watch} {fg : Fg} {ft : Fb} {fe : Fe} {env : EnvD} {d : D} {ds : List D} {h h' : HpD} {ys : List D} (e : lcGo w fg ft fe env (d :: ds) h = .ok ys h') : w h = true ∧ ∃ env' b h1, fg d env = some env' ∧ ft env' h = .ok b h1 ∧
    ((b = true ∧ ∃ y h2 zs, fe env' h1 = .ok y h2 ∧ lcGo w fg ft fe env ds h2 = .ok zs h' ∧ ys = y :: zs) ∨ (b = false ∧ lcGo w fg ft fe env ds h1 = .ok ys h')) := by
  unfold lcGo at e
  split at e
  · rename_i hw
    refine ⟨hw, ?_⟩
    cases eg : fg d env with
    | none => rw [eg] at e; cases e
    | some env' =>
      rw [eg] at e
      dsimp only at e
      obtain ⟨b, h1, e1, e⟩ := bind_ok e
      refine ⟨env', b, h1, rfl, noX_ok e1, ?_⟩
      cases b with
      | false => exact .inr ⟨rfl, e⟩
      | true =>
        dsimp only at e
        obtain ⟨y, h2, e2, e⟩ := bind_ok e
        obtain ⟨zs, h3, e3, e⟩ := bind_ok e
        cases e
        exact .inl ⟨rfl, y, h2, zs, noX_ok e2, e3, rfl⟩
  · cases e
theorem lcGo_len {w : Watch} {fg : Fg} {ft : Fb} {fe : Fe} {env : EnvD} : ∀ (ds : List D) (h : HpD) (ys : List D) (h' : HpD), lcGo w fg ft fe env ds h = .ok ys h' → ys.length ≤ ds.length
  | [], h, ys, h', e => by
    obtain ⟨_, rfl, _⟩ := lcGo_nil e
    exact Nat.le_refl _
  | d :: ds, h, ys, h', e => by
    obtain ⟨_, env', b, h1, _, _, c⟩ := lcGo_cons e
    rcases c with ⟨_, y, h2, zs, _, e3, rfl⟩ | ⟨_, e3⟩
    · exact Nat.succ_le_succ (lcGo_len ds h2 zs _ e3)
    · exact Nat.le_succ_of_le (lcGo_len ds h1 ys h' e3)
/-- a comprehension lets nothing out -/
theorem lcGo_noX {w : Watch} {fg : Fg} {ft : Fb} {fe : Fe} {env : EnvD} : ∀ (ds : List D) (h : HpD) {n : Nat} {d : D} {h' : HpD}, lcGo w fg ft fe env ds h ≠ .exc n d h'
  | [], h, n, d, h', e => by
    unfold lcGo at e
    split at e <;> cases e
  | x :: ds, h, n, d, h', e => by
    unfold lcGo at e
    split at e
    · split at e
      · cases e
      · rename_i env' _
        cases et : noX (ft env' h) with
        | exc _ _ _ => cases hh : ft env' h <;> rw [hh] at et <;> cases et
        | bad => rw [et] at e; cases e
        | ok b h1 =>
          rw [et] at e
          cases b with
          | false => exact lcGo_noX ds h1 e
          | true =>
            have e : ((noX (fe env' h1)).bind fun y h => (lcGo w fg ft fe env ds h).bind fun ys h => .ok (y :: ys) h) = .exc n d h' := e
            cases ee : noX (fe env' h1) with
            | exc _ _ _ => cases hh : fe env' h1 <;> rw [hh] at ee <;> cases ee
            | bad => rw [ee] at e; cases e
            | ok y h2 =>
              rw [ee] at e
              have e : ((lcGo w fg ft fe env ds h2).bind fun ys h => .ok (y :: ys) h) = .exc n d h' := e
              cases er : lcGo w fg ft fe env ds h2 with
              | exc _ _ _ => exact lcGo_noX ds h2 er
              | bad => rw [er] at e; cases e
              | ok _ _ => rw [er] at e; cases e
    · cases e
/-- a new list D stands beside the state: reserved -/
structure Beside (C : RC) (Z0 : Addr → Prop) (ρ0 : List (Option Addr)) (H0 : Hp) (Z : Addr → Prop) (ρ : List (Option Addr)) (H : Hp) (h : HpD) (D' : Addr) (as : List D) : Prop where
  st : Step Z0 ρ0 H0 Z ρ H
  rh : RH C Z ρ H h
  zD : Z D'
  nD : some D' ∉ ρ
  at_ : ∃ xs, H D' = some (.lst xs) ∧ RVs C Z ρ H as xs
/-- the list at D grows -/
theorem avoid_step {C : RC} {Z : Addr → Prop} {ρ : List (Option Addr)} {H : Hp} {p : Addr} {xs ys : List V} (hz : Z p) (hp : H p = some (.lst xs)) :
    (∀ {d : D} {v : V}, RV C Z ρ H d v → RV C Z ρ (upd H p (.lst ys)) d v) ∧ (∀ {ds : List D} {vs : List V}, RVs C Z ρ H ds vs → RVs C Z ρ (upd H p (.lst ys)) ds vs) := by
  have tupK : ∀ {a xs}, SqT C.K H a xs → SqT C.K (upd H p (.lst ys)) a xs := fun {a zs} hs => by
    rcases hs with (hs | ⟨o, hs⟩) | hs
    · exact .inl (.inl (by rw [upd_ne (fun e => by rw [e, hp] at hs; cases hs)]; exact hs))
    · exact .inl (.inr ⟨o, by rw [upd_ne (fun e => by rw [e, hp] at hs; cases hs)]; exact hs⟩)
    · exact .inr hs
  have key : ∀ (d : D) (v : V), RV C Z ρ H d v → RV C Z ρ (upd H p (.lst ys)) d v := by
    intro d v r
    refine RV.rec (motive_1 := fun d v _ => RV C Z ρ (upd H p (.lst ys)) d v) (motive_2 := fun ds vs _ => RVs C Z ρ (upd H p (.lst ys)) ds vs) ?_ ?_ ?_ ?_ ?_ ?_ ?_ ?_ ?_ ?_ ?_ ?_ ?_ ?_ r
    · exact .non
    · exact fun b => .bl b
    · exact fun i => .int i
    · exact fun c ks i e => .lin c ks e
    · exact fun x => .str x
    · exact fun h _ ih => .tup (tupK h) ih
    · exact fun {a xs ds} h z _ ih => .lst (by rw [upd_ne (show a ≠ p from fun e => z (by rw [e]; exact hz))]; exact h) z ih
    · exact fun {a kvs ks ds} h z e _ ih => .dct (by rw [upd_ne (show a ≠ p from fun e => z (by rw [e]; exact hz))]; exact h) z e ih
    · exact fun e => .ref e
    · exact fun {a lo hi} e => .rng (by rw [upd_ne (fun q => by rw [q, hp] at e; cases e)]; exact e)
    · exact fun n => .ty n
    · exact fun e => .fn e
    · exact .nil
    · exact fun _ _ i1 i2 => .cons i1 i2
  refine ⟨fun r => key _ _ r, fun {ds vs} r => ?_⟩
  induction ds generalizing vs with
  | nil => cases r; exact .nil
  | cons d ds ih => cases r with | cons a b => exact .cons (key _ _ a) (ih b)
theorem Beside.grow {C : RC} {Z0 Z : Addr → Prop} {ρ0 ρ : List (Option Addr)} {H0 H : Hp} {h : HpD} {p : Addr} {as : List D} (b : Beside C Z0 ρ0 H0 Z ρ H h p as) (hp0 : H0 p = none) {xs : List V} (hx : H p = some (.lst xs)) (rx : RVs C Z ρ H as xs) {y : D} {v : V} (ry : RV C Z ρ H y v) :
    Beside C Z0 ρ0 H0 Z ρ (upd H p (.lst (xs ++ [v]))) h p (as ++ [y]) := by
  obtain ⟨k1, k2⟩ := avoid_step (C := C) (ρ := ρ) (ys := xs ++ [v]) b.zD hx
  refine ⟨⟨b.st.zin, fun a o e n => ?_, fun a o e i => ?_, fun a o e => ?_, b.st.rfs, b.st.new, b.st.zle, b.st.znew⟩, ⟨b.rh.len, b.rh.inj, b.rh.zin, fun a z => ?_, fun n o e => ?_⟩, b.zD, b.nD, ⟨_, upd_same, (k2 rx).append (.cons (k1 ry) .nil)⟩⟩
  · rw [upd_ne (ne_of_none e hp0)]; exact b.st.keep a o e n
  · rw [upd_ne (ne_of_none e hp0)]; exact b.st.imm a o e i
  · rw [upd_ne (ne_of_none e hp0)]; exact b.st.dom a o e
  · by_cases q : a = p
    · rw [q]; exact ⟨_, upd_same⟩
    · rw [upd_ne q]; exact b.rh.zdom a z
  · have := b.rh.obj n o e
    cases o with
    | gone => trivial
    | cup j =>
      obtain ⟨a, e1, e2⟩ := this
      exact ⟨a, e1, by rw [upd_ne (show a ≠ p from fun q => b.nD (by rw [← q]; exact mem_of_get e1))]; exact e2⟩
    | lst ds =>
      obtain ⟨a, zs, e1, e2, r⟩ := this
      exact ⟨a, zs, e1, by rw [upd_ne (show a ≠ p from fun q => b.nD (by rw [← q]; exact mem_of_get e1))]; exact e2, k2 r⟩
    | dct ks ds =>
      obtain ⟨a, kvs, e1, e2, e3, r⟩ := this
      exact ⟨a, kvs, e1, by rw [upd_ne (show a ≠ p from fun q => b.nD (by rw [← q]; exact mem_of_get e1))]; exact e2, e3, k2 r⟩
theorem Beside.later {C : RC} {Z0 Z Z' : Addr → Prop} {ρ0 ρ ρ' : List (Option Addr)} {H0 H H' : Hp} {h h' : HpD} {p : Addr} {as : List D} (b : Beside C Z0 ρ0 H0 Z ρ H h p as) (s : Step Z ρ H Z' ρ' H') (r : RH C Z' ρ' H' h') : Beside C Z0 ρ0 H0 Z' ρ' H' h' p as := by
  obtain ⟨xs, e, rx⟩ := b.at_
  refine ⟨b.st.trans s, r, s.zle _ b.zD, fun q => ?_, xs, s.keep _ _ e b.nD, rx.step s⟩
  rcases s.new _ q with z | z
  · exact b.nD z
  · rw [e] at z; cases z
end Eg

set_option Elab.async false
set_option linter.all false
set_option maxRecDepth 100000
/-! The engine, part 10: the rule of list comprehensions. -/
namespace Eg
open PySem PySem.Spec PyProof.Rows L2
theorem wipe_idem (σ : L2.St) : ∀ vs : List Nat, L2.wipe (L2.wipe σ vs) vs = L2.wipe σ vs := by
  have key : ∀ (us vs : List Nat), (∀ i ∈ us, i ∈ vs) → L2.wipe (L2.wipe σ us) vs = L2.wipe σ vs := by
    intro us
    induction us with
    | nil => intro vs _; rfl
    | cons u us ih =>
      intro vs h
      show L2.wipe ((L2.wipe σ us).set u none) vs = _
      rw [set_wipe (h u (by simp)), ih vs fun i hi => h i (List.mem_cons_of_mem _ hi)]
  exact fun vs => key vs vs fun i hi => hi
abbrev W0 : WX := fun _ _ _ _ => False
section
variable {G : Cfg} {X : Cx} {W : WX} {σ : L2.St} {H : Hp} {Q : VK}
theorem begin_beside {C : RC} {Z1 : Addr → Prop} {ρ1 : List (Option Addr)} {H1 : Hp} {h1 : HpD} {D : Addr} (rh : RH C Z1 ρ1 H1 h1) (nD : H1 D = none) : Beside C Z1 ρ1 H1 (fun a => Z1 a ∨ a = D) ρ1 (upd H1 D (.lst [])) h1 D [] := by
  have np : ∀ a, Z1 a → a ≠ D := fun a z => rh.ne_none nD z
  have st : Step Z1 ρ1 H1 (fun a => Z1 a ∨ a = D) ρ1 (upd H1 D (.lst [])) :=
    ⟨rh.zin, fun a u e _ => by rw [upd_ne (ne_of_none e nD)]; exact e, fun a u e _ => by rw [upd_ne (ne_of_none e nD)]; exact e, fun a u e => ⟨u, by rw [upd_ne (ne_of_none e nD)]; exact e⟩, fun _ _ e => e, fun _ e => .inl e, fun _ e => .inl e, fun a e => e.elim .inl fun e => .inr (by rw [e]; exact nD)⟩
  have nr : some D ∉ ρ1 := fun z => np D (rh.zin D z) rfl
  refine ⟨st, ⟨rh.len, rh.inj, fun a z => .inl (rh.zin a z), fun a z => ?_, fun n u e => (rh.obj n u e).step st fun a q => by rw [upd_ne (np a (rh.zin a (mem_of_get q)))]⟩, .inr rfl, nr, [], upd_same, .nil⟩
  rcases z with z | z
  · obtain ⟨u, e⟩ := rh.zdom a z
    exact ⟨u, by rw [upd_ne (np a z)]; exact e⟩
  · rw [z]; exact ⟨_, upd_same⟩
theorem lc_reading {scope : Scope} {vs sl : List Nat} {fi : Fi} {fg : Fg} {ft : Fb} {fe : Fe} (hsl : ∀ i ∈ sl, i ∈ vs) (q : rF G W (fLc vs fi fg ft fe) σ H Q) :
    tLc (rI' G W fi) (rG (G.blk scope) fg sl) (rT (G.blk scope) W0 ft) (rE (G.blk scope) W0 fe) vs σ H Q := by
  obtain ⟨ν, Z, ρ, env, h, x, p⟩ := q
  refine ⟨ν, Z, ρ, env, h, x, (PostG.bind p).mono fun sr h1 Z1 ρ1 H1 e1 s1 rh1 p1 => fun J gJ => fun D nD => ?_⟩
  obtain ⟨ds, w⟩ := sr
  cases hs : short ds most with
  | false =>
    have p1 : PostG (G.rc ν) Z1 ρ1 H1 (fun c d H' => W c d σ H') (match short ds most with | true => lcGo w fg ft fe (wipeE env vs) ds h1 | false => .bad) (HandF (G.rc ν) H Q) := p1
    rw [hs] at p1; exact p1.elim
  | true =>
  have p1 : PostG (G.rc ν) Z1 ρ1 H1 (fun c d H' => W c d σ H') (match short ds most with | true => lcGo w fg ft fe (wipeE env vs) ds h1 | false => .bad) (HandF (G.rc ν) H Q) := p1
  rw [hs] at p1
  have p1 : PostG (G.rc ν) Z1 ρ1 H1 (fun c d H' => W c d σ H') (lcGo w fg ft fe (wipeE env vs) ds h1) (HandF (G.rc ν) H Q) := p1
  have hD : H D = none := by
    cases e : H D with
    | none => rfl
    | some o => obtain ⟨o', e'⟩ := s1.dom D o e; rw [nD] at e'; cases e'
  have hlen := short_le hs
  cases eo : lcGo w fg ft fe (wipeE env vs) ds h1 with
  | bad => rw [eo] at p1; exact p1.elim
  | exc n d h' => exact absurd eo (lcGo_noX _ _)
  | ok ys hE =>
  rw [eo] at p1
  have gJ : Goes (G.rc ν) J Z1 ρ1 H1 (ds, w) := gJ
  refine ⟨fun i m Hc => ∃ Z2 ρ2 h2 as zs, i ≤ ds.length ∧ m = ds.length - i ∧ Beside (G.rc ν) Z1 ρ1 H1 Z2 ρ2 Hc h2 D as ∧ as.length ≤ i ∧ lcGo w fg ft fe (wipeE env vs) (ds.drop i) h2 = .ok zs hE ∧ as ++ zs = ys,
    ⟨ds.length, _, ρ1, h1, [], ys, Nat.zero_le _, rfl, begin_beside rh1 nD, Nat.le_refl _, eo, rfl⟩, ?_⟩
  rintro i m Hc ⟨Z2, ρ2, h2, as, zs, hi, rfl, b, hl, eg2, ea⟩
  by_cases hlt : i < ds.length
  · right
    have ed : ds.drop i = ds[i] :: ds.drop (i + 1) := (List.drop_eq_getElem_cons hlt)
    rw [ed] at eg2
    obtain ⟨hw, env', bb, h4, eg, et, ec⟩ := lcGo_cons eg2
    obtain ⟨hgo, hy⟩ := (gJ Z2 ρ2 Hc h2 b.st.w b.rh hw).1 i ds[i] (List.getElem?_eq_getElem hlt)
    refine ⟨hgo, fun H' => ∃ Z2 ρ2 h2 as zs, i + 1 ≤ ds.length ∧ Beside (G.rc ν) Z1 ρ1 H1 Z2 ρ2 H' h2 D as ∧ as.length ≤ i + 1 ∧ lcGo w fg ft fe (wipeE env vs) (ds.drop (i + 1)) h2 = .ok zs hE ∧ as ++ zs = ys, fun H' n => ?_, fun v H' y => ?_⟩
    · obtain ⟨Z3, ρ3, h3, as3, zs3, a1, a2, a3, a4, a5⟩ := n
      exact ⟨ds.length - (i + 1), by omega, Z3, ρ3, h3, as3, zs3, a1, rfl, a2, a3, a4, a5⟩
    · obtain ⟨s3, rh3, rv⟩ := hy v H' y
      have b3 := b.later s3 rh3
      have re3 : RE (G.rc ν) Z2 ρ2 H' (wipeE env vs) (L2.wipe σ vs) := ((x.re.step s1).step b3.st).wipe vs
      refine ⟨ν, Z2, ρ2, wipeE env vs, h2, ds[i], env', ⟨x.hb, rh3, re3⟩, rv, eg, fun σ2 re2 w2 => ⟨(w2 vs hsl).trans (wipe_idem σ vs), ?_⟩⟩
      refine ⟨ν, Z2, ρ2, env', h2, ⟨x.hb, rh3, re2⟩, ?_⟩
      rw [et]
      intro Z4 ρ4 H4 s4 rh4
      have b4 := b3.later s4 rh4
      rcases ec with ⟨rfl, yd, h5, zs', ee, el, rfl⟩ | ⟨rfl, ec⟩
      · show (if true = true then _ else _)
        rw [if_pos rfl]
        refine ⟨ν, Z4, ρ4, env', h4, ⟨x.hb, rh4, re2.step s4⟩, ?_⟩
        show PostG _ Z4 ρ4 H4 _ (fe env' h4) _
        rw [ee]
        intro Z5 ρ5 H5 s5 rh5 yv ry
        have b5 := b4.later s5 rh5
        obtain ⟨xs, hx, rx⟩ := b5.at_
        exact ⟨xs, hx, by rw [← rx.length]; exact most_lt (by omega), Z5, ρ5, h5, as ++ [yd], zs', hlt, b5.grow nD hx rx ry, by simp; omega, el, by simpa using ea⟩
      · show (if false = true then _ else _)
        rw [if_neg (by decide)]
        exact ⟨Z4, ρ4, h4, as, zs, hlt, b4, by omega, ec, ea⟩
  · left
    have hi' : i = ds.length := by omega
    subst hi'
    rw [List.drop_length] at eg2
    obtain ⟨hw, rfl, rfl⟩ := lcGo_nil eg2
    refine ⟨(gJ Z2 ρ2 Hc _ b.st.w b.rh hw).2, ?_⟩
    obtain ⟨xs, hx, rx⟩ := b.at_
    rw [List.append_nil] at ea
    subst ea
    exact p1 Z2 ρ2 Hc b.st b.rh xs D b.zD b.nD hD hx rx
end
section
variable {G : Cfg} {elt tg iter : Expr} {ifs : List Expr} {scope : Scope} {own : List (Str × Nat)} {pos : Pos} {fi : Fi} {fg : Fg} {ft : Fb} {fe : Fe} {sl : List Nat}
theorem sf_lc (own : List (Str × Nat)) (hi : SI G tg iter fi) (ok : blkC G.N G.sc scope own = true) (hg : SG (G.blk scope) tg fg sl) (hsl : (sl.all fun i => (own.map (·.2)).contains i) = true) (ht : STs (G.blk scope) ifs ft) (he : SE (G.blk scope) elt fe)
    (hs : ∀ env x, foldedSetIterable iter env x = pure x := by intro _ _; rfl) : SF G (.ListComp elt [⟨tg, iter, ifs, 0⟩] scope pos) (fLc (own.map (·.2)) fi fg ft fe) := by
  intro X W o tk
  have hsl' : ∀ i ∈ sl, i ∈ own.map (·.2) := fun i hi => by
    have := List.all_eq_true.mp hsl i hi
    simpa using this
  have ok' : BlkOk X.N X.env.scope scope own := by rw [o.N, o.sc]; exact blkOk_by ok
  exact PE.by_ (pe_lc (own := own) o.calm (by rw [o.N]; exact o.nd) (hi X W o tk) ok' (fun s H C cl fp => hg _ (okX_blk o s H scope C cl fp)) (fun s H C cl fp => ht _ W0 (okX_blk o s H scope C cl fp) takes0)
    (fun s H C cl fp => he _ W0 (okX_blk o s H scope C cl fp) takes0) (hs _)) fun σ H Q q => lc_reading hsl' q
end
end Eg

set_option Elab.async false
set_option linter.all false
set_option maxRecDepth 100000
/-! The engine, part 11: statements. -/
namespace Eg
open PySem PySem.Spec PyProof.Rows L2
inductive Fl where
  | nx (env : EnvD) | rt (d : D) | bk (env : EnvD) | ct (env : EnvD)
abbrev Fs := EnvD → HpD → Out Fl
def FlR (C : RC) (Dn : Ends) : Fl → HpD → (Addr → Prop) → List (Option Addr) → Hp → Prop := fun fl _ Z ρ H => match fl with
  | .nx env => ∀ σ, RE C Z ρ H env σ → Dn.nx σ H
  | .rt d => ∀ v, RV C Z ρ H d v → Dn.rt v H
  | .bk env => ∀ σ, RE C Z ρ H env σ → Dn.bk σ H
  | .ct env => ∀ σ, RE C Z ρ H env σ → Dn.ct σ H
def rS (G : Cfg) (E : XK) (f : Fs) : TS := fun Dn σ H => ∃ ν Z ρ env h, Stt G ν Z ρ σ H env h ∧ PostG (G.rc ν) Z ρ H E (f env h) (FlR (G.rc ν) Dn)
/-- what a statement's context must have besides -/
structure OkS (G : Cfg) (X : Cx) (E : XK) : Prop where
  ok : OkX G X
  tk : Takes X (fun c d _ H => E c d H)
  pw : PassesOwn (model X.prog X.w) X.A X.env X.xe
def SS (G : Cfg) (st : Stmt) (f : Fs) : Prop := ∀ X E, OkS G X E → PS X st (rS G E f)
def SSs (G : Cfg) (st : List Stmt) (f : Fs) : Prop := ∀ X E, OkS G X E → PSs X st (rS G E f)
section
variable {G : Cfg} {ν : List Int} {Z : Addr → Prop} {ρ : List (Option Addr)} {H : Hp} {E : XK} {h : HpD}
theorem FlR.to {C : RC} {Dn Dn' : Ends} {fl : Fl} (p : FlR C Dn fl h Z ρ H) (h1 : ∀ σ, Dn.nx σ H → Dn'.nx σ H) (h2 : ∀ v, Dn.rt v H → Dn'.rt v H) (h3 : ∀ σ, Dn.bk σ H → Dn'.bk σ H) (h4 : ∀ σ, Dn.ct σ H → Dn'.ct σ H) : FlR C Dn' fl h Z ρ H := by
  cases fl with
  | nx env => exact fun σ r => h1 σ (p σ r)
  | rt d => exact fun v r => h2 v (p v r)
  | bk env => exact fun σ r => h3 σ (p σ r)
  | ct env => exact fun σ r => h4 σ (p σ r)
end
section
variable {G : Cfg} {st : Stmt} {rest body ebody : List Stmt} {f g fb : Fs} {e c : Expr} {fe : Fe} {fc : Fb} {pos : Pos}
def sNil : Fs := fun env h => .ok (.nx env) h
def sSeq (f g : Fs) : Fs := fun env h => (f env h).bind fun fl h => match fl with
  | .nx env' => g env' h
  | fl => .ok fl h
theorem ss_nil : SSs G [] sNil := by
  intro X E o
  refine PSs.by_ pss_nil fun Dn σ H q => ?_
  obtain ⟨ν, Z, ρ, env, h, x, p⟩ := q
  exact p.here x.rh σ x.re
theorem ss_cons (h1 : SS G st f) (h2 : SSs G rest g) : SSs G (st :: rest) (sSeq f g) := by
  intro X E o
  refine PSs.by_ (pss_cons (h1 X E o) (h2 X E o)) fun Dn σ H q => ?_
  obtain ⟨ν, Z, ρ, env, h, x, p⟩ := q
  refine ⟨ν, Z, ρ, env, h, x, (PostG.bind p).mono fun fl h1 Z1 ρ1 H1 e1 s1 r1 p1 => ?_⟩
  cases fl with
  | nx env' => exact fun σ' re => ⟨ν, Z1, ρ1, env', h1, ⟨x.hb, r1, re⟩, p1⟩
  | rt d => exact fun v rv => (PostG.here (E := E) r1 p1 : FlR (G.rc ν) Dn (.rt d) h1 Z1 ρ1 H1) v rv
  | bk env' => exact fun v rv => (PostG.here (E := E) r1 p1 : FlR (G.rc ν) Dn (.bk env') h1 Z1 ρ1 H1) v rv
  | ct env' => exact fun v rv => (PostG.here (E := E) r1 p1 : FlR (G.rc ν) Dn (.ct env') h1 Z1 ρ1 H1) v rv
theorem ss_one (h1 : SS G st f) : SSs G [st] f := fun X E o => pss_one (h1 X E o)
theorem ss_pass : SS G (.Pass pos) sNil := by
  intro X E o
  refine PS.by_ ps_pass fun Dn σ H q => ?_
  obtain ⟨ν, Z, ρ, env, h, x, p⟩ := q
  exact p.here x.rh σ x.re
def sBreak : Fs := fun env h => .ok (.bk env) h
def sCont : Fs := fun env h => .ok (.ct env) h
theorem ss_break : SS G (.Break pos) sBreak := by
  intro X E o
  refine PS.by_ ps_break fun Dn σ H q => ?_
  obtain ⟨ν, Z, ρ, env, h, x, p⟩ := q
  exact p.here x.rh σ x.re
theorem ss_cont : SS G (.Continue pos) sCont := by
  intro X E o
  refine PS.by_ ps_continue fun Dn σ H q => ?_
  obtain ⟨ν, Z, ρ, env, h, x, p⟩ := q
  exact p.here x.rh σ x.re
def sRet (fe : Fe) : Fs := fun env h => (fe env h).bind fun d h => .ok (.rt d) h
theorem ss_ret (he : SE G e fe) : SS G (.Return (some e) pos) (sRet fe) := by
  intro X E o
  refine PS.by_ (ps_ret (he X _ o.ok o.tk)) fun Dn σ H q => ?_
  obtain ⟨ν, Z, ρ, env, h, x, p⟩ := q
  refine rE.bind x p fun d h1 Z1 ρ1 H1 v e1 s1 x1 r1 p1 => ?_
  exact p1.here x1.rh v r1
def sRetN : Fs := fun env h => .ok (.rt .non) h
theorem ss_retN : SS G (.Return none pos) sRetN := by
  intro X E o
  refine PS.by_ ps_retN fun Dn σ H q => ?_
  obtain ⟨ν, Z, ρ, env, h, x, p⟩ := q
  exact p.here x.rh _ .non
def sExpr (fe : Fe) : Fs := fun env h => (fe env h).bind fun _ h => .ok (.nx env) h
theorem ss_expr (he : SE G e fe) (hs : ∀ env, swapsWith e none pos.line env = pure false := by intro _; rfl) : SS G (.Expr e pos) (sExpr fe) := by
  intro X E o
  refine PS.by_ (ps_expr (he X _ o.ok o.tk) (hs _)) fun Dn σ H q => ?_
  obtain ⟨ν, Z, ρ, env, h, x, p⟩ := q
  refine rE.bind x p fun d h1 Z1 ρ1 H1 v e1 s1 x1 r1 p1 => ?_
  exact p1.here x1.rh σ x1.re
def sIf (fc : Fb) (f g : Fs) : Fs := fun env h => (fc env h).bind fun b h => match b with
  | true => f env h
  | false => g env h
theorem ss_if (hc : ST G c fc) (h1 : SSs G body f) (h2 : SSs G ebody g) : SS G (.If c body ebody pos) (sIf fc f g) := by
  intro X E o
  refine PS.by_ (ps_if (hc X _ o.ok o.tk) (h1 X E o) (h2 X E o)) fun Dn σ H q => ?_
  obtain ⟨ν, Z, ρ, env, h, x, p⟩ := q
  refine rT.bind x p fun d h1 Z1 ρ1 H1 e1 s1 x1 p1 => ?_
  cases d with
  | true => exact ⟨ν, Z1, ρ1, env, h1, x1, p1⟩
  | false => exact ⟨ν, Z1, ρ1, env, h1, x1, p1⟩
/-! ### stores -/
def sSet (i : Nat) (fe : Fe) : Fs := fun env h => (fe env h).bind fun d h => .ok (.nx (env.set i d)) h
theorem set_reading {E : XK} {i : Nat} {Dn : Ends} {σ : L2.St} {H : Hp} (q : rS G E (sSet i fe) Dn σ H) : rE G (fun c d _ H => E c d H) fe σ H fun x H1 => Dn.nx (σ.set i (some x)) H1 := by
  obtain ⟨ν, Z, ρ, env, h, x, p⟩ := q
  refine rE.bind x p fun d h1 Z1 ρ1 H1 v e1 s1 x1 r1 p1 => ?_
  exact p1.here x1.rh _ (x1.re.set r1 i)
theorem ss_set {i : Nat} {x : Str} {pos' : Pos} (hi : G.N[i]? = some x) (hx : G.sc.names.lookup x = some .local ∨ G.sc.names.lookup x = some .cell) (hf : G.fnb x = true) (he : SE G e fe)
    (hs : ∀ env : Env, env.scope = G.sc → swapsWith e (some (.Name x pos')) pos.line env = pure false := by intro _ _; rfl) : SS G (.Assign [.Name x pos'] e pos) (sSet i fe) := by
  intro X E o
  exact PS.by_ (ps_set (i := i) (by rw [o.ok.N]; exact o.ok.nd) (by rw [o.ok.N]; exact hi) (by unfold L2.Loc; rw [o.ok.sc]; exact hx) (he X _ o.ok o.tk) (hs _ o.ok.sc) (o.ok.fn x hf)) fun Dn σ H q => set_reading q
theorem sw_cell {elt : Expr} {gs : List Comprehension} {scope sc : Scope} {p pos : Pos} {t : Str} {l : Nat} (hk : sc.names.lookup t = some .cell) (env : Env) (h : env.scope = sc) : swapsWith (.ListComp elt gs scope p) (some (.Name t pos)) l env = pure false := by
  have : env.kindOf t = some .cell := by unfold Env.kindOf; rw [h]; exact hk
  show (pure (env.blockKind == .function && env.kindOf t == some .local && pos.line == p.line && !(scope.names.any fun (n, k) => n == t && (k == .local || k == .cell))) : Sem Bool) = _
  rw [this]
  congr 1
  cases (env.blockKind == .function) <;> rfl
theorem sw_local {elt : Expr} {gs : List Comprehension} {scope : Scope} {pos py : Pos} {y : Str} {l : Nat} (hkk : G.sc.kind = .function) (hy : G.sc.names.lookup y = some .local) (hl : (py.line == pos.line) = true)
    (ha : (scope.names.any fun (n, k) => n == y && (k == .local || k == .cell)) = false) (env : Env) (h : env.scope = G.sc) : swapsWith (.ListComp elt gs scope pos) (some (.Name y py)) l env = pure true :=
  sw_true (by rw [h]; exact hkk) (by rw [h]; exact hy) hl ha
/-- from a new list's number or its frozen form back to its making -/
theorem frz_F {W : WX} {g : Fa} {σ : L2.St} {H : Hp} {Q : VK} (q : rE G W (fFrz g) σ H Q) : rF G W g σ H Q := by
  obtain ⟨ν, Z, ρ, env, h, x, p⟩ := q
  refine ⟨ν, Z, ρ, env, h, x, ?_⟩
  unfold fFrz at p
  cases ef : g env h with
  | bad => rw [ef] at p; exact p
  | exc n d h' => rw [ef] at p; exact p
  | ok ds h' =>
    rw [ef] at p
    intro Z' ρ' H' s r xs a za na ha hxs rs
    exact p _ ρ' H' (s.unZ x.rh.zdom ha) (r.unZ na) _ (.lst hxs (fun z => z.2 rfl) (rs.anti fun b z => z.1))
theorem mut_F {W : WX} {g : Fa} {σ : L2.St} {H : Hp} {Q : VK} (q : rE G W (fMut g) σ H Q) : rF G W g σ H Q := by
  obtain ⟨ν, Z, ρ, env, h, x, p⟩ := q
  refine ⟨ν, Z, ρ, env, h, x, ?_⟩
  unfold fMut at p
  cases ef : g env h with
  | bad => rw [ef] at p; exact p
  | exc n d h' => rw [ef] at p; exact p
  | ok ds h' =>
    rw [ef] at p
    intro Z' ρ' H' s r xs a za na ha hxs rs
    have el : (ρ' ++ [some a])[h'.length]? = some (some a) := by rw [← r.len]; simp
    refine p Z' (ρ' ++ [some a]) H' ⟨s.zin, s.keep, s.imm, s.dom, fun n b e => app_get n b (s.rfs n b e), fun b e => ?_, s.zle, s.znew⟩ (r.num za na ⟨a, xs, el, hxs, rs.rho app_get⟩) _ (.ref el)
    rcases List.mem_append.mp e with q | q
    · exact s.new b q
    · simp at q; subst q; exact .inr ha
section
variable {elt tg iter : Expr} {ifs : List Expr} {scope : Scope} {fi : Fi} {fg : Fg} {ft : Fb} {sl : List Nat} {i : Nat} {y : Str} {py spos : Pos}
/-- y = [..] on one line -/
theorem ss_setLc (own : List (Str × Nat)) (m : Bool) (hkk : G.sc.kind = .function) (hiy : G.N[i]? = some y) (hy : G.sc.names.lookup y = some .local) (hl : (py.line == pos.line) = true) (ha : (scope.names.any fun (n, k) => n == y && (k == .local || k == .cell)) = false)
    (hi : SI G tg iter fi) (ok : blkC G.N G.sc scope own = true) (hg : SG (G.blk scope) tg fg sl) (hsl : (sl.all fun i => (own.map (·.2)).contains i) = true) (ht : STs (G.blk scope) ifs ft) (he : SE (G.blk scope) elt fe)
    (hs : ∀ env x, foldedSetIterable iter env x = pure x := by intro _ _; rfl) : SS G (.Assign [.Name y py] (.ListComp elt [⟨tg, iter, ifs, 0⟩] scope pos) spos) (sSet i (match m with | true => fMut (fLc (own.map (·.2)) fi fg ft fe) | false => fFrz (fLc (own.map (·.2)) fi fg ft fe))) := by
  intro X E o
  have hsl' : ∀ i ∈ sl, i ∈ own.map (·.2) := fun i hi => by
    have := List.all_eq_true.mp hsl i hi
    simpa using this
  have ok' : BlkOk X.N X.env.scope scope own := by rw [o.ok.N, o.ok.sc]; exact blkOk_by ok
  refine PS.by_ (ps_setLc (i := i) (own := own) o.ok.calm (by rw [o.ok.N]; exact o.ok.nd) (by rw [o.ok.N]; exact hiy) (by rw [o.ok.sc]; exact hy) (sw_local hkk hy hl ha _ o.ok.sc) (hi X _ o.ok o.tk) ok' (fun s H C cl fp => hg _ (okX_blk o.ok s H scope C cl fp)) (fun s H C cl fp => ht _ W0 (okX_blk o.ok s H scope C cl fp) takes0)
    (fun s H C cl fp => he _ W0 (okX_blk o.ok s H scope C cl fp) takes0) (hs _)) fun Dn σ H q => lc_reading hsl' ?_
  cases m with
  | true => exact mut_F (set_reading q)
  | false => exact frz_F (set_reading q)
end
/-- target = value, the target a tuple of names -/
def sAsg (fg : Fg) (fe : Fe) : Fs := fun env h => (fe env h).bind fun d h => match fg d env with
  | some env' => .ok (.nx env') h
  | none => .bad
def envS (sc : Scope) : Env := envOfC "" sc 0 0 .none
theorem swapped_eq {ts : List Expr} {v : Expr} {env : Env} {sc : Scope} (h : env.scope = sc) : swappedStores ts v env = swappedStores ts v (envS sc) := by
  have e1 : env.blockKind = (envS sc).blockKind := by unfold Env.blockKind; rw [h]; rfl
  have e2 : env.kindOf = (envS sc).kindOf := by funext x; unfold Env.kindOf; rw [h]; rfl
  unfold swappedStores
  rw [e1, e2]
theorem ss_asg {tg : Expr} {fg : Fg} {sl : List Nat} (he : SE G e fe) (hg : SG G tg fg sl) (hw : swappedStores [tg] e (envS G.sc) = pure none) (hs : ∀ env, swapsWithSole [tg] e pos.line env = pure false := by intro _; rfl)
    (h1 : ∀ env, (assignEach [tg] env).map (·.2) = [assign tg env] := by intro _; rfl) : SS G (.Assign [tg] e pos) (sAsg fg fe) := by
  intro X E o
  refine PS.by_ (ps_asg (he X _ o.ok o.tk) (hg X o.ok) (hs _) (by rw [swapped_eq o.ok.sc]; exact hw) (h1 _)) fun Dn σ H q => ?_
  obtain ⟨ν, Z, ρ, env, h, x, p⟩ := q
  refine rE.bind x p fun d h1 Z1 ρ1 H1 v e1 s1 x1 r1 p1 => ?_
  cases eg : fg d env with
  | none => rw [eg] at p1; exact p1.elim
  | some env' =>
    rw [eg] at p1
    exact ⟨ν, Z1, ρ1, env, h1, d, env', x1, r1, eg, fun σ' re _ => p1.here x1.rh σ' re⟩
/-- a, b = x, y -/
def sPar (i j : Nat) (fa : Fa) : Fs := fun env h => (fa env h).bind fun ds h => match ds with
  | [d, e] => .ok (.nx ((env.set i d).set j e)) h
  | _ => .bad
theorem ss_par {i j : Nat} {x y : Str} {a b : Expr} {fa : Fa} {px py pt : Pos} {kt k2 pt2} (hi : G.N[i]? = some x) (hj : G.N[j]? = some y) (hij : i ≠ j) (hx : G.sc.names.lookup x = some .local) (hy : G.sc.names.lookup y = some .local) (ha : SA G [a, b] fa)
    (hw : swappedStores [.Tuple [.Name x px, .Name y py] kt pt] (.Tuple [a, b] k2 pt2) (envS G.sc) = pure (some [x, y])) : SS G (.Assign [.Tuple [.Name x px, .Name y py] kt pt] (.Tuple [a, b] k2 pt2) pos) (sPar i j fa) := by
  intro X E o
  refine PS.by_ (ps_par (i := i) (j := j) o.ok.calm (by rw [o.ok.N]; exact o.ok.nd) (by rw [o.ok.N]; exact hi) (by rw [o.ok.N]; exact hj) hij (by rw [o.ok.sc]; exact hx) (by rw [o.ok.sc]; exact hy) (ha X _ o.ok o.tk) (by rw [swapped_eq o.ok.sc]; exact hw)) fun Dn σ H q => ?_
  obtain ⟨ν, Z, ρ, env, h, x, p⟩ := q
  refine rA.bind x p fun ds h1 Z1 ρ1 H1 vs e1 s1 x1 r1 p1 => ?_
  cases ds with
  | nil => exact p1.elim
  | cons d t => cases t with
    | nil => exact p1.elim
    | cons e t => cases t with
      | cons _ _ => exact p1.elim
      | nil =>
        obtain ⟨v, u, rfl, rv, ru⟩ := r1.two
        exact ⟨v, u, rfl, p1.here x1.rh _ ((x1.re.set rv i).set ru j)⟩
def sPar3 (i j l : Nat) (fa : Fa) : Fs := fun env h => (fa env h).bind fun ds h => match ds with
  | [d, e, f] => .ok (.nx (((env.set i d).set j e).set l f)) h
  | _ => .bad
theorem ss_par3 {i j l : Nat} {x y z : Str} {a b c : Expr} {fa : Fa} {px py pz pt : Pos} {kt k2 pt2} (hi : G.N[i]? = some x) (hj : G.N[j]? = some y) (hl : G.N[l]? = some z) (hij : i ≠ j) (hil : i ≠ l) (hjl : j ≠ l) (hx : G.sc.names.lookup x = some .local) (hy : G.sc.names.lookup y = some .local) (hz : G.sc.names.lookup z = some .local) (ha : SA G [a, b, c] fa)
    (hw : swappedStores [.Tuple [.Name x px, .Name y py, .Name z pz] kt pt] (.Tuple [a, b, c] k2 pt2) (envS G.sc) = pure (some [x, y, z])) : SS G (.Assign [.Tuple [.Name x px, .Name y py, .Name z pz] kt pt] (.Tuple [a, b, c] k2 pt2) pos) (sPar3 i j l fa) := by
  intro X E o
  refine PS.by_ (ps_par3 (i := i) (j := j) (l := l) o.ok.calm (by rw [o.ok.N]; exact o.ok.nd) (by rw [o.ok.N]; exact hi) (by rw [o.ok.N]; exact hj) (by rw [o.ok.N]; exact hl) hij hil hjl (by rw [o.ok.sc]; exact hx) (by rw [o.ok.sc]; exact hy) (by rw [o.ok.sc]; exact hz) (ha X _ o.ok o.tk) (by rw [swapped_eq o.ok.sc]; exact hw)) fun Dn σ H q => ?_
  obtain ⟨ν, Z, ρ, env, h, x, p⟩ := q
  refine rA.bind x p fun ds h1 Z1 ρ1 H1 vs e1 s1 x1 r1 p1 => ?_
  cases ds with
  | nil => exact p1.elim
  | cons d t => cases t with
    | nil => exact p1.elim
    | cons e t => cases t with
      | nil => exact p1.elim
      | cons f t => cases t with
        | cons _ _ => exact p1.elim
        | nil =>
          obtain ⟨v, us, rfl, rv, rs⟩ := r1.uncons
          obtain ⟨u, w, rfl, ru, rw'⟩ := rs.two
          exact ⟨v, u, w, rfl, p1.here x1.rh _ (((x1.re.set rv i).set ru j).set rw' l)⟩
end
end Eg

set_option Elab.async false
set_option linter.all false
set_option maxRecDepth 100000
/-! The engine, part 12: writes into our own lists and dicts; loops. -/
namespace Eg
open PySem PySem.Spec PyProof.Rows L2
def hset : HpD → Nat → HObj → HpD
  | [], _, _ => []
  | _ :: r, 0, o => o :: r
  | x :: r, n + 1, o => x :: hset r n o
theorem hset_get : ∀ {h : HpD} {n m : Nat} {o u : HObj}, (hset h n o)[m]? = some u → (m = n ∧ u = o) ∨ (m ≠ n ∧ h[m]? = some u)
  | [], _, _, _, _, e => by simp [hset] at e
  | _ :: r, 0, 0, o, u, e => by simp [hset] at e; exact .inl ⟨rfl, e.symm⟩
  | _ :: r, 0, m + 1, o, u, e => .inr ⟨by omega, by simpa [hset] using e⟩
  | x :: r, n + 1, 0, o, u, e => .inr ⟨by omega, by simpa [hset] using e⟩
  | x :: r, n + 1, m + 1, o, u, e => by
    rcases hset_get (h := r) (n := n) (m := m) (o := o) (u := u) (by simpa [hset] using e) with ⟨a, b⟩ | ⟨a, b⟩
    · exact .inl ⟨by omega, b⟩
    · exact .inr ⟨by omega, by simpa using b⟩
theorem hset_length : ∀ (h : HpD) (n : Nat) (o : HObj), (hset h n o).length = h.length
  | [], _, _ => rfl
  | _ :: r, 0, _ => rfl
  | x :: r, n + 1, o => by simp [hset, hset_length r n o]
section
variable {C : RC} {Z : Addr → Prop} {ρ : List (Option Addr)} {H : Hp} {h : HpD} {n : Nat} {a : Addr} {o' : HO}
/-- one of our own objects is written -/
theorem write_step (rh : RH C Z ρ H h) (e : ρ[n]? = some (some a)) (ni : ∃ u, H a = some u ∧ ¬ Imm u) : Step Z ρ H Z ρ (upd H a o') where
  zin := rh.zin
  keep := fun b u eb nb => by rw [upd_ne (fun q => nb (by rw [q]; exact mem_of_get e))]; exact eb
  imm := fun b u eb ib => by
    obtain ⟨w, ew, nw⟩ := ni
    rw [upd_ne (fun q => by rw [q, ew] at eb; cases eb; exact nw ib)]; exact eb
  dom := fun b u eb => by
    by_cases q : b = a
    · rw [q]; exact ⟨_, upd_same⟩
    · rw [upd_ne q]; exact ⟨u, eb⟩
  rfs := fun _ _ e => e
  new := fun _ e => .inl e
  zle := fun _ e => e
  znew := fun _ e => .inl e
theorem write_rh {o : HObj} (rh : RH C Z ρ H h) (e : ρ[n]? = some (some a)) (ni : ∃ u, H a = some u ∧ ¬ Imm u) (ho : HRel C Z ρ (upd H a o') n o) : RH C Z ρ (upd H a o') (hset h n o) where
  len := by rw [hset_length]; exact rh.len
  inj := rh.inj
  zin := rh.zin
  zdom := fun b z => by
    by_cases q : b = a
    · rw [q]; exact ⟨_, upd_same⟩
    · rw [upd_ne q]; exact rh.zdom b z
  obj := fun m u em => by
    rcases hset_get em with ⟨rfl, rfl⟩ | ⟨hne, em⟩
    · exact ho
    · refine (rh.obj m u em).step (write_step rh e ni) fun b eb => ?_
      rw [upd_ne (show b ≠ a from fun q => hne (rh.inj m n a (by rw [← q]; exact eb) e))]
theorem write_lst {ds ds' : List D} (rh : RH C Z ρ H h) (hh : hat h n = .lst ds) (e : ρ[n]? = some (some a)) {xs' : List V} (rs : RVs C Z ρ H ds' xs') : Step Z ρ H Z ρ (upd H a (.lst xs')) ∧ RH C Z ρ (upd H a (.lst xs')) (hset h n (.lst ds')) := by
  obtain ⟨a', xs, e1, e2, r⟩ := rh.at_ hh (fun z => by cases z)
  rw [e] at e1; cases e1
  have ni : ∃ u, H a = some u ∧ ¬ Imm u := ⟨_, e2, fun z => z⟩
  have st := write_step (o' := .lst xs') rh e ni
  exact ⟨st, write_rh rh e ni ⟨a, xs', e, upd_same, rs.step st⟩⟩
theorem write_dct {ks ks' : List Key} {ds ds' : List D} (rh : RH C Z ρ H h) (hh : hat h n = .dct ks ds) (e : ρ[n]? = some (some a)) {kvs' : List (Key × V)} (ek : kvs'.map (·.1) = ks') (rs : RVs C Z ρ H ds' (kvs'.map (·.2))) : Step Z ρ H Z ρ (upd H a (.dK kvs')) ∧ RH C Z ρ (upd H a (.dK kvs')) (hset h n (.dct ks' ds')) := by
  obtain ⟨a', xs, e1, e2, e3, r⟩ := rh.at_ hh (fun z => by cases z)
  rw [e] at e1; cases e1
  have ni : ∃ u, H a = some u ∧ ¬ Imm u := ⟨_, e2, fun z => z⟩
  have st := write_step (o' := .dK kvs') rh e ni
  exact ⟨st, write_rh rh e ni ⟨a, kvs', e, upd_same, ek, rs.step st⟩⟩
end
/-! ### d[k] = v over data -/
def putD (k : Key) (y : D) : List Key → List D → List Key × List D
  | a :: ks, d :: ds => match eqKey a k with
    | true => (a :: ks, y :: ds)
    | false => match putD k y ks ds with
      | (ks', ds') => (a :: ks', d :: ds')
  | _, _ => ([k], [y])
theorem putD_ok {C : RC} {Z : Addr → Prop} {ρ : List (Option Addr)} {H : Hp} {k : Key} {y : D} {v : V} (ry : RV C Z ρ H y v) : ∀ {kvs : List (Key × V)} {ds : List D}, (kvs.map (·.1)).Nodup → RVs C Z ρ H ds (kvs.map (·.2)) →
    (putK kvs k v).map (·.1) = (putD k y (kvs.map (·.1)) ds).1 ∧ RVs C Z ρ H (putD k y (kvs.map (·.1)) ds).2 ((putK kvs k v).map (·.2))
  | [], _, _, .nil => ⟨rfl, .cons ry .nil⟩
  | (a, w) :: r, _, nd, .cons q t => by
    have nd' : (r.map (·.1)).Nodup := (List.nodup_cons.mp nd).2
    by_cases e : a = k
    · have e2 : eqKey a k = true := by rw [eqKey_ok]; exact decide_eq_true e
      simp only [List.map_cons, putD, e2]
      subst e
      have hn : ∀ x ∈ r, x.1 ≠ a := fun x hx z => (List.nodup_cons.mp nd).1 (by rw [← z]; exact List.mem_map.mpr ⟨x, hx, rfl⟩)
      have hr : r.map (fun kv => if kv.1 = a then (kv.1, v) else kv) = r := by
        have : ∀ x ∈ r, (fun kv : Key × V => if kv.1 = a then (kv.1, v) else kv) x = id x := fun x hx => by simp [hn x hx]
        rw [List.map_congr_left this]; simp
      have : putK ((a, w) :: r) a v = (a, v) :: r := by
        unfold putK
        rw [if_pos (by simp)]
        simp [hr]
      rw [this]
      exact ⟨rfl, .cons ry t⟩
    · have e2 : eqKey a k = false := by rw [eqKey_ok]; exact decide_eq_false e
      obtain ⟨h1, h2⟩ := putD_ok ry (kvs := r) nd' t
      simp only [List.map_cons, putD, e2]
      have : putK ((a, w) :: r) k v = (a, w) :: putK r k v := by
        unfold putK
        by_cases hm : (r.any fun kv => decide (kv.1 = k)) = true
        · rw [if_pos (by simp only [List.any_cons, hm, Bool.or_true]), if_pos hm]; simp [e]
        · rw [if_neg (by simp only [List.any_cons, decide_eq_false e, Bool.false_or]; exact hm), if_neg hm]; rfl
      rw [this]
      exact ⟨by rw [List.map_cons, h1], .cons q h2⟩
def rSetA : V → V → V → Hp → (Hp → Prop) → Prop := fun o i v H Q => rSetL o i v H Q ∨ ∃ a H', o = .ref a ∧ DPut H a i v H' ∧ Q H'
theorem set_any {X : Cx} (hu : X.A.units + 1 < cLine) : PSet X rSetA := by
  intro pins s σ H o i v ov iv u Q I ro ri rv h
  rcases h with h | ⟨a, H', rfl, g, q⟩
  · exact set_list pins s σ H o i v ov iv u Q I ro ri rv h
  · obtain rfl : ov = Value.ref a := ro
    exact d_setItem hu I g ri rv fun s4 I4 => ⟨H', I4, q⟩
/-- keys are told apart -/
def nodK : List Key → Bool
  | [] => true
  | k :: r => match hasK k r with
    | true => false
    | false => nodK r
theorem hasK_mem {k : Key} : ∀ {ks : List Key}, hasK k ks = false → k ∉ ks
  | [], _ => by simp
  | a :: r, h => by
    unfold hasK at h
    split at h
    · cases h
    · rename_i e
      rw [eqKey_ok] at e
      have e := of_decide_eq_false e
      simp only [List.mem_cons, not_or]
      exact ⟨fun z => e z.symm, hasK_mem h⟩
theorem nodK_ok : ∀ {ks : List Key}, nodK ks = true → ks.Nodup
  | [], _ => List.nodup_nil
  | k :: r, h => by
    unfold nodK at h
    split at h
    · cases h
    · rename_i e
      exact List.nodup_cons.mpr ⟨hasK_mem e, nodK_ok h⟩
def opSet (d i y : D) (h : HpD) : Out Unit := match d with
  | .ref n => (match hat h n with
    | .lst ds => (match i with
      | .int (.ofNat k) => (match Nat.blt k ds.length with
        | true => .ok () (hset h n (.lst (ds.set k y)))
        | false => .bad)
      | _ => .bad)
    | .dct ks ds => (match keyOf i with
      | some k => (match nodK ks with
        | true => (match Nat.ble ks.length most with
          | true => .ok () (hset h n (.dct (putD k y ks ds).1 (putD k y ks ds).2))
          | false => .bad)
        | false => .bad)
      | none => .bad)
    | _ => .bad)
  | _ => .bad
theorem opSet_ok {C : RC} {Z : Addr → Prop} {ρ : List (Option Addr)} {H : Hp} {E : XK} {h : HpD} {d i y : D} {v u w : V} {Q : Hp → Prop} (rh : RH C Z ρ H h) (rd : RV C Z ρ H d v) (ri : RV C Z ρ H i u) (ry : RV C Z ρ H y w)
    (p : PostG C Z ρ H E (opSet d i y h) (fun _ _ _ _ H' => Q H')) : rSetA v u w H Q := by
  unfold opSet at p
  split at p
  · rename_i n
    cases rd with
    | ref e =>
      split at p
      · rename_i ds hh
        split at p
        · rename_i k
          split at p
          · rename_i hk
            obtain ⟨a', xs, e1, e2, rs⟩ := rh.at_ hh (fun z => by cases z)
            rw [e] at e1; cases e1
            cases ri
            have hk : k < ds.length := Nat.le_of_ble_eq_true hk
            obtain ⟨st, rh'⟩ := write_lst rh hh e (rs.set ry k)
            refine .inl ⟨_, xs, Int.ofNat k, k, rfl, rfl, e2, ?_, p _ _ _ st rh'⟩
            unfold ixN
            rw [if_pos (show (0 : Int) ≤ Int.ofNat k from Int.natCast_nonneg k), if_pos (by rw [← rs.length]; show (k : Int) < _; omega)]
            rfl
          · exact p.elim
        · exact p.elim
      · rename_i ks ds hh
        split at p
        · rename_i k hk
          split at p
          · rename_i hn
            split at p
            · rename_i hl
              obtain ⟨a', kvs, e1, e2, e3, rs⟩ := rh.at_ hh (fun z => by cases z)
              rw [e] at e1; cases e1
              subst e3
              obtain ⟨q1, q2⟩ := putD_ok ry (k := k) (nodK_ok hn) rs
              obtain ⟨st, rh'⟩ := write_dct rh hh e q1 q2
              refine .inr ⟨_, _, rfl, .inl ⟨kvs, k, e2, keyOf_ok hk ri, ?_, rfl⟩, p _ _ _ st rh'⟩
              have := Nat.le_of_ble_eq_true hl
              rw [List.length_map] at this
              exact most_lt this
            · exact p.elim
          · exact p.elim
        · exact p.elim
      · exact p.elim
  · exact p.elim
section
variable {G : Cfg} {st : Stmt} {body : List Stmt} {e o i c : Expr} {fe fo fi fa : Fe} {fc : Fb} {fb : Fs} {pos pos' apos cpos : Pos}
def sSub (fe fo fi : Fe) : Fs := fun env h => (fe env h).bind fun y h => (fo env h).bind fun d h => (fi env h).bind fun k h => (opSet d k y h).bind fun _ h => .ok (.nx env) h
theorem ss_sub (he : SE G e fe) (ho : SE G o fo) (hi : SE G i fi) (hw : swappedStores [.Subscript o i pos'] e (envS G.sc) = pure none) (hs : ∀ env, swapsWithSole [.Subscript o i pos'] e pos.line env = pure false := by intro _; rfl)
    (h1 : ∀ env, (assignEach [.Subscript o i pos'] env).map (·.2) = [assign (.Subscript o i pos') env] := by intro _; rfl)
    (ha : ∀ env v, assign (.Subscript o i pos') env v = (do
      let ov ← holding [v] (eval o env)
      let iv ← holding [v, ov] (eval i env)
      standAt pos'
      holding [v, ov, iv] (setItem ov iv v)
      release [v, ov, iv] []) := by intro _ _; rfl) : SS G (.Assign [.Subscript o i pos'] e pos) (sSub fe fo fi) := by
  intro X E o'
  refine PS.by_ (ps_asg (he X _ o'.ok o'.tk) (pg_sub (ho X _ o'.ok o'.tk) (hi X _ o'.ok o'.tk) (set_any (by have := o'.ok.hu; omega)) (ha _)) (hs _) (by rw [swapped_eq o'.ok.sc]; exact hw) (h1 _)) fun Dn σ H q => ?_
  obtain ⟨ν, Z, ρ, env, h, x, p⟩ := q
  refine rE.bind x p fun y h1 Z1 ρ1 H1 v e1 s1 x1 r1 p1 => ?_
  refine rE.bind x1 p1 fun d h2 Z2 ρ2 H2 u e2 s2 x2 r2 p2 => ?_
  refine rE.bind x2 p2 fun k h3 Z3 ρ3 H3 w e3 s3 x3 r3 p3 => ?_
  refine opSet_ok (E := E) x3.rh (r2.step s3) r3 ((r1.step s2).step s3) ((PostG.bind p3).mono fun _ h4 Z4 ρ4 H4 e4 s4 rh4 p4 => ?_)
  exact p4.here rh4 σ (x3.re.step s4)
/-! ### append, pop -/
def opApp (d y : D) (h : HpD) : Out D := match d with
  | .ref n => (match hat h n with
    | .lst ds => (match short ds most with
      | true => .ok .non (hset h n (.lst (ds ++ [y])))
      | false => .bad)
    | _ => .bad)
  | _ => .bad
def isLst (h : HpD) (d : D) : Bool := match lookL h d with
  | some _ => true
  | none => false
def fApp (fo fa : Fe) : Fe := fun env h => (fo env h).bind fun d h => match isLst h d with
  | true => (fa env h).bind fun y h => opApp d y h
  | false => .bad
theorem isLst_ty {C : RC} {Z : Addr → Prop} {ρ : List (Option Addr)} {H : Hp} {h : HpD} {d : D} {v : V} (rh : RH C Z ρ H h) (e : isLst h d = true) (r : RV C Z ρ H d v) : tyV C.K "list" v H := by
  unfold isLst at e
  split at e
  · rename_i ds hl
    obtain ⟨a, xs, rfl, ha, _⟩ := lookL_ok rh hl r
    exact .inl ⟨rfl, xs, .of ha⟩
  · cases e
theorem se_append (ho : SE G o fo) (ha : SE G e fa) (hbase : ∀ env, attributeBase o "append" env (eval o env) = eval o env := by intro _; rfl) (hline : (apos.endLine == cpos.line) = true := by rfl)
    (hs : ∀ env, starEach [e] env = (false, eval e env) :: starEach [] env := by intro _; rfl) : SE G (.Call (.Attribute o "append" apos) [e] [] cpos) (fApp fo fa) := by
  intro X W o'
  intro tk
  have hfew : ∀ env, ((backTo cpos (starEach [e] env)).all (fun x => !x.1) && (backToKw cpos (keywordEach [] env)).all (fun x => x.1.isSome) && decide ([e].length + ([] : List Keyword).length + (if ([] : List Keyword).isEmpty then 0 else 1) < 30)) = true := fun env => by rw [hs env]; rfl
  refine PE.by_ (pe_bm PySem.F.plainAttrs_list PySem.F.slot_list_append PySem.F.type_list_append mt_append (ho X W o' tk) (pa_cons (ha X W o' tk) pa_nil (hs _)) (hbase _) (hfew _) hline (hs _) rfl) fun σ H Q q => ?_
  obtain ⟨ν, Z, ρ, env, h, x, p⟩ := q
  refine rE.bind x p fun d h1 Z1 ρ1 H1 v e1 s1 x1 r1 p1 => ?_
  cases hl : isLst h1 d with
  | false => rw [hl] at p1; exact p1.elim
  | true =>
    rw [hl] at p1
    refine ⟨by rw [o'.K]; exact isLst_ty (C := G.rc ν) x1.rh hl r1, ?_⟩
    refine rE.bind x1 p1 fun y h2 Z2 ρ2 H2 u e2 s2 x2 r2 p2 => ?_
    unfold opApp at p2
    split at p2
    · rename_i n
      cases r1.step s2 with
      | ref e =>
        split at p2
        · rename_i ds hh
          split at p2
          · rename_i hsh
            obtain ⟨a', xs, e1, e2, rs⟩ := x2.rh.at_ hh (fun z => by cases z)
            rw [e] at e1; cases e1
            obtain ⟨st, rh'⟩ := write_lst x2.rh hh e (rs.append (.cons r2 .nil))
            exact ⟨_, xs, u, rfl, rfl, e2, by rw [← rs.length]; exact most_lt (short_le hsh), p2 _ _ _ st rh' _ .non⟩
          · exact p2.elim
        · exact p2.elim
    · exact p2.elim
def opPop (d : D) (h : HpD) : Out D := match d with
  | .ref n => (match hat h n with
    | .lst ds => (match getI ds (.negSucc 0) with
      | .und => .bad
      | y => .ok y (hset h n (.lst ds.dropLast)))
    | _ => .bad)
  | _ => .bad
theorem se_pop (ho : SE G o fo) (hbase : ∀ env, attributeBase o "pop" env (eval o env) = eval o env := by intro _; rfl) (hline : (apos.endLine == cpos.line) = true := by rfl) : SE G (.Call (.Attribute o "pop" apos) [] [] cpos) (f1 opPop fo) := by
  intro X W o' tk
  refine PE.by_ (pe_bm0 PySem.F.plainAttrs_list PySem.F.slot_list_pop PySem.F.type_list_pop mt_pop (ho X W o' tk) (hbase _) hline) fun σ H Q q => ?_
  obtain ⟨ν, Z, ρ, env, h, x, p⟩ := q
  refine rE.bind x p fun d h1 Z1 ρ1 H1 v e1 s1 x1 r1 p1 => ?_
  unfold opPop at p1
  split at p1
  · rename_i n
    cases r1 with
    | ref e =>
      split at p1
      · rename_i ds hh
        obtain ⟨a', xs, e1, e2, rs⟩ := x1.rh.at_ hh (fun z => by cases z)
        rw [e] at e1; cases e1
        obtain ⟨st, rh'⟩ := write_lst x1.rh hh e rs.dropLast
        generalize eg : getI ds (.negSucc 0) = y at p1
        have hy : y ≠ .und := fun z => by rw [z] at p1; exact p1.elim
        obtain ⟨w, j, q1, q2, q3, rw'⟩ := getI_ok eg hy rs
        have hj : j = xs.length - 1 := by
          unfold ixN at q1
          have hl : 0 < xs.length := by
            have := (List.getElem?_eq_some_iff.mp q2).1
            omega
          rw [if_neg (by omega), if_pos (by omega)] at q1
          have := Option.some.inj q1
          omega
        subst hj
        refine ⟨by rw [o'.K]; exact .inl ⟨rfl, xs, .of e2⟩, _, xs, w, rfl, rfl, e2, q2, ?_⟩
        have p1 : PostG (G.rc ν) Z1 ρ1 H1 (fun c d H' => W c d σ H') (.ok y (hset h1 n (.lst ds.dropLast))) (Hand (G.rc ν) Q) := by
          cases y with
          | und => exact absurd rfl hy
          | _ => exact p1
        exact p1 _ _ _ st rh' _ (rw'.step st)
      · exact p1.elim
  · exact p1.elim
/-! ### loops -/
def forGo (w : Watch) (fg : Fg) (fb : Fs) : List D → EnvD → HpD → Out Fl
  | [], env, h => (match w h with
    | true => .ok (.nx env) h
    | false => .bad)
  | d :: ds, env, h => match w h with
    | true => (match fg d env with
      | none => .bad
      | some env' => (fb env' h).bind fun fl h => match fl with
        | .nx e => forGo w fg fb ds e h
        | .ct e => forGo w fg fb ds e h
        | .bk e => .ok (.nx e) h
        | .rt d => .ok (.rt d) h)
    | false => .bad
def sFor (fi : Fi) (fg : Fg) (fb : Fs) : Fs := fun env h => (fi env h).bind fun sr h => forGo sr.2 fg fb sr.1 env h
theorem ss_for {tg iter : Expr} {fi : Fi} {fg : Fg} {sl : List Nat} (hi : SI G tg iter fi) (hg : SG G tg fg sl) (hb : SSs G body fb) (hs : ∀ env x, foldedSetIterable iter env x = pure x := by intro _ _; rfl) : SS G (.For tg iter body [] pos) (sFor fi fg fb) := by
  intro X E o'
  refine PS.by_ (ps_for o'.pw o'.ok.calm (hi X _ o'.ok o'.tk) (hg X o'.ok) (hb X E o') (hs _)) fun Dn σ H q => ?_
  obtain ⟨ν, Z, ρ, env, h, x, p⟩ := q
  refine ⟨ν, Z, ρ, env, h, x, (PostG.bind p).mono fun sr h1 Z1 ρ1 H1 e1 s1 rh1 p1 => fun J gJ => ?_⟩
  obtain ⟨ds, w⟩ := sr
  have gJ : Goes (G.rc ν) J Z1 ρ1 H1 (ds, w) := gJ
  refine ⟨fun i m σ' Hc => ∃ Z2 ρ2 env2 h2, i ≤ ds.length ∧ m = ds.length - i ∧ Step Z1 ρ1 H1 Z2 ρ2 Hc ∧ Stt G ν Z2 ρ2 σ' Hc env2 h2 ∧ PostG (G.rc ν) Z2 ρ2 Hc E (forGo w fg fb (ds.drop i) env2 h2) (FlR (G.rc ν) Dn), ⟨ds.length, Z1, ρ1, env, h1, Nat.zero_le _, rfl, .refl rh1.zin, x.step s1 rh1, p1⟩, ?_⟩
  rintro i m σ' Hc ⟨Z2, ρ2, env2, h2, hi, rfl, st, x2, p2⟩
  by_cases hlt : i < ds.length
  · right
    have ed : ds.drop i = ds[i] :: ds.drop (i + 1) := (List.drop_eq_getElem_cons hlt)
    rw [ed] at p2
    have hw : w h2 = true := by
      unfold forGo at p2
      split at p2
      · assumption
      · exact p2.elim
    obtain ⟨hgo, hy⟩ := (gJ Z2 ρ2 Hc h2 st.w x2.rh hw).1 i ds[i] (List.getElem?_eq_getElem hlt)
    refine ⟨hgo, fun σ3 H3 => ∃ Z3 ρ3 env3 h3, Step Z1 ρ1 H1 Z3 ρ3 H3 ∧ Stt G ν Z3 ρ3 σ3 H3 env3 h3 ∧ PostG (G.rc ν) Z3 ρ3 H3 E (forGo w fg fb (ds.drop (i + 1)) env3 h3) (FlR (G.rc ν) Dn), fun σ3 H3 n => ?_, fun v H3 y => ?_⟩
    · obtain ⟨Z3, ρ3, env3, h3, a1, a2, a3⟩ := n
      exact ⟨ds.length - (i + 1), by omega, Z3, ρ3, env3, h3, hlt, rfl, a1, a2, a3⟩
    · obtain ⟨s3, rh3, rv⟩ := hy v H3 y
      unfold forGo at p2
      rw [hw] at p2
      dsimp only at p2
      cases eg : fg ds[i] env2 with
      | none => rw [eg] at p2; exact p2.elim
      | some env' =>
        rw [eg] at p2
        dsimp only at p2
        refine ⟨ν, Z2, ρ2, env2, h2, ds[i], env', x2.step s3 rh3, rv, eg, fun σ4 re4 _ => ?_⟩
        refine ⟨ν, Z2, ρ2, env', h2, ⟨x2.hb, rh3, re4⟩, ((PostG.bind p2).later s3).mono fun fl h5 Z5 ρ5 H5 e5 s5 rh5 p5 => ?_⟩
        have st5 := (st.trans s3).trans s5
        cases fl with
        | nx e => exact fun σ6 re6 => ⟨Z5, ρ5, e, h5, st5, ⟨x2.hb, rh5, re6⟩, p5⟩
        | ct e => exact fun σ6 re6 => ⟨Z5, ρ5, e, h5, st5, ⟨x2.hb, rh5, re6⟩, p5⟩
        | bk e => exact fun σ6 re6 => (PostG.here (E := E) (a := Fl.nx e) rh5 p5 : FlR (G.rc ν) Dn (.nx e) h5 Z5 ρ5 H5) σ6 re6
        | rt d => exact fun v rv => (PostG.here (E := E) (a := Fl.rt d) rh5 p5 : FlR (G.rc ν) Dn (.rt d) h5 Z5 ρ5 H5) v rv
  · left
    have hi' : i = ds.length := by omega
    subst hi'
    rw [List.drop_length] at p2
    unfold forGo at p2
    split at p2
    · rename_i hw
      exact ⟨(gJ Z2 ρ2 Hc h2 st.w x2.rh hw).2, p2.here x2.rh σ' x2.re⟩
    · exact p2.elim
def whGo (fc : Fb) (fb : Fs) : Nat → EnvD → HpD → Out Fl
  | 0, _, _ => .bad
  | n + 1, env, h => (fc env h).bind fun b h => match b with
    | false => .ok (.nx env) h
    | true => (fb env h).bind fun fl h => match fl with
      | .nx e => whGo fc fb n e h
      | .ct e => whGo fc fb n e h
      | .bk e => .ok (.nx e) h
      | .rt d => .ok (.rt d) h
def sWhile (n : Nat) (fc : Fb) (fb : Fs) : Fs := fun env h => whGo fc fb n env h
theorem ss_while (n : Nat) (hc : ST G c fc) (hb : SSs G body fb) : SS G (.While c body [] pos) (sWhile n fc fb) := by
  intro X E o'
  refine PS.by_ (ps_while o'.pw (hc X _ o'.ok o'.tk) (hb X E o')) fun Dn σ H q => ?_
  obtain ⟨ν, Z, ρ, env, h, x, p⟩ := q
  refine ⟨fun m σ' Hc => ∃ Z2 ρ2 env2 h2, Stt G ν Z2 ρ2 σ' Hc env2 h2 ∧ PostG (G.rc ν) Z2 ρ2 Hc E (whGo fc fb m env2 h2) (FlR (G.rc ν) Dn), ⟨n, Z, ρ, env, h, x, p⟩, ?_⟩
  rintro m σ' Hc ⟨Z2, ρ2, env2, h2, x2, p2⟩
  cases m with
  | zero => exact p2.elim
  | succ m =>
    unfold whGo at p2
    refine rT.bind x2 p2 fun b h3 Z3 ρ3 H3 e3 s3 x3 p3 => ?_
    cases b with
    | false =>
      rw [if_neg (by decide)]
      exact (PostG.here (E := E) (a := Fl.nx env2) x3.rh p3 : FlR (G.rc ν) Dn (.nx env2) h3 Z3 ρ3 H3) σ' x3.re
    | true =>
      rw [if_pos rfl]
      refine ⟨fun σ5 H5 => ∃ Z5 ρ5 env5 h5, Stt G ν Z5 ρ5 σ5 H5 env5 h5 ∧ PostG (G.rc ν) Z5 ρ5 H5 E (whGo fc fb m env5 h5) (FlR (G.rc ν) Dn), fun σ5 H5 n => ⟨m, Nat.lt_succ_self m, n⟩, ?_⟩
      refine ⟨ν, Z3, ρ3, env2, h3, x3, (PostG.bind p3).mono fun fl h5 Z5 ρ5 H5 e5 s5 rh5 p5 => ?_⟩
      cases fl with
      | nx e => exact fun σ6 re6 => ⟨Z5, ρ5, e, h5, ⟨x2.hb, rh5, re6⟩, p5⟩
      | ct e => exact fun σ6 re6 => ⟨Z5, ρ5, e, h5, ⟨x2.hb, rh5, re6⟩, p5⟩
      | bk e => exact fun σ6 re6 => (PostG.here (E := E) (a := Fl.nx e) rh5 p5 : FlR (G.rc ν) Dn (.nx e) h5 Z5 ρ5 H5) σ6 re6
      | rt d => exact fun v rv => (PostG.here (E := E) (a := Fl.rt d) rh5 p5 : FlR (G.rc ν) Dn (.rt d) h5 Z5 ρ5 H5) v rv
end
end Eg

set_option Elab.async false
set_option linter.all false
set_option maxRecDepth 100000
/-! The engine, part 13: defs: their promise, their calls, their bodies; raise. -/
namespace Eg
open PySem PySem.Spec PyProof.Rows L2
abbrev Fd := List D → HpD → Out D
/-- F tells what the def gives -/
def spD (G : Cfg) (n : Nat) (F : Fd) : Sp := fun vs H Q E => vs.length = n ∧ ∃ ν Z ρ h ds, inBox G.β ν ∧ RH (G.rc ν) Z ρ H h ∧ RVs (G.rc ν) Z ρ H ds vs ∧ PostG (G.rc ν) Z ρ H E (F ds h) (Hand (G.rc ν) Q)
structure DefOk (G : Cfg) (k : Nat) (x : Str) (n : Nat) (F : Fd) : Prop where
  ex : ∃ f fd ps, G.mg x = some (.ref f) ∧ PySem.W.keepIn G.K (.ref f) = true ∧ Binds G.K fd ps [] ∧ ps.length = n ∧ FnOk G.prog G.w G.K G.mg G.base (L2.CX G.prog G.w) k f fd ps (spD G n F)
/-! ### data without numbers -/
def noRef : Nat → D → Bool
  | 0, _ => false
  | n + 1, d => match d with
    | .ref _ => false
    | .tup ds => ds.all (noRef n)
    | .lst ds => ds.all (noRef n)
    | .dct _ ds => ds.all (noRef n)
    | _ => true
def noRefs (n : Nat) : List D → Bool
  | [] => true
  | d :: r => match noRef n d with
    | true => noRefs n r
    | false => false
section
variable {C : RC} {Z : Addr → Prop} {ρ ρ' : List (Option Addr)} {H : Hp}
theorem noRef_all {n : Nat} (ih : ∀ (d : D) (v : V), noRef n d = true → RV C Z ρ H d v → RV C Z ρ' H d v) : ∀ (ds : List D) (vs : List V), ds.all (noRef n) = true → RVs C Z ρ H ds vs → RVs C Z ρ' H ds vs
  | [], _, _, .nil => .nil
  | d :: r, _, h, .cons a b => by
    rw [List.all_cons, Bool.and_eq_true] at h
    exact .cons (ih _ _ h.1 a) (noRef_all ih r _ h.2 b)
theorem noRef_ok : ∀ (n : Nat) (d : D) (v : V), noRef n d = true → RV C Z ρ H d v → RV C Z ρ' H d v
  | 0, _, _, h, _ => by cases h
  | n + 1, d, v, h, r => by
    cases r with
    | non => exact .non
    | bl b => exact .bl b
    | int i => exact .int i
    | lin c ks e => exact .lin c ks e
    | str x => exact .str x
    | tup h1 rs => exact .tup h1 (noRef_all (noRef_ok n) _ _ h rs)
    | lst h1 z rs => exact .lst h1 z (noRef_all (noRef_ok n) _ _ h rs)
    | dct h1 z e rs => exact .dct h1 z e (noRef_all (noRef_ok n) _ _ h rs)
    | ref e => cases h
    | rng e => exact .rng e
    | ty n => exact .ty n
    | fn e => exact .fn e
theorem noRefs_ok {n : Nat} : ∀ (ds : List D) (vs : List V), noRefs n ds = true → RVs C Z ρ H ds vs → RVs C Z ρ' H ds vs
  | [], _, _, .nil => .nil
  | d :: r, _, h, .cons a b => by
    unfold noRefs at h
    split at h
    · rename_i h1
      exact .cons (noRef_ok n _ _ h1 a) (noRefs_ok r _ h b)
    · cases h
end
/-! ### what is handed back: numbers become data -/
def fz (h : HpD) : Nat → D → Option D
  | 0, _ => none
  | n + 1, d => match d with
    | .ref m => (match hat h m with
      | .lst ds => (match mapO (fz h n) ds with
        | some es => some (.lst es)
        | none => none)
      | .dct ks ds => (match mapO (fz h n) ds with
        | some es => some (.dct ks es)
        | none => none)
      | _ => none)
    | .tup ds => (match mapO (fz h n) ds with
      | some es => some (.tup es)
      | none => none)
    | .lst ds => (match mapO (fz h n) ds with
      | some es => some (.lst es)
      | none => none)
    | .dct ks ds => (match mapO (fz h n) ds with
      | some es => some (.dct ks es)
      | none => none)
    | .und => none
    | d => some d
section
variable {C : RC} {Z Z0 : Addr → Prop} {ρ : List (Option Addr)} {H : Hp} {h : HpD}
theorem fz_all {n : Nat} (ih : ∀ (d e : D) (v : V), fz h n d = some e → RV C Z ρ H d v → RV C Z0 [] H e v) : ∀ (ds es : List D) (vs : List V), mapO (fz h n) ds = some es → RVs C Z ρ H ds vs → RVs C Z0 [] H es vs
  | [], _, _, q, .nil => by cases q; exact .nil
  | d :: r, _, _, q, .cons a b => by
    unfold mapO at q
    split at q
    · rename_i y hy
      split at q
      · rename_i ys hys
        cases q
        exact .cons (ih _ _ _ hy a) (fz_all ih _ _ _ hys b)
      · cases q
    · cases q
theorem fz_ok (rh : RH C Z ρ H h) (hz : ∀ a, Z0 a → Z a) (hn : ∀ (n : Nat) a, ρ[n]? = some (some a) → ¬ Z0 a) : ∀ (n : Nat) (d e : D) (v : V), fz h n d = some e → RV C Z ρ H d v → RV C Z0 [] H e v
  | 0, _, _, _, q, _ => by cases q
  | n + 1, d, e, v, q, r => by
    have ih := fz_all (fz_ok rh hz hn n)
    cases r with
    | non => cases q; exact .non
    | bl b => cases q; exact .bl b
    | int i => cases q; exact .int i
    | lin c ks e => cases q; exact .lin c ks e
    | str x => cases q; exact .str x
    | tup h1 rs =>
      unfold fz at q
      dsimp only at q
      split at q
      · rename_i es hes; cases q; exact .tup h1 (ih _ _ _ hes rs)
      · cases q
    | lst h1 z rs =>
      unfold fz at q
      dsimp only at q
      split at q
      · rename_i es hes; cases q; exact .lst h1 (fun y => z (hz _ y)) (ih _ _ _ hes rs)
      · cases q
    | dct h1 z e rs =>
      unfold fz at q
      dsimp only at q
      split at q
      · rename_i es hes; cases q; exact .dct h1 (fun y => z (hz _ y)) e (ih _ _ _ hes rs)
      · cases q
    | ref e0 =>
      unfold fz at q
      dsimp only at q
      split at q
      · rename_i ds hh
        split at q
        · rename_i es hes
          cases q
          obtain ⟨a', xs, e1, e2, rs⟩ := rh.at_ hh (fun z => by cases z)
          rw [e0] at e1; cases e1
          exact .lst e2 (hn _ _ e0) (ih _ _ _ hes rs)
        · cases q
      · rename_i ks ds hh
        split at q
        · rename_i es hes
          cases q
          obtain ⟨a', xs, e1, e2, e3, rs⟩ := rh.at_ hh (fun z => by cases z)
          rw [e0] at e1; cases e1
          exact .dct e2 (hn _ _ e0) e3 (ih _ _ _ hes rs)
        · cases q
      · cases q
    | rng e => cases q; exact .rng e
    | ty n => cases q; exact .ty n
    | fn e => cases q; exact .fn e
end
/-! ### the call -/
def runD (F : Fd) (ds : List D) (h : HpD) : Out D := match noRefs deep ds with
  | true => match F ds [] with
    | .ok d _ => (match noRef deep d with
      | true => .ok d h
      | false => .bad)
    | .exc n d _ => (match noRef deep d with
      | true => .exc n d h
      | false => .bad)
    | .bad => .bad
  | false => F ds h
def fCallD (n : Nat) (F : Fd) (fa : Fa) : Fe := fun env h => (fa env h).bind fun ds h => match Nat.beq ds.length n with
  | true => runD F ds h
  | false => .bad
theorem excV_noRef {C : RC} {Z Z' : Addr → Prop} {ρ ρ' : List (Option Addr)} {H : Hp} {n : Nat} {d : D} {cls : Value} {dx : Option Addr} (h : noRef deep d = true) (hz : ∀ a, Z' a → Z a) (x : ExcV C Z ρ H n d cls dx) : ExcV C Z' ρ' H n d cls dx := by
  obtain ⟨a, e1, e2, e3⟩ := x
  refine ⟨a, e1, e2, ?_⟩
  rcases e3 with e3 | ⟨b, v, e3, e4, r⟩
  · exact .inl e3
  · exact .inr ⟨b, v, e3, e4, (noRef_ok deep _ _ h r).anti hz⟩
/-- of a call that works on a heap of its own -/
theorem own_step {C : RC} {Z Z' : Addr → Prop} {ρ ρ' : List (Option Addr)} {H H' : Hp} {h : HpD} (rh : RH C Z ρ H h) (s : Step Z [] H Z' ρ' H') : Step Z ρ H Z ρ H' ∧ RH C Z ρ H' h := by
  have st : Step Z ρ H Z ρ H' := ⟨rh.zin, fun a o e _ => s.keep a o e (by simp), s.imm, s.dom, fun _ _ e => e, fun _ e => .inl e, fun _ e => e, fun _ e => .inl e⟩
  refine ⟨st, rh.len, rh.inj, rh.zin, fun a z => let ⟨o, e⟩ := rh.zdom a z; s.dom a o e, fun n o e => (rh.obj n o e).step st fun a q => ?_⟩
  obtain ⟨o', e'⟩ := rh.zdom a (rh.zin a (mem_of_get q))
  rw [e', s.keep a o' e' (by simp)]
theorem RH.empty {C : RC} {Z : Addr → Prop} {ρ : List (Option Addr)} {H : Hp} {h : HpD} (rh : RH C Z ρ H h) : RH C Z [] H [] := ⟨rfl, fun i j a e => by simp at e, fun a e => by simp at e, rh.zdom, fun n o e => by simp at e⟩
theorem runD_post {C : RC} {Z : Addr → Prop} {ρ : List (Option Addr)} {H : Hp} {E : XK} {h : HpD} {F : Fd} {ds : List D} {vs : List V} {Q : VK} (rh : RH C Z ρ H h) (r : RVs C Z ρ H ds vs) (p : PostG C Z ρ H E (runD F ds h) (Hand C Q)) :
    ∃ ρ' h', RH C Z ρ' H h' ∧ RVs C Z ρ' H ds vs ∧ PostG C Z ρ' H E (F ds h') (Hand C Q) := by
  unfold runD at p
  split at p
  · rename_i hn
    refine ⟨[], [], rh.empty, noRefs_ok _ _ hn r, ?_⟩
    split at p
    · rename_i d h2 hF
      split at p
      · rename_i hd
        rw [hF]
        intro Z' ρ' H' s rh' v rv
        obtain ⟨st, rh2⟩ := own_step rh s
        exact p Z ρ H' st rh2 v ((noRef_ok deep _ _ hd rv).anti s.zle)
      · exact p.elim
    · rename_i n d h2 hF
      split at p
      · rename_i hd
        rw [hF]
        intro Z' ρ' H' s rh' cls dx x
        obtain ⟨st, rh2⟩ := own_step rh s
        exact p Z ρ H' st rh2 cls dx (excV_noRef hd s.zle x)
      · exact p.elim
    · exact p.elim
  · exact ⟨ρ, h, rh, r, p⟩
section
variable {G : Cfg} {x : Str} {p pos : Pos} {e : Expr} {es : List Expr} {fa : Fa} {n k : Nat} {F : Fd}
theorem call_post {C : RC} {Z : Addr → Prop} {ρ : List (Option Addr)} {H : Hp} {E : XK} {h : HpD} {ds : List D} {vs : List V} {Q : VK} (rh : RH C Z ρ H h) (r : RVs C Z ρ H ds vs) (p : PostG C Z ρ H E (match Nat.beq ds.length n with | true => runD F ds h | false => .bad) (Hand C Q)) :
    vs.length = n ∧ ∃ ρ' h', RH C Z ρ' H h' ∧ RVs C Z ρ' H ds vs ∧ PostG C Z ρ' H E (F ds h') (Hand C Q) := by
  cases en : Nat.beq ds.length n with
  | false => rw [en] at p; exact p.elim
  | true =>
    rw [en] at p
    exact ⟨by rw [← r.length]; exact Nat.eq_of_beq_eq_true en, runD_post rh r p⟩
theorem se_call (h : DefOk G k x n F) (hk : k ≤ G.lev) (hg : G.sc.names.lookup x = some .globalImplicit) (ha : SA G (e :: es) fa) (hdb : (x == ("__debug__" : Str)) = false := by decide)
    (he : ∀ env, starEach (e :: es) env = (false, eval e env) :: starEach es env := by intro _; rfl) (hpl : ∀ pos env, (backTo pos (starEach es env)).any (·.1) = false := by intro _ _; rfl) : SE G (.Call (.Name x p) (e :: es) [] pos) (fCallD n F fa) := by
  intro X W o tk
  obtain ⟨f, fd, ps, hm, hkp, hb, hl, hF⟩ := h.ex
  have F' : FnOk X.prog X.w X.K X.mg X.base (L2.CX X.prog X.w) k f fd ps (spD G n F) := by
    rw [o.prog, o.w, o.K, o.mg, o.base]; exact hF
  refine PE.by_ (pe_callSD (E := WE W) (dvs := []) (ds := []) F' (o.room.mono hk) (by show X.env.scope.names.lookup x = _; rw [o.sc]; exact hg) (by rw [o.mg]; exact hm) (by rw [o.K]; exact hkp) (by rw [o.K]; exact hb) .nil (fun σ => passAt tk σ) (ha X W o tk) hdb (he _) (hpl _ _)) fun σ H Q q => ?_
  obtain ⟨ν, Z, ρ, env, h, x, p⟩ := q
  refine ⟨ν, Z, ρ, env, h, x, (PostG.bind p).mono fun ds h1 Z1 ρ1 H1 e1 s1 rh1 p1 vs rs => ?_⟩
  obtain ⟨hl, ρ', h', a1, a2, a3⟩ := call_post rh1 rs p1
  rw [List.append_nil]
  exact ⟨hl, ν, Z1, ρ', h', ds, x.hb, a1, a2, a3⟩
theorem pe_call0S {X : Cx} {CX : CXT} {E : L2.St → XK} {f : Addr} {fd : FuncData} {ps : List Str} {sp : Sp} {dvs : List V} {ds : List Value} (F : FnOk X.prog X.w X.K X.mg X.base CX k f fd ps sp) (hr : Room k X.A) (hg : Gl X x) (hm : X.mg x = some (.ref f)) (hk : PySem.W.keepIn X.K (.ref f) = true) (hb : Binds X.K fd ps ds) (hd : Vals dvs ds) (hx : ∀ σ, PassesAt CX X σ (E σ))
    (hdb : (x == ("__debug__" : Str)) = false := by decide) : PE X (.Call (.Name x p) [] [] pos) (tCallSD sp dvs E tNil) := by
  refine ⟨fun pins s σ H Q I h => ?_⟩
  refine wpAny_Call_Name_kw (ld_glob I hg hm ?_ hdb)
  exact PySem.W.callWith_K0 I.kIn hk (run_fnSD F hr hb hd (hx σ) I .nil h)
theorem se_call0 (h : DefOk G k x n F) (hk : k ≤ G.lev) (hg : G.sc.names.lookup x = some .globalImplicit) (hdb : (x == ("__debug__" : Str)) = false := by decide) : SE G (.Call (.Name x p) [] [] pos) (fCallD n F faNil) := by
  intro X W o tk
  obtain ⟨f, fd, ps, hm, hkp, hb, hl, hF⟩ := h.ex
  have F' : FnOk X.prog X.w X.K X.mg X.base (L2.CX X.prog X.w) k f fd ps (spD G n F) := by
    rw [o.prog, o.w, o.K, o.mg, o.base]; exact hF
  refine PE.by_ (pe_call0S (E := WE W) (dvs := []) (ds := []) F' (o.room.mono hk) (by show X.env.scope.names.lookup x = _; rw [o.sc]; exact hg) (by rw [o.mg]; exact hm) (by rw [o.K]; exact hkp) (by rw [o.K]; exact hb) .nil (fun σ => passAt tk σ) hdb) fun σ H Q q => ?_
  obtain ⟨ν, Z, ρ, env, h, x, p⟩ := q
  obtain ⟨hl, ρ', h', a1, a2, a3⟩ := call_post x.rh .nil p
  exact ⟨hl, ν, Z, ρ', h', [], x.hb, a1, a2, a3⟩
end
/-! ### a def -/
def fRes (d : D) (h : HpD) (own : Bool) : Out D := match own with
  | true => (match fz h deep d with
    | some e => .ok e []
    | none => .bad)
  | false => .ok d h
def isNil : HpD → Bool
  | [] => true
  | _ => false
def fDef (N : Nat) (fs : Fs) : Fd := fun ds h => match fs (ds ++ List.replicate (N - ds.length) .und) h with
  | .ok (.nx _) h1 => fRes .non h1 (isNil h)
  | .ok (.rt d) h1 => fRes d h1 (isNil h)
  | .ok _ _ => .bad
  | .exc n d h1 => (match isNil h with
    | true => (match d with
      | .und => .exc n .und []
      | d => (match fz h1 deep d with
        | some e => .exc n e []
        | none => .bad))
    | false => .exc n d h1)
  | .bad => .bad
section
variable {C : RC} {Z Z' : Addr → Prop} {ρ ρ' : List (Option Addr)} {H H' : Hp} {h h' : HpD}
/-- back to the caller of a def with a heap of its own -/
theorem own_back (rh : RH C Z [] H []) (s : Step Z [] H Z' ρ' H') : Step Z [] H Z [] H' ∧ RH C Z [] H' [] :=
  ⟨⟨fun a e => by simp at e, s.keep, s.imm, s.dom, fun n a e => by simp at e, fun a e => by simp at e, fun _ e => e, fun _ e => .inl e⟩,
    ⟨rfl, fun i j a e => by simp at e, fun a e => by simp at e, fun a z => let ⟨o, e⟩ := rh.zdom a z; s.dom a o e, fun n o e => by simp at e⟩⟩
theorem fRes_post {E : XK} {Q : VK} {d : D} {v : V} (rh0 : RH C Z ρ H h) (s : Step Z ρ H Z' ρ' H') (rh : RH C Z' ρ' H' h') (r : RV C Z' ρ' H' d v) (p : PostG C Z ρ H E (fRes d h' (isNil h)) (Hand C Q)) : Q v H' := by
  cases hn : isNil h with
  | false => rw [hn] at p; exact p Z' ρ' H' s rh v r
  | true =>
    have e0 : h = [] := by cases h with | nil => rfl | cons => cases hn
    subst e0
    have er : ρ = [] := List.length_eq_zero_iff.mp rh0.len
    subst er
    rw [hn] at p
    have p : PostG C Z [] H E (match fz h' deep d with | some e => .ok e [] | none => .bad) (Hand C Q) := p
    cases hf : fz h' deep d with
    | none => rw [hf] at p; exact p.elim
    | some e =>
      rw [hf] at p
      obtain ⟨b1, b2⟩ := own_back rh0 s
      refine p Z [] H' b1 b2 v (fz_ok rh s.zle (fun n a q z => ?_) deep d e v hf r)
      rcases s.new a (mem_of_get q) with y | y
      · simp at y
      · obtain ⟨o, e⟩ := rh0.zdom a z
        rw [y] at e; cases e
end
section
variable {G : Cfg} {x qual : Str} {params : Arguments} {body : List Stmt} {scope : Scope} {f : Addr} {fd : FuncData} {N ps : List Str} {k n : Nat} {fs : Fs}
theorem def_fn (F : FunD G.K x qual params body scope [] [] f fd) (S : FnScope N ps scope) (hn : ps.length = n)
    (hs : SSs { G with N := N, sc := scope, lev := k, fnb := fun _ => true } body fs) : FnOk G.prog G.w G.K G.mg G.base (L2.CX G.prog G.w) (k + 1) f fd ps (spD G n (fDef N.length fs)) := by
  refine F.ok S (fun vs H Q E q => by rw [q.1, hn]) fun cdv A outer s H vs Q E hr hsp => ?_
  obtain ⟨hl, ν, Z, ρ, h, ds, hbx, rh, rs, p⟩ := hsp
  refine ⟨_, hs (cxOf (L2.CX G.prog G.w) G.prog G.w G.K G.mg G.base N qual scope f cdv A outer s H E) E ⟨⟨rfl, rfl, rfl, rfl, rfl, rfl, S.nd, rfl, rfl, hr, fun _ _ => .inl rfl⟩, takes_of rfl rfl rfl rfl, passes_of rfl⟩, ?_⟩
  have hN : n ≤ N.length := by have := congrArg List.length S.pre; rw [List.length_take, hn] at this; omega
  refine ⟨ν, Z, ρ, ds ++ List.replicate (N.length - ds.length) .und, h, ⟨hbx, rh, ⟨?_, fun i d e ne => ?_⟩⟩, ?_⟩
  · unfold L2.start
    simp [rs.length]
  · have hi : i < ds.length := by
      rcases Nat.lt_or_ge i ds.length with q | q
      · exact q
      · rw [List.getElem?_append_right q, List.getElem?_replicate] at e
        split at e
        · cases e; exact absurd rfl ne
        · cases e
    rw [List.getElem?_append_left hi] at e
    obtain ⟨v, e1, r1⟩ := rs.get e
    refine ⟨v, ?_, r1⟩
    unfold L2.start
    rw [List.getElem?_append_left (by rw [List.length_map, ← rs.length]; exact hi), List.getElem?_map, e1]; rfl
  · have p : PostG (G.rc ν) Z ρ H E (fDef N.length fs ds h) (Hand (G.rc ν) Q) := p
    unfold fDef at p
    show PostG (G.rc ν) Z ρ H E (fs (ds ++ List.replicate (N.length - ds.length) .und) h) _
    cases hfs : fs (ds ++ List.replicate (N.length - ds.length) .und) h with
    | bad => rw [hfs] at p; exact p
    | ok fl h1 =>
      rw [hfs] at p
      cases fl with
      | nx env => exact fun Z' ρ' H' s rh' σ re => fRes_post rh s rh' .non p
      | rt d => exact fun Z' ρ' H' s rh' v rv => fRes_post rh s rh' rv p
      | bk env => exact p.elim
      | ct env => exact p.elim
    | exc m d h1 =>
      rw [hfs] at p
      intro Z' ρ' H' s rh' cls dx ex
      have p : PostG (G.rc ν) Z ρ H E (match isNil h with
        | true => (match d with
          | .und => .exc m .und []
          | d => (match fz h1 deep d with
            | some e => .exc m e []
            | none => .bad))
        | false => .exc m d h1) (Hand (G.rc ν) Q) := p
      cases hni : isNil h with
      | false => rw [hni] at p; exact p Z' ρ' H' s rh' cls dx ex
      | true =>
        have e0 : h = [] := by cases h with | nil => rfl | cons => cases hni
        subst e0
        have er : ρ = [] := List.length_eq_zero_iff.mp rh.len
        subst er
        obtain ⟨b1, b2⟩ := own_back rh s
        rw [hni] at p
        obtain ⟨a, e1, e2, e3⟩ := ex
        rcases e3 with ⟨rfl, e3⟩ | ⟨b, v, e3, e4, r⟩
        · exact p Z [] H' b1 b2 cls dx ⟨a, e1, e2, .inl ⟨rfl, e3⟩⟩
        · have p : PostG (G.rc ν) Z [] H E (match d with
            | .und => .exc m .und []
            | d => (match fz h1 deep d with
              | some e => .exc m e []
              | none => .bad)) (Hand (G.rc ν) Q) := p
          have hf : ∀ e, fz h1 deep d = some e → RV (G.rc ν) Z [] H' e v := fun e hf => fz_ok rh' s.zle (fun n a q z => by
            rcases s.new a (mem_of_get q) with y | y
            · simp at y
            · obtain ⟨o, e⟩ := rh.zdom a z
              rw [y] at e; cases e) deep d e v hf r
          have fin : ∀ e, RV (G.rc ν) Z [] H' e v → PostG (G.rc ν) Z [] H E (.exc m e []) (Hand (G.rc ν) Q) → E cls dx H' := fun e r p => p Z [] H' b1 b2 cls dx ⟨a, e1, e2, .inr ⟨b, v, e3, e4, r⟩⟩
          have fin2 : PostG (G.rc ν) Z [] H E (match fz h1 deep d with | some e => .exc m e [] | none => .bad) (Hand (G.rc ν) Q) → E cls dx H' := fun p => by
            cases hz : fz h1 deep d with
            | none => rw [hz] at p; exact p.elim
            | some e => rw [hz] at p; exact fin e (hf e hz) p
          cases d with
          | und => cases r
          | _ => exact fin2 p
theorem def_ok (F : FunD G.K x qual params body scope [] [] f fd) (S : FnScope N ps scope) (hm : G.mg x = some (.ref f)) (hb : Binds G.K fd ps []) (hn : ps.length = n)
    (hs : SSs { G with N := N, sc := scope, lev := k, fnb := fun _ => true } body fs) : DefOk G (k + 1) x n (fDef N.length fs) :=
  ⟨f, fd, ps, hm, F.kp, hb, hn, def_fn F S hn hs⟩
end
end Eg

set_option Elab.async false
set_option linter.all false
set_option maxRecDepth 100000
/-! The engine, part 14: comprehensions of two clauses. -/
namespace Eg
open PySem PySem.Spec PyProof.Rows L2
def lcGo2 (w : Watch) (fg : Fg) (ft : Fb) (fi1 : Fi) (fg1 : Fg) (ft1 : Fb) (fe : Fe) (vs1 : List Nat) (env : EnvD) : List D → HpD → Out (List D)
  | [], h => (match w h with
    | true => .ok [] h
    | false => .bad)
  | d :: ds, h => match w h with
    | true => (match fg d env with
      | none => .bad
      | some env' => (noX (ft env' h)).bind fun b h => match b with
        | true => (noX (fi1 env' h)).bind fun sr h => (noX (lcGo sr.2 fg1 ft1 fe (wipeE env' vs1) sr.1 h)).bind fun ys h => (lcGo2 w fg ft fi1 fg1 ft1 fe vs1 env ds h).bind fun zs h => .ok (ys ++ zs) h
        | false => lcGo2 w fg ft fi1 fg1 ft1 fe vs1 env ds h)
    | false => .bad
def okShort : Out (List D) → Out (List D)
  | .ok ys h => (match short ys most with
    | true => .ok ys h
    | false => .bad)
  | _ => .bad
def fLc2 (vs vs1 : List Nat) (fi : Fi) (fg : Fg) (ft : Fb) (fi1 : Fi) (fg1 : Fg) (ft1 : Fb) (fe : Fe) : Fa := fun env h => (fi env h).bind fun sr h => okShort (lcGo2 sr.2 fg ft fi1 fg1 ft1 fe vs1 (wipeE env vs) sr.1 h)
section
variable {w : Watch} {fg fg1 : Fg} {ft ft1 : Fb} {fi1 : Fi} {fe : Fe} {vs1 : List Nat} {env : EnvD} {d : D} {ds : List D} {h h' : HpD} {ys : List D}
theorem lcGo2_nil (e : lcGo2 w fg ft fi1 fg1 ft1 fe vs1 env [] h = .ok ys h') : w h = true ∧ ys = [] ∧ h' = h := by
  unfold lcGo2 at e
  split at e
  · rename_i hw
    cases e
    exact ⟨hw, rfl, rfl⟩
  · cases e
theorem lcGo2_cons (e : lcGo2 w fg ft fi1 fg1 ft1 fe vs1 env (d :: ds) h = .ok ys h') : w h = true ∧ ∃ env' b h1, fg d env = some env' ∧ ft env' h = .ok b h1 ∧
    ((b = true ∧ ∃ ds1 w1 h2 xs h3 zs, fi1 env' h1 = .ok (ds1, w1) h2 ∧ lcGo w1 fg1 ft1 fe (wipeE env' vs1) ds1 h2 = .ok xs h3 ∧ lcGo2 w fg ft fi1 fg1 ft1 fe vs1 env ds h3 = .ok zs h' ∧ ys = xs ++ zs) ∨
      (b = false ∧ lcGo2 w fg ft fi1 fg1 ft1 fe vs1 env ds h1 = .ok ys h')) := by
  unfold lcGo2 at e
  split at e
  · rename_i hw
    refine ⟨hw, ?_⟩
    cases eg : fg d env with
    | none => rw [eg] at e; cases e
    | some env' =>
      rw [eg] at e
      dsimp only at e
      obtain ⟨b, h1, e1, e⟩ := bind_ok e
      refine ⟨env', b, h1, rfl, noX_ok e1, ?_⟩
      cases b with
      | false => exact .inr ⟨rfl, e⟩
      | true =>
        dsimp only at e
        obtain ⟨⟨ds1, w1⟩, h2, e2, e⟩ := bind_ok e
        obtain ⟨xs, h3, e3, e⟩ := bind_ok e
        obtain ⟨zs, h4, e4, e⟩ := bind_ok e
        cases e
        exact .inl ⟨rfl, ds1, w1, h2, xs, h3, zs, noX_ok e2, noX_ok e3, e4, rfl⟩
  · cases e
end
theorem grow_w {C : RC} {Z : Addr → Prop} {ρ : List (Option Addr)} {H : Hp} {p : Addr} {xs ys : List V} (hz : Z p) (hp : H p = some (.lst xs)) : StepW Z ρ H Z ρ (upd H p (.lst ys)) where
  keep := fun a o e n => by rw [upd_ne (show a ≠ p from fun q => n (by rw [q]; exact hz))]; exact e
  imm := fun a o e i => by
    rw [upd_ne (show a ≠ p from fun q => by rw [q, hp] at e; cases e; exact i)]; exact e
  dom := fun a o e => by
    by_cases q : a = p
    · rw [q]; exact ⟨_, upd_same⟩
    · rw [upd_ne q]; exact ⟨o, e⟩
  rfs := fun _ _ e => e
  zle := fun _ e => e
  znew := fun _ e => .inl e
section
variable {G : Cfg} {W : WX} {σ : L2.St} {H : Hp} {Q : VK}
theorem lc2_reading {scope : Scope} {vs vs1 sl sl1 : List Nat} {fi fi1 : Fi} {fg fg1 : Fg} {ft ft1 : Fb} {fe : Fe} (hsl : ∀ i ∈ sl, i ∈ vs) (hsl1 : ∀ i ∈ sl1, i ∈ vs1) (q : rF G W (fLc2 vs vs1 fi fg ft fi1 fg1 ft1 fe) σ H Q) :
    tLc2 (rI' G W fi) (rG (G.blk scope) fg sl) (rT (G.blk scope) W0 ft) (rI' (G.blk scope) W0 fi1) (rG (G.blk scope) fg1 sl1) (rT (G.blk scope) W0 ft1) (rE (G.blk scope) W0 fe) vs vs1 σ H Q := by
  obtain ⟨ν, Z, ρ, env, h, x, p⟩ := q
  refine ⟨ν, Z, ρ, env, h, x, (PostG.bind p).mono fun sr h1 Z1 ρ1 H1 e1 s1 rh1 p1 => fun J gJ => fun D nD => ?_⟩
  obtain ⟨ds, w⟩ := sr
  have gJ : Goes (G.rc ν) J Z1 ρ1 H1 (ds, w) := gJ
  have p1 : PostG (G.rc ν) Z1 ρ1 H1 (fun c d H' => W c d σ H') (okShort (lcGo2 w fg ft fi1 fg1 ft1 fe vs1 (wipeE env vs) ds h1)) (HandF (G.rc ν) H Q) := p1
  cases eo : lcGo2 w fg ft fi1 fg1 ft1 fe vs1 (wipeE env vs) ds h1 with
  | bad => rw [eo] at p1; exact p1.elim
  | exc n d h' => rw [eo] at p1; exact p1.elim
  | ok ys hE =>
  rw [eo] at p1
  cases hs : short ys most with
  | false =>
    have p1 : PostG (G.rc ν) Z1 ρ1 H1 _ (match short ys most with | true => .ok ys hE | false => .bad) (HandF (G.rc ν) H Q) := p1
    rw [hs] at p1; exact p1.elim
  | true =>
  have p1 : PostG (G.rc ν) Z1 ρ1 H1 (fun c d H' => W c d σ H') (match short ys most with | true => .ok ys hE | false => .bad) (HandF (G.rc ν) H Q) := p1
  rw [hs] at p1
  have hD : H D = none := by
    cases e : H D with
    | none => rfl
    | some o => obtain ⟨o', e'⟩ := s1.dom D o e; rw [nD] at e'; cases e'
  have hlen := short_le hs
  refine ⟨fun i m Hc => ∃ Z2 ρ2 h2 as zs, i ≤ ds.length ∧ m = ds.length - i ∧ Beside (G.rc ν) Z1 ρ1 H1 Z2 ρ2 Hc h2 D as ∧ lcGo2 w fg ft fi1 fg1 ft1 fe vs1 (wipeE env vs) (ds.drop i) h2 = .ok zs hE ∧ as ++ zs = ys,
    ⟨ds.length, _, ρ1, h1, [], ys, Nat.zero_le _, rfl, begin_beside rh1 nD, eo, rfl⟩, ?_⟩
  rintro i m Hc ⟨Z2, ρ2, h2, as, zs, hi, rfl, b, eg2, ea⟩
  by_cases hlt : i < ds.length
  · right
    have ed : ds.drop i = ds[i] :: ds.drop (i + 1) := (List.drop_eq_getElem_cons hlt)
    rw [ed] at eg2
    obtain ⟨hw, env', bb, h4, eg, et, ec⟩ := lcGo2_cons eg2
    obtain ⟨hgo, hy⟩ := (gJ Z2 ρ2 Hc h2 b.st.w b.rh hw).1 i ds[i] (List.getElem?_eq_getElem hlt)
    refine ⟨hgo, fun H' => ∃ Z2 ρ2 h2 as zs, i + 1 ≤ ds.length ∧ Beside (G.rc ν) Z1 ρ1 H1 Z2 ρ2 H' h2 D as ∧ lcGo2 w fg ft fi1 fg1 ft1 fe vs1 (wipeE env vs) (ds.drop (i + 1)) h2 = .ok zs hE ∧ as ++ zs = ys, fun H' n => ?_, fun v H' y => ?_⟩
    · obtain ⟨Z3, ρ3, h3, as3, zs3, a1, a2, a3, a4⟩ := n
      exact ⟨ds.length - (i + 1), by omega, Z3, ρ3, h3, as3, zs3, a1, rfl, a2, a3, a4⟩
    · obtain ⟨s3, rh3, rv⟩ := hy v H' y
      have b3 := b.later s3 rh3
      have re3 : RE (G.rc ν) Z2 ρ2 H' (wipeE env vs) (L2.wipe σ vs) := ((x.re.step s1).step b3.st).wipe vs
      refine ⟨ν, Z2, ρ2, wipeE env vs, h2, ds[i], env', ⟨x.hb, rh3, re3⟩, rv, eg, fun σ2 re2 w2 => ⟨(w2 vs hsl).trans (wipe_idem σ vs), ?_⟩⟩
      refine ⟨ν, Z2, ρ2, env', h2, ⟨x.hb, rh3, re2⟩, ?_⟩
      rw [et]
      intro Z4 ρ4 H4 s4 rh4
      have b4 := b3.later s4 rh4
      rcases ec with ⟨rfl, ds1, w1, h5, xs1, hI, zs', ei, el, er, ez⟩ | ⟨rfl, ec⟩
      · show (if true = true then _ else _)
        rw [if_pos rfl]
        refine ⟨ν, Z4, ρ4, env', h4, ⟨x.hb, rh4, re2.step s4⟩, ?_⟩
        show PostG _ Z4 ρ4 H4 _ (fi1 env' h4) _
        rw [ei]
        intro Z5 ρ5 H5 s5 rh5 J1 gJ1
        have gJ1 : Goes (G.rc ν) J1 Z5 ρ5 H5 (ds1, w1) := gJ1
        have b5 := b4.later s5 rh5
        have re5 := (re2.step s4).step s5
        have hlen1 : xs1.length ≤ ds1.length := lcGo_len _ _ _ _ el
        refine ⟨fun j k Hc => ∃ Z6 ρ6 h6 as1 zs1, j ≤ ds1.length ∧ k = ds1.length - j ∧ StepW Z5 ρ5 H5 Z6 ρ6 Hc ∧ Beside (G.rc ν) Z1 ρ1 H1 Z6 ρ6 Hc h6 D as1 ∧ lcGo w1 fg1 ft1 fe (wipeE env' vs1) (ds1.drop j) h6 = .ok zs1 hI ∧ as1 ++ (zs1 ++ zs') = ys,
          ⟨ds1.length, Z5, ρ5, h5, as, xs1, Nat.zero_le _, rfl, (Step.refl rh5.zin).w, b5, el, by rw [← ez]; exact ea⟩, ?_⟩
        rintro j k Hj ⟨Z6, ρ6, h6, as1, zs1, hj, rfl, s6, b6, el6, ea6⟩
        by_cases hjt : j < ds1.length
        · right
          have ed1 : ds1.drop j = ds1[j] :: ds1.drop (j + 1) := (List.drop_eq_getElem_cons hjt)
          rw [ed1] at el6
          obtain ⟨hw1, env1, b1, h8, eg1, et1, ec1⟩ := lcGo_cons el6
          obtain ⟨hgo1, hy1⟩ := (gJ1 Z6 ρ6 Hj h6 s6 b6.rh hw1).1 j ds1[j] (List.getElem?_eq_getElem hjt)
          refine ⟨hgo1, fun H' => ∃ Z6 ρ6 h6 as1 zs1, j + 1 ≤ ds1.length ∧ StepW Z5 ρ5 H5 Z6 ρ6 H' ∧ Beside (G.rc ν) Z1 ρ1 H1 Z6 ρ6 H' h6 D as1 ∧ lcGo w1 fg1 ft1 fe (wipeE env' vs1) (ds1.drop (j + 1)) h6 = .ok zs1 hI ∧ as1 ++ (zs1 ++ zs') = ys, fun H' n => ?_, fun v1 H7 y1 => ?_⟩
          · obtain ⟨Z7, ρ7, h7, as7, zs7, a1, a2, a3, a4, a5⟩ := n
            exact ⟨ds1.length - (j + 1), by omega, Z7, ρ7, h7, as7, zs7, a1, rfl, a2, a3, a4, a5⟩
          · obtain ⟨s7, rh7, rv7⟩ := hy1 v1 H7 y1
            have b7 := b6.later s7 rh7
            have s67 := s6.trans s7.w
            have re7 : RE (G.rc ν) Z6 ρ6 H7 (wipeE env' vs1) (L2.wipe σ2 vs1) := (re5.stepW s67).wipe vs1
            refine ⟨ν, Z6, ρ6, wipeE env' vs1, h6, ds1[j], env1, ⟨x.hb, rh7, re7⟩, rv7, eg1, fun σ3 re8 w8 => ⟨(w8 vs1 hsl1).trans (wipe_idem σ2 vs1), ?_⟩⟩
            refine ⟨ν, Z6, ρ6, env1, h6, ⟨x.hb, rh7, re8⟩, ?_⟩
            rw [et1]
            intro Z8 ρ8 H8 s8 rh8
            have b8 := b7.later s8 rh8
            rcases ec1 with ⟨rfl, yd, h9, zs9, ee, el9, ez9⟩ | ⟨rfl, el9⟩
            · show (if true = true then _ else _)
              rw [if_pos rfl]
              refine ⟨ν, Z8, ρ8, env1, h8, ⟨x.hb, rh8, re8.step s8⟩, ?_⟩
              show PostG _ Z8 ρ8 H8 _ (fe env1 h8) _
              rw [ee]
              intro Z9 ρ9 H9 s9 rh9 yv ry
              have b9 := b8.later s9 rh9
              obtain ⟨xs, hx, rx⟩ := b9.at_
              subst ez9
              have hl9 : as1.length < ys.length := by rw [← ea6]; simp
              refine ⟨xs, hx, by rw [← rx.length]; exact most_lt (by omega), Z9, ρ9, h9, as1 ++ [yd], zs9, hjt, ?_, b9.grow nD hx rx ry, el9, by simpa using ea6⟩
              exact ((s67.trans s8.w).trans s9.w).trans (grow_w (C := G.rc ν) b9.zD hx)
            · show (if false = true then _ else _)
              rw [if_neg (by decide)]
              exact ⟨Z8, ρ8, h8, as1, zs1, hjt, s67.trans s8.w, b8, el9, ea6⟩
        · left
          have hj' : j = ds1.length := by omega
          subst hj'
          rw [List.drop_length] at el6
          obtain ⟨hw1, rfl, rfl⟩ := lcGo_nil el6
          refine ⟨(gJ1 Z6 ρ6 Hj _ s6 b6.rh hw1).2, ?_⟩
          exact ⟨Z6, ρ6, _, as1, zs', hlt, b6, er, by simpa using ea6⟩
      · show (if false = true then _ else _)
        rw [if_neg (by decide)]
        exact ⟨Z4, ρ4, h4, as, zs, hlt, b4, ec, ea⟩
  · left
    have hi' : i = ds.length := by omega
    subst hi'
    rw [List.drop_length] at eg2
    obtain ⟨hw, rfl, rfl⟩ := lcGo2_nil eg2
    refine ⟨(gJ Z2 ρ2 Hc _ b.st.w b.rh hw).2, ?_⟩
    obtain ⟨xs, hx, rx⟩ := b.at_
    rw [List.append_nil] at ea
    subst ea
    exact p1 Z2 ρ2 Hc b.st b.rh xs D b.zD b.nD hD hx rx
end
section
variable {G : Cfg} {elt tg iter tg1 iter1 : Expr} {ifs ifs1 : List Expr} {scope : Scope} {own : List (Str × Nat)} {pos : Pos} {fi fi1 : Fi} {fg fg1 : Fg} {ft ft1 : Fb} {fe : Fe} {sl sl1 : List Nat}
theorem sf_lc2 (own : List (Str × Nat)) (hi : SI G tg iter fi) (ok : blkC G.N G.sc scope own = true) (hg : SG (G.blk scope) tg fg sl) (hsl : (sl.all fun i => (own.map (·.2)).contains i) = true) (ht : STs (G.blk scope) ifs ft)
    (hi1 : SI (G.blk scope) tg1 iter1 fi1) (hg1 : SG (G.blk scope) tg1 fg1 sl1) (hsl1 : (sl1.all fun i => (own.map (·.2)).contains i) = true) (ht1 : STs (G.blk scope) ifs1 ft1) (he : SE (G.blk scope) elt fe)
    (hs : ∀ env x, foldedSetIterable iter env x = pure x := by intro _ _; rfl) (hs1 : ∀ env x, foldedSetIterable iter1 env x = pure x := by intro _ _; rfl) :
    SF G (.ListComp elt [⟨tg, iter, ifs, 0⟩, ⟨tg1, iter1, ifs1, 0⟩] scope pos) (fLc2 (own.map (·.2)) sl1 fi fg ft fi1 fg1 ft1 fe) := by
  intro X W o tk
  have hsl' : ∀ i ∈ sl, i ∈ own.map (·.2) := fun i hi => by
    have := List.all_eq_true.mp hsl i hi
    simpa using this
  have hsl1' : ∀ i ∈ sl1, i ∈ own.map (·.2) := fun i hi => by
    have := List.all_eq_true.mp hsl1 i hi
    simpa using this
  have ok' : BlkOk X.N X.env.scope scope own := by rw [o.N, o.sc]; exact blkOk_by ok
  exact PE.by_ (pe_lc2 (own := own) (vs1 := sl1) o.calm (by rw [o.N]; exact o.nd) (hi X W o tk) ok' hsl1' (fun s H C cl fp => hg _ (okX_blk o s H scope C cl fp)) (fun s H C cl fp => ht _ W0 (okX_blk o s H scope C cl fp) takes0)
    (fun s H C cl fp => hi1 _ W0 (okX_blk o s H scope C cl fp) takes0) (fun s H C cl fp => hg1 _ (okX_blk o s H scope C cl fp)) (fun s H C cl fp => ht1 _ W0 (okX_blk o s H scope C cl fp) takes0)
    (fun s H C cl fp => he _ W0 (okX_blk o s H scope C cl fp) takes0) (hs _) hs1) fun σ H Q q => lc2_reading hsl' (fun _ h => h) q
end
end Eg

set_option Elab.async false
set_option linter.all false
set_option maxRecDepth 100000
/-! The engine, part 15: sorted, sorted(set(..)), dict(..). -/
namespace Eg
open PySem PySem.Spec PyProof.Rows L2
abbrev Zf := Int × List Int
def val (ν : List Int) (z : Zf) : Int := z.1 + dot z.2 ν
def ltK (β : Box) (a b : Zf) : Option Bool := isNeg β (a.1 - b.1) (subK a.2 b.2)
theorem ltK_ok {β : Box} {ν : List Int} {a b : Zf} {t : Bool} (hb : inBox β ν) (e : ltK β a b = some t) : t = decide (val ν a < val ν b) := by
  have := isNeg_ok hb e
  unfold subK at this
  rw [dot_add, dot_mul] at this
  rw [this]
  unfold val
  rw [decide_eq_decide]
  omega
def insK (β : Box) (p : Zf × D) : List (Zf × D) → Option (List (Zf × D))
  | [] => some [p]
  | q :: r => match ltK β q.1 p.1 with
    | some true => (match insK β p r with
      | some r' => some (q :: r')
      | none => none)
    | some false => some (p :: q :: r)
    | none => none
def sortK (β : Box) : List (Zf × D) → Option (List (Zf × D))
  | [] => some []
  | p :: r => match sortK β r with
    | some r' => insK β p r'
    | none => none
theorem insK_ok {β : Box} {ν : List Int} (hb : inBox β ν) {p : Zf × D} : ∀ {l l' : List (Zf × D)}, insK β p l = some l' → l'.Perm (p :: l) ∧ (l.Pairwise (fun a b => val ν a.1 ≤ val ν b.1) → l'.Pairwise (fun a b => val ν a.1 ≤ val ν b.1))
  | [], l', e => by
    cases e
    exact ⟨.refl _, fun _ => by simp⟩
  | q :: r, l', e => by
    unfold insK at e
    split at e
    · rename_i h1
      split at e
      · rename_i r' h2
        cases e
        obtain ⟨i1, i2⟩ := insK_ok hb h2
        have lt : val ν q.1 < val ν p.1 := of_decide_eq_true (ltK_ok hb h1).symm
        refine ⟨(i1.cons q).trans (.swap p q r), fun pw => ?_⟩
        obtain ⟨p1, p2⟩ := List.pairwise_cons.mp pw
        refine List.pairwise_cons.mpr ⟨fun x hx => ?_, i2 p2⟩
        rcases List.mem_cons.mp (i1.mem_iff.mp hx) with hx | hx
        · rw [hx]; omega
        · exact p1 x hx
      · cases e
    · rename_i h1
      cases e
      have lt := of_decide_eq_false (ltK_ok hb h1).symm
      refine ⟨.refl _, fun pw => ?_⟩
      obtain ⟨p1, p2⟩ := List.pairwise_cons.mp pw
      refine List.pairwise_cons.mpr ⟨fun x hx => ?_, pw⟩
      rcases List.mem_cons.mp hx with hx | hx
      · rw [hx]; omega
      · have := p1 x hx; omega
    · cases e
theorem sortK_ok {β : Box} {ν : List Int} (hb : inBox β ν) : ∀ {l l' : List (Zf × D)}, sortK β l = some l' → l'.Perm l ∧ l'.Pairwise (fun a b => val ν a.1 ≤ val ν b.1)
  | [], l', e => by
    cases e
    exact ⟨.refl _, .nil⟩
  | p :: r, l', e => by
    unfold sortK at e
    split at e
    · rename_i r' h1
      obtain ⟨i1, i2⟩ := sortK_ok hb h1
      obtain ⟨j1, j2⟩ := insK_ok hb e
      exact ⟨j1.trans (i1.cons p), j2 i2⟩
    · cases e
theorem pairwise_eq {a b : List Int} (h1 : a.Pairwise (· ≤ ·)) (h2 : b.Pairwise (· ≤ ·)) (p : a.Perm b) : a = b := List.Perm.eq_of_pairwise (fun _ _ _ _ x y => Int.le_antisymm x y) h1 h2 p
/-! ### ints -/
def keysI : List D → Option (List (Zf × D))
  | [] => some []
  | d :: r => match zof d with
    | some z => (match keysI r with
      | some l => some ((z, d) :: l)
      | none => none)
    | none => none
def opSortI (β : Box) (ds : List D) (h : HpD) : Out (List D) := match ds with
  | [d] => (match lookL h d with
    | some es => (match keysI es with
      | some l => (match sortK β l with
        | some l' => .ok (l'.map (·.2)) h
        | none => .bad)
      | none => .bad)
    | none => .bad)
  | _ => .bad
section
variable {G : Cfg} {C : RC} {ν : List Int} {Z : Addr → Prop} {ρ : List (Option Addr)} {H : Hp} {h : HpD}
theorem keysI_ok : ∀ {ds : List D} {xs : List V} {l : List (Zf × D)}, keysI ds = some l → RVs C Z ρ H ds xs → ∃ ns : List Int, xs = ns.map V.int ∧ l.map (fun p => val C.ν p.1) = ns ∧ ∀ p ∈ l, zof p.2 = some p.1
  | [], _, l, e, .nil => by cases e; exact ⟨[], rfl, rfl, fun _ h => by simp at h⟩
  | d :: r, _, l, e, .cons q t => by
    unfold keysI at e
    split at e
    · rename_i z hz
      split at e
      · rename_i l0 hl
        cases e
        obtain ⟨ns, h1, h2, h3⟩ := keysI_ok hl t
        refine ⟨val C.ν z :: ns, ?_, by rw [List.map_cons, h2], fun p hp => ?_⟩
        · rw [zof_ok hz q, h1]; rfl
        · rcases List.mem_cons.mp hp with hp | hp
          · rw [hp]; exact hz
          · exact h3 p hp
      · cases e
    · cases e
theorem zof_rv {d : D} {z : Zf} (e : zof d = some z) : RV C Z ρ H d (.int (val C.ν z)) := by
  cases d <;> simp [zof] at e
  · subst e; unfold val; rw [dot_nil, Int.add_zero]; exact .int _
  · subst e; exact .lin _ _ rfl
theorem zof_rvs : ∀ {l : List (Zf × D)}, (∀ p ∈ l, zof p.2 = some p.1) → RVs C Z ρ H (l.map (·.2)) ((l.map fun p => val C.ν p.1).map V.int)
  | [], _ => .nil
  | p :: r, h => .cons (zof_rv (h p (by simp))) (zof_rvs fun q hq => h q (by simp [hq]))
theorem sortI_ok {l l' : List (Zf × D)} {ns ns' : List Int} (hb : inBox G.β ν) (hs : sortK G.β l = some l') (e : l.map (fun p => val ν p.1) = ns) (hz : ∀ p ∈ l, zof p.2 = some p.1) (hp : ns'.Perm ns) (hw : ns'.Pairwise (· ≤ ·)) : RVs (G.rc ν) Z ρ H (l'.map (·.2)) (ns'.map V.int) := by
  obtain ⟨p1, p2⟩ := sortK_ok hb hs
  have e2 : l'.map (fun p => val ν p.1) = ns' := pairwise_eq (List.pairwise_map.mpr p2) hw (by rw [← e] at hp; exact (p1.map _).trans hp.symm)
  rw [← e2]
  exact zof_rvs (C := G.rc ν) fun p h => hz p (p1.mem_iff.mp h)
end
def rSortI' (K : PySem.W.Frag) : List V → Hp → VK → Prop := rSortedI K
theorem cr_sortI' : ∀ X, OkX G X → CallR X (.builtin "sorted") (rSortI' X.K) := fun X o => cr_sortedI
theorem im_sortI {G : Cfg} : ImplF G (rSortI' G.K) (opSortI G.β) := by
  intro ν Z ρ H H0 E h ds vs Q hb x r s0 p
  unfold opSortI at p
  split at p
  · obtain ⟨v, rfl, rv⟩ := r.one
    split at p
    · rename_i es hl
      split at p
      · rename_i l hk
        split at p
        · rename_i l' hs
          obtain ⟨a, xs, rfl, ha, rs⟩ := lookL_ok x hl rv
          obtain ⟨ns, rfl, e1, e2⟩ := keysI_ok hk rs
          exact ⟨a, ns, rfl, .of ha, fun ns' q hp hw hq => handF s0 x (sortI_ok hb hs e1 e2 hp hw) hq p⟩
        · exact p.elim
      · exact p.elim
    · exact p.elim
  · exact p.elim
/-! ### the keys of a dict -/
def intK : List Key → Option (List Int)
  | [] => some []
  | .inl i :: r => (match intK r with
    | some l => some (i :: l)
    | none => none)
  | .inr _ :: _ => none
theorem intK_ok : ∀ {ks : List Key} {l : List Int}, intK ks = some l → ks = l.map Sum.inl
  | [], l, e => by cases e; rfl
  | .inl i :: r, l, e => by
    unfold intK at e
    split at e
    · rename_i l0 h0
      cases e
      rw [intK_ok h0]; rfl
    · cases e
def opSortDI (β : Box) (ds : List D) (h : HpD) : Out (List D) := match ds with
  | [d] => (match lookD h d with
    | some (ks, _) => (match intK ks with
      | some l => (match Nat.blt l.length 64 with
        | true => (match sortK β (l.map fun i => ((i, []), .int i)) with
          | some l' => .ok (l'.map (·.2)) h
          | none => .bad)
        | false => .bad)
      | none => .bad)
    | none => .bad)
  | _ => .bad
def rSortDI' (_ : PySem.W.Frag) : List V → Hp → VK → Prop := fun xs H Q => ∃ (a : Addr) (kvs : List (Key × V)) (ks : List Int), xs = [.ref a] ∧ Rd H a (.dK kvs) ∧ kvs.map (·.1) = ks.map Sum.inl ∧ ks.length < 64 ∧
    ∀ (ys : List Int) (p : Addr), ys.Perm ks → ys.Pairwise (· ≤ ·) → H p = none → Q (.ref p) (upd H p (.lst (ys.map V.int)))
theorem cr_sortDI' : ∀ X, OkX G X → CallR X (.builtin "sorted") (rSortDI' X.K) := fun X o => call_sortedDI o.calm
theorem im_sortDI {G : Cfg} : ImplF G (rSortDI' G.K) (opSortDI G.β) := by
  intro ν Z ρ H H0 E h ds vs Q hb x r s0 p
  unfold opSortDI at p
  split at p
  · obtain ⟨v, rfl, rv⟩ := r.one
    split at p
    · rename_i ks ds' hl
      split at p
      · rename_i l hk
        split at p
        · rename_i h64
          split at p
          · rename_i l' hs
            obtain ⟨a, kvs, rfl, ha, e1, rs⟩ := lookD_ok x hl rv
            refine ⟨a, kvs, l, rfl, .of ha, by rw [e1, intK_ok hk], by have := Nat.le_of_ble_eq_true h64; omega, fun ys q hp hw hq => handF s0 x (sortI_ok hb hs ?_ ?_ hp hw) hq p⟩
            · rw [List.map_map]
              have : (fun p : Zf × D => val ν p.1) ∘ (fun i : Int => (((i, []), .int i) : Zf × D)) = id := by
                funext i
                show i + dot [] ν = i
                rw [dot_nil, Int.add_zero]
              rw [this, List.map_id]
            · intro p hp
              obtain ⟨i, _, rfl⟩ := List.mem_map.mp hp
              rfl
          · exact p.elim
        · exact p.elim
      · exact p.elim
    · exact p.elim
  · exact p.elim
/-! ### tuples of ints -/
def big : Int := 1000000000000000
/-- the code of a tuple, with its power -/
def cdF (β : Box) : List D → Option (Zf × Int)
  | [] => some ((0, []), 1)
  | d :: r => match cdF β r with
    | some ((c, ks), w) => (match zof d with
      | some (c1, ks1) => (match isNeg β c1 ks1 with
        | some false => (match isNeg β (c1 - big) ks1 with
          | some true => some ((c1 * w + c, addK (mulK w ks1) ks), w * big)
          | _ => none)
        | _ => none)
      | none => none)
    | none => none
def keysT (β : Box) (n : Nat) : List D → Option (List (Zf × D))
  | [] => some []
  | .tup es :: r => (match Nat.beq es.length n with
    | true => (match cdF β es with
      | some (z, _) => (match keysT β n r with
        | some l => some ((z, .tup es) :: l)
        | none => none)
      | none => none)
    | false => none)
  | _ :: _ => none
section
variable {C : RC} {ν : List Int} {Z : Addr → Prop} {ρ : List (Option Addr)} {H : Hp} {h : HpD} {β : Box}
theorem cdF_ok (hb : inBox β C.ν) : ∀ {es : List D} {vs : List V} {z : Zf} {w : Int}, cdF β es = some (z, w) → RVs C Z ρ H es vs → ∃ ns : List Int, vs = ns.map V.int ∧ ns.length = es.length ∧ w = big ^ ns.length ∧ val C.ν z = TS.code big ns ∧ TS.Bd big ns
  | [], _, z, w, e, .nil => by
    cases e
    exact ⟨[], rfl, rfl, by simp, by unfold val; rw [dot_nil]; rfl, fun m hm => by simp at hm⟩
  | d :: r, _, z, w, e, .cons q t => by
    unfold cdF at e
    split at e
    · rename_i c ks w0 h0
      split at e
      · rename_i c1 ks1 hz
        split at e
        · rename_i n1
          split at e
          · rename_i n2
            cases e
            obtain ⟨ns, h1, h2, h3, h4, h5⟩ := cdF_ok hb h0 t
            have m1 := of_decide_eq_false (isNeg_ok hb n1).symm
            have m2 := of_decide_eq_true (isNeg_ok hb n2).symm
            refine ⟨(c1 + dot ks1 C.ν) :: ns, ?_, by simp [h2], by rw [h3, List.length_cons, Int.pow_succ], ?_, fun m hm => ?_⟩
            · rw [zof_ok hz q, h1]; rfl
            · show c1 * w0 + c + dot (addK (mulK w0 ks1) ks) C.ν = (c1 + dot ks1 C.ν) * big ^ ns.length + TS.code big ns
              rw [← h4, ← h3, dot_add, dot_mul]
              show c1 * w0 + c + (w0 * dot ks1 C.ν + dot ks C.ν) = (c1 + dot ks1 C.ν) * w0 + (c + dot ks C.ν)
              rw [Int.add_mul, Int.mul_comm w0]
              omega
            · rcases List.mem_cons.mp hm with hm | hm
              · rw [hm]; constructor <;> omega
              · exact h5 m hm
          · cases e
        · cases e
      · cases e
    · cases e
theorem code_inj {B : Int} : ∀ {ns ms : List Int}, ns.length = ms.length → TS.Bd B ns → TS.Bd B ms → TS.code B ns = TS.code B ms → ns = ms
  | [], [], _, _, _, _ => rfl
  | [], _ :: _, h, _, _, _ => by simp at h
  | _ :: _, [], h, _, _, _ => by simp at h
  | n :: ns, m :: ms, h, b1, b2, e => by
    have hl : ns.length = ms.length := by simpa using h
    rcases Int.lt_trichotomy n m with q | q | q
    · have := TS.code_lt hl b1.tail b2.tail q; omega
    · subst q
      have e : n * B ^ ns.length + TS.code B ns = n * B ^ ms.length + TS.code B ms := e
      rw [hl] at e
      rw [code_inj hl b1.tail b2.tail (by omega)]
    · have := TS.code_lt hl.symm b2.tail b1.tail q; omega
/-- p tells what lies at k -/
def TR (C : RC) (Z : Addr → Prop) (ρ : List (Option Addr)) (H : Hp) (p : Zf × D) (k : Addr × List Int) : Prop := val C.ν p.1 = TS.code big k.2 ∧ ∃ es, p.2 = .tup es ∧ RVs C Z ρ H es (k.2.map V.int)
theorem keysT_ok (hb : inBox β C.ν) {n : Nat} : ∀ {ds : List D} {xs : List V} {l : List (Zf × D)}, keysT β n ds = some l → RVs C Z ρ H ds xs → ∃ ks : List (Addr × List Int), xs = ks.map (fun p => V.ref p.1) ∧ l.map (fun p => val C.ν p.1) = ks.map (fun k => TS.code big k.2) ∧
    (∀ k ∈ ks, SqT C.K H k.1 (k.2.map V.int) ∧ k.2.length = n ∧ TS.Bd big k.2) ∧ ∀ p ∈ l, ∃ k ∈ ks, TR C Z ρ H p k
  | [], _, l, e, .nil => by cases e; exact ⟨[], rfl, rfl, fun _ h => by simp at h, fun _ h => by simp at h⟩
  | d :: r, _, l, e, .cons q t => by
    unfold keysT at e
    split at e
    · rename_i hd; cases hd
    · rename_i es r' hd
      cases hd
      split at e
      · rename_i hn
        split at e
        · rename_i z w hc
          split at e
          · rename_i l0 hl
            cases e
            obtain ⟨ks, h1, h2, h3, h4⟩ := keysT_ok hb hl t
            cases q with
            | tup hs rs =>
              obtain ⟨ns, rfl, g2, g3, g4, g5⟩ := cdF_ok hb hc rs
              have gl : ns.length = n := by rw [g2]; exact Nat.eq_of_beq_eq_true hn
              refine ⟨(_, ns) :: ks, by rw [h1]; rfl, by rw [List.map_cons, List.map_cons, h2, g4], fun k hk => ?_, fun p hp => ?_⟩
              · rcases List.mem_cons.mp hk with hk | hk
                · rw [hk]; exact ⟨hs, gl, g5⟩
                · exact h3 k hk
              · rcases List.mem_cons.mp hp with hp | hp
                · rw [hp]; exact ⟨_, List.mem_cons_self .., g4, _, rfl, rs⟩
                · obtain ⟨k, k1, k2⟩ := h4 p hp
                  exact ⟨k, List.mem_cons_of_mem _ k1, k2⟩
          · cases e
        · cases e
      · cases e
    · cases e
/-- the same codes: what is told of the one is true of the other -/
theorem pick_rvs {n : Nat} {ks : List (Addr × List Int)} (hk : ∀ k ∈ ks, SqT C.K H k.1 (k.2.map V.int) ∧ k.2.length = n ∧ TS.Bd big k.2) : ∀ {l : List (Zf × D)} {L : List (Addr × List Int)}, (∀ p ∈ l, ∃ k ∈ ks, TR C Z ρ H p k) → (∀ k ∈ L, k ∈ ks) → l.map (fun p => val C.ν p.1) = L.map (fun k => TS.code big k.2) → RVs C Z ρ H (l.map (·.2)) (L.map fun k => V.ref k.1)
  | [], [], _, _, _ => .nil
  | [], _ :: _, _, _, e => by simp at e
  | _ :: _, [], _, _, e => by simp at e
  | p :: l, k' :: L, h1, h2, e => by
    rw [List.map_cons, List.map_cons, List.cons.injEq] at e
    obtain ⟨k, m, t1, es, t2, t3⟩ := h1 p (by simp)
    obtain ⟨a1, a2, a3⟩ := hk k m
    obtain ⟨b1, b2, b3⟩ := hk k' (h2 k' (by simp))
    have : k.2 = k'.2 := code_inj (by rw [a2, b2]) a3 b3 (by rw [← t1]; exact e.1)
    rw [this] at t3
    rw [List.map_cons, List.map_cons, t2]
    exact .cons (.tup b1 t3) (pick_rvs hk (fun q hq => h1 q (by simp [hq])) (fun q hq => h2 q (by simp [hq])) e.2)
theorem perm_back {α β : Type} {f : α → β} {l l' : List β} (h : l.Perm l') : ∀ {ks : List α}, l' = ks.map f → ∃ ks' : List α, ks'.Perm ks ∧ l = ks'.map f := by
  induction h with
  | nil => intro ks e; exact ⟨[], by cases ks with | nil => exact .refl _ | cons => simp at e, rfl⟩
  | cons x _ ih =>
    intro ks e
    cases ks with
    | nil => simp at e
    | cons k ks =>
      rw [List.map_cons, List.cons.injEq] at e
      obtain ⟨ks', h1, h2⟩ := ih e.2
      exact ⟨k :: ks', h1.cons k, by rw [List.map_cons, ← h2, ← e.1]⟩
  | swap x y l =>
    intro ks e
    match ks, e with
    | k1 :: k2 :: ks, e =>
      rw [List.map_cons, List.map_cons, List.cons.injEq, List.cons.injEq] at e
      exact ⟨k2 :: k1 :: ks, .swap _ _ _, by rw [List.map_cons, List.map_cons, ← e.1, ← e.2.1, ← e.2.2]⟩
    | [k], e => simp at e
    | [], e => simp at e
  | trans _ _ ih1 ih2 =>
    intro ks e
    obtain ⟨ks2, h1, h2⟩ := ih2 e
    obtain ⟨ks1, h3, h4⟩ := ih1 h2
    exact ⟨ks1, h3.trans h1, h4⟩
end
def opSortT (β : Box) (ds : List D) (h : HpD) : Out (List D) := match ds with
  | [d] => (match lookL h d with
    | some (.tup e1 :: es) => (match Nat.ble 1 e1.length with
      | true => (match Nat.blt es.length 63 with
        | true => (match keysT β e1.length (.tup e1 :: es) with
          | some l => (match sortK β l with
            | some l' => .ok (l'.map (·.2)) h
            | none => .bad)
          | none => .bad)
        | false => .bad)
      | false => .bad)
    | _ => .bad)
  | _ => .bad
def rSortT' (K : PySem.W.Frag) : List V → Hp → VK → Prop := fun vs H Q => ∃ d, 1 ≤ d ∧ rSortU K d big vs H Q
theorem cr_sortT' : ∀ X, OkX G X → CallR X (.builtin "sorted") (rSortT' X.K) := fun X o => by
  intro pins s σ H xs us Q I r h
  obtain ⟨d, hd, h⟩ := h
  exact cr_sortT hd pins s σ H xs us Q I r h
theorem im_sortT {G : Cfg} : ImplF G (rSortT' G.K) (opSortT G.β) := by
  intro ν Z ρ H H0 E h ds vs Q hb x r s0 p
  unfold opSortT at p
  split at p
  · obtain ⟨v, rfl, rv⟩ := r.one
    split at p
    · rename_i e1 es hl
      split at p
      · rename_i hd
        split at p
        · rename_i h64
          split at p
          · rename_i l hk
            split at p
            · rename_i l' hs
              obtain ⟨a, xs, rfl, ha, rs⟩ := lookL_ok x hl rv
              have hlen := rs.length
              obtain ⟨ks, rfl, q1, q2, q3⟩ := keysT_ok (C := G.rc ν) hb hk rs
              have h64 : es.length < 63 := Nat.le_of_ble_eq_true h64
              refine ⟨e1.length, Nat.le_of_ble_eq_true hd, a, _, rfl, .of ha, by rw [← hlen, List.length_cons]; omega, fun y hy => ?_, fun ys q hp hw hq => ?_⟩
              · obtain ⟨k, hk', rfl⟩ := List.mem_map.mp hy
                obtain ⟨g1, g2, g3⟩ := q2 k hk'
                exact ⟨k.2, ⟨k.1, rfl, g1⟩, g2, g3⟩
              · obtain ⟨ks', p1, rfl⟩ := perm_back hp rfl
                obtain ⟨s1, s2⟩ := sortK_ok hb hs
                have hw' : ks'.Pairwise fun k k' => TS.code big k.2 ≤ TS.code big k'.2 := by
                  rw [List.pairwise_map] at hw
                  exact hw.imp_of_mem fun {k k'} m m' w => w k.2 k'.2 ⟨k.1, rfl, (q2 k (p1.mem_iff.mp m)).1⟩ ⟨k'.1, rfl, (q2 k' (p1.mem_iff.mp m')).1⟩
                refine handF s0 x (pick_rvs (C := G.rc ν) q2 (fun p hp => q3 p (s1.mem_iff.mp hp)) (fun k hk => p1.mem_iff.mp hk) ?_) hq p
                refine pairwise_eq (List.pairwise_map.mpr s2) (List.pairwise_map.mpr hw') ?_
                have e2 := s1.map fun p => val ν p.1
                have q1 : l.map (fun p => val ν p.1) = ks.map (fun k => TS.code big k.2) := q1
                rw [q1] at e2
                exact e2.trans (p1.map _).symm
            · exact p.elim
          · exact p.elim
        · exact p.elim
      · exact p.elim
    · exact p.elim
  · exact p.elim
/-! ### sorted(set(..)) -/
def ddK (β : Box) : List (Zf × D) → Option (List (Zf × D))
  | [] => some []
  | p :: r => match r with
    | [] => some [p]
    | q :: _ => match ltK β p.1 q.1 with
      | some true => (match ddK β r with
        | some l => some (p :: l)
        | none => none)
      | some false => ddK β r
      | none => none
theorem ddK_ok {β : Box} {ν : List Int} (hb : inBox β ν) : ∀ {l l' : List (Zf × D)}, ddK β l = some l' → l.Pairwise (fun a b => val ν a.1 ≤ val ν b.1) → l'.Pairwise (fun a b => val ν a.1 < val ν b.1) ∧ (∀ p ∈ l', p ∈ l) ∧ ∀ p ∈ l, ∃ q ∈ l', val ν q.1 = val ν p.1
  | [], l', e, _ => by cases e; exact ⟨.nil, fun _ h => h, fun p h => by simp at h⟩
  | [p], l', e, _ => by
    cases e
    exact ⟨by simp, fun _ h => h, fun q h => ⟨q, h, rfl⟩⟩
  | p :: q :: r, l', e, w => by
    obtain ⟨w1, w2⟩ := List.pairwise_cons.mp w
    unfold ddK at e
    dsimp only at e
    split at e
    · rename_i h1
      split at e
      · rename_i l0 h0
        cases e
        obtain ⟨i1, i2, i3⟩ := ddK_ok hb h0 w2
        have lt : val ν p.1 < val ν q.1 := of_decide_eq_true (ltK_ok hb h1).symm
        refine ⟨List.pairwise_cons.mpr ⟨fun x hx => ?_, i1⟩, fun x hx => ?_, fun x hx => ?_⟩
        · rcases List.mem_cons.mp (i2 x hx) with hx | hx
          · rw [hx]; exact lt
          · have := (List.pairwise_cons.mp w2).1 x hx; omega
        · rcases List.mem_cons.mp hx with hx | hx
          · rw [hx]; simp
          · exact List.mem_cons_of_mem _ (i2 x hx)
        · rcases List.mem_cons.mp hx with hx | hx
          · exact ⟨p, by simp, by rw [hx]⟩
          · obtain ⟨y, y1, y2⟩ := i3 x hx
            exact ⟨y, List.mem_cons_of_mem _ y1, y2⟩
      · cases e
    · rename_i h1
      obtain ⟨i1, i2, i3⟩ := ddK_ok hb e w2
      have nlt := of_decide_eq_false (ltK_ok hb h1).symm
      refine ⟨i1, fun x hx => List.mem_cons_of_mem _ (i2 x hx), fun x hx => ?_⟩
      rcases List.mem_cons.mp hx with hx | hx
      · obtain ⟨y, y1, y2⟩ := i3 q (by simp)
        refine ⟨y, y1, ?_⟩
        have := w1 q (by simp)
        rw [hx, y2]; omega
      · exact i3 x hx
    · cases e
theorem strict_eq {a b : List Int} (h1 : a.Pairwise (· < ·)) (h2 : b.Pairwise (· < ·)) (h : ∀ x, x ∈ a ↔ x ∈ b) : a = b := by
  have n1 : a.Nodup := h1.imp fun {x y} q => by omega
  have n2 : b.Nodup := h2.imp fun {x y} q => by omega
  exact pairwise_eq (h1.imp fun {x y} q => by omega) (h2.imp fun {x y} q => by omega) ((List.perm_ext_iff_of_nodup n1 n2).mpr h)
def opSortSet (β : Box) (d : D) (h : HpD) : Out (List D) := match lookL h d with
  | some [] => .ok [] h
  | some (.tup e1 :: es) => (match Nat.ble 1 e1.length with
    | true => (match Nat.blt es.length 63 with
      | true => (match keysT β e1.length (.tup e1 :: es) with
        | some l => (match sortK β l with
          | some l1 => (match ddK β l1 with
            | some l' => .ok (l'.map (·.2)) h
            | none => .bad)
          | none => .bad)
        | none => .bad)
      | false => .bad)
    | false => .bad)
  | _ => .bad
/-- what opSortSet tells -/
theorem sortSet_ok {G : Cfg} {ν : List Int} {Z : Addr → Prop} {ρ : List (Option Addr)} {H : Hp} {h : HpD} {d : D} {v : V} {ds : List D} {h' : HpD} (hb : inBox G.β ν) (x : RH (G.rc ν) Z ρ H h) (rv : RV (G.rc ν) Z ρ H d v) (e : opSortSet G.β d h = .ok ds h') :
    h' = h ∧ ∃ a n, ∃ ks : List (Addr × List Int), v = .ref a ∧ SqL G.K H a (ks.map fun p => V.ref p.1) ∧ 1 ≤ n ∧ ks.length < 64 ∧ (∀ k ∈ ks, SqT G.K H k.1 (k.2.map V.int) ∧ k.2.length = n ∧ TS.Bd big k.2) ∧
      ∀ L' : List (Addr × List Int), (∀ k ∈ L', k ∈ ks) → (∀ k ∈ ks, k.2 ∈ L'.map (·.2)) → (L'.map (·.2)).Nodup → L'.Pairwise (fun q r => TS.code big q.2 ≤ TS.code big r.2) → RVs (G.rc ν) Z ρ H ds (L'.map fun k => V.ref k.1) := by
  unfold opSortSet at e
  split at e
  · rename_i hl
    cases e
    obtain ⟨a, xs, rfl, ha, rs⟩ := lookL_ok x hl rv
    cases rs
    refine ⟨rfl, a, 1, [], rfl, .of ha, Nat.le_refl _, by decide, fun k hk => by simp at hk, fun L' h1 h2 h3 h4 => ?_⟩
    cases L' with
    | nil => exact .nil
    | cons k _ => exact absurd (h1 k (by simp)) (by simp)
  · rename_i e1 es hl
    split at e
    · rename_i hd
      split at e
      · rename_i h64
        split at e
        · rename_i l hk
          split at e
          · rename_i l1 hs
            split at e
            · rename_i l' hdd
              cases e
              obtain ⟨a, xs, rfl, ha, rs⟩ := lookL_ok x hl rv
              have hlen := rs.length
              obtain ⟨ks, rfl, q1, q2, q3⟩ := keysT_ok (C := G.rc ν) hb hk rs
              have h64 : es.length < 63 := Nat.le_of_ble_eq_true h64
              refine ⟨rfl, a, e1.length, ks, rfl, .of ha, Nat.le_of_ble_eq_true hd, by rw [List.length_map] at hlen; rw [← hlen, List.length_cons]; omega, q2, fun L' h1 h2 h3 h4 => ?_⟩
              obtain ⟨s1, s2⟩ := sortK_ok hb hs
              obtain ⟨d1, d2, d3⟩ := ddK_ok hb hdd s2
              refine pick_rvs (C := G.rc ν) q2 (fun p hp => q3 p (s1.mem_iff.mp (d2 p hp))) h1 ?_
              have q1 : l.map (fun p => val ν p.1) = ks.map (fun k => TS.code big k.2) := q1
              have hstrict : (L'.map fun k => TS.code big k.2).Pairwise (· < ·) := by
                rw [List.pairwise_map]
                have h3' : L'.Pairwise fun k k' => k.2 ≠ k'.2 := by
                  have : (L'.map (·.2)).Pairwise (· ≠ ·) := h3
                  rwa [List.pairwise_map] at this
                refine (h4.and h3').imp_of_mem fun {k k'} m m' w => ?_
                rcases Int.lt_or_eq_of_le w.1 with z | z
                · exact z
                · obtain ⟨_, a2, a3⟩ := q2 k (h1 k m)
                  obtain ⟨_, b2, b3⟩ := q2 k' (h1 k' m')
                  exact absurd (code_inj (by rw [a2, b2]) a3 b3 z) w.2
              refine strict_eq (List.pairwise_map.mpr d1) hstrict fun c => ⟨fun hc => ?_, fun hc => ?_⟩
              · obtain ⟨p, hp, rfl⟩ := List.mem_map.mp hc
                have m1 : val ν p.1 ∈ ks.map (fun k => TS.code big k.2) := by
                  rw [← q1]; exact List.mem_map.mpr ⟨p, s1.mem_iff.mp (d2 p hp), rfl⟩
                obtain ⟨k, hk1, hk2⟩ := List.mem_map.mp m1
                obtain ⟨k', hk3, hk4⟩ := List.mem_map.mp (h2 k hk1)
                exact List.mem_map.mpr ⟨k', hk3, by rw [hk4]; exact hk2⟩
              · obtain ⟨k, hk1, rfl⟩ := List.mem_map.mp hc
                have m1 : TS.code big k.2 ∈ l.map (fun p => val ν p.1) := by
                  rw [q1]; exact List.mem_map.mpr ⟨k, h1 k hk1, rfl⟩
                obtain ⟨p, hp1, hp2⟩ := List.mem_map.mp m1
                obtain ⟨q, hq1, hq2⟩ := d3 p (s1.mem_iff.mpr hp1)
                exact List.mem_map.mpr ⟨q, hq1, hq2.trans hp2⟩
            · cases e
          · cases e
        · cases e
      · cases e
    · cases e
  · cases e
def fSortSet (β : Box) (f : Fe) : Fa := fun env h => (f env h).bind fun d h => opSortSet β d h
section
variable {G : Cfg} {e : Expr} {f : Fe} {p pos p2 pos2 : Pos}
theorem sf_sortSet (he : SE G e f) (hg : G.sc.names.lookup ("sorted" : Str) = some .globalImplicit) (hm : G.mg ("sorted" : Str) = none) (hg2 : G.sc.names.lookup ("set" : Str) = some .globalImplicit) (hm2 : G.mg ("set" : Str) = none)
    (hs1 : ∀ env, starEach [e] env = (false, eval e env) :: starEach [] env := by intro _; rfl) (hv : bootBuiltins ("sorted" : Str) = some (.builtin "sorted") := by decide) (hv2 : bootBuiltins ("set" : Str) = some (.type "set") := by decide) :
    SF G (.Call (.Name "sorted" p) [.Call (.Name "set" p2) [e] [] pos2] [] pos) (fSortSet G.β f) := by
  intro X W o tk
  have pe2 : PE X (.Call (.Name "set" p2) [e] [] pos2) _ := pe_callTy (cr_setOfT o.calm (by have := o.hu; omega)) (by show X.env.scope.names.lookup _ = _; rw [o.sc]; exact hg2) (by rw [o.mg]; exact hm2) hv2 (pa_cons (he X W o tk) pa_nil (hs1 _)) (by decide) (by decide) (hs1 _)
  refine PE.by_ (pe_callB (cr_sortedT o.calm) (by show X.env.scope.names.lookup _ = _; rw [o.sc]; exact hg) (by rw [o.mg]; exact hm) hv (pa_cons pe2 pa_nil) (by decide) (by decide)) fun σ H Q q => ?_
  obtain ⟨ν, Z, ρ, env, h, x, p⟩ := q
  refine rE.bind x p fun d h1 Z1 ρ1 H1 v e1 s1 x1 r1 p1 => ?_
  cases eo : opSortSet G.β d h1 with
  | bad => rw [eo] at p1; exact p1.elim
  | exc n d h' =>
    exfalso
    unfold opSortSet at eo
    repeat' first | (split at eo) | cases eo
  | ok ds h' =>
    rw [eo] at p1
    obtain ⟨rfl, a, n, ks, rfl, hl, hn, h64, hk, hL⟩ := sortSet_ok x1.hb x1.rh r1 eo
    rw [o.K]
    refine ⟨a, ks, rfl, hl, fun k m => (hk k m).1, h64, fun b L nb hLs hLc => ?_⟩
    have st := step_new (C := G.rc ν) (o := SetTO X.prog X.w b L) x1.rh nb
    have kp : ∀ k ∈ ks, SqT G.K (upd H1 b (SetTO X.prog X.w b L)) k.1 (k.2.map V.int) := fun k m => sqT_imm (hk k m).1 st.imm
    refine ⟨b, L, n, big, rfl, upd_same, fun k m => kp k (hLs k m), hn, fun k m => (hk k (hLs k m)).2, fun L' q hp hnd _ hw hq => ?_⟩
    refine handF (E := fun c d H' => W c d σ H') (fun a o e => let ⟨o', e'⟩ := s1.dom a o e; st.dom a o' e') (x1.rh.new nb) ((hL L' (fun k m => hLs k (hp.mem_iff.mp m)) (fun k m => (hp.map _).mem_iff.mpr (hLc k m)) hnd hw).step st) hq ?_
    exact PostG.later st p1
end
/-! ### dict(pairs) -/
def dictD : List D → List Key → List D → Option (List Key × List D)
  | [], ks, ds => some (ks, ds)
  | .tup [k, y] :: r, ks, ds => (match keyOf k with
    | some k => (match nodK ks with
      | true => dictD r (putD k y ks ds).1 (putD k y ks ds).2
      | false => none)
    | none => none)
  | _ :: _, _, _ => none
theorem dictD_ok {C : RC} {Z : Addr → Prop} {ρ : List (Option Addr)} {H : Hp} : ∀ {es : List D} {vs : List V} {kvs : List (Key × V)} {ds ds' : List D} {ks' : List Key}, dictD es (kvs.map (·.1)) ds = some (ks', ds') → RVs C Z ρ H es vs → RVs C Z ρ H ds (kvs.map (·.2)) →
    ∃ (ps : List Addr) (more : List (Key × V)), vs = ps.map V.ref ∧ Paired (fun (p : Addr) (kv : Key × V) => SqT C.K H p [kV kv.1, kv.2]) ps more ∧ (mergeK kvs more).map (·.1) = ks' ∧ RVs C Z ρ H ds' ((mergeK kvs more).map (·.2))
  | [], _, kvs, ds, ds', ks', e, .nil, r => by
    cases e
    exact ⟨[], [], rfl, .nil, rfl, r⟩
  | d :: es, _, kvs, ds, ds', ks', e, .cons q t, r => by
    unfold dictD at e
    split at e
    · rename_i hd; cases hd
    · rename_i k y r' hd
      cases hd
      split at e
      · rename_i k' hk
        split at e
        · rename_i hn
          cases q with
          | tup hs rs =>
            obtain ⟨v, u, rfl, rk, ry⟩ := rs.two
            obtain ⟨q1, q2⟩ := putD_ok ry (k := k') (nodK_ok hn) r
            rw [← q1] at e
            obtain ⟨ps, more, h1, h2, h3, h4⟩ := dictD_ok e t q2
            rw [keyOf_ok hk rk] at hs
            exact ⟨_ :: ps, (k', u) :: more, by rw [h1]; rfl, .cons hs h2, h3, h4⟩
        · cases e
      · cases e
    · cases e
/-- a new object of ours at p, avoided, not yet numbered -/
theorem new_avoided {C : RC} {Z : Addr → Prop} {ρ : List (Option Addr)} {H : Hp} {h : HpD} {p : Addr} (x : RH C Z ρ H h) (hp : H p = none) (o : HO) :
    Step Z ρ H (fun a => Z a ∨ a = p) ρ (upd H p o) ∧ RH C (fun a => Z a ∨ a = p) ρ (upd H p o) h ∧ some p ∉ ρ := by
  have np : ∀ a, Z a → a ≠ p := fun a z => x.ne_none hp z
  have st : Step Z ρ H (fun a => Z a ∨ a = p) ρ (upd H p o) :=
    ⟨x.zin, fun a u e _ => by rw [upd_ne (ne_of_none e hp)]; exact e, fun a u e _ => by rw [upd_ne (ne_of_none e hp)]; exact e, fun a u e => ⟨u, by rw [upd_ne (ne_of_none e hp)]; exact e⟩, fun _ _ e => e, fun _ e => .inl e, fun _ e => .inl e, fun a e => e.elim .inl fun e => .inr (by rw [e]; exact hp)⟩
  refine ⟨st, ⟨x.len, x.inj, fun a z => .inl (x.zin a z), fun a z => ?_, fun n u e => (x.obj n u e).step st fun a q => by rw [upd_ne (np a (x.zin a (mem_of_get q)))]⟩, fun z => np p (x.zin p z) rfl⟩
  rcases z with z | z
  · obtain ⟨u, e⟩ := x.zdom a z
    exact ⟨u, by rw [upd_ne (np a z)]; exact e⟩
  · rw [z]; exact ⟨_, upd_same⟩
/-- a new object of ours gets a number -/
theorem new_numbered {C : RC} {Z : Addr → Prop} {ρ : List (Option Addr)} {H : Hp} {h : HpD} {p : Addr} {o : HObj} {u : HO} (x : RH C Z ρ H h) (hp : H p = none) (ho : HRel C (fun a => Z a ∨ a = p) (ρ ++ [some p]) (upd H p u) h.length o) :
    Step Z ρ H (fun a => Z a ∨ a = p) (ρ ++ [some p]) (upd H p u) ∧ RH C (fun a => Z a ∨ a = p) (ρ ++ [some p]) (upd H p u) (h ++ [o]) ∧ RV C (fun a => Z a ∨ a = p) (ρ ++ [some p]) (upd H p u) (.ref h.length) (.ref p) := by
  obtain ⟨s, r, n⟩ := new_avoided x hp u
  refine ⟨⟨s.zin, s.keep, s.imm, s.dom, fun n b e => app_get n b (s.rfs n b e), fun b e => ?_, s.zle, s.znew⟩, r.num (.inr rfl) n ho, .ref (by rw [← x.len]; simp)⟩
  rcases List.mem_append.mp e with q | q
  · exact .inl q
  · simp at q; subst q; exact .inr hp
def opDictP (m : Bool) (ds : List D) (h : HpD) : Out D := match ds with
  | [d] => (match lookL h d with
    | some es => (match dictD es [] [] with
      | some (ks, ds) => (match m with
        | true => .ok (.ref h.length) (h ++ [.dct ks ds])
        | false => .ok (.dct ks ds) h)
      | none => .bad)
    | none => .bad)
  | _ => .bad
def rDictP (K : PySem.W.Frag) : List V → Hp → VK → Prop := fun xs H Q => ∃ (a : Addr) (ps : List Addr) (kvs : List (Key × V)), xs = [.ref a] ∧ SqL K H a (ps.map V.ref) ∧ Paired (fun p kv => SqT K H p [kV kv.1, kv.2]) ps kvs ∧
    ∀ p, H p = none → Q (.ref p) (upd H p (.dK (mergeK [] kvs)))
theorem cr_dictP : ∀ X, OkX G X → CallR X (.type "dict") (rDictP X.K) := fun X o => call_dictP o.calm
theorem im_dictP {G : Cfg} (m : Bool) : ImplA G (rDictP G.K) (opDictP m) := by
  intro ν Z ρ H E h ds vs Q hb x r p
  unfold opDictP at p
  split at p
  · obtain ⟨v, rfl, rv⟩ := r.one
    split at p
    · rename_i es hl
      split at p
      · rename_i ks ds' hd
        obtain ⟨a, xs, rfl, ha, rs⟩ := lookL_ok x hl rv
        obtain ⟨ps, more, rfl, h2, h3, h4⟩ := dictD_ok (kvs := []) hd rs .nil
        refine ⟨a, ps, more, rfl, .of ha, h2, fun q hq => ?_⟩
        cases m with
        | true =>
          have sA := (new_avoided x hq (.dK (mergeK [] more))).1
          have el : (ρ ++ [some q])[h.length]? = some (some q) := by rw [← x.len]; simp
          obtain ⟨b1, b2, b3⟩ := new_numbered (o := .dct ks ds') (u := .dK (mergeK [] more)) x hq ⟨q, _, el, upd_same, h3, (h4.step sA).rho app_get⟩
          exact p _ _ _ b1 b2 _ b3
        | false =>
          have st := step_new (C := G.rc ν) (o := .dK (mergeK [] more)) x hq
          exact p Z ρ _ st (x.new hq) _ (.dct upd_same (fun z => x.ne_none hq z rfl) h3 (h4.step st))
      · exact p.elim
    · exact p.elim
  · exact p.elim
end Eg

set_option Elab.async false
set_option linter.all false
set_option maxRecDepth 100000
/-! The engine, part 16: what the printed texts lean on. -/
namespace Eg
open PySem PySem.Spec PyProof.Rows L2
theorem ss_bad {G : Cfg} {st : Stmt} : SS G st (fun _ _ => .bad) := fun X E o => ⟨fun pins s σ H D I q => by
  obtain ⟨ν, Z, ρ, env, h, x, p⟩ := q
  exact p.elim⟩
theorem sss_bad {G : Cfg} {st : List Stmt} : SSs G st (fun _ _ => .bad) := fun X E o => ⟨fun pins s σ H D I q => by
  obtain ⟨ν, Z, ρ, env, h, x, p⟩ := q
  exact p.elim⟩
theorem se_bad {G : Cfg} {e : Expr} : SE G e (fun _ _ => .bad) := fun X W o tk => ⟨fun pins s σ H Q I q => by
  obtain ⟨ν, Z, ρ, env, h, x, p⟩ := q
  exact p.elim⟩
theorem se_gint {G : Cfg} {x : Str} {i : Int} {pos : Pos} (hg : G.sc.names.lookup x = some .globalImplicit) (hm : ∃ t, G.mg x = some (.int i t)) (hd : (x == ("__debug__" : Str)) = false := by decide) : SE G (.Name x pos) (fC (.int i)) := by
  obtain ⟨t, hm⟩ := hm
  exact se_glob hg hm (v := .int i) ⟨t, rfl⟩ (fun _ _ _ _ => .int i) hd
theorem se_gstr {G : Cfg} {x z : Str} {pos : Pos} (hg : G.sc.names.lookup x = some .globalImplicit) (hm : ∃ t, G.mg x = some (.str z t)) (hd : (x == ("__debug__" : Str)) = false := by decide) : SE G (.Name x pos) (fC (.str z)) := by
  obtain ⟨t, hm⟩ := hm
  exact se_glob hg hm (v := .str z) ⟨t, rfl⟩ (fun _ _ _ _ => .str z) hd
/-- the parts of a context that a def's promise speaks of -/
def Cfg.core (G : Cfg) : Box × (Nat → Option Addr) × (Nat → Option Addr) × Program × World × PySem.W.Frag × (Str → Option Value) × Heap × List Int := (G.β, G.fa, G.ca, G.prog, G.w, G.K, G.mg, G.base, G.ms)
theorem DefOk.to {G G0 : Cfg} {k : Nat} {x : Str} {n : Nat} {F : Fd} (h : DefOk G0 k x n F) (e : G.core = G0.core) : DefOk G k x n F := by
  cases G; cases G0
  simp only [Cfg.core, Prod.mk.injEq] at e
  obtain ⟨rfl, rfl, rfl, rfl, rfl, rfl, rfl, rfl, rfl⟩ := e
  exact ⟨h.ex⟩
theorem se_callG {G G0 : Cfg} {x : Str} {p pos : Pos} {e : Expr} {es : List Expr} {fa : Fa} {n k : Nat} {F : Fd} (h : DefOk G0 k x n F) (c : G.core = G0.core) (hk : k ≤ G.lev) (hg : G.sc.names.lookup x = some .globalImplicit) (ha : SA G (e :: es) fa) (hdb : (x == ("__debug__" : Str)) = false := by decide)
    (he : ∀ env, starEach (e :: es) env = (false, eval e env) :: starEach es env := by intro _; rfl) (hpl : ∀ pos env, (backTo pos (starEach es env)).any (·.1) = false := by intro _ _; rfl) : SE G (.Call (.Name x p) (e :: es) [] pos) (fCallD n F fa) := se_call (h.to c) hk hg ha hdb he hpl
theorem se_call0G {G G0 : Cfg} {x : Str} {p pos : Pos} {n k : Nat} {F : Fd} (h : DefOk G0 k x n F) (c : G.core = G0.core) (hk : k ≤ G.lev) (hg : G.sc.names.lookup x = some .globalImplicit) (hdb : (x == ("__debug__" : Str)) = false := by decide) : SE G (.Call (.Name x p) [] [] pos) (fCallD n F faNil) := se_call0 (h.to c) hk hg hdb
/-- a lower level does -/
theorem DefOk.mono {G : Cfg} {k j : Nat} {x : Str} {n : Nat} {F : Fd} (h : DefOk G k x n F) (hj : k ≤ j) : DefOk G j x n F := by
  obtain ⟨f, fd, ps, h1, h2, h3, h4, h5⟩ := h.ex
  exact ⟨f, fd, ps, h1, h2, h3, h4, h5.len, fun A outer s H args us vs Q E hr => h5.run A outer s H args us vs Q E (hr.mono hj)⟩
end Eg

set_option Elab.async false
set_option linter.all false
set_option maxRecDepth 100000
/-! The engine, part 17: sorted of anything. -/
namespace Eg
open PySem PySem.Spec PyProof.Rows L2
def opSortA (β : Box) (ds : List D) (h : HpD) : Out (List D) := match ds with
  | [d] => (match lookL h d with
    | some (.tup _ :: _) => opSortT β ds h
    | some _ => opSortI β ds h
    | none => opSortDI β ds h)
  | _ => .bad
def rSortA (K : PySem.W.Frag) : List V → Hp → VK → Prop := fun xs H Q => rSortT' K xs H Q ∨ rSortI' K xs H Q ∨ rSortDI' K xs H Q
theorem cr_sortA : ∀ X, OkX G X → CallR X (.builtin "sorted") (rSortA X.K) := fun X o => CallR.or (cr_sortT' X o) (CallR.or (cr_sortI' X o) (cr_sortDI' X o))
theorem im_sortA {G : Cfg} : ImplF G (rSortA G.K) (opSortA G.β) := by
  intro ν Z ρ H H0 E h ds vs Q hb x r s0 p
  unfold opSortA at p
  split at p
  · split at p
    · exact .inl (im_sortT ν Z ρ H H0 E h _ vs Q hb x r s0 p)
    · exact .inr (.inl (im_sortI ν Z ρ H H0 E h _ vs Q hb x r s0 p))
    · exact .inr (.inr (im_sortDI ν Z ρ H H0 E h _ vs Q hb x r s0 p))
  · exact p.elim
end Eg

set_option Elab.async false
set_option linter.all false
set_option maxRecDepth 100000
/-! The engine, part 18: draws. -/
namespace Eg
open PySem PySem.Spec PyProof.Rows L2
def unitK : Nat → List Int
  | 0 => [1]
  | n + 1 => 0 :: unitK n
theorem dot_unit : ∀ {k : Nat} {ν r : List Int} {x : Int}, ν.drop k = x :: r → dot (unitK k) ν = x
  | 0, ν, r, x, e => by
    simp at e; subst e
    show 1 * x + dot [] r = x
    rw [dot_nil]; omega
  | k + 1, [], r, x, e => by simp at e
  | k + 1, y :: ν, r, x, e => by
    show 0 * y + dot (unitK k) ν = x
    rw [dot_unit (by simpa using e)]; omega
def msAt : List Int → Nat → Option Int
  | [], _ => none
  | m :: _, 0 => some m
  | _ :: r, n + 1 => msAt r n
theorem msAt_drop : ∀ {ms : List Int} {k : Nat} {m : Int}, msAt ms k = some m → ms.drop k = m :: ms.drop (k + 1)
  | [], k, m, e => by cases e
  | m0 :: r, 0, m, e => by cases e; rfl
  | m0 :: r, k + 1, m, e => by simpa using msAt_drop (ms := r) (k := k) e
def rollF (ms : List Int) : Fd := fun ds h => match ds with
  | [.ref n, .int m] => (match hat h n with
    | .cup k => (match msAt ms k with
      | some m' => (match eqI m m' with
        | true => .ok (.lin 0 (unitK k)) (hset h n (.cup (k + 1)))
        | false => .bad)
      | none => .bad)
    | _ => .bad)
  | _ => .bad
theorem roll_ok {G : Cfg} {x : Str} {l : Nat} {F : Fd} (h : DefOk G l x 2 F)
    (hF : ∀ m ∈ G.ms, ∀ c0 c1 : Int, 0 ≤ c1 → c1 < 4294967296 → F [.ref 0, .int m] [.lst [.int c0, .int c1]] = .ok (.int (rollV c0 c1 m)) [.lst [.int (roll0 c0 m), .int (roll1 c0 c1)]])
    (hB : ∀ c0 c1 : Int, 0 ≤ c1 → c1 < 4294967296 → 0 ≤ roll1 c0 c1 ∧ roll1 c0 c1 < 4294967296) : DefOk G l x 2 (rollF G.ms) := by
  obtain ⟨f, fd, ps, h1, h2, h3, h4, h5⟩ := h.ex
  refine ⟨f, fd, ps, h1, h2, h3, h4, h5.imp fun vs H Q E q => ?_⟩
  obtain ⟨hl, ν, Z, ρ, hp, ds, hb, rh, rs, p⟩ := q
  refine ⟨hl, ?_⟩
  unfold rollF at p
  split at p
  · rename_i n m
    split at p
    · rename_i k hk
      split at p
      · rename_i m' hm
        split at p
        · rename_i em
          rw [eqI_ok] at em
          have em := of_decide_eq_true em
          subst em
          obtain ⟨va, vm, rfl, ra, rm⟩ := rs.two
          cases rm
          cases ra with
          | ref e =>
            rename_i a
            obtain ⟨a', e', c0, c1, eH, b0, b1, ed⟩ := rh.at_ hk (fun z => by cases z)
            rw [e] at e'; cases e'
            have za : Z a := rh.zin a (mem_of_get e)
            have hmem : m ∈ G.ms := by
              have := msAt_drop hm
              exact List.mem_of_mem_drop (by rw [this]; exact List.mem_cons_self ..)
            refine ⟨ν, Z, [some a], [.lst [.int c0, .int c1]], [.ref 0, .int m], hb, ⟨rfl, fun i j b q1 q2 => ?_, fun b q => ?_, rh.zdom, fun i o q => ?_⟩, .cons (.ref rfl) (.cons (.int m) .nil), ?_⟩
            · cases i with
              | zero => cases j with
                | zero => rfl
                | succ j => simp at q2
              | succ i => simp at q1
            · simp at q; subst q; exact za
            · cases i with
              | zero =>
                simp at q; subst q
                exact ⟨a, _, rfl, eH, .cons (.int c0) (.cons (.int c1) .nil)⟩
              | succ i => simp at q
            · rw [hF m hmem c0 c1 b0 b1]
              intro Z' ρ' H' s rh' v rv
              cases rv
              have st : Step Z ρ H Z ρ H' := ⟨rh.zin, fun b o q nq => s.keep b o q fun z => by simp at z; subst z; exact nq (mem_of_get e), s.imm, s.dom, fun _ _ q => q, fun _ q => .inl q, fun _ q => q, fun _ q => .inl q⟩
              have ed' : rollV c0 c1 m :: drawsOf (G.ms.drop (k + 1)) (roll0 c0 m) (roll1 c0 c1) = ν.drop k := by
                rw [← show drawsOf (G.ms.drop k) c0 c1 = ν.drop k from ed, msAt_drop hm]; rfl
              refine p Z ρ H' st ⟨by rw [hset_length]; exact rh.len, rh.inj, rh.zin, fun b z => let ⟨o, q⟩ := rh.zdom b z; s.dom b o q, fun j o q => ?_⟩ _ (.lin 0 (unitK k) ?_)
              · rcases hset_get q with ⟨rfl, rfl⟩ | ⟨ne, q⟩
                · obtain ⟨a2, xs, f1, f2, f3⟩ := rh'.obj 0 _ rfl
                  have f4 := s.rfs 0 a rfl
                  rw [f1] at f4; cases f4
                  obtain ⟨v1, v2, rfl, r1, r2⟩ := f3.two
                  cases r1; cases r2
                  obtain ⟨g1, g2⟩ := hB c0 c1 b0 b1
                  refine ⟨_, e, _, _, f2, g1, g2, ?_⟩
                  show drawsOf (G.ms.drop (k + 1)) _ _ = ν.drop (k + 1)
                  have : ν.drop (k + 1) = (ν.drop k).drop 1 := by rw [List.drop_drop]
                  rw [this, ← ed']; rfl
                · refine (rh.obj j o q).step st fun b qb => ?_
                  obtain ⟨u, qu⟩ := rh.zdom b (rh.zin b (mem_of_get qb))
                  rw [qu, s.keep b u qu fun z => by
                    simp at z; subst z
                    exact ne (rh.inj _ _ _ qb e)]
              · show rollV c0 c1 m = 0 + dot (unitK k) ν
                rw [dot_unit ed'.symm]; omega
        · exact p.elim
      · exact p.elim
    · exact p.elim
  · exact p.elim
theorem small_ok {c : Int} (h0 : 0 ≤ c) (h1 : c < 18446744073709551615) : Eg.small64 c = true := by
  unfold Eg.small64
  exact Nat.ble_eq_true_of_le (by omega)
theorem roll_pos {c0 c1 m : Int} (h : ltI 0 c0 = true) : rollV c0 c1 m = c0 % m ∧ roll0 c0 m = c0 / m ∧ roll1 c0 c1 = c1 := by
  cases c0 with
  | ofNat n => cases n with
    | zero => cases h
    | succ n => exact ⟨rfl, rfl, rfl⟩
  | negSucc n => cases h
theorem roll_neg {c0 c1 m : Int} (h : ltI 0 c0 = false) : rollV c0 c1 m = (c1 * 31051 + 7993) % 2147483543 * ((c1 * 31051 + 7993) % 2147483543 + 229) % 2147483587 / 821 % m ∧ roll0 c0 m = c0 ∧ roll1 c0 c1 = (c1 * 31051 + 7993) % 2147483543 := by
  cases c0 with
  | ofNat n => cases n with
    | zero => exact ⟨rfl, rfl, rfl⟩
    | succ n => rw [ltI_ok] at h; simp at h
  | negSucc n => exact ⟨rfl, rfl, rfl⟩
theorem roll_hB (c0 c1 : Int) (b0 : 0 ≤ c1) (b1 : c1 < 4294967296) : 0 ≤ roll1 c0 c1 ∧ roll1 c0 c1 < 4294967296 := by
  cases h : ltI 0 c0 with
  | true => obtain ⟨_, _, e⟩ := roll_pos (c1 := c1) (m := 1) h; rw [e]; exact ⟨b0, b1⟩
  | false => obtain ⟨_, _, e⟩ := roll_neg (c1 := c1) (m := 1) h; rw [e]; omega
end Eg

set_option Elab.async false
set_option linter.all false
set_option maxRecDepth 100000
/-! The engine, part 19: the ends of laws that draw from a cup. -/
namespace Eg
open PySem PySem.Spec PyProof.Rows L2
def rangeB (ms : List Int) : Box := ms.map fun m => (0, m - 1)
theorem inBox_nil {ν : List Int} (h : inBox [] ν) : ν = [] := by
  cases ν with
  | nil => rfl
  | cons _ _ => exact h.elim
theorem inBox_cons {l u : Int} {b : Box} {ν : List Int} (h : inBox ((l, u) :: b) ν) : ∃ x xs, ν = x :: xs ∧ l ≤ x ∧ x ≤ u ∧ inBox b xs := by
  cases ν with
  | nil => exact h.elim
  | cons x xs => exact ⟨x, xs, rfl, h.1, h.2.1, h.2.2⟩
theorem draws_in : ∀ {ms : List Int} (c0 c1 : Int), (∀ m ∈ ms, 0 < m) → inBox (rangeB ms) (drawsOf ms c0 c1)
  | [], _, _, _ => trivial
  | m :: ms, c0, c1, h => by
    have hm : 0 < m := h m (by simp)
    have b : 0 ≤ rollV c0 c1 m ∧ rollV c0 c1 m ≤ m - 1 := by
      cases hb : ltI 0 c0 with
      | true =>
        obtain ⟨e, _, _⟩ := roll_pos (c1 := c1) (m := m) hb
        rw [e]
        have := Int.emod_nonneg c0 (show m ≠ 0 by omega)
        have := Int.emod_lt_of_pos c0 hm
        omega
      | false =>
        obtain ⟨e, _, _⟩ := roll_neg (c1 := c1) (m := m) hb
        rw [e]
        have := Int.emod_nonneg ((c1 * 31051 + 7993) % 2147483543 * ((c1 * 31051 + 7993) % 2147483543 + 229) % 2147483587 / 821) (show m ≠ 0 by omega)
        have := Int.emod_lt_of_pos ((c1 * 31051 + 7993) % 2147483543 * ((c1 * 31051 + 7993) % 2147483543 + 229) % 2147483587 / 821) hm
        omega
    exact ⟨b.1, b.2, draws_in _ _ fun k hk => h k (by simp [hk])⟩
/-- a def that takes the cup at draw k and leaves it at k', and answers True -/
def spCup (ms : List Int) (k k' : Nat) : Sp := fun vs H Q _ => ∃ a ν, vs = [V.ref a] ∧ isCup ms ν k (H a) ∧ inBox (rangeB ms) ν ∧ ∀ H', isCup ms ν k' (H' a) → Q (.bl true) H'
def cupYes (k' : Nat) : Out D → Bool
  | .ok (.bl true) (.cup j :: _) => Nat.beq j k'
  | _ => false
theorem cupYes_ok {k' : Nat} {o : Out D} (h : cupYes k' o = true) : ∃ g, o = .ok (.bl true) (.cup k' :: g) := by
  unfold cupYes at h
  split at h
  · rw [Nat.eq_of_beq_eq_true h]
    exact ⟨_, rfl⟩
  · cases h
section
variable {P : Program} {w : World} {K : PySem.W.Frag} {mg : Str → Option Value} {base : Heap} {CX : CXT} {l : Nat} {f : Addr} {fd : FuncData} {ps : List Str} {ms : List Int}
theorem cup_fn {Bs : List Box} {F : Box → Fd} {k k' : Nat} (G : Box → Cfg) (hβ : ∀ β, (G β).β = β) (hms : ∀ β, (G β).ms = ms) (hf : ∀ β, FnOk P w K mg base CX l f fd ps (spD (G β) 1 (F β)))
    (cover : ∀ ν, inBox (rangeB ms) ν → ∃ β ∈ Bs, inBox β ν) (hev : ∀ β ∈ Bs, cupYes k' (F β [.ref 0] [.cup k]) = true) (hp : ps.length = 1) : FnOk P w K mg base CX l f fd ps (spCup ms k k') := by
  refine ⟨fun vs H Q E q => by obtain ⟨a, ν, rfl, _⟩ := q; rw [hp]; rfl, fun A outer s H args us vs Q E hr e0 hb r q => ?_⟩
  obtain ⟨a, ν, rfl, hc, hin, hq⟩ := q
  obtain ⟨β, hm, hx⟩ := cover ν hin
  have hc0 := hc
  obtain ⟨c0, c1, hH, _⟩ := hc0
  refine (hf β).run A outer s H args us [.ref a] Q E hr e0 hb r ⟨rfl, ν, fun b => b = a, [some a], [.cup k], [.ref 0], by rw [hβ]; exact hx, ⟨rfl, fun i j b q1 q2 => ?_, fun b q => ?_, fun b q => ?_, fun n o q => ?_⟩, .cons (.ref rfl) .nil, ?_⟩
  · cases i with
    | zero => cases j with
      | zero => rfl
      | succ j => simp at q2
    | succ i => simp at q1
  · simpa using q
  · exact ⟨_, by rw [q]; exact hH⟩
  · cases n with
    | zero =>
      simp at q
      subst q
      refine ⟨a, rfl, ?_⟩
      show isCup (G β).ms ν k (H a)
      rw [hms]; exact hc
    | succ n => simp at q
  · obtain ⟨g, e⟩ := cupYes_ok (hev β hm)
    rw [e]
    intro Z' ρ' H' s' rh' v rv
    cases rv
    refine hq H' ?_
    obtain ⟨a', e', hc'⟩ := rh'.obj 0 _ rfl
    rw [s'.rfs 0 a rfl] at e'
    cases e'
    have hc' : isCup (G β).ms ν k' (H' a) := hc'
    rw [hms] at hc'
    exact hc'
/-- a def without parameters that answers True -/
def spYes : Sp := fun vs _ Q _ => vs = [] ∧ ∀ H', Q (.bl true) H'
def isYes : Out D → Bool
  | .ok (.bl true) _ => true
  | _ => false
theorem isYes_ok {o : Out D} (h : isYes o = true) : ∃ g, o = .ok (.bl true) g := by
  unfold isYes at h
  split at h
  · exact ⟨_, rfl⟩
  · cases h
theorem yes_fn {F : Fd} (G : Cfg) (hβ : G.β = []) (hf : FnOk P w K mg base CX l f fd ps (spD G 0 F)) (hev : isYes (F [] []) = true) (hp : ps.length = 0) : FnOk P w K mg base CX l f fd ps spYes := by
  refine ⟨fun vs H Q E q => by rw [q.1, hp]; rfl, fun A outer s H args us vs Q E hr e0 hb r q => ?_⟩
  obtain ⟨rfl, hq⟩ := q
  refine hf.run A outer s H args us [] Q E hr e0 hb r ⟨rfl, [], fun _ => False, [], [], [], by rw [hβ]; trivial, ⟨rfl, fun i j b q1 => by simp at q1, fun b q => by simp at q, fun b q => q.elim, fun n o q => by simp at q⟩, .nil, ?_⟩
  obtain ⟨g, e⟩ := isYes_ok hev
  rw [e]
  intro Z' ρ' H' s' rh' v rv
  cases rv
  exact hq H'
/-- the law's own cup -/
def spNew (K : PySem.W.Frag) : Sp := fun vs H Q _ => ∃ (a : Addr) (ns : List Int), vs = [V.ref a] ∧ SqL K H a (ns.map V.int) ∧ ns.length ≤ 63 ∧ ∀ (H' : Hp) (p : Addr) (c0 c1 : Int), 0 ≤ c1 → c1 < 4294967296 → H' p = some (.lst [.int c0, .int c1]) → Q (.ref p) H'
def spLaw (K : PySem.W.Frag) : Sp := fun vs H Q _ => ∃ (a : Addr) (ns : List Int), vs = [V.ref a] ∧ SqL K H a (ns.map V.int) ∧ ns.length ≤ 63 ∧ ∀ H', Q (.bl true) H'
/-- a def that lets nothing out -/
theorem FnOk.calm {k : Nat} {sp : Sp} (F : FnOk P w K mg base (L2.CX P w) k f fd ps sp) (hsp : ∀ vs H Q E, sp vs H Q E → sp vs H Q E0) : FnOk P w K mg base CX0 k f fd ps sp :=
  ⟨F.len, fun A outer s H args us vs Q E hr e0 hb r q => codeAny_mono (F.run A outer s H args us vs Q E0 hr e0 hb r (hsp vs H Q E q)) fun r s' x => by
    cases r with
    | ok y => cases y with
      | ret u => exact x
      | _ => exact x
    | error e =>
      obtain ⟨_, _, _, _, _, _, _, _, _, _, _, _, z⟩ := x
      exact z.elim⟩
end
end Eg

set_option Elab.async false
set_option linter.all false
set_option maxRecDepth 100000
set_option maxHeartbeats 0
/-! printed by gen.py: what the defs compute, and that they do -/
namespace K66
open PySem PySem.Spec PyProof.Rows L2 Eg
def top (i : Nat) : Stmt := PySem.Challenge.pw_timesmet_k66_whole_net_steps_written.main.body.getD i (.Pass ⟨0, 0, 0, 0⟩)
abbrev FnP (K : PySem.W.Frag) (x : Str) (st : Stmt) (f : Addr) (fd : FuncData) : Prop := FunD K x x (defArgs st) (defBody st) (defScope st) [] [] f fd
def fuel : Nat := 400
structure GF (G : Cfg) : Prop where
  b_abs : G.mg "abs" = none
  b_all : G.mg "all" = none
  b_any : G.mg "any" = none
  b_bool : G.mg "bool" = none
  b_dict : G.mg "dict" = none
  b_enumerate : G.mg "enumerate" = none
  b_int : G.mg "int" = none
  b_isinstance : G.mg "isinstance" = none
  b_len : G.mg "len" = none
  b_list : G.mg "list" = none
  b_max : G.mg "max" = none
  b_range : G.mg "range" = none
  b_set : G.mg "set" = none
  b_sorted : G.mg "sorted" = none
  b_str : G.mg "str" = none
  b_tuple : G.mg "tuple" = none
  b_zip : G.mg "zip" = none
  c_DROP : ∃ t, G.mg "DROP" = some (.str "drop" t)
  c_FAR : ∃ t, G.mg "FAR" = some (.int 1000000000000 t)
  c_LIKE : ∃ t, G.mg "LIKE" = some (.str "like" t)
  c_MOST_DELAY : ∃ t, G.mg "MOST_DELAY" = some (.int 1000 t)
  c_MOST_EVENTS : ∃ t, G.mg "MOST_EVENTS" = some (.int 12 t)
  c_MOST_FIRINGS : ∃ t, G.mg "MOST_FIRINGS" = some (.int 200 t)
  c_MOST_PLACES : ∃ t, G.mg "MOST_PLACES" = some (.int 40 t)
  c_MOST_TOKENS : ∃ t, G.mg "MOST_TOKENS" = some (.int 6 t)
  c_OUT : ∃ t, G.mg "OUT" = some (.str "out" t)
  c_THROUGH : ∃ t, G.mg "THROUGH" = some (.str "through" t)
/-! is_integer -/
theorem sc_is_integer : FnScope ["value"] ["value"] (defScope (top 7)) := ⟨rfl, rfl, rfl, by decide +kernel, rfl, by decide +kernel, by decide +kernel⟩
def S_is_integer (β : Box) (ms : List Int) : Fs := (sRet (fAnd (f1 (fun d h => ofB (isT h .int d) h) (fVar 0)) (fNot (f1 (fun d h => ofB (isT h .bool d) h) (fVar 0)))))
def F_is_integer (β : Box) (ms : List Int) : Fd := fDef 1 (S_is_integer β ms)
theorem ss_is_integer {G : Cfg} (gf : GF G) : SSs { G with N := ["value"], sc := defScope (top 7), lev := 0, fnb := fun _ => true } (defBody (top 7)) (S_is_integer G.β G.ms) :=
  (ss_one (ss_ret (se_and (se_isi (t := .int) (by rfl) gf.b_isinstance (by rfl) gf.b_int (by rfl) (by decide) (by decide) (se_var (i := 0) (by rfl) (by first | exact .inl rfl | exact .inr (.inl rfl) | exact .inr (.inr rfl)))) (se_one (se_not (se_isi (t := .bool) (by rfl) gf.b_isinstance (by rfl) gf.b_bool (by rfl) (by decide) (by decide) (se_var (i := 0) (by rfl) (by first | exact .inl rfl | exact .inr (.inl rfl) | exact .inr (.inr rfl)))))))))
theorem ok_is_integer {G : Cfg} (gf : GF G) {f : Addr} {fd : FuncData} (F : FnP G.K "is_integer" (top 7) f fd) (hm : G.mg "is_integer" = some (.ref f)) : DefOk G 1 "is_integer" 1 (F_is_integer G.β G.ms) :=
  def_ok F sc_is_integer hm (F.bindsN fun _ _ _ _ _ _ us hl => match us, hl with | [_], _ => rfl) rfl (ss_is_integer gf)
/-! is_whole -/
theorem sc_is_whole : FnScope ["value", "low", "high"] ["value", "low", "high"] (defScope (top 8)) := ⟨rfl, rfl, rfl, by decide +kernel, rfl, by decide +kernel, by decide +kernel⟩
def S_is_whole (β : Box) (ms : List Int) : Fs := (sRet (fAnd (fCallD 1 (F_is_integer β ms) (faCons (fVar 0) faNil)) (fCh (opLe β) (opLe β) (fVar 1) (fVar 0) (fVar 2))))
def F_is_whole (β : Box) (ms : List Int) : Fd := fDef 3 (S_is_whole β ms)
theorem ss_is_whole {G : Cfg} (gf : GF G) (d_is_integer : DefOk G 1 "is_integer" 1 (F_is_integer G.β G.ms)) : SSs { G with N := ["value", "low", "high"], sc := defScope (top 8), lev := 1, fnb := fun _ => true } (defBody (top 8)) (S_is_whole G.β G.ms) :=
  (ss_one (ss_ret (se_and (se_callG d_is_integer rfl (Nat.le_of_ble_eq_true rfl) (by rfl) (sa_cons (se_var (i := 0) (by rfl) (by first | exact .inl rfl | exact .inr (.inl rfl) | exact .inr (.inr rfl))) sa_nil)) (se_one (se_chain oe_le oe_le im_le im_le (se_var (i := 1) (by rfl) (by first | exact .inl rfl | exact .inr (.inl rfl) | exact .inr (.inr rfl))) (se_var (i := 0) (by rfl) (by first | exact .inl rfl | exact .inr (.inl rfl) | exact .inr (.inr rfl))) (se_var (i := 2) (by rfl) (by first | exact .inl rfl | exact .inr (.inl rfl) | exact .inr (.inr rfl))) (by rfl))))))
theorem ok_is_whole {G : Cfg} (gf : GF G) {f : Addr} {fd : FuncData} (F : FnP G.K "is_whole" (top 8) f fd) (hm : G.mg "is_whole" = some (.ref f)) (d_is_integer : DefOk G 1 "is_integer" 1 (F_is_integer G.β G.ms)) : DefOk G 2 "is_whole" 3 (F_is_whole G.β G.ms) :=
  def_ok F sc_is_whole hm (F.bindsN fun _ _ _ _ _ _ us hl => match us, hl with | [_, _, _], _ => rfl) rfl (ss_is_whole gf d_is_integer)
/-! need_whole -/
theorem sc_need_whole : FnScope ["value", "low", "high"] ["value", "low", "high"] (defScope (top 9)) := ⟨rfl, rfl, rfl, by decide +kernel, rfl, by decide +kernel, by decide +kernel⟩
def S_need_whole (β : Box) (ms : List Int) : Fs := (sIf (bNot (fun env h => asB ((fCallD 3 (F_is_whole β ms) (faCons (fVar 0) (faCons (fVar 1) (faCons (fVar 2) faNil)))) env h))) (fun _ _ => .bad) sNil)
def F_need_whole (β : Box) (ms : List Int) : Fd := fDef 3 (S_need_whole β ms)
theorem ss_need_whole {G : Cfg} (gf : GF G) (d_is_whole : DefOk G 2 "is_whole" 3 (F_is_whole G.β G.ms)) : SSs { G with N := ["value", "low", "high"], sc := defScope (top 9), lev := 2, fnb := fun _ => true } (defBody (top 9)) (S_need_whole G.β G.ms) :=
  (ss_one (ss_if (st_not (st_val (se_callG d_is_whole rfl (Nat.le_of_ble_eq_true rfl) (by rfl) (sa_cons (se_var (i := 0) (by rfl) (by first | exact .inl rfl | exact .inr (.inl rfl) | exact .inr (.inr rfl))) (sa_cons (se_var (i := 1) (by rfl) (by first | exact .inl rfl | exact .inr (.inl rfl) | exact .inr (.inr rfl))) (sa_cons (se_var (i := 2) (by rfl) (by first | exact .inl rfl | exact .inr (.inl rfl) | exact .inr (.inr rfl))) sa_nil)))))) (ss_one ss_bad) ss_nil))
theorem ok_need_whole {G : Cfg} (gf : GF G) {f : Addr} {fd : FuncData} (F : FnP G.K "need_whole" (top 9) f fd) (hm : G.mg "need_whole" = some (.ref f)) (d_is_whole : DefOk G 2 "is_whole" 3 (F_is_whole G.β G.ms)) : DefOk G 3 "need_whole" 3 (F_need_whole G.β G.ms) :=
  def_ok F sc_need_whole hm (F.bindsN fun _ _ _ _ _ _ us hl => match us, hl with | [_, _, _], _ => rfl) rfl (ss_need_whole gf d_is_whole)
/-! is_tuple_of -/
theorem sc_is_tuple_of : FnScope ["value", "low", "high"] ["value", "low", "high"] (defScope (top 10)) := ⟨rfl, rfl, rfl, by decide +kernel, rfl, by decide +kernel, by decide +kernel⟩
def S_is_tuple_of (β : Box) (ms : List Int) : Fs := (sRet (fAnd (f1 (fun d h => ofB (isT h .tuple d) h) (fVar 0)) (fCh (opLe β) (opLe β) (fVar 1) (fCall (opLen) (faCons (fVar 0) faNil)) (fVar 2))))
def F_is_tuple_of (β : Box) (ms : List Int) : Fd := fDef 3 (S_is_tuple_of β ms)
theorem ss_is_tuple_of {G : Cfg} (gf : GF G) : SSs { G with N := ["value", "low", "high"], sc := defScope (top 10), lev := 0, fnb := fun _ => true } (defBody (top 10)) (S_is_tuple_of G.β G.ms) :=
  (ss_one (ss_ret (se_and (se_isi (t := .tuple) (by rfl) gf.b_isinstance (by rfl) gf.b_tuple (by rfl) (by decide) (by decide) (se_var (i := 0) (by rfl) (by first | exact .inl rfl | exact .inr (.inl rfl) | exact .inr (.inr rfl)))) (se_one (se_chain oe_le oe_le im_le im_le (se_var (i := 1) (by rfl) (by first | exact .inl rfl | exact .inr (.inl rfl) | exact .inr (.inr rfl))) (se_callB cr_lenA im_len (by rfl) gf.b_len (by rfl) (sa_cons (se_var (i := 0) (by rfl) (by first | exact .inl rfl | exact .inr (.inl rfl) | exact .inr (.inr rfl))) sa_nil)) (se_var (i := 2) (by rfl) (by first | exact .inl rfl | exact .inr (.inl rfl) | exact .inr (.inr rfl))) (by rfl))))))
theorem ok_is_tuple_of {G : Cfg} (gf : GF G) {f : Addr} {fd : FuncData} (F : FnP G.K "is_tuple_of" (top 10) f fd) (hm : G.mg "is_tuple_of" = some (.ref f)) : DefOk G 1 "is_tuple_of" 3 (F_is_tuple_of G.β G.ms) :=
  def_ok F sc_is_tuple_of hm (F.bindsN fun _ _ _ _ _ _ us hl => match us, hl with | [_, _, _], _ => rfl) rfl (ss_is_tuple_of gf)
/-! is_rising -/
theorem sc_is_rising : FnScope ["things", "one", "other"] ["things"] (defScope (top 11)) := ⟨rfl, rfl, rfl, by decide +kernel, rfl, by decide +kernel, by decide +kernel⟩
def S_is_rising (β : Box) (ms : List Int) : Fs := (sRet (fCall (opAll) (faCons (fFrz (fLc [1, 2] (fZip (fVar 0) (fSlT (fVar 0) (oSome (fC (.int 1))) oNone)) (gT 2 (gsCons (gN 1) (gsCons (gN 2) gsNil))) bYes (f2 (opLt β) (fVar 1) (fVar 2)))) faNil)))
def F_is_rising (β : Box) (ms : List Int) : Fd := fDef 3 (S_is_rising β ms)
theorem ss_is_rising {G : Cfg} (gf : GF G) : SSs { G with N := ["things", "one", "other"], sc := defScope (top 11), lev := 0, fnb := fun _ => true } (defBody (top 11)) (S_is_rising G.β G.ms) :=
  (ss_one (ss_ret (se_callB cr_allA im_all (by rfl) gf.b_all (by rfl) (sa_cons (se_frz (sf_lc [("one", 1), ("other", 2)] (si_zip (by rfl) gf.b_zip (se_var (i := 0) (by rfl) (by first | exact .inl rfl | exact .inr (.inl rfl) | exact .inr (.inr rfl))) (se_slT (se_var (i := 0) (by rfl) (by first | exact .inl rfl | exact .inr (.inl rfl) | exact .inr (.inr rfl))) (so_some se_int) so_none)) (by rfl) (sg_tup (n := 2) (sgs_cons (sg_name (i := 1) (by rfl) (by first | exact .inl rfl | exact .inr rfl) (by rfl)) (sgs_cons (sg_name (i := 2) (by rfl) (by first | exact .inl rfl | exact .inr rfl) (by rfl)) sgs_nil))) (by rfl) sts_nil (se_cmp oe_lt im_lt (se_var (i := 1) (by rfl) (by first | exact .inl rfl | exact .inr (.inl rfl) | exact .inr (.inr rfl))) (se_var (i := 2) (by rfl) (by first | exact .inl rfl | exact .inr (.inl rfl) | exact .inr (.inr rfl))) (by rfl)))) sa_nil))))
theorem ok_is_rising {G : Cfg} (gf : GF G) {f : Addr} {fd : FuncData} (F : FnP G.K "is_rising" (top 11) f fd) (hm : G.mg "is_rising" = some (.ref f)) : DefOk G 1 "is_rising" 1 (F_is_rising G.β G.ms) :=
  def_ok F sc_is_rising hm (F.bindsN fun _ _ _ _ _ _ us hl => match us, hl with | [_], _ => rfl) rfl (ss_is_rising gf)
/-! are_events -/
theorem sc_are_events : FnScope ["events", "value", "event"] ["events", "value"] (defScope (top 19)) := ⟨rfl, rfl, rfl, by decide +kernel, rfl, by decide +kernel, by decide +kernel⟩
def S_are_events (β : Box) (ms : List Int) : Fs := (sSeq (sIf (bOr (bNot (fun env h => asB ((fCallD 3 (F_is_tuple_of β ms) (faCons (fVar 1) (faCons (fC (.int 0)) (faCons (fVar 0) faNil)))) env h))) (bNot (fun env h => asB ((fCall (opAll) (faCons (fFrz (fLc [2] (fIt (fVar 1)) (gN 2) bYes (fCallD 3 (F_is_whole β ms) (faCons (fVar 2) (faCons (fC (.int 0)) (faCons (f2 opSub (fVar 0) (fC (.int 1))) faNil)))))) faNil)) env h)))) (sRet (fC (.bl false))) sNil) (sRet (fCallD 1 (F_is_rising β ms) (faCons (fVar 1) faNil))))
def F_are_events (β : Box) (ms : List Int) : Fd := fDef 3 (S_are_events β ms)
theorem ss_are_events {G : Cfg} (gf : GF G) (d_is_whole : DefOk G 2 "is_whole" 3 (F_is_whole G.β G.ms)) (d_is_tuple_of : DefOk G 1 "is_tuple_of" 3 (F_is_tuple_of G.β G.ms)) (d_is_rising : DefOk G 1 "is_rising" 1 (F_is_rising G.β G.ms)) : SSs { G with N := ["events", "value", "event"], sc := defScope (top 19), lev := 2, fnb := fun _ => true } (defBody (top 19)) (S_are_events G.β G.ms) :=
  (ss_cons (ss_if (st_of (sw_or (st_not (st_val (se_callG d_is_tuple_of rfl (Nat.le_of_ble_eq_true rfl) (by rfl) (sa_cons (se_var (i := 1) (by rfl) (by first | exact .inl rfl | exact .inr (.inl rfl) | exact .inr (.inr rfl))) (sa_cons se_int (sa_cons (se_var (i := 0) (by rfl) (by first | exact .inl rfl | exact .inr (.inl rfl) | exact .inr (.inr rfl))) sa_nil)))))) (sw_or1 (st_not (st_val (se_callB cr_allA im_all (by rfl) gf.b_all (by rfl) (sa_cons (se_frz (sf_lc [("event", 2)] (si_any (se_var (i := 1) (by rfl) (by first | exact .inl rfl | exact .inr (.inl rfl) | exact .inr (.inr rfl)))) (by rfl) (sg_name (i := 2) (by rfl) (by first | exact .inl rfl | exact .inr rfl) (by rfl)) (by rfl) sts_nil (se_callG d_is_whole rfl (Nat.le_of_ble_eq_true rfl) (by rfl) (sa_cons (se_var (i := 2) (by rfl) (by first | exact .inl rfl | exact .inr (.inl rfl) | exact .inr (.inr rfl))) (sa_cons se_int (sa_cons (se_op oe_sub im_sub (se_var (i := 0) (by rfl) (by first | exact .inl rfl | exact .inr (.inl rfl) | exact .inr (.inr rfl))) se_int) sa_nil)))))) sa_nil))))))) (ss_one (ss_ret se_bl)) ss_nil) (ss_one (ss_ret (se_callG d_is_rising rfl (Nat.le_of_ble_eq_true rfl) (by rfl) (sa_cons (se_var (i := 1) (by rfl) (by first | exact .inl rfl | exact .inr (.inl rfl) | exact .inr (.inr rfl))) sa_nil)))))
theorem ok_are_events {G : Cfg} (gf : GF G) {f : Addr} {fd : FuncData} (F : FnP G.K "are_events" (top 19) f fd) (hm : G.mg "are_events" = some (.ref f)) (d_is_whole : DefOk G 2 "is_whole" 3 (F_is_whole G.β G.ms)) (d_is_tuple_of : DefOk G 1 "is_tuple_of" 3 (F_is_tuple_of G.β G.ms)) (d_is_rising : DefOk G 1 "is_rising" 1 (F_is_rising G.β G.ms)) : DefOk G 3 "are_events" 2 (F_are_events G.β G.ms) :=
  def_ok F sc_are_events hm (F.bindsN fun _ _ _ _ _ _ us hl => match us, hl with | [_, _], _ => rfl) rfl (ss_are_events gf d_is_whole d_is_tuple_of d_is_rising)
/-! fits_place -/
theorem sc_fits_place : FnScope ["events", "value", "event"] ["events", "value"] (defScope (top 20)) := ⟨rfl, rfl, rfl, by decide +kernel, rfl, by decide +kernel, by decide +kernel⟩
def S_fits_place (β : Box) (ms : List Int) : Fs := (sSeq (sIf (bOr (bNot (fun env h => asB ((fCallD 3 (F_is_tuple_of β ms) (faCons (fVar 1) (faCons (fC (.int 4)) (faCons (fC (.int 4)) faNil)))) env h))) (bNot (fun env h => asB ((fCall (opAll) (faCons (fFrz (fLc [2] (fIt (fSlT (fVar 1) oNone (oSome (fC (.int 2))))) (gN 2) bYes (fCallD 3 (F_is_whole β ms) (faCons (fVar 2) (faCons (fC (.int 0)) (faCons (f2 opSub (fVar 0) (fC (.int 1))) faNil)))))) faNil)) env h)))) (sRet (fC (.bl false))) sNil) (sRet (fAnd (fCallD 3 (F_is_whole β ms) (faCons (f2 opIx (fVar 1) (fC (.int 2))) (faCons (fC (.int 0)) (faCons (fC (.int 6)) faNil)))) (fCallD 3 (F_is_whole β ms) (faCons (f2 opIx (fVar 1) (fC (.int 3))) (faCons (fC (.int 0)) (faCons (fC (.int 1000)) faNil)))))))
def F_fits_place (β : Box) (ms : List Int) : Fd := fDef 3 (S_fits_place β ms)
theorem ss_fits_place {G : Cfg} (gf : GF G) (d_is_whole : DefOk G 2 "is_whole" 3 (F_is_whole G.β G.ms)) (d_is_tuple_of : DefOk G 1 "is_tuple_of" 3 (F_is_tuple_of G.β G.ms)) : SSs { G with N := ["events", "value", "event"], sc := defScope (top 20), lev := 2, fnb := fun _ => true } (defBody (top 20)) (S_fits_place G.β G.ms) :=
  (ss_cons (ss_if (st_of (sw_or (st_not (st_val (se_callG d_is_tuple_of rfl (Nat.le_of_ble_eq_true rfl) (by rfl) (sa_cons (se_var (i := 1) (by rfl) (by first | exact .inl rfl | exact .inr (.inl rfl) | exact .inr (.inr rfl))) (sa_cons se_int (sa_cons se_int sa_nil)))))) (sw_or1 (st_not (st_val (se_callB cr_allA im_all (by rfl) gf.b_all (by rfl) (sa_cons (se_frz (sf_lc [("event", 2)] (si_any (se_slT (se_var (i := 1) (by rfl) (by first | exact .inl rfl | exact .inr (.inl rfl) | exact .inr (.inr rfl))) so_none (so_some se_int))) (by rfl) (sg_name (i := 2) (by rfl) (by first | exact .inl rfl | exact .inr rfl) (by rfl)) (by rfl) sts_nil (se_callG d_is_whole rfl (Nat.le_of_ble_eq_true rfl) (by rfl) (sa_cons (se_var (i := 2) (by rfl) (by first | exact .inl rfl | exact .inr (.inl rfl) | exact .inr (.inr rfl))) (sa_cons se_int (sa_cons (se_op oe_sub im_sub (se_var (i := 0) (by rfl) (by first | exact .inl rfl | exact .inr (.inl rfl) | exact .inr (.inr rfl))) se_int) sa_nil)))))) sa_nil))))))) (ss_one (ss_ret se_bl)) ss_nil) (ss_one (ss_ret (se_and (se_callG d_is_whole rfl (Nat.le_of_ble_eq_true rfl) (by rfl) (sa_cons (se_ix (se_var (i := 1) (by rfl) (by first | exact .inl rfl | exact .inr (.inl rfl) | exact .inr (.inr rfl))) se_int) (sa_cons se_int (sa_cons (se_gint (by rfl) gf.c_MOST_TOKENS) sa_nil)))) (se_one (se_callG d_is_whole rfl (Nat.le_of_ble_eq_true rfl) (by rfl) (sa_cons (se_ix (se_var (i := 1) (by rfl) (by first | exact .inl rfl | exact .inr (.inl rfl) | exact .inr (.inr rfl))) se_int) (sa_cons se_int (sa_cons (se_gint (by rfl) gf.c_MOST_DELAY) sa_nil)))))))))
theorem ok_fits_place {G : Cfg} (gf : GF G) {f : Addr} {fd : FuncData} (F : FnP G.K "fits_place" (top 20) f fd) (hm : G.mg "fits_place" = some (.ref f)) (d_is_whole : DefOk G 2 "is_whole" 3 (F_is_whole G.β G.ms)) (d_is_tuple_of : DefOk G 1 "is_tuple_of" 3 (F_is_tuple_of G.β G.ms)) : DefOk G 3 "fits_place" 2 (F_fits_place G.β G.ms) :=
  def_ok F sc_fits_place hm (F.bindsN fun _ _ _ _ _ _ us hl => match us, hl with | [_, _], _ => rfl) rfl (ss_fits_place gf d_is_whole d_is_tuple_of)
/-! bare_order -/
theorem sc_bare_order : FnScope ["events", "places", "waits", "found", "has_grown", "event", "place", "source"] ["events", "places"] (defScope (top 21)) := ⟨rfl, rfl, rfl, by decide +kernel, rfl, by decide +kernel, by decide +kernel⟩
def S_bare_order (β : Box) (ms : List Int) : Fs := (sSeq (sSet 2 (fFrz (fLc [5] (fIt (fRng1 (fVar 0))) (gN 5) bYes (fFrz (fLc [6] (fIt (fVar 1)) (gN 6) (bAnd (fun env h => asB ((f2 (opEq β) (f2 opIx (fVar 6) (fC (.int 1))) (fVar 5)) env h)) (fun env h => asB ((f2 (opEq β) (f2 opIx (fVar 6) (fC (.int 2))) (fC (.int 0))) env h))) (f2 opIx (fVar 6) (fC (.int 0)))))))) (sSeq (sAsg (gT 2 (gsCons (gN 3) (gsCons (gN 4) gsNil))) (fTup (faCons (fMut (fLst faNil)) (faCons (fC (.bl true)) faNil)))) (sSeq (sWhile fuel (fun env h => asB ((fVar 4) env h)) (sSeq (sSet 4 (fC (.bl false))) (sFor (fIt (fRng1 (fVar 0))) (gN 5) (sIf (bAnd (fun env h => asB ((f2 (opNi β) (fVar 5) (fVar 3)) env h)) (fun env h => asB ((fCall (opAll) (faCons (fFrz (fLc [7] (fIt (f2 opIx (fVar 2) (fVar 5))) (gN 7) bYes (f2 (opIn β) (fVar 7) (fVar 3)))) faNil)) env h))) (sSeq (sExpr (fApp (fVar 3) (fVar 5))) (sSet 4 (fC (.bl true)))) sNil)))) (sRet (fVar 3)))))
def F_bare_order (β : Box) (ms : List Int) : Fd := fDef 8 (S_bare_order β ms)
theorem ss_bare_order {G : Cfg} (gf : GF G) : SSs { G with N := ["events", "places", "waits", "found", "has_grown", "event", "place", "source"], sc := defScope (top 21), lev := 0, fnb := fun _ => true } (defBody (top 21)) (S_bare_order G.β G.ms) :=
  (ss_cons (ss_setLc [("event", 5)] false (by rfl) (by rfl) (by rfl) (by rfl) (by rfl) (si_any (se_range1 (by rfl) gf.b_range (se_var (i := 0) (by rfl) (by first | exact .inl rfl | exact .inr (.inl rfl) | exact .inr (.inr rfl))))) (by rfl) (sg_name (i := 5) (by rfl) (by first | exact .inl rfl | exact .inr rfl) (by rfl)) (by rfl) sts_nil (se_frz (sf_lc [("place", 6)] (si_any (se_var (i := 1) (by rfl) (by first | exact .inl rfl | exact .inr (.inl rfl) | exact .inr (.inr rfl)))) (by rfl) (sg_name (i := 6) (by rfl) (by first | exact .inl rfl | exact .inr rfl) (by rfl)) (by rfl) (sts_one (st_of (sw_and (st_cmp oe_eq im_eq (se_ix (se_var (i := 6) (by rfl) (by first | exact .inl rfl | exact .inr (.inl rfl) | exact .inr (.inr rfl))) se_int) (se_var (i := 5) (by rfl) (by first | exact .inl rfl | exact .inr (.inl rfl) | exact .inr (.inr rfl))) (by rfl)) (sw_and1 (st_cmp oe_eq im_eq (se_ix (se_var (i := 6) (by rfl) (by first | exact .inl rfl | exact .inr (.inl rfl) | exact .inr (.inr rfl))) se_int) se_int (by rfl)))))) (se_ix (se_var (i := 6) (by rfl) (by first | exact .inl rfl | exact .inr (.inl rfl) | exact .inr (.inr rfl))) se_int)))) (ss_cons (ss_asg (se_tup (sa_cons (se_mut (sf_lst sa_nil)) (sa_cons se_bl sa_nil))) (sg_tup (n := 2) (sgs_cons (sg_name (i := 3) (by rfl) (by first | exact .inl rfl | exact .inr rfl) (by rfl)) (sgs_cons (sg_name (i := 4) (by rfl) (by first | exact .inl rfl | exact .inr rfl) (by rfl)) sgs_nil))) (by rfl)) (ss_cons (ss_while fuel (st_val (se_var (i := 4) (by rfl) (by first | exact .inl rfl | exact .inr (.inl rfl) | exact .inr (.inr rfl)))) (ss_cons (ss_set (i := 4) (by rfl) (by first | exact .inl rfl | exact .inr rfl) (by rfl) se_bl) (ss_one (ss_for (si_any (se_range1 (by rfl) gf.b_range (se_var (i := 0) (by rfl) (by first | exact .inl rfl | exact .inr (.inl rfl) | exact .inr (.inr rfl))))) (sg_name (i := 5) (by rfl) (by first | exact .inl rfl | exact .inr rfl) (by rfl)) (ss_one (ss_if (st_of (sw_and (st_cmp (r := fun K => rInA K true) oe_ni im_ni (se_var (i := 5) (by rfl) (by first | exact .inl rfl | exact .inr (.inl rfl) | exact .inr (.inr rfl))) (se_var (i := 3) (by rfl) (by first | exact .inl rfl | exact .inr (.inl rfl) | exact .inr (.inr rfl))) (by rfl)) (sw_and1 (st_val (se_callB cr_allA im_all (by rfl) gf.b_all (by rfl) (sa_cons (se_frz (sf_lc [("source", 7)] (si_any (se_ix (se_var (i := 2) (by rfl) (by first | exact .inl rfl | exact .inr (.inl rfl) | exact .inr (.inr rfl))) (se_var (i := 5) (by rfl) (by first | exact .inl rfl | exact .inr (.inl rfl) | exact .inr (.inr rfl))))) (by rfl) (sg_name (i := 7) (by rfl) (by first | exact .inl rfl | exact .inr rfl) (by rfl)) (by rfl) sts_nil (se_cmp (r := fun K => rInA K false) oe_in im_in (se_var (i := 7) (by rfl) (by first | exact .inl rfl | exact .inr (.inl rfl) | exact .inr (.inr rfl))) (se_var (i := 3) (by rfl) (by first | exact .inl rfl | exact .inr (.inl rfl) | exact .inr (.inr rfl))) (by rfl)))) sa_nil)))))) (ss_cons (ss_expr (se_append (se_var (i := 3) (by rfl) (by first | exact .inl rfl | exact .inr (.inl rfl) | exact .inr (.inr rfl))) (se_var (i := 5) (by rfl) (by first | exact .inl rfl | exact .inr (.inl rfl) | exact .inr (.inr rfl))))) (ss_one (ss_set (i := 4) (by rfl) (by first | exact .inl rfl | exact .inr rfl) (by rfl) se_bl))) ss_nil)))))) (ss_one (ss_ret (se_var (i := 3) (by rfl) (by first | exact .inl rfl | exact .inr (.inl rfl) | exact .inr (.inr rfl))))))))
theorem ok_bare_order {G : Cfg} (gf : GF G) {f : Addr} {fd : FuncData} (F : FnP G.K "bare_order" (top 21) f fd) (hm : G.mg "bare_order" = some (.ref f)) : DefOk G 1 "bare_order" 2 (F_bare_order G.β G.ms) :=
  def_ok F sc_bare_order hm (F.bindsN fun _ _ _ _ _ _ us hl => match us, hl with | [_, _], _ => rfl) rfl (ss_bare_order gf)
/-! fits_form -/
theorem sc_fits_form : FnScope ["value", "events", "inputs", "outputs", "places", "place"] ["value"] (defScope (top 22)) := ⟨rfl, rfl, rfl, by decide +kernel, rfl, by decide +kernel, by decide +kernel⟩
def S_fits_form (β : Box) (ms : List Int) : Fs := (sSeq (sIf (bOr (bNot (fun env h => asB ((fCallD 3 (F_is_tuple_of β ms) (faCons (fVar 0) (faCons (fC (.int 4)) (faCons (fC (.int 4)) faNil)))) env h))) (bNot (fun env h => asB ((fCallD 3 (F_is_whole β ms) (faCons (f2 opIx (fVar 0) (fC (.int 0))) (faCons (fC (.int 1)) (faCons (fC (.int 12)) faNil)))) env h)))) (sRet (fC (.bl false))) sNil) (sSeq (sAsg (gT 4 (gsCons (gN 1) (gsCons (gN 2) (gsCons (gN 3) (gsCons (gN 4) gsNil))))) (fVar 0)) (sSeq (sIf (bOr (bNot (fun env h => asB ((fCallD 2 (F_are_events β ms) (faCons (fVar 1) (faCons (fVar 2) faNil))) env h))) (bOr (bNot (fun env h => asB ((fCallD 2 (F_are_events β ms) (faCons (fVar 1) (faCons (fVar 3) faNil))) env h))) (bNot (fun env h => asB ((fCallD 3 (F_is_tuple_of β ms) (faCons (fVar 4) (faCons (fC (.int 0)) (faCons (fC (.int 40)) faNil)))) env h))))) (sRet (fC (.bl false))) sNil) (sRet (fAnd (fCall (opAll) (faCons (fFrz (fLc [5] (fIt (fVar 4)) (gN 5) bYes (fCallD 2 (F_fits_place β ms) (faCons (fVar 1) (faCons (fVar 5) faNil))))) faNil)) (fCallD 1 (F_is_rising β ms) (faCons (fVar 4) faNil)))))))
def F_fits_form (β : Box) (ms : List Int) : Fd := fDef 6 (S_fits_form β ms)
theorem ss_fits_form {G : Cfg} (gf : GF G) (d_is_whole : DefOk G 2 "is_whole" 3 (F_is_whole G.β G.ms)) (d_is_tuple_of : DefOk G 1 "is_tuple_of" 3 (F_is_tuple_of G.β G.ms)) (d_are_events : DefOk G 3 "are_events" 2 (F_are_events G.β G.ms)) (d_is_rising : DefOk G 1 "is_rising" 1 (F_is_rising G.β G.ms)) (d_fits_place : DefOk G 3 "fits_place" 2 (F_fits_place G.β G.ms)) : SSs { G with N := ["value", "events", "inputs", "outputs", "places", "place"], sc := defScope (top 22), lev := 3, fnb := fun _ => true } (defBody (top 22)) (S_fits_form G.β G.ms) :=
  (ss_cons (ss_if (st_of (sw_or (st_not (st_val (se_callG d_is_tuple_of rfl (Nat.le_of_ble_eq_true rfl) (by rfl) (sa_cons (se_var (i := 0) (by rfl) (by first | exact .inl rfl | exact .inr (.inl rfl) | exact .inr (.inr rfl))) (sa_cons se_int (sa_cons se_int sa_nil)))))) (sw_or1 (st_not (st_val (se_callG d_is_whole rfl (Nat.le_of_ble_eq_true rfl) (by rfl) (sa_cons (se_ix (se_var (i := 0) (by rfl) (by first | exact .inl rfl | exact .inr (.inl rfl) | exact .inr (.inr rfl))) se_int) (sa_cons se_int (sa_cons (se_gint (by rfl) gf.c_MOST_EVENTS) sa_nil))))))))) (ss_one (ss_ret se_bl)) ss_nil) (ss_cons (ss_asg (se_var (i := 0) (by rfl) (by first | exact .inl rfl | exact .inr (.inl rfl) | exact .inr (.inr rfl))) (sg_tup (n := 4) (sgs_cons (sg_name (i := 1) (by rfl) (by first | exact .inl rfl | exact .inr rfl) (by rfl)) (sgs_cons (sg_name (i := 2) (by rfl) (by first | exact .inl rfl | exact .inr rfl) (by rfl)) (sgs_cons (sg_name (i := 3) (by rfl) (by first | exact .inl rfl | exact .inr rfl) (by rfl)) (sgs_cons (sg_name (i := 4) (by rfl) (by first | exact .inl rfl | exact .inr rfl) (by rfl)) sgs_nil))))) (by rfl)) (ss_cons (ss_if (st_of (sw_or (st_not (st_val (se_callG d_are_events rfl (Nat.le_of_ble_eq_true rfl) (by rfl) (sa_cons (se_var (i := 1) (by rfl) (by first | exact .inl rfl | exact .inr (.inl rfl) | exact .inr (.inr rfl))) (sa_cons (se_var (i := 2) (by rfl) (by first | exact .inl rfl | exact .inr (.inl rfl) | exact .inr (.inr rfl))) sa_nil))))) (sw_or (st_not (st_val (se_callG d_are_events rfl (Nat.le_of_ble_eq_true rfl) (by rfl) (sa_cons (se_var (i := 1) (by rfl) (by first | exact .inl rfl | exact .inr (.inl rfl) | exact .inr (.inr rfl))) (sa_cons (se_var (i := 3) (by rfl) (by first | exact .inl rfl | exact .inr (.inl rfl) | exact .inr (.inr rfl))) sa_nil))))) (sw_or1 (st_not (st_val (se_callG d_is_tuple_of rfl (Nat.le_of_ble_eq_true rfl) (by rfl) (sa_cons (se_var (i := 4) (by rfl) (by first | exact .inl rfl | exact .inr (.inl rfl) | exact .inr (.inr rfl))) (sa_cons se_int (sa_cons (se_gint (by rfl) gf.c_MOST_PLACES) sa_nil)))))))))) (ss_one (ss_ret se_bl)) ss_nil) (ss_one (ss_ret (se_and (se_callB cr_allA im_all (by rfl) gf.b_all (by rfl) (sa_cons (se_frz (sf_lc [("place", 5)] (si_any (se_var (i := 4) (by rfl) (by first | exact .inl rfl | exact .inr (.inl rfl) | exact .inr (.inr rfl)))) (by rfl) (sg_name (i := 5) (by rfl) (by first | exact .inl rfl | exact .inr rfl) (by rfl)) (by rfl) sts_nil (se_callG d_fits_place rfl (Nat.le_of_ble_eq_true rfl) (by rfl) (sa_cons (se_var (i := 1) (by rfl) (by first | exact .inl rfl | exact .inr (.inl rfl) | exact .inr (.inr rfl))) (sa_cons (se_var (i := 5) (by rfl) (by first | exact .inl rfl | exact .inr (.inl rfl) | exact .inr (.inr rfl))) sa_nil))))) sa_nil)) (se_one (se_callG d_is_rising rfl (Nat.le_of_ble_eq_true rfl) (by rfl) (sa_cons (se_var (i := 4) (by rfl) (by first | exact .inl rfl | exact .inr (.inl rfl) | exact .inr (.inr rfl))) sa_nil)))))))))
theorem ok_fits_form {G : Cfg} (gf : GF G) {f : Addr} {fd : FuncData} (F : FnP G.K "fits_form" (top 22) f fd) (hm : G.mg "fits_form" = some (.ref f)) (d_is_whole : DefOk G 2 "is_whole" 3 (F_is_whole G.β G.ms)) (d_is_tuple_of : DefOk G 1 "is_tuple_of" 3 (F_is_tuple_of G.β G.ms)) (d_are_events : DefOk G 3 "are_events" 2 (F_are_events G.β G.ms)) (d_is_rising : DefOk G 1 "is_rising" 1 (F_is_rising G.β G.ms)) (d_fits_place : DefOk G 3 "fits_place" 2 (F_fits_place G.β G.ms)) : DefOk G 4 "fits_form" 1 (F_fits_form G.β G.ms) :=
  def_ok F sc_fits_form hm (F.bindsN fun _ _ _ _ _ _ us hl => match us, hl with | [_], _ => rfl) rfl (ss_fits_form gf d_is_whole d_is_tuple_of d_are_events d_is_rising d_fits_place)
/-! fits_net -/
theorem sc_fits_net : FnScope ["value", "targets", "events", "inputs", "outputs", "places", "event", "place"] ["value"] (defScope (top 23)) := ⟨rfl, rfl, rfl, by decide +kernel, rfl, by decide +kernel, by decide +kernel⟩
def S_fits_net (β : Box) (ms : List Int) : Fs := (sSeq (sIf (bNot (fun env h => asB ((fCallD 1 (F_fits_form β ms) (faCons (fVar 0) faNil)) env h))) (sRet (fC (.bl false))) sNil) (sSeq (sAsg (gT 4 (gsCons (gN 2) (gsCons (gN 3) (gsCons (gN 4) (gsCons (gN 5) gsNil))))) (fVar 0)) (sSeq (sSet 1 (fFrz (fCallL (opSortA β) (faCons (fCall (opDictP false) (faCons (fFrz (fLc [7] (fIt (fVar 5)) (gN 7) bYes (fTup (faCons (f2 opIx (fVar 7) (fC (.int 1))) (faCons (fC (.bl true)) faNil))))) faNil)) faNil)))) (sSeq (sIf (fun env h => asB ((f2 (opNe β) (fVar 1) (fFrz (fLc [6] (fIt (fRng1 (fVar 2))) (gN 6) (fun env h => asB ((f2 (opNi β) (fVar 6) (fVar 3)) env h)) (fVar 6)))) env h)) (sRet (fC (.bl false))) sNil) (sRet (f2 (opEq β) (fCall (opLen) (faCons (fCallD 2 (F_bare_order β ms) (faCons (fVar 2) (faCons (fVar 5) faNil))) faNil)) (fVar 2)))))))
def F_fits_net (β : Box) (ms : List Int) : Fd := fDef 8 (S_fits_net β ms)
theorem ss_fits_net {G : Cfg} (gf : GF G) (d_fits_form : DefOk G 4 "fits_form" 1 (F_fits_form G.β G.ms)) (d_bare_order : DefOk G 1 "bare_order" 2 (F_bare_order G.β G.ms)) : SSs { G with N := ["value", "targets", "events", "inputs", "outputs", "places", "event", "place"], sc := defScope (top 23), lev := 4, fnb := fun _ => true } (defBody (top 23)) (S_fits_net G.β G.ms) :=
  (ss_cons (ss_if (st_not (st_val (se_callG d_fits_form rfl (Nat.le_of_ble_eq_true rfl) (by rfl) (sa_cons (se_var (i := 0) (by rfl) (by first | exact .inl rfl | exact .inr (.inl rfl) | exact .inr (.inr rfl))) sa_nil)))) (ss_one (ss_ret se_bl)) ss_nil) (ss_cons (ss_asg (se_var (i := 0) (by rfl) (by first | exact .inl rfl | exact .inr (.inl rfl) | exact .inr (.inr rfl))) (sg_tup (n := 4) (sgs_cons (sg_name (i := 2) (by rfl) (by first | exact .inl rfl | exact .inr rfl) (by rfl)) (sgs_cons (sg_name (i := 3) (by rfl) (by first | exact .inl rfl | exact .inr rfl) (by rfl)) (sgs_cons (sg_name (i := 4) (by rfl) (by first | exact .inl rfl | exact .inr rfl) (by rfl)) (sgs_cons (sg_name (i := 5) (by rfl) (by first | exact .inl rfl | exact .inr rfl) (by rfl)) sgs_nil))))) (by rfl)) (ss_cons (ss_set (i := 1) (by rfl) (by first | exact .inl rfl | exact .inr rfl) (by rfl) (se_frz (sf_callB cr_sortA im_sortA (by rfl) gf.b_sorted (by rfl) (sa_cons (se_callT cr_dictP (im_dictP false) (by rfl) gf.b_dict (by rfl) (sa_cons (se_frz (sf_lc [("place", 7)] (si_any (se_var (i := 5) (by rfl) (by first | exact .inl rfl | exact .inr (.inl rfl) | exact .inr (.inr rfl)))) (by rfl) (sg_name (i := 7) (by rfl) (by first | exact .inl rfl | exact .inr rfl) (by rfl)) (by rfl) sts_nil (se_tup (sa_cons (se_ix (se_var (i := 7) (by rfl) (by first | exact .inl rfl | exact .inr (.inl rfl) | exact .inr (.inr rfl))) se_int) (sa_cons se_bl sa_nil))))) sa_nil)) sa_nil)))) (ss_cons (ss_if (st_cmp oe_ne im_ne (se_var (i := 1) (by rfl) (by first | exact .inl rfl | exact .inr (.inl rfl) | exact .inr (.inr rfl))) (se_frz (sf_lc [("event", 6)] (si_any (se_range1 (by rfl) gf.b_range (se_var (i := 2) (by rfl) (by first | exact .inl rfl | exact .inr (.inl rfl) | exact .inr (.inr rfl))))) (by rfl) (sg_name (i := 6) (by rfl) (by first | exact .inl rfl | exact .inr rfl) (by rfl)) (by rfl) (sts_one (st_cmp (r := fun K => rInA K true) oe_ni im_ni (se_var (i := 6) (by rfl) (by first | exact .inl rfl | exact .inr (.inl rfl) | exact .inr (.inr rfl))) (se_var (i := 3) (by rfl) (by first | exact .inl rfl | exact .inr (.inl rfl) | exact .inr (.inr rfl))) (by rfl))) (se_var (i := 6) (by rfl) (by first | exact .inl rfl | exact .inr (.inl rfl) | exact .inr (.inr rfl))))) (by rfl)) (ss_one (ss_ret se_bl)) ss_nil) (ss_one (ss_ret (se_cmp oe_eq im_eq (se_callB cr_lenA im_len (by rfl) gf.b_len (by rfl) (sa_cons (se_callG d_bare_order rfl (Nat.le_of_ble_eq_true rfl) (by rfl) (sa_cons (se_var (i := 2) (by rfl) (by first | exact .inl rfl | exact .inr (.inl rfl) | exact .inr (.inr rfl))) (sa_cons (se_var (i := 5) (by rfl) (by first | exact .inl rfl | exact .inr (.inl rfl) | exact .inr (.inr rfl))) sa_nil))) sa_nil)) (se_var (i := 2) (by rfl) (by first | exact .inl rfl | exact .inr (.inl rfl) | exact .inr (.inr rfl))) (by rfl))))))))
theorem ok_fits_net {G : Cfg} (gf : GF G) {f : Addr} {fd : FuncData} (F : FnP G.K "fits_net" (top 23) f fd) (hm : G.mg "fits_net" = some (.ref f)) (d_fits_form : DefOk G 4 "fits_form" 1 (F_fits_form G.β G.ms)) (d_bare_order : DefOk G 1 "bare_order" 2 (F_bare_order G.β G.ms)) : DefOk G 5 "fits_net" 1 (F_fits_net G.β G.ms) :=
  def_ok F sc_fits_net hm (F.bindsN fun _ _ _ _ _ _ us hl => match us, hl with | [_], _ => rfl) rfl (ss_fits_net gf d_fits_form d_bare_order)
/-! need_net -/
theorem sc_need_net : FnScope ["value"] ["value"] (defScope (top 24)) := ⟨rfl, rfl, rfl, by decide +kernel, rfl, by decide +kernel, by decide +kernel⟩
def S_need_net (β : Box) (ms : List Int) : Fs := (sIf (bNot (fun env h => asB ((fCallD 1 (F_fits_net β ms) (faCons (fVar 0) faNil)) env h))) (fun _ _ => .bad) sNil)
def F_need_net (β : Box) (ms : List Int) : Fd := fDef 1 (S_need_net β ms)
theorem ss_need_net {G : Cfg} (gf : GF G) (d_fits_net : DefOk G 5 "fits_net" 1 (F_fits_net G.β G.ms)) : SSs { G with N := ["value"], sc := defScope (top 24), lev := 5, fnb := fun _ => true } (defBody (top 24)) (S_need_net G.β G.ms) :=
  (ss_one (ss_if (st_not (st_val (se_callG d_fits_net rfl (Nat.le_of_ble_eq_true rfl) (by rfl) (sa_cons (se_var (i := 0) (by rfl) (by first | exact .inl rfl | exact .inr (.inl rfl) | exact .inr (.inr rfl))) sa_nil)))) (ss_one ss_bad) ss_nil))
theorem ok_need_net {G : Cfg} (gf : GF G) {f : Addr} {fd : FuncData} (F : FnP G.K "need_net" (top 24) f fd) (hm : G.mg "need_net" = some (.ref f)) (d_fits_net : DefOk G 5 "fits_net" 1 (F_fits_net G.β G.ms)) : DefOk G 6 "need_net" 1 (F_need_net G.β G.ms) :=
  def_ok F sc_need_net hm (F.bindsN fun _ _ _ _ _ _ us hl => match us, hl with | [_], _ => rfl) rfl (ss_need_net gf d_fits_net)
/-! fits_event -/
theorem sc_fits_event : FnScope ["net", "value"] ["net", "value"] (defScope (top 25)) := ⟨rfl, rfl, rfl, by decide +kernel, rfl, by decide +kernel, by decide +kernel⟩
def S_fits_event (β : Box) (ms : List Int) : Fs := (sRet (fCallD 3 (F_is_whole β ms) (faCons (fVar 1) (faCons (fC (.int 0)) (faCons (f2 opSub (f2 opIx (fVar 0) (fC (.int 0))) (fC (.int 1))) faNil)))))
def F_fits_event (β : Box) (ms : List Int) : Fd := fDef 2 (S_fits_event β ms)
theorem ss_fits_event {G : Cfg} (gf : GF G) (d_is_whole : DefOk G 2 "is_whole" 3 (F_is_whole G.β G.ms)) : SSs { G with N := ["net", "value"], sc := defScope (top 25), lev := 2, fnb := fun _ => true } (defBody (top 25)) (S_fits_event G.β G.ms) :=
  (ss_one (ss_ret (se_callG d_is_whole rfl (Nat.le_of_ble_eq_true rfl) (by rfl) (sa_cons (se_var (i := 1) (by rfl) (by first | exact .inl rfl | exact .inr (.inl rfl) | exact .inr (.inr rfl))) (sa_cons se_int (sa_cons (se_op oe_sub im_sub (se_ix (se_var (i := 0) (by rfl) (by first | exact .inl rfl | exact .inr (.inl rfl) | exact .inr (.inr rfl))) se_int) se_int) sa_nil))))))
theorem ok_fits_event {G : Cfg} (gf : GF G) {f : Addr} {fd : FuncData} (F : FnP G.K "fits_event" (top 25) f fd) (hm : G.mg "fits_event" = some (.ref f)) (d_is_whole : DefOk G 2 "is_whole" 3 (F_is_whole G.β G.ms)) : DefOk G 3 "fits_event" 2 (F_fits_event G.β G.ms) :=
  def_ok F sc_fits_event hm (F.bindsN fun _ _ _ _ _ _ us hl => match us, hl with | [_, _], _ => rfl) rfl (ss_fits_event gf d_is_whole)
/-! is_row -/
theorem sc_is_row : FnScope ["value", "many", "one", "other", "time"] ["value", "many"] (defScope (top 26)) := ⟨rfl, rfl, rfl, by decide +kernel, rfl, by decide +kernel, by decide +kernel⟩
def S_is_row (β : Box) (ms : List Int) : Fs := (sSeq (sIf (bOr (bNot (fun env h => asB ((fCallD 3 (F_is_tuple_of β ms) (faCons (fVar 0) (faCons (fVar 1) (faCons (fVar 1) faNil)))) env h))) (bNot (fun env h => asB ((fCall (opAll) (faCons (fFrz (fLc [4] (fIt (fVar 0)) (gN 4) bYes (fCallD 3 (F_is_whole β ms) (faCons (fVar 4) (faCons (fC (.int 0)) (faCons (fC (.int 1000000000000)) faNil)))))) faNil)) env h)))) (sRet (fC (.bl false))) sNil) (sRet (fCall (opAll) (faCons (fFrz (fLc [2, 3] (fZip (fVar 0) (fSlT (fVar 0) (oSome (fC (.int 1))) oNone)) (gT 2 (gsCons (gN 2) (gsCons (gN 3) gsNil))) bYes (f2 (opLe β) (fVar 2) (fVar 3)))) faNil))))
def F_is_row (β : Box) (ms : List Int) : Fd := fDef 5 (S_is_row β ms)
theorem ss_is_row {G : Cfg} (gf : GF G) (d_is_whole : DefOk G 2 "is_whole" 3 (F_is_whole G.β G.ms)) (d_is_tuple_of : DefOk G 1 "is_tuple_of" 3 (F_is_tuple_of G.β G.ms)) : SSs { G with N := ["value", "many", "one", "other", "time"], sc := defScope (top 26), lev := 2, fnb := fun _ => true } (defBody (top 26)) (S_is_row G.β G.ms) :=
  (ss_cons (ss_if (st_of (sw_or (st_not (st_val (se_callG d_is_tuple_of rfl (Nat.le_of_ble_eq_true rfl) (by rfl) (sa_cons (se_var (i := 0) (by rfl) (by first | exact .inl rfl | exact .inr (.inl rfl) | exact .inr (.inr rfl))) (sa_cons (se_var (i := 1) (by rfl) (by first | exact .inl rfl | exact .inr (.inl rfl) | exact .inr (.inr rfl))) (sa_cons (se_var (i := 1) (by rfl) (by first | exact .inl rfl | exact .inr (.inl rfl) | exact .inr (.inr rfl))) sa_nil)))))) (sw_or1 (st_not (st_val (se_callB cr_allA im_all (by rfl) gf.b_all (by rfl) (sa_cons (se_frz (sf_lc [("time", 4)] (si_any (se_var (i := 0) (by rfl) (by first | exact .inl rfl | exact .inr (.inl rfl) | exact .inr (.inr rfl)))) (by rfl) (sg_name (i := 4) (by rfl) (by first | exact .inl rfl | exact .inr rfl) (by rfl)) (by rfl) sts_nil (se_callG d_is_whole rfl (Nat.le_of_ble_eq_true rfl) (by rfl) (sa_cons (se_var (i := 4) (by rfl) (by first | exact .inl rfl | exact .inr (.inl rfl) | exact .inr (.inr rfl))) (sa_cons se_int (sa_cons (se_gint (by rfl) gf.c_FAR) sa_nil)))))) sa_nil))))))) (ss_one (ss_ret se_bl)) ss_nil) (ss_one (ss_ret (se_callB cr_allA im_all (by rfl) gf.b_all (by rfl) (sa_cons (se_frz (sf_lc [("one", 2), ("other", 3)] (si_zip (by rfl) gf.b_zip (se_var (i := 0) (by rfl) (by first | exact .inl rfl | exact .inr (.inl rfl) | exact .inr (.inr rfl))) (se_slT (se_var (i := 0) (by rfl) (by first | exact .inl rfl | exact .inr (.inl rfl) | exact .inr (.inr rfl))) (so_some se_int) so_none)) (by rfl) (sg_tup (n := 2) (sgs_cons (sg_name (i := 2) (by rfl) (by first | exact .inl rfl | exact .inr rfl) (by rfl)) (sgs_cons (sg_name (i := 3) (by rfl) (by first | exact .inl rfl | exact .inr rfl) (by rfl)) sgs_nil))) (by rfl) sts_nil (se_cmp oe_le im_le (se_var (i := 2) (by rfl) (by first | exact .inl rfl | exact .inr (.inl rfl) | exact .inr (.inr rfl))) (se_var (i := 3) (by rfl) (by first | exact .inl rfl | exact .inr (.inl rfl) | exact .inr (.inr rfl))) (by rfl)))) sa_nil)))))
theorem ok_is_row {G : Cfg} (gf : GF G) {f : Addr} {fd : FuncData} (F : FnP G.K "is_row" (top 26) f fd) (hm : G.mg "is_row" = some (.ref f)) (d_is_whole : DefOk G 2 "is_whole" 3 (F_is_whole G.β G.ms)) (d_is_tuple_of : DefOk G 1 "is_tuple_of" 3 (F_is_tuple_of G.β G.ms)) : DefOk G 3 "is_row" 2 (F_is_row G.β G.ms) :=
  def_ok F sc_is_row hm (F.bindsN fun _ _ _ _ _ _ us hl => match us, hl with | [_, _], _ => rfl) rfl (ss_is_row gf d_is_whole d_is_tuple_of)
/-! fits_rows -/
theorem sc_fits_rows : FnScope ["net", "many", "value", "ins", "row"] ["net", "many", "value"] (defScope (top 27)) := ⟨rfl, rfl, rfl, by decide +kernel, rfl, by decide +kernel, by decide +kernel⟩
def S_fits_rows (β : Box) (ms : List Int) : Fs := (sSeq (sSet 3 (fCall (opLen) (faCons (f2 opIx (fVar 0) (fC (.int 1))) faNil))) (sRet (fAnd (fCallD 3 (F_is_tuple_of β ms) (faCons (fVar 2) (faCons (fVar 3) (faCons (fVar 3) faNil)))) (fCall (opAll) (faCons (fFrz (fLc [4] (fIt (fVar 2)) (gN 4) bYes (fCallD 2 (F_is_row β ms) (faCons (fVar 4) (faCons (fVar 1) faNil))))) faNil)))))
def F_fits_rows (β : Box) (ms : List Int) : Fd := fDef 5 (S_fits_rows β ms)
theorem ss_fits_rows {G : Cfg} (gf : GF G) (d_is_row : DefOk G 3 "is_row" 2 (F_is_row G.β G.ms)) (d_is_tuple_of : DefOk G 1 "is_tuple_of" 3 (F_is_tuple_of G.β G.ms)) : SSs { G with N := ["net", "many", "value", "ins", "row"], sc := defScope (top 27), lev := 3, fnb := fun _ => true } (defBody (top 27)) (S_fits_rows G.β G.ms) :=
  (ss_cons (ss_set (i := 3) (by rfl) (by first | exact .inl rfl | exact .inr rfl) (by rfl) (se_callB cr_lenA im_len (by rfl) gf.b_len (by rfl) (sa_cons (se_ix (se_var (i := 0) (by rfl) (by first | exact .inl rfl | exact .inr (.inl rfl) | exact .inr (.inr rfl))) se_int) sa_nil))) (ss_one (ss_ret (se_and (se_callG d_is_tuple_of rfl (Nat.le_of_ble_eq_true rfl) (by rfl) (sa_cons (se_var (i := 2) (by rfl) (by first | exact .inl rfl | exact .inr (.inl rfl) | exact .inr (.inr rfl))) (sa_cons (se_var (i := 3) (by rfl) (by first | exact .inl rfl | exact .inr (.inl rfl) | exact .inr (.inr rfl))) (sa_cons (se_var (i := 3) (by rfl) (by first | exact .inl rfl | exact .inr (.inl rfl) | exact .inr (.inr rfl))) sa_nil)))) (se_one (se_callB cr_allA im_all (by rfl) gf.b_all (by rfl) (sa_cons (se_frz (sf_lc [("row", 4)] (si_any (se_var (i := 2) (by rfl) (by first | exact .inl rfl | exact .inr (.inl rfl) | exact .inr (.inr rfl)))) (by rfl) (sg_name (i := 4) (by rfl) (by first | exact .inl rfl | exact .inr rfl) (by rfl)) (by rfl) sts_nil (se_callG d_is_row rfl (Nat.le_of_ble_eq_true rfl) (by rfl) (sa_cons (se_var (i := 4) (by rfl) (by first | exact .inl rfl | exact .inr (.inl rfl) | exact .inr (.inr rfl))) (sa_cons (se_var (i := 1) (by rfl) (by first | exact .inl rfl | exact .inr (.inl rfl) | exact .inr (.inr rfl))) sa_nil))))) sa_nil)))))))
theorem ok_fits_rows {G : Cfg} (gf : GF G) {f : Addr} {fd : FuncData} (F : FnP G.K "fits_rows" (top 27) f fd) (hm : G.mg "fits_rows" = some (.ref f)) (d_is_row : DefOk G 3 "is_row" 2 (F_is_row G.β G.ms)) (d_is_tuple_of : DefOk G 1 "is_tuple_of" 3 (F_is_tuple_of G.β G.ms)) : DefOk G 4 "fits_rows" 3 (F_fits_rows G.β G.ms) :=
  def_ok F sc_fits_rows hm (F.bindsN fun _ _ _ _ _ _ us hl => match us, hl with | [_, _, _], _ => rfl) rfl (ss_fits_rows gf d_is_row d_is_tuple_of)
/-! need_rows -/
theorem sc_need_rows : FnScope ["net", "many", "value"] ["net", "many", "value"] (defScope (top 28)) := ⟨rfl, rfl, rfl, by decide +kernel, rfl, by decide +kernel, by decide +kernel⟩
def S_need_rows (β : Box) (ms : List Int) : Fs := (sIf (bNot (fun env h => asB ((fCallD 3 (F_fits_rows β ms) (faCons (fVar 0) (faCons (fVar 1) (faCons (fVar 2) faNil)))) env h))) (fun _ _ => .bad) sNil)
def F_need_rows (β : Box) (ms : List Int) : Fd := fDef 3 (S_need_rows β ms)
theorem ss_need_rows {G : Cfg} (gf : GF G) (d_fits_rows : DefOk G 4 "fits_rows" 3 (F_fits_rows G.β G.ms)) : SSs { G with N := ["net", "many", "value"], sc := defScope (top 28), lev := 4, fnb := fun _ => true } (defBody (top 28)) (S_need_rows G.β G.ms) :=
  (ss_one (ss_if (st_not (st_val (se_callG d_fits_rows rfl (Nat.le_of_ble_eq_true rfl) (by rfl) (sa_cons (se_var (i := 0) (by rfl) (by first | exact .inl rfl | exact .inr (.inl rfl) | exact .inr (.inr rfl))) (sa_cons (se_var (i := 1) (by rfl) (by first | exact .inl rfl | exact .inr (.inl rfl) | exact .inr (.inr rfl))) (sa_cons (se_var (i := 2) (by rfl) (by first | exact .inl rfl | exact .inr (.inl rfl) | exact .inr (.inr rfl))) sa_nil)))))) (ss_one ss_bad) ss_nil))
theorem ok_need_rows {G : Cfg} (gf : GF G) {f : Addr} {fd : FuncData} (F : FnP G.K "need_rows" (top 28) f fd) (hm : G.mg "need_rows" = some (.ref f)) (d_fits_rows : DefOk G 4 "fits_rows" 3 (F_fits_rows G.β G.ms)) : DefOk G 5 "need_rows" 3 (F_need_rows G.β G.ms) :=
  def_ok F sc_need_rows hm (F.bindsN fun _ _ _ _ _ _ us hl => match us, hl with | [_, _, _], _ => rfl) rfl (ss_need_rows gf d_fits_rows)
/-! places_into -/
theorem sc_places_into : FnScope ["net", "event", "place"] ["net", "event"] (defScope (top 29)) := ⟨rfl, rfl, rfl, by decide +kernel, rfl, by decide +kernel, by decide +kernel⟩
def S_places_into (β : Box) (ms : List Int) : Fs := (sRet (fCall (opTuple) (faCons (fFrz (fLc [2] (fIt (f2 opIx (fVar 0) (fC (.int 3)))) (gN 2) (fun env h => asB ((f2 (opEq β) (f2 opIx (fVar 2) (fC (.int 1))) (fVar 1)) env h)) (fVar 2))) faNil)))
def F_places_into (β : Box) (ms : List Int) : Fd := fDef 3 (S_places_into β ms)
theorem ss_places_into {G : Cfg} (gf : GF G) : SSs { G with N := ["net", "event", "place"], sc := defScope (top 29), lev := 0, fnb := fun _ => true } (defBody (top 29)) (S_places_into G.β G.ms) :=
  (ss_one (ss_ret (se_callT cr_tupA im_tuple (by rfl) gf.b_tuple (by rfl) (sa_cons (se_frz (sf_lc [("place", 2)] (si_any (se_ix (se_var (i := 0) (by rfl) (by first | exact .inl rfl | exact .inr (.inl rfl) | exact .inr (.inr rfl))) se_int)) (by rfl) (sg_name (i := 2) (by rfl) (by first | exact .inl rfl | exact .inr rfl) (by rfl)) (by rfl) (sts_one (st_cmp oe_eq im_eq (se_ix (se_var (i := 2) (by rfl) (by first | exact .inl rfl | exact .inr (.inl rfl) | exact .inr (.inr rfl))) se_int) (se_var (i := 1) (by rfl) (by first | exact .inl rfl | exact .inr (.inl rfl) | exact .inr (.inr rfl))) (by rfl))) (se_var (i := 2) (by rfl) (by first | exact .inl rfl | exact .inr (.inl rfl) | exact .inr (.inr rfl))))) sa_nil))))
theorem ok_places_into {G : Cfg} (gf : GF G) {f : Addr} {fd : FuncData} (F : FnP G.K "places_into" (top 29) f fd) (hm : G.mg "places_into" = some (.ref f)) : DefOk G 1 "places_into" 2 (F_places_into G.β G.ms) :=
  def_ok F sc_places_into hm (F.bindsN fun _ _ _ _ _ _ us hl => match us, hl with | [_, _], _ => rfl) rfl (ss_places_into gf)
/-! waits_in -/
theorem sc_waits_in : FnScope ["net", "found", "event", "firing", "places", "place"] ["net", "found", "event", "firing"] (defScope (top 30)) := ⟨rfl, rfl, rfl, by decide +kernel, rfl, by decide +kernel, by decide +kernel⟩
def S_waits_in (β : Box) (ms : List Int) : Fs := (sSeq (sSet 4 (fFrz (fLc [5] (fIt (fCallD 2 (F_places_into β ms) (faCons (fVar 0) (faCons (fVar 2) faNil)))) (gN 5) (fun env h => asB ((f2 (opLt β) (f2 opIx (fVar 5) (fC (.int 2))) (fVar 3)) env h)) (fVar 5)))) (sRet (fFrz (fLc [5] (fIt (fVar 4)) (gN 5) bYes (fTup (faCons (fVar 5) (faCons (f2 opAdd (f2 opIx (f2 opIx (fVar 1) (f2 opIx (fVar 5) (fC (.int 0)))) (f2 opSub (f2 opSub (fVar 3) (f2 opIx (fVar 5) (fC (.int 2)))) (fC (.int 1)))) (f2 opIx (fVar 5) (fC (.int 3)))) faNil)))))))
def F_waits_in (β : Box) (ms : List Int) : Fd := fDef 6 (S_waits_in β ms)
theorem ss_waits_in {G : Cfg} (gf : GF G) (d_places_into : DefOk G 1 "places_into" 2 (F_places_into G.β G.ms)) : SSs { G with N := ["net", "found", "event", "firing", "places", "place"], sc := defScope (top 30), lev := 1, fnb := fun _ => true } (defBody (top 30)) (S_waits_in G.β G.ms) :=
  (ss_cons (ss_setLc [("place", 5)] false (by rfl) (by rfl) (by rfl) (by rfl) (by rfl) (si_any (se_callG d_places_into rfl (Nat.le_of_ble_eq_true rfl) (by rfl) (sa_cons (se_var (i := 0) (by rfl) (by first | exact .inl rfl | exact .inr (.inl rfl) | exact .inr (.inr rfl))) (sa_cons (se_var (i := 2) (by rfl) (by first | exact .inl rfl | exact .inr (.inl rfl) | exact .inr (.inr rfl))) sa_nil)))) (by rfl) (sg_name (i := 5) (by rfl) (by first | exact .inl rfl | exact .inr rfl) (by rfl)) (by rfl) (sts_one (st_cmp oe_lt im_lt (se_ix (se_var (i := 5) (by rfl) (by first | exact .inl rfl | exact .inr (.inl rfl) | exact .inr (.inr rfl))) se_int) (se_var (i := 3) (by rfl) (by first | exact .inl rfl | exact .inr (.inl rfl) | exact .inr (.inr rfl))) (by rfl))) (se_var (i := 5) (by rfl) (by first | exact .inl rfl | exact .inr (.inl rfl) | exact .inr (.inr rfl)))) (ss_one (ss_ret (se_frz (sf_lc [("place", 5)] (si_any (se_var (i := 4) (by rfl) (by first | exact .inl rfl | exact .inr (.inl rfl) | exact .inr (.inr rfl)))) (by rfl) (sg_name (i := 5) (by rfl) (by first | exact .inl rfl | exact .inr rfl) (by rfl)) (by rfl) sts_nil (se_tup (sa_cons (se_var (i := 5) (by rfl) (by first | exact .inl rfl | exact .inr (.inl rfl) | exact .inr (.inr rfl))) (sa_cons (se_op oe_add im_add (se_ix (se_ix (se_var (i := 1) (by rfl) (by first | exact .inl rfl | exact .inr (.inl rfl) | exact .inr (.inr rfl))) (se_ix (se_var (i := 5) (by rfl) (by first | exact .inl rfl | exact .inr (.inl rfl) | exact .inr (.inr rfl))) se_int)) (se_op oe_sub im_sub (se_op oe_sub im_sub (se_var (i := 3) (by rfl) (by first | exact .inl rfl | exact .inr (.inl rfl) | exact .inr (.inr rfl))) (se_ix (se_var (i := 5) (by rfl) (by first | exact .inl rfl | exact .inr (.inl rfl) | exact .inr (.inr rfl))) se_int)) se_int)) (se_ix (se_var (i := 5) (by rfl) (by first | exact .inl rfl | exact .inr (.inl rfl) | exact .inr (.inr rfl))) se_int)) sa_nil))))))))
theorem ok_waits_in {G : Cfg} (gf : GF G) {f : Addr} {fd : FuncData} (F : FnP G.K "waits_in" (top 30) f fd) (hm : G.mg "waits_in" = some (.ref f)) (d_places_into : DefOk G 1 "places_into" 2 (F_places_into G.β G.ms)) : DefOk G 2 "waits_in" 4 (F_waits_in G.β G.ms) :=
  def_ok F sc_waits_in hm (F.bindsN fun _ _ _ _ _ _ us hl => match us, hl with | [_, _, _, _], _ => rfl) rfl (ss_waits_in gf d_places_into)
/-! times_in -/
theorem sc_times_in : FnScope ["net", "many", "rows", "found", "order", "firing", "at", "event", "place", "time"] ["net", "many", "rows"] (defScope (top 31)) := ⟨rfl, rfl, rfl, by decide +kernel, rfl, by decide +kernel, by decide +kernel⟩
def S_times_in (β : Box) (ms : List Int) : Fs := (sSeq (sSet 3 (fMut (fLc [7] (fIt (fRng1 (f2 opIx (fVar 0) (fC (.int 0))))) (gN 7) bYes (fMut (fLst faNil))))) (sSeq (sFor (fEnum (f2 opIx (fVar 0) (fC (.int 1)))) (gT 2 (gsCons (gN 6) (gsCons (gN 7) gsNil))) (sSub (fMut (fCallL (opList) (faCons (f2 opIx (fVar 2) (fVar 6)) faNil))) (fVar 3) (fVar 7))) (sSeq (sSet 4 (fFrz (fLc [7] (fIt (fCallD 2 (F_bare_order β ms) (faCons (f2 opIx (fVar 0) (fC (.int 0))) (faCons (f2 opIx (fVar 0) (fC (.int 3))) faNil)))) (gN 7) (fun env h => asB ((f2 (opNi β) (fVar 7) (f2 opIx (fVar 0) (fC (.int 1)))) env h)) (fVar 7)))) (sSeq (sFor (fIt (fRng2 (fC (.int 1)) (f2 opAdd (fVar 1) (fC (.int 1))))) (gN 5) (sFor (fIt (fVar 4)) (gN 7) (sExpr (fApp (f2 opIx (fVar 3) (fVar 7)) (fCall (opMax β) (faCons (fFrz (fCat (fFrz (fLst (faCons (fC (.int 0)) faNil))) (fFrz (fLc [8, 9] (fIt (fCallD 4 (F_waits_in β ms) (faCons (fVar 0) (faCons (fVar 3) (faCons (fVar 7) (faCons (fVar 5) faNil)))))) (gT 2 (gsCons (gN 8) (gsCons (gN 9) gsNil))) bYes (fVar 9))))) faNil)))))) (sRet (fVar 3))))))
def F_times_in (β : Box) (ms : List Int) : Fd := fDef 10 (S_times_in β ms)
theorem ss_times_in {G : Cfg} (gf : GF G) (d_bare_order : DefOk G 1 "bare_order" 2 (F_bare_order G.β G.ms)) (d_waits_in : DefOk G 2 "waits_in" 4 (F_waits_in G.β G.ms)) : SSs { G with N := ["net", "many", "rows", "found", "order", "firing", "at", "event", "place", "time"], sc := defScope (top 31), lev := 2, fnb := fun _ => true } (defBody (top 31)) (S_times_in G.β G.ms) :=
  (ss_cons (ss_setLc [("event", 7)] true (by rfl) (by rfl) (by rfl) (by rfl) (by rfl) (si_any (se_range1 (by rfl) gf.b_range (se_ix (se_var (i := 0) (by rfl) (by first | exact .inl rfl | exact .inr (.inl rfl) | exact .inr (.inr rfl))) se_int))) (by rfl) (sg_name (i := 7) (by rfl) (by first | exact .inl rfl | exact .inr rfl) (by rfl)) (by rfl) sts_nil (se_mut (sf_lst sa_nil))) (ss_cons (ss_for (si_enum (by rfl) gf.b_enumerate (se_ix (se_var (i := 0) (by rfl) (by first | exact .inl rfl | exact .inr (.inl rfl) | exact .inr (.inr rfl))) se_int)) (sg_tup (n := 2) (sgs_cons (sg_name (i := 6) (by rfl) (by first | exact .inl rfl | exact .inr rfl) (by rfl)) (sgs_cons (sg_name (i := 7) (by rfl) (by first | exact .inl rfl | exact .inr rfl) (by rfl)) sgs_nil))) (ss_one (ss_sub (se_mut (sf_callT cr_listA im_list (by rfl) gf.b_list (by rfl) (sa_cons (se_ix (se_var (i := 2) (by rfl) (by first | exact .inl rfl | exact .inr (.inl rfl) | exact .inr (.inr rfl))) (se_var (i := 6) (by rfl) (by first | exact .inl rfl | exact .inr (.inl rfl) | exact .inr (.inr rfl)))) sa_nil))) (se_var (i := 3) (by rfl) (by first | exact .inl rfl | exact .inr (.inl rfl) | exact .inr (.inr rfl))) (se_var (i := 7) (by rfl) (by first | exact .inl rfl | exact .inr (.inl rfl) | exact .inr (.inr rfl))) (by rfl)))) (ss_cons (ss_setLc [("event", 7)] false (by rfl) (by rfl) (by rfl) (by rfl) (by rfl) (si_any (se_callG d_bare_order rfl (Nat.le_of_ble_eq_true rfl) (by rfl) (sa_cons (se_ix (se_var (i := 0) (by rfl) (by first | exact .inl rfl | exact .inr (.inl rfl) | exact .inr (.inr rfl))) se_int) (sa_cons (se_ix (se_var (i := 0) (by rfl) (by first | exact .inl rfl | exact .inr (.inl rfl) | exact .inr (.inr rfl))) se_int) sa_nil)))) (by rfl) (sg_name (i := 7) (by rfl) (by first | exact .inl rfl | exact .inr rfl) (by rfl)) (by rfl) (sts_one (st_cmp (r := fun K => rInA K true) oe_ni im_ni (se_var (i := 7) (by rfl) (by first | exact .inl rfl | exact .inr (.inl rfl) | exact .inr (.inr rfl))) (se_ix (se_var (i := 0) (by rfl) (by first | exact .inl rfl | exact .inr (.inl rfl) | exact .inr (.inr rfl))) se_int) (by rfl))) (se_var (i := 7) (by rfl) (by first | exact .inl rfl | exact .inr (.inl rfl) | exact .inr (.inr rfl)))) (ss_cons (ss_for (si_any (se_range2 (by rfl) gf.b_range se_int (se_op oe_add im_add (se_var (i := 1) (by rfl) (by first | exact .inl rfl | exact .inr (.inl rfl) | exact .inr (.inr rfl))) se_int))) (sg_name (i := 5) (by rfl) (by first | exact .inl rfl | exact .inr rfl) (by rfl)) (ss_one (ss_for (si_any (se_var (i := 4) (by rfl) (by first | exact .inl rfl | exact .inr (.inl rfl) | exact .inr (.inr rfl)))) (sg_name (i := 7) (by rfl) (by first | exact .inl rfl | exact .inr rfl) (by rfl)) (ss_one (ss_expr (se_append (se_ix (se_var (i := 3) (by rfl) (by first | exact .inl rfl | exact .inr (.inl rfl) | exact .inr (.inr rfl))) (se_var (i := 7) (by rfl) (by first | exact .inl rfl | exact .inr (.inl rfl) | exact .inr (.inr rfl)))) (se_callB cr_maxA im_max (by rfl) gf.b_max (by rfl) (sa_cons (se_frz (sf_cat (se_frz (sf_lst (sa_cons se_int sa_nil))) (se_frz (sf_lc [("place", 8), ("time", 9)] (si_any (se_callG d_waits_in rfl (Nat.le_of_ble_eq_true rfl) (by rfl) (sa_cons (se_var (i := 0) (by rfl) (by first | exact .inl rfl | exact .inr (.inl rfl) | exact .inr (.inr rfl))) (sa_cons (se_var (i := 3) (by rfl) (by first | exact .inl rfl | exact .inr (.inl rfl) | exact .inr (.inr rfl))) (sa_cons (se_var (i := 7) (by rfl) (by first | exact .inl rfl | exact .inr (.inl rfl) | exact .inr (.inr rfl))) (sa_cons (se_var (i := 5) (by rfl) (by first | exact .inl rfl | exact .inr (.inl rfl) | exact .inr (.inr rfl))) sa_nil)))))) (by rfl) (sg_tup (n := 2) (sgs_cons (sg_name (i := 8) (by rfl) (by first | exact .inl rfl | exact .inr rfl) (by rfl)) (sgs_cons (sg_name (i := 9) (by rfl) (by first | exact .inl rfl | exact .inr rfl) (by rfl)) sgs_nil))) (by rfl) sts_nil (se_var (i := 9) (by rfl) (by first | exact .inl rfl | exact .inr (.inl rfl) | exact .inr (.inr rfl))))))) sa_nil)))))))) (ss_one (ss_ret (se_var (i := 3) (by rfl) (by first | exact .inl rfl | exact .inr (.inl rfl) | exact .inr (.inr rfl)))))))))
theorem ok_times_in {G : Cfg} (gf : GF G) {f : Addr} {fd : FuncData} (F : FnP G.K "times_in" (top 31) f fd) (hm : G.mg "times_in" = some (.ref f)) (d_bare_order : DefOk G 1 "bare_order" 2 (F_bare_order G.β G.ms)) (d_waits_in : DefOk G 2 "waits_in" 4 (F_waits_in G.β G.ms)) : DefOk G 3 "times_in" 3 (F_times_in G.β G.ms) :=
  def_ok F sc_times_in hm (F.bindsN fun _ _ _ _ _ _ us hl => match us, hl with | [_, _, _], _ => rfl) rfl (ss_times_in gf d_bare_order d_waits_in)
/-! led_to -/
theorem sc_led_to : FnScope ["net", "begins", "found", "todo", "here", "place", "event"] ["net", "begins"] (defScope (top 37)) := ⟨rfl, rfl, rfl, by decide +kernel, rfl, by decide +kernel, by decide +kernel⟩
def S_led_to (β : Box) (ms : List Int) : Fs := (sSeq (sPar 2 3 (faCons (fCall (opDictP true) (faCons (fFrz (fLc [6] (fIt (fVar 1)) (gN 6) bYes (fTup (faCons (fVar 6) (faCons (fC (.bl true)) faNil))))) faNil)) (faCons (fMut (fCallL (opList) (faCons (fVar 1) faNil))) faNil))) (sSeq (sWhile fuel (fun env h => asB ((f2 (opNe β) (fVar 3) (fFrz (fLst faNil))) env h)) (sSeq (sSet 4 (f1 opPop (fVar 3))) (sFor (fIt (f2 opIx (fVar 0) (fC (.int 3)))) (gN 5) (sIf (bAnd (fun env h => asB ((f2 (opEq β) (f2 opIx (fVar 5) (fC (.int 0))) (fVar 4)) env h)) (fun env h => asB ((f2 (opNi β) (f2 opIx (fVar 5) (fC (.int 1))) (fVar 2)) env h))) (sSeq (sSub (fC (.bl true)) (fVar 2) (f2 opIx (fVar 5) (fC (.int 1)))) (sExpr (fApp (fVar 3) (f2 opIx (fVar 5) (fC (.int 1)))))) sNil)))) (sRet (fVar 2))))
def F_led_to (β : Box) (ms : List Int) : Fd := fDef 7 (S_led_to β ms)
theorem ss_led_to {G : Cfg} (gf : GF G) : SSs { G with N := ["net", "begins", "found", "todo", "here", "place", "event"], sc := defScope (top 37), lev := 0, fnb := fun _ => true } (defBody (top 37)) (S_led_to G.β G.ms) :=
  (ss_cons (ss_par (i := 2) (j := 3) (by rfl) (by rfl) (by decide) (by rfl) (by rfl) (sa_cons (se_callT cr_dictP (im_dictP true) (by rfl) gf.b_dict (by rfl) (sa_cons (se_frz (sf_lc [("event", 6)] (si_any (se_var (i := 1) (by rfl) (by first | exact .inl rfl | exact .inr (.inl rfl) | exact .inr (.inr rfl)))) (by rfl) (sg_name (i := 6) (by rfl) (by first | exact .inl rfl | exact .inr rfl) (by rfl)) (by rfl) sts_nil (se_tup (sa_cons (se_var (i := 6) (by rfl) (by first | exact .inl rfl | exact .inr (.inl rfl) | exact .inr (.inr rfl))) (sa_cons se_bl sa_nil))))) sa_nil)) (sa_cons (se_mut (sf_callT cr_listA im_list (by rfl) gf.b_list (by rfl) (sa_cons (se_var (i := 1) (by rfl) (by first | exact .inl rfl | exact .inr (.inl rfl) | exact .inr (.inr rfl))) sa_nil))) sa_nil)) (by rfl)) (ss_cons (ss_while fuel (st_cmp oe_ne im_ne (se_var (i := 3) (by rfl) (by first | exact .inl rfl | exact .inr (.inl rfl) | exact .inr (.inr rfl))) (se_frz (sf_lst sa_nil)) (by rfl)) (ss_cons (ss_set (i := 4) (by rfl) (by first | exact .inl rfl | exact .inr rfl) (by rfl) (se_pop (se_var (i := 3) (by rfl) (by first | exact .inl rfl | exact .inr (.inl rfl) | exact .inr (.inr rfl))))) (ss_one (ss_for (si_any (se_ix (se_var (i := 0) (by rfl) (by first | exact .inl rfl | exact .inr (.inl rfl) | exact .inr (.inr rfl))) se_int)) (sg_name (i := 5) (by rfl) (by first | exact .inl rfl | exact .inr rfl) (by rfl)) (ss_one (ss_if (st_of (sw_and (st_cmp oe_eq im_eq (se_ix (se_var (i := 5) (by rfl) (by first | exact .inl rfl | exact .inr (.inl rfl) | exact .inr (.inr rfl))) se_int) (se_var (i := 4) (by rfl) (by first | exact .inl rfl | exact .inr (.inl rfl) | exact .inr (.inr rfl))) (by rfl)) (sw_and1 (st_cmp (r := fun K => rInA K true) oe_ni im_ni (se_ix (se_var (i := 5) (by rfl) (by first | exact .inl rfl | exact .inr (.inl rfl) | exact .inr (.inr rfl))) se_int) (se_var (i := 2) (by rfl) (by first | exact .inl rfl | exact .inr (.inl rfl) | exact .inr (.inr rfl))) (by rfl))))) (ss_cons (ss_sub se_bl (se_var (i := 2) (by rfl) (by first | exact .inl rfl | exact .inr (.inl rfl) | exact .inr (.inr rfl))) (se_ix (se_var (i := 5) (by rfl) (by first | exact .inl rfl | exact .inr (.inl rfl) | exact .inr (.inr rfl))) se_int) (by rfl)) (ss_one (ss_expr (se_append (se_var (i := 3) (by rfl) (by first | exact .inl rfl | exact .inr (.inl rfl) | exact .inr (.inr rfl))) (se_ix (se_var (i := 5) (by rfl) (by first | exact .inl rfl | exact .inr (.inl rfl) | exact .inr (.inr rfl))) se_int))))) ss_nil)))))) (ss_one (ss_ret (se_var (i := 2) (by rfl) (by first | exact .inl rfl | exact .inr (.inl rfl) | exact .inr (.inr rfl)))))))
theorem ok_led_to {G : Cfg} (gf : GF G) {f : Addr} {fd : FuncData} (F : FnP G.K "led_to" (top 37) f fd) (hm : G.mg "led_to" = some (.ref f)) : DefOk G 1 "led_to" 2 (F_led_to G.β G.ms) :=
  def_ok F sc_led_to hm (F.bindsN fun _ _ _ _ _ _ us hl => match us, hl with | [_, _], _ => rfl) rfl (ss_led_to gf)
/-! is_bound -/
theorem sc_is_bound : FnScope ["net", "place", "others", "best", "tokens", "source", "target", "most", "delay", "turn", "other", "begin", "end", "own", "more", "ahead", "row"] ["net", "place"] (defScope (top 38)) := ⟨rfl, rfl, rfl, by decide +kernel, rfl, by decide +kernel, by decide +kernel⟩
def S_is_bound (β : Box) (ms : List Int) : Fs := (sSeq (sAsg (gT 4 (gsCons (gN 5) (gsCons (gN 6) (gsCons (gN 7) (gsCons (gN 8) gsNil))))) (fVar 1)) (sSeq (sSet 2 (fFrz (fLc [10] (fIt (f2 opIx (fVar 0) (fC (.int 3)))) (gN 10) (fun env h => asB ((f2 (opNe β) (fVar 10) (fVar 1)) env h)) (fVar 10)))) (sSeq (sSet 3 (fFrz (fLc [4] (fIt (fRng1 (f2 opAdd (fVar 7) (fC (.int 1))))) (gN 4) bYes (fMut (fRep (fFrz (fLst (faCons (fC .non) faNil))) (f2 opIx (fVar 0) (fC (.int 0)))))))) (sSeq (sSub (fC (.int 0)) (f2 opIx (fVar 3) (fC (.int 0))) (fVar 5)) (sSeq (sFor (fIt (fRng1 (f2 opAdd (fVar 7) (fC (.int 1))))) (gN 4) (sFor (fIt (fRng1 (f2 opIx (fVar 0) (fC (.int 0))))) (gN 9) (sFor (fIt (fVar 2)) (gT 4 (gsCons (gN 11) (gsCons (gN 12) (gsCons (gN 13) (gsCons (gN 14) gsNil))))) (sSeq (sSet 15 (fIf (fun env h => asB ((f2 (opLe β) (fVar 13) (fVar 4)) env h)) (f2 opIx (f2 opIx (fVar 3) (f2 opSub (fVar 4) (fVar 13))) (fVar 11)) (fC .non))) (sIf (bAnd (fun env h => asB ((f2 (opIn') (fVar 15) (fC .non)) env h)) (bOr (fun env h => asB ((f2 (opIs) (f2 opIx (f2 opIx (fVar 3) (fVar 4)) (fVar 12)) (fC .non)) env h)) (fun env h => asB ((f2 (opLt β) (f2 opIx (f2 opIx (fVar 3) (fVar 4)) (fVar 12)) (f2 opAdd (fVar 15) (fVar 14))) env h)))) (sSub (f2 opAdd (fVar 15) (fVar 14)) (f2 opIx (fVar 3) (fVar 4)) (fVar 12)) sNil))))) (sRet (fCall (opAny) (faCons (fFrz (fLc [16] (fIt (fVar 3)) (gN 16) bYes (fAnd (f2 (opIn') (f2 opIx (fVar 16) (fVar 6)) (fC .non)) (f2 (opGe β) (f2 opIx (fVar 16) (fVar 6)) (fVar 8))))) faNil))))))))
def F_is_bound (β : Box) (ms : List Int) : Fd := fDef 17 (S_is_bound β ms)
theorem ss_is_bound {G : Cfg} (gf : GF G) : SSs { G with N := ["net", "place", "others", "best", "tokens", "source", "target", "most", "delay", "turn", "other", "begin", "end", "own", "more", "ahead", "row"], sc := defScope (top 38), lev := 0, fnb := fun _ => true } (defBody (top 38)) (S_is_bound G.β G.ms) :=
  (ss_cons (ss_asg (se_var (i := 1) (by rfl) (by first | exact .inl rfl | exact .inr (.inl rfl) | exact .inr (.inr rfl))) (sg_tup (n := 4) (sgs_cons (sg_name (i := 5) (by rfl) (by first | exact .inl rfl | exact .inr rfl) (by rfl)) (sgs_cons (sg_name (i := 6) (by rfl) (by first | exact .inl rfl | exact .inr rfl) (by rfl)) (sgs_cons (sg_name (i := 7) (by rfl) (by first | exact .inl rfl | exact .inr rfl) (by rfl)) (sgs_cons (sg_name (i := 8) (by rfl) (by first | exact .inl rfl | exact .inr rfl) (by rfl)) sgs_nil))))) (by rfl)) (ss_cons (ss_setLc [("other", 10)] false (by rfl) (by rfl) (by rfl) (by rfl) (by rfl) (si_any (se_ix (se_var (i := 0) (by rfl) (by first | exact .inl rfl | exact .inr (.inl rfl) | exact .inr (.inr rfl))) se_int)) (by rfl) (sg_name (i := 10) (by rfl) (by first | exact .inl rfl | exact .inr rfl) (by rfl)) (by rfl) (sts_one (st_cmp oe_ne im_ne (se_var (i := 10) (by rfl) (by first | exact .inl rfl | exact .inr (.inl rfl) | exact .inr (.inr rfl))) (se_var (i := 1) (by rfl) (by first | exact .inl rfl | exact .inr (.inl rfl) | exact .inr (.inr rfl))) (by rfl))) (se_var (i := 10) (by rfl) (by first | exact .inl rfl | exact .inr (.inl rfl) | exact .inr (.inr rfl)))) (ss_cons (ss_setLc [("tokens", 4)] false (by rfl) (by rfl) (by rfl) (by rfl) (by rfl) (si_any (se_range1 (by rfl) gf.b_range (se_op oe_add im_add (se_var (i := 7) (by rfl) (by first | exact .inl rfl | exact .inr (.inl rfl) | exact .inr (.inr rfl))) se_int))) (by rfl) (sg_name (i := 4) (by rfl) (by first | exact .inl rfl | exact .inr rfl) (by rfl)) (by rfl) sts_nil (se_mut (sf_rep (se_frz (sf_lst (sa_cons se_non sa_nil))) (se_ix (se_var (i := 0) (by rfl) (by first | exact .inl rfl | exact .inr (.inl rfl) | exact .inr (.inr rfl))) se_int)))) (ss_cons (ss_sub se_int (se_ix (se_var (i := 3) (by rfl) (by first | exact .inl rfl | exact .inr (.inl rfl) | exact .inr (.inr rfl))) se_int) (se_var (i := 5) (by rfl) (by first | exact .inl rfl | exact .inr (.inl rfl) | exact .inr (.inr rfl))) (by rfl)) (ss_cons (ss_for (si_any (se_range1 (by rfl) gf.b_range (se_op oe_add im_add (se_var (i := 7) (by rfl) (by first | exact .inl rfl | exact .inr (.inl rfl) | exact .inr (.inr rfl))) se_int))) (sg_name (i := 4) (by rfl) (by first | exact .inl rfl | exact .inr rfl) (by rfl)) (ss_one (ss_for (si_any (se_range1 (by rfl) gf.b_range (se_ix (se_var (i := 0) (by rfl) (by first | exact .inl rfl | exact .inr (.inl rfl) | exact .inr (.inr rfl))) se_int))) (sg_name (i := 9) (by rfl) (by first | exact .inl rfl | exact .inr rfl) (by rfl)) (ss_one (ss_for (si_any (se_var (i := 2) (by rfl) (by first | exact .inl rfl | exact .inr (.inl rfl) | exact .inr (.inr rfl)))) (sg_tup (n := 4) (sgs_cons (sg_name (i := 11) (by rfl) (by first | exact .inl rfl | exact .inr rfl) (by rfl)) (sgs_cons (sg_name (i := 12) (by rfl) (by first | exact .inl rfl | exact .inr rfl) (by rfl)) (sgs_cons (sg_name (i := 13) (by rfl) (by first | exact .inl rfl | exact .inr rfl) (by rfl)) (sgs_cons (sg_name (i := 14) (by rfl) (by first | exact .inl rfl | exact .inr rfl) (by rfl)) sgs_nil))))) (ss_cons (ss_set (i := 15) (by rfl) (by first | exact .inl rfl | exact .inr rfl) (by rfl) (se_if (st_cmp oe_le im_le (se_var (i := 13) (by rfl) (by first | exact .inl rfl | exact .inr (.inl rfl) | exact .inr (.inr rfl))) (se_var (i := 4) (by rfl) (by first | exact .inl rfl | exact .inr (.inl rfl) | exact .inr (.inr rfl))) (by rfl)) (se_ix (se_ix (se_var (i := 3) (by rfl) (by first | exact .inl rfl | exact .inr (.inl rfl) | exact .inr (.inr rfl))) (se_op oe_sub im_sub (se_var (i := 4) (by rfl) (by first | exact .inl rfl | exact .inr (.inl rfl) | exact .inr (.inr rfl))) (se_var (i := 13) (by rfl) (by first | exact .inl rfl | exact .inr (.inl rfl) | exact .inr (.inr rfl))))) (se_var (i := 11) (by rfl) (by first | exact .inl rfl | exact .inr (.inl rfl) | exact .inr (.inr rfl)))) se_non)) (ss_one (ss_if (st_of (sw_and (st_cmp oe_isn im_isn (se_var (i := 15) (by rfl) (by first | exact .inl rfl | exact .inr (.inl rfl) | exact .inr (.inr rfl))) se_non (by rfl)) (sw_and1 (st_of (sw_or (st_cmp oe_is im_is (se_ix (se_ix (se_var (i := 3) (by rfl) (by first | exact .inl rfl | exact .inr (.inl rfl) | exact .inr (.inr rfl))) (se_var (i := 4) (by rfl) (by first | exact .inl rfl | exact .inr (.inl rfl) | exact .inr (.inr rfl)))) (se_var (i := 12) (by rfl) (by first | exact .inl rfl | exact .inr (.inl rfl) | exact .inr (.inr rfl)))) se_non (by rfl)) (sw_or1 (st_cmp oe_lt im_lt (se_ix (se_ix (se_var (i := 3) (by rfl) (by first | exact .inl rfl | exact .inr (.inl rfl) | exact .inr (.inr rfl))) (se_var (i := 4) (by rfl) (by first | exact .inl rfl | exact .inr (.inl rfl) | exact .inr (.inr rfl)))) (se_var (i := 12) (by rfl) (by first | exact .inl rfl | exact .inr (.inl rfl) | exact .inr (.inr rfl)))) (se_op oe_add im_add (se_var (i := 15) (by rfl) (by first | exact .inl rfl | exact .inr (.inl rfl) | exact .inr (.inr rfl))) (se_var (i := 14) (by rfl) (by first | exact .inl rfl | exact .inr (.inl rfl) | exact .inr (.inr rfl)))) (by rfl)))))))) (ss_one (ss_sub (se_op oe_add im_add (se_var (i := 15) (by rfl) (by first | exact .inl rfl | exact .inr (.inl rfl) | exact .inr (.inr rfl))) (se_var (i := 14) (by rfl) (by first | exact .inl rfl | exact .inr (.inl rfl) | exact .inr (.inr rfl)))) (se_ix (se_var (i := 3) (by rfl) (by first | exact .inl rfl | exact .inr (.inl rfl) | exact .inr (.inr rfl))) (se_var (i := 4) (by rfl) (by first | exact .inl rfl | exact .inr (.inl rfl) | exact .inr (.inr rfl)))) (se_var (i := 12) (by rfl) (by first | exact .inl rfl | exact .inr (.inl rfl) | exact .inr (.inr rfl))) (by rfl))) ss_nil)))))))) (ss_one (ss_ret (se_callB cr_anyA im_any (by rfl) gf.b_any (by rfl) (sa_cons (se_frz (sf_lc [("row", 16)] (si_any (se_var (i := 3) (by rfl) (by first | exact .inl rfl | exact .inr (.inl rfl) | exact .inr (.inr rfl)))) (by rfl) (sg_name (i := 16) (by rfl) (by first | exact .inl rfl | exact .inr rfl) (by rfl)) (by rfl) sts_nil (se_and (se_cmp oe_isn im_isn (se_ix (se_var (i := 16) (by rfl) (by first | exact .inl rfl | exact .inr (.inl rfl) | exact .inr (.inr rfl))) (se_var (i := 6) (by rfl) (by first | exact .inl rfl | exact .inr (.inl rfl) | exact .inr (.inr rfl)))) se_non (by rfl)) (se_one (se_cmp oe_ge im_ge (se_ix (se_var (i := 16) (by rfl) (by first | exact .inl rfl | exact .inr (.inl rfl) | exact .inr (.inr rfl))) (se_var (i := 6) (by rfl) (by first | exact .inl rfl | exact .inr (.inl rfl) | exact .inr (.inr rfl)))) (se_var (i := 8) (by rfl) (by first | exact .inl rfl | exact .inr (.inl rfl) | exact .inr (.inr rfl))) (by rfl)))))) sa_nil)))))))))
theorem ok_is_bound {G : Cfg} (gf : GF G) {f : Addr} {fd : FuncData} (F : FnP G.K "is_bound" (top 38) f fd) (hm : G.mg "is_bound" = some (.ref f)) : DefOk G 1 "is_bound" 2 (F_is_bound G.β G.ms) :=
  def_ok F sc_is_bound hm (F.bindsN fun _ _ _ _ _ _ us hl => match us, hl with | [_, _], _ => rfl) rfl (ss_is_bound gf)
/-! without_events -/
theorem sc_without_events : FnScope ["net", "gone", "places", "left", "names", "kept", "inputs", "event", "place", "at"] ["net", "gone", "places"] (defScope (top 39)) := ⟨rfl, rfl, rfl, by decide +kernel, rfl, by decide +kernel, by decide +kernel⟩
def S_without_events (β : Box) (ms : List Int) : Fs := (sSeq (sSet 3 (fFrz (fLc [7] (fIt (fRng1 (f2 opIx (fVar 0) (fC (.int 0))))) (gN 7) (fun env h => asB ((f2 (opNi β) (fVar 7) (fVar 1)) env h)) (fVar 7)))) (sSeq (sSet 4 (fCall (opDictP false) (faCons (fFrz (fLc [9, 7] (fEnum (fVar 3)) (gT 2 (gsCons (gN 9) (gsCons (gN 7) gsNil))) bYes (fTup (faCons (fVar 7) (faCons (fVar 9) faNil))))) faNil))) (sSeq (sSet 5 (fFrz (fLc [8] (fIt (fVar 2)) (gN 8) bYes (f2 opAdd (fTup (faCons (f2 opGet (fVar 4) (f2 opIx (fVar 8) (fC (.int 0)))) (faCons (f2 opGet (fVar 4) (f2 opIx (fVar 8) (fC (.int 1)))) faNil))) (fSlT (fVar 8) (oSome (fC (.int 2))) oNone))))) (sSeq (sSet 6 (fCall (opTuple) (faCons (fFrz (fLc [7] (fIt (f2 opIx (fVar 0) (fC (.int 1)))) (gN 7) bYes (f2 opGet (fVar 4) (fVar 7)))) faNil))) (sRet (fTup (faCons (fCall (opLen) (faCons (fVar 3) faNil)) (faCons (fVar 6) (faCons (fCall (opTuple) (faCons (fFrz (fLc [7] (fIt (f2 opIx (fVar 0) (fC (.int 2)))) (gN 7) bYes (f2 opGet (fVar 4) (fVar 7)))) faNil)) (faCons (fCall (opTuple) (faCons (fFrz (fSortSet β (fVar 5))) faNil)) faNil))))))))))
def F_without_events (β : Box) (ms : List Int) : Fd := fDef 10 (S_without_events β ms)
theorem ss_without_events {G : Cfg} (gf : GF G) : SSs { G with N := ["net", "gone", "places", "left", "names", "kept", "inputs", "event", "place", "at"], sc := defScope (top 39), lev := 0, fnb := fun _ => true } (defBody (top 39)) (S_without_events G.β G.ms) :=
  (ss_cons (ss_setLc [("event", 7)] false (by rfl) (by rfl) (by rfl) (by rfl) (by rfl) (si_any (se_range1 (by rfl) gf.b_range (se_ix (se_var (i := 0) (by rfl) (by first | exact .inl rfl | exact .inr (.inl rfl) | exact .inr (.inr rfl))) se_int))) (by rfl) (sg_name (i := 7) (by rfl) (by first | exact .inl rfl | exact .inr rfl) (by rfl)) (by rfl) (sts_one (st_cmp (r := fun K => rInA K true) oe_ni im_ni (se_var (i := 7) (by rfl) (by first | exact .inl rfl | exact .inr (.inl rfl) | exact .inr (.inr rfl))) (se_var (i := 1) (by rfl) (by first | exact .inl rfl | exact .inr (.inl rfl) | exact .inr (.inr rfl))) (by rfl))) (se_var (i := 7) (by rfl) (by first | exact .inl rfl | exact .inr (.inl rfl) | exact .inr (.inr rfl)))) (ss_cons (ss_set (i := 4) (by rfl) (by first | exact .inl rfl | exact .inr rfl) (by rfl) (se_callT cr_dictP (im_dictP false) (by rfl) gf.b_dict (by rfl) (sa_cons (se_frz (sf_lc [("at", 9), ("event", 7)] (si_enum (by rfl) gf.b_enumerate (se_var (i := 3) (by rfl) (by first | exact .inl rfl | exact .inr (.inl rfl) | exact .inr (.inr rfl)))) (by rfl) (sg_tup (n := 2) (sgs_cons (sg_name (i := 9) (by rfl) (by first | exact .inl rfl | exact .inr rfl) (by rfl)) (sgs_cons (sg_name (i := 7) (by rfl) (by first | exact .inl rfl | exact .inr rfl) (by rfl)) sgs_nil))) (by rfl) sts_nil (se_tup (sa_cons (se_var (i := 7) (by rfl) (by first | exact .inl rfl | exact .inr (.inl rfl) | exact .inr (.inr rfl))) (sa_cons (se_var (i := 9) (by rfl) (by first | exact .inl rfl | exact .inr (.inl rfl) | exact .inr (.inr rfl))) sa_nil))))) sa_nil))) (ss_cons (ss_setLc [("place", 8)] false (by rfl) (by rfl) (by rfl) (by rfl) (by rfl) (si_any (se_var (i := 2) (by rfl) (by first | exact .inl rfl | exact .inr (.inl rfl) | exact .inr (.inr rfl)))) (by rfl) (sg_name (i := 8) (by rfl) (by first | exact .inl rfl | exact .inr rfl) (by rfl)) (by rfl) sts_nil (se_op oe_add im_add (se_tup (sa_cons (se_get (se_var (i := 4) (by rfl) (by first | exact .inl rfl | exact .inr (.inl rfl) | exact .inr (.inr rfl))) (se_ix (se_var (i := 8) (by rfl) (by first | exact .inl rfl | exact .inr (.inl rfl) | exact .inr (.inr rfl))) se_int)) (sa_cons (se_get (se_var (i := 4) (by rfl) (by first | exact .inl rfl | exact .inr (.inl rfl) | exact .inr (.inr rfl))) (se_ix (se_var (i := 8) (by rfl) (by first | exact .inl rfl | exact .inr (.inl rfl) | exact .inr (.inr rfl))) se_int)) sa_nil))) (se_slT (se_var (i := 8) (by rfl) (by first | exact .inl rfl | exact .inr (.inl rfl) | exact .inr (.inr rfl))) (so_some se_int) so_none))) (ss_cons (ss_set (i := 6) (by rfl) (by first | exact .inl rfl | exact .inr rfl) (by rfl) (se_callT cr_tupA im_tuple (by rfl) gf.b_tuple (by rfl) (sa_cons (se_frz (sf_lc [("event", 7)] (si_any (se_ix (se_var (i := 0) (by rfl) (by first | exact .inl rfl | exact .inr (.inl rfl) | exact .inr (.inr rfl))) se_int)) (by rfl) (sg_name (i := 7) (by rfl) (by first | exact .inl rfl | exact .inr rfl) (by rfl)) (by rfl) sts_nil (se_get (se_var (i := 4) (by rfl) (by first | exact .inl rfl | exact .inr (.inl rfl) | exact .inr (.inr rfl))) (se_var (i := 7) (by rfl) (by first | exact .inl rfl | exact .inr (.inl rfl) | exact .inr (.inr rfl)))))) sa_nil))) (ss_one (ss_ret (se_tup (sa_cons (se_callB cr_lenA im_len (by rfl) gf.b_len (by rfl) (sa_cons (se_var (i := 3) (by rfl) (by first | exact .inl rfl | exact .inr (.inl rfl) | exact .inr (.inr rfl))) sa_nil)) (sa_cons (se_var (i := 6) (by rfl) (by first | exact .inl rfl | exact .inr (.inl rfl) | exact .inr (.inr rfl))) (sa_cons (se_callT cr_tupA im_tuple (by rfl) gf.b_tuple (by rfl) (sa_cons (se_frz (sf_lc [("event", 7)] (si_any (se_ix (se_var (i := 0) (by rfl) (by first | exact .inl rfl | exact .inr (.inl rfl) | exact .inr (.inr rfl))) se_int)) (by rfl) (sg_name (i := 7) (by rfl) (by first | exact .inl rfl | exact .inr rfl) (by rfl)) (by rfl) sts_nil (se_get (se_var (i := 4) (by rfl) (by first | exact .inl rfl | exact .inr (.inl rfl) | exact .inr (.inr rfl))) (se_var (i := 7) (by rfl) (by first | exact .inl rfl | exact .inr (.inl rfl) | exact .inr (.inr rfl)))))) sa_nil)) (sa_cons (se_callT cr_tupA im_tuple (by rfl) gf.b_tuple (by rfl) (sa_cons (se_frz (sf_sortSet (se_var (i := 5) (by rfl) (by first | exact .inl rfl | exact .inr (.inl rfl) | exact .inr (.inr rfl))) (by rfl) gf.b_sorted (by rfl) gf.b_set)) sa_nil)) sa_nil)))))))))))
theorem ok_without_events {G : Cfg} (gf : GF G) {f : Addr} {fd : FuncData} (F : FnP G.K "without_events" (top 39) f fd) (hm : G.mg "without_events" = some (.ref f)) : DefOk G 1 "without_events" 3 (F_without_events G.β G.ms) :=
  def_ok F sc_without_events hm (F.bindsN fun _ _ _ _ _ _ us hl => match us, hl with | [_, _, _], _ => rfl) rfl (ss_without_events gf)
/-! dropped -/
theorem sc_dropped : FnScope ["net", "place", "other"] ["net", "place"] (defScope (top 40)) := ⟨rfl, rfl, rfl, by decide +kernel, rfl, by decide +kernel, by decide +kernel⟩
def S_dropped (β : Box) (ms : List Int) : Fs := (sSeq (sIf (bOr (fun env h => asB ((f2 (opNi β) (fVar 1) (f2 opIx (fVar 0) (fC (.int 3)))) env h)) (bOr (fun env h => asB ((f2 (opLt β) (fCall (opLen) (faCons (fCallD 2 (F_places_into β ms) (faCons (fVar 0) (faCons (f2 opIx (fVar 1) (fC (.int 1))) faNil))) faNil)) (fC (.int 2))) env h)) (bNot (fun env h => asB ((fCallD 2 (F_is_bound β ms) (faCons (fVar 0) (faCons (fVar 1) faNil))) env h))))) (sRet (fC .non)) sNil) (sRet (f2 opAdd (fSlT (fVar 0) oNone (oSome (fC (.int 3)))) (fTup (faCons (fCall (opTuple) (faCons (fFrz (fLc [2] (fIt (f2 opIx (fVar 0) (fC (.int 3)))) (gN 2) (fun env h => asB ((f2 (opNe β) (fVar 2) (fVar 1)) env h)) (fVar 2))) faNil)) faNil)))))
def F_dropped (β : Box) (ms : List Int) : Fd := fDef 3 (S_dropped β ms)
theorem ss_dropped {G : Cfg} (gf : GF G) (d_is_bound : DefOk G 1 "is_bound" 2 (F_is_bound G.β G.ms)) (d_places_into : DefOk G 1 "places_into" 2 (F_places_into G.β G.ms)) : SSs { G with N := ["net", "place", "other"], sc := defScope (top 40), lev := 1, fnb := fun _ => true } (defBody (top 40)) (S_dropped G.β G.ms) :=
  (ss_cons (ss_if (st_of (sw_or (st_cmp (r := fun K => rInA K true) oe_ni im_ni (se_var (i := 1) (by rfl) (by first | exact .inl rfl | exact .inr (.inl rfl) | exact .inr (.inr rfl))) (se_ix (se_var (i := 0) (by rfl) (by first | exact .inl rfl | exact .inr (.inl rfl) | exact .inr (.inr rfl))) se_int) (by rfl)) (sw_or (st_cmp oe_lt im_lt (se_callB cr_lenA im_len (by rfl) gf.b_len (by rfl) (sa_cons (se_callG d_places_into rfl (Nat.le_of_ble_eq_true rfl) (by rfl) (sa_cons (se_var (i := 0) (by rfl) (by first | exact .inl rfl | exact .inr (.inl rfl) | exact .inr (.inr rfl))) (sa_cons (se_ix (se_var (i := 1) (by rfl) (by first | exact .inl rfl | exact .inr (.inl rfl) | exact .inr (.inr rfl))) se_int) sa_nil))) sa_nil)) se_int (by rfl)) (sw_or1 (st_not (st_val (se_callG d_is_bound rfl (Nat.le_of_ble_eq_true rfl) (by rfl) (sa_cons (se_var (i := 0) (by rfl) (by first | exact .inl rfl | exact .inr (.inl rfl) | exact .inr (.inr rfl))) (sa_cons (se_var (i := 1) (by rfl) (by first | exact .inl rfl | exact .inr (.inl rfl) | exact .inr (.inr rfl))) sa_nil))))))))) (ss_one (ss_ret se_non)) ss_nil) (ss_one (ss_ret (se_op oe_add im_add (se_slT (se_var (i := 0) (by rfl) (by first | exact .inl rfl | exact .inr (.inl rfl) | exact .inr (.inr rfl))) so_none (so_some se_int)) (se_tup (sa_cons (se_callT cr_tupA im_tuple (by rfl) gf.b_tuple (by rfl) (sa_cons (se_frz (sf_lc [("other", 2)] (si_any (se_ix (se_var (i := 0) (by rfl) (by first | exact .inl rfl | exact .inr (.inl rfl) | exact .inr (.inr rfl))) se_int)) (by rfl) (sg_name (i := 2) (by rfl) (by first | exact .inl rfl | exact .inr rfl) (by rfl)) (by rfl) (sts_one (st_cmp oe_ne im_ne (se_var (i := 2) (by rfl) (by first | exact .inl rfl | exact .inr (.inl rfl) | exact .inr (.inr rfl))) (se_var (i := 1) (by rfl) (by first | exact .inl rfl | exact .inr (.inl rfl) | exact .inr (.inr rfl))) (by rfl))) (se_var (i := 2) (by rfl) (by first | exact .inl rfl | exact .inr (.inl rfl) | exact .inr (.inr rfl))))) sa_nil)) sa_nil))))))
theorem ok_dropped {G : Cfg} (gf : GF G) {f : Addr} {fd : FuncData} (F : FnP G.K "dropped" (top 40) f fd) (hm : G.mg "dropped" = some (.ref f)) (d_is_bound : DefOk G 1 "is_bound" 2 (F_is_bound G.β G.ms)) (d_places_into : DefOk G 1 "places_into" 2 (F_places_into G.β G.ms)) : DefOk G 2 "dropped" 2 (F_dropped G.β G.ms) :=
  def_ok F sc_dropped hm (F.bindsN fun _ _ _ _ _ _ us hl => match us, hl with | [_, _], _ => rfl) rfl (ss_dropped gf d_is_bound d_places_into)
/-! is_free -/
theorem sc_is_free : FnScope ["net", "event"] ["net", "event"] (defScope (top 41)) := ⟨rfl, rfl, rfl, by decide +kernel, rfl, by decide +kernel, by decide +kernel⟩
def S_is_free (β : Box) (ms : List Int) : Fs := (sRet (fAnd (f2 (opNi β) (fVar 1) (f2 opIx (fVar 0) (fC (.int 1)))) (f2 (opNi β) (fVar 1) (f2 opIx (fVar 0) (fC (.int 2))))))
def F_is_free (β : Box) (ms : List Int) : Fd := fDef 2 (S_is_free β ms)
theorem ss_is_free {G : Cfg} (gf : GF G) : SSs { G with N := ["net", "event"], sc := defScope (top 41), lev := 0, fnb := fun _ => true } (defBody (top 41)) (S_is_free G.β G.ms) :=
  (ss_one (ss_ret (se_and (se_cmp (r := fun K => rInA K true) oe_ni im_ni (se_var (i := 1) (by rfl) (by first | exact .inl rfl | exact .inr (.inl rfl) | exact .inr (.inr rfl))) (se_ix (se_var (i := 0) (by rfl) (by first | exact .inl rfl | exact .inr (.inl rfl) | exact .inr (.inr rfl))) se_int) (by rfl)) (se_one (se_cmp (r := fun K => rInA K true) oe_ni im_ni (se_var (i := 1) (by rfl) (by first | exact .inl rfl | exact .inr (.inl rfl) | exact .inr (.inr rfl))) (se_ix (se_var (i := 0) (by rfl) (by first | exact .inl rfl | exact .inr (.inl rfl) | exact .inr (.inr rfl))) se_int) (by rfl))))))
theorem ok_is_free {G : Cfg} (gf : GF G) {f : Addr} {fd : FuncData} (F : FnP G.K "is_free" (top 41) f fd) (hm : G.mg "is_free" = some (.ref f)) : DefOk G 1 "is_free" 2 (F_is_free G.β G.ms) :=
  def_ok F sc_is_free hm (F.bindsN fun _ _ _ _ _ _ us hl => match us, hl with | [_, _], _ => rfl) rfl (ss_is_free gf)
/-! left_out -/
theorem sc_left_out : FnScope ["net", "event", "gone", "places", "place", "output"] ["net", "event"] (defScope (top 42)) := ⟨rfl, rfl, rfl, by decide +kernel, rfl, by decide +kernel, by decide +kernel⟩
def S_left_out (β : Box) (ms : List Int) : Fs := (sSeq (sSet 2 (fCallD 2 (F_led_to β ms) (faCons (fVar 0) (faCons (fFrz (fLst (faCons (fVar 1) faNil))) faNil)))) (sSeq (sIf (bOr (fun env h => asB ((f2 (opIn β) (fVar 1) (f2 opIx (fVar 0) (fC (.int 1)))) env h)) (bOr (fun env h => asB ((f2 (opEq β) (fCall (opLen) (faCons (fVar 2) faNil)) (f2 opIx (fVar 0) (fC (.int 0)))) env h)) (fun env h => asB ((fCall (opAny) (faCons (fFrz (fLc [5] (fIt (f2 opIx (fVar 0) (fC (.int 2)))) (gN 5) bYes (f2 (opIn β) (fVar 5) (fVar 2)))) faNil)) env h)))) (sRet (fC .non)) sNil) (sSeq (sSet 3 (fFrz (fLc [4] (fIt (f2 opIx (fVar 0) (fC (.int 3)))) (gN 4) (bAnd (fun env h => asB ((f2 (opNi β) (f2 opIx (fVar 4) (fC (.int 0))) (fVar 2)) env h)) (fun env h => asB ((f2 (opNi β) (f2 opIx (fVar 4) (fC (.int 1))) (fVar 2)) env h))) (fVar 4)))) (sRet (fCallD 3 (F_without_events β ms) (faCons (fVar 0) (faCons (fVar 2) (faCons (fVar 3) faNil))))))))
def F_left_out (β : Box) (ms : List Int) : Fd := fDef 6 (S_left_out β ms)
theorem ss_left_out {G : Cfg} (gf : GF G) (d_led_to : DefOk G 1 "led_to" 2 (F_led_to G.β G.ms)) (d_without_events : DefOk G 1 "without_events" 3 (F_without_events G.β G.ms)) : SSs { G with N := ["net", "event", "gone", "places", "place", "output"], sc := defScope (top 42), lev := 1, fnb := fun _ => true } (defBody (top 42)) (S_left_out G.β G.ms) :=
  (ss_cons (ss_set (i := 2) (by rfl) (by first | exact .inl rfl | exact .inr rfl) (by rfl) (se_callG d_led_to rfl (Nat.le_of_ble_eq_true rfl) (by rfl) (sa_cons (se_var (i := 0) (by rfl) (by first | exact .inl rfl | exact .inr (.inl rfl) | exact .inr (.inr rfl))) (sa_cons (se_frz (sf_lst (sa_cons (se_var (i := 1) (by rfl) (by first | exact .inl rfl | exact .inr (.inl rfl) | exact .inr (.inr rfl))) sa_nil))) sa_nil)))) (ss_cons (ss_if (st_of (sw_or (st_cmp (r := fun K => rInA K false) oe_in im_in (se_var (i := 1) (by rfl) (by first | exact .inl rfl | exact .inr (.inl rfl) | exact .inr (.inr rfl))) (se_ix (se_var (i := 0) (by rfl) (by first | exact .inl rfl | exact .inr (.inl rfl) | exact .inr (.inr rfl))) se_int) (by rfl)) (sw_or (st_cmp oe_eq im_eq (se_callB cr_lenA im_len (by rfl) gf.b_len (by rfl) (sa_cons (se_var (i := 2) (by rfl) (by first | exact .inl rfl | exact .inr (.inl rfl) | exact .inr (.inr rfl))) sa_nil)) (se_ix (se_var (i := 0) (by rfl) (by first | exact .inl rfl | exact .inr (.inl rfl) | exact .inr (.inr rfl))) se_int) (by rfl)) (sw_or1 (st_val (se_callB cr_anyA im_any (by rfl) gf.b_any (by rfl) (sa_cons (se_frz (sf_lc [("output", 5)] (si_any (se_ix (se_var (i := 0) (by rfl) (by first | exact .inl rfl | exact .inr (.inl rfl) | exact .inr (.inr rfl))) se_int)) (by rfl) (sg_name (i := 5) (by rfl) (by first | exact .inl rfl | exact .inr rfl) (by rfl)) (by rfl) sts_nil (se_cmp (r := fun K => rInA K false) oe_in im_in (se_var (i := 5) (by rfl) (by first | exact .inl rfl | exact .inr (.inl rfl) | exact .inr (.inr rfl))) (se_var (i := 2) (by rfl) (by first | exact .inl rfl | exact .inr (.inl rfl) | exact .inr (.inr rfl))) (by rfl)))) sa_nil))))))) (ss_one (ss_ret se_non)) ss_nil) (ss_cons (ss_setLc [("place", 4)] false (by rfl) (by rfl) (by rfl) (by rfl) (by rfl) (si_any (se_ix (se_var (i := 0) (by rfl) (by first | exact .inl rfl | exact .inr (.inl rfl) | exact .inr (.inr rfl))) se_int)) (by rfl) (sg_name (i := 4) (by rfl) (by first | exact .inl rfl | exact .inr rfl) (by rfl)) (by rfl) (sts_one (st_of (sw_and (st_cmp (r := fun K => rInA K true) oe_ni im_ni (se_ix (se_var (i := 4) (by rfl) (by first | exact .inl rfl | exact .inr (.inl rfl) | exact .inr (.inr rfl))) se_int) (se_var (i := 2) (by rfl) (by first | exact .inl rfl | exact .inr (.inl rfl) | exact .inr (.inr rfl))) (by rfl)) (sw_and1 (st_cmp (r := fun K => rInA K true) oe_ni im_ni (se_ix (se_var (i := 4) (by rfl) (by first | exact .inl rfl | exact .inr (.inl rfl) | exact .inr (.inr rfl))) se_int) (se_var (i := 2) (by rfl) (by first | exact .inl rfl | exact .inr (.inl rfl) | exact .inr (.inr rfl))) (by rfl)))))) (se_var (i := 4) (by rfl) (by first | exact .inl rfl | exact .inr (.inl rfl) | exact .inr (.inr rfl)))) (ss_one (ss_ret (se_callG d_without_events rfl (Nat.le_of_ble_eq_true rfl) (by rfl) (sa_cons (se_var (i := 0) (by rfl) (by first | exact .inl rfl | exact .inr (.inl rfl) | exact .inr (.inr rfl))) (sa_cons (se_var (i := 2) (by rfl) (by first | exact .inl rfl | exact .inr (.inl rfl) | exact .inr (.inr rfl))) (sa_cons (se_var (i := 3) (by rfl) (by first | exact .inl rfl | exact .inr (.inl rfl) | exact .inr (.inr rfl))) sa_nil)))))))))
theorem ok_left_out {G : Cfg} (gf : GF G) {f : Addr} {fd : FuncData} (F : FnP G.K "left_out" (top 42) f fd) (hm : G.mg "left_out" = some (.ref f)) (d_led_to : DefOk G 1 "led_to" 2 (F_led_to G.β G.ms)) (d_without_events : DefOk G 1 "without_events" 3 (F_without_events G.β G.ms)) : DefOk G 2 "left_out" 2 (F_left_out G.β G.ms) :=
  def_ok F sc_left_out hm (F.bindsN fun _ _ _ _ _ _ us hl => match us, hl with | [_, _], _ => rfl) rfl (ss_left_out gf d_led_to d_without_events)
/-! led_through -/
theorem sc_led_through : FnScope ["net", "event", "places", "found", "into", "back", "source", "here", "tokens", "delay", "place", "there", "target", "more", "later"] ["net", "event"] (defScope (top 43)) := ⟨rfl, rfl, rfl, by decide +kernel, rfl, by decide +kernel, by decide +kernel⟩
def S_led_through (β : Box) (ms : List Int) : Fs := (sSeq (sPar 4 5 (faCons (fCallD 2 (F_places_into β ms) (faCons (fVar 0) (faCons (fVar 1) faNil))) (faCons (fFrz (fLc [10] (fIt (f2 opIx (fVar 0) (fC (.int 3)))) (gN 10) (fun env h => asB ((f2 (opEq β) (f2 opIx (fVar 10) (fC (.int 0))) (fVar 1)) env h)) (fVar 10))) faNil))) (sSeq (sIf (bOr (bNot (fun env h => asB ((fCallD 2 (F_is_free β ms) (faCons (fVar 0) (faCons (fVar 1) faNil))) env h))) (bOr (fun env h => asB ((f2 (opEq β) (fVar 5) (fFrz (fLst faNil))) env h)) (fun env h => asB ((fCall (opAny) (faCons (fFrz (fLc [10] (fIt (fVar 5)) (gN 10) bYes (f2 (opEq β) (f2 opIx (fVar 10) (fC (.int 1))) (fVar 1)))) faNil)) env h)))) (sRet (fC .non)) sNil) (sSeq (sIf (bAnd (fun env h => asB ((fCall (opAll) (faCons (fFrz (fLc [10] (fIt (fVar 4)) (gN 10) bYes (f2 (opGt β) (f2 opIx (fVar 10) (fC (.int 2))) (fC (.int 0))))) faNil)) env h)) (fun env h => asB ((fCall (opAny) (faCons (fFrz (fLc [10] (fIt (fVar 5)) (gN 10) bYes (f2 (opGt β) (f2 opIx (fVar 10) (fC (.int 3))) (fC (.int 0))))) faNil)) env h))) (sRet (fC .non)) sNil) (sSeq (sSet 2 (fMut (fLc [10] (fIt (f2 opIx (fVar 0) (fC (.int 3)))) (gN 10) (fun env h => asB ((f2 (opNi β) (fVar 1) (fSlT (fVar 10) oNone (oSome (fC (.int 2))))) env h)) (fVar 10)))) (sSeq (sFor (fIt (fVar 4)) (gT 4 (gsCons (gN 6) (gsCons (gN 7) (gsCons (gN 8) (gsCons (gN 9) gsNil))))) (sFor (fIt (fVar 5)) (gT 4 (gsCons (gN 11) (gsCons (gN 12) (gsCons (gN 13) (gsCons (gN 14) gsNil))))) (sExpr (fApp (fVar 2) (fTup (faCons (fVar 6) (faCons (fVar 12) (faCons (f2 opAdd (fVar 8) (fVar 13)) (faCons (f2 opAdd (fVar 9) (fVar 14)) faNil))))))))) (sSeq (sSet 3 (fCallD 3 (F_without_events β ms) (faCons (fVar 0) (faCons (fFrz (fLst (faCons (fVar 1) faNil))) (faCons (fVar 2) faNil))))) (sRet (fIf (fun env h => asB ((fCallD 1 (F_fits_net β ms) (faCons (fVar 3) faNil)) env h)) (fVar 3) (fC .non)))))))))
def F_led_through (β : Box) (ms : List Int) : Fd := fDef 15 (S_led_through β ms)
theorem ss_led_through {G : Cfg} (gf : GF G) (d_places_into : DefOk G 1 "places_into" 2 (F_places_into G.β G.ms)) (d_is_free : DefOk G 1 "is_free" 2 (F_is_free G.β G.ms)) (d_without_events : DefOk G 1 "without_events" 3 (F_without_events G.β G.ms)) (d_fits_net : DefOk G 5 "fits_net" 1 (F_fits_net G.β G.ms)) : SSs { G with N := ["net", "event", "places", "found", "into", "back", "source", "here", "tokens", "delay", "place", "there", "target", "more", "later"], sc := defScope (top 43), lev := 5, fnb := fun _ => true } (defBody (top 43)) (S_led_through G.β G.ms) :=
  (ss_cons (ss_par (i := 4) (j := 5) (by rfl) (by rfl) (by decide) (by rfl) (by rfl) (sa_cons (se_callG d_places_into rfl (Nat.le_of_ble_eq_true rfl) (by rfl) (sa_cons (se_var (i := 0) (by rfl) (by first | exact .inl rfl | exact .inr (.inl rfl) | exact .inr (.inr rfl))) (sa_cons (se_var (i := 1) (by rfl) (by first | exact .inl rfl | exact .inr (.inl rfl) | exact .inr (.inr rfl))) sa_nil))) (sa_cons (se_frz (sf_lc [("place", 10)] (si_any (se_ix (se_var (i := 0) (by rfl) (by first | exact .inl rfl | exact .inr (.inl rfl) | exact .inr (.inr rfl))) se_int)) (by rfl) (sg_name (i := 10) (by rfl) (by first | exact .inl rfl | exact .inr rfl) (by rfl)) (by rfl) (sts_one (st_cmp oe_eq im_eq (se_ix (se_var (i := 10) (by rfl) (by first | exact .inl rfl | exact .inr (.inl rfl) | exact .inr (.inr rfl))) se_int) (se_var (i := 1) (by rfl) (by first | exact .inl rfl | exact .inr (.inl rfl) | exact .inr (.inr rfl))) (by rfl))) (se_var (i := 10) (by rfl) (by first | exact .inl rfl | exact .inr (.inl rfl) | exact .inr (.inr rfl))))) sa_nil)) (by rfl)) (ss_cons (ss_if (st_of (sw_or (st_not (st_val (se_callG d_is_free rfl (Nat.le_of_ble_eq_true rfl) (by rfl) (sa_cons (se_var (i := 0) (by rfl) (by first | exact .inl rfl | exact .inr (.inl rfl) | exact .inr (.inr rfl))) (sa_cons (se_var (i := 1) (by rfl) (by first | exact .inl rfl | exact .inr (.inl rfl) | exact .inr (.inr rfl))) sa_nil))))) (sw_or (st_cmp oe_eq im_eq (se_var (i := 5) (by rfl) (by first | exact .inl rfl | exact .inr (.inl rfl) | exact .inr (.inr rfl))) (se_frz (sf_lst sa_nil)) (by rfl)) (sw_or1 (st_val (se_callB cr_anyA im_any (by rfl) gf.b_any (by rfl) (sa_cons (se_frz (sf_lc [("place", 10)] (si_any (se_var (i := 5) (by rfl) (by first | exact .inl rfl | exact .inr (.inl rfl) | exact .inr (.inr rfl)))) (by rfl) (sg_name (i := 10) (by rfl) (by first | exact .inl rfl | exact .inr rfl) (by rfl)) (by rfl) sts_nil (se_cmp oe_eq im_eq (se_ix (se_var (i := 10) (by rfl) (by first | exact .inl rfl | exact .inr (.inl rfl) | exact .inr (.inr rfl))) se_int) (se_var (i := 1) (by rfl) (by first | exact .inl rfl | exact .inr (.inl rfl) | exact .inr (.inr rfl))) (by rfl)))) sa_nil))))))) (ss_one (ss_ret se_non)) ss_nil) (ss_cons (ss_if (st_of (sw_and (st_val (se_callB cr_allA im_all (by rfl) gf.b_all (by rfl) (sa_cons (se_frz (sf_lc [("place", 10)] (si_any (se_var (i := 4) (by rfl) (by first | exact .inl rfl | exact .inr (.inl rfl) | exact .inr (.inr rfl)))) (by rfl) (sg_name (i := 10) (by rfl) (by first | exact .inl rfl | exact .inr rfl) (by rfl)) (by rfl) sts_nil (se_cmp oe_gt im_gt (se_ix (se_var (i := 10) (by rfl) (by first | exact .inl rfl | exact .inr (.inl rfl) | exact .inr (.inr rfl))) se_int) se_int (by rfl)))) sa_nil))) (sw_and1 (st_val (se_callB cr_anyA im_any (by rfl) gf.b_any (by rfl) (sa_cons (se_frz (sf_lc [("place", 10)] (si_any (se_var (i := 5) (by rfl) (by first | exact .inl rfl | exact .inr (.inl rfl) | exact .inr (.inr rfl)))) (by rfl) (sg_name (i := 10) (by rfl) (by first | exact .inl rfl | exact .inr rfl) (by rfl)) (by rfl) sts_nil (se_cmp oe_gt im_gt (se_ix (se_var (i := 10) (by rfl) (by first | exact .inl rfl | exact .inr (.inl rfl) | exact .inr (.inr rfl))) se_int) se_int (by rfl)))) sa_nil)))))) (ss_one (ss_ret se_non)) ss_nil) (ss_cons (ss_setLc [("place", 10)] true (by rfl) (by rfl) (by rfl) (by rfl) (by rfl) (si_any (se_ix (se_var (i := 0) (by rfl) (by first | exact .inl rfl | exact .inr (.inl rfl) | exact .inr (.inr rfl))) se_int)) (by rfl) (sg_name (i := 10) (by rfl) (by first | exact .inl rfl | exact .inr rfl) (by rfl)) (by rfl) (sts_one (st_cmp (r := fun K => rInA K true) oe_ni im_ni (se_var (i := 1) (by rfl) (by first | exact .inl rfl | exact .inr (.inl rfl) | exact .inr (.inr rfl))) (se_slT (se_var (i := 10) (by rfl) (by first | exact .inl rfl | exact .inr (.inl rfl) | exact .inr (.inr rfl))) so_none (so_some se_int)) (by rfl))) (se_var (i := 10) (by rfl) (by first | exact .inl rfl | exact .inr (.inl rfl) | exact .inr (.inr rfl)))) (ss_cons (ss_for (si_any (se_var (i := 4) (by rfl) (by first | exact .inl rfl | exact .inr (.inl rfl) | exact .inr (.inr rfl)))) (sg_tup (n := 4) (sgs_cons (sg_name (i := 6) (by rfl) (by first | exact .inl rfl | exact .inr rfl) (by rfl)) (sgs_cons (sg_name (i := 7) (by rfl) (by first | exact .inl rfl | exact .inr rfl) (by rfl)) (sgs_cons (sg_name (i := 8) (by rfl) (by first | exact .inl rfl | exact .inr rfl) (by rfl)) (sgs_cons (sg_name (i := 9) (by rfl) (by first | exact .inl rfl | exact .inr rfl) (by rfl)) sgs_nil))))) (ss_one (ss_for (si_any (se_var (i := 5) (by rfl) (by first | exact .inl rfl | exact .inr (.inl rfl) | exact .inr (.inr rfl)))) (sg_tup (n := 4) (sgs_cons (sg_name (i := 11) (by rfl) (by first | exact .inl rfl | exact .inr rfl) (by rfl)) (sgs_cons (sg_name (i := 12) (by rfl) (by first | exact .inl rfl | exact .inr rfl) (by rfl)) (sgs_cons (sg_name (i := 13) (by rfl) (by first | exact .inl rfl | exact .inr rfl) (by rfl)) (sgs_cons (sg_name (i := 14) (by rfl) (by first | exact .inl rfl | exact .inr rfl) (by rfl)) sgs_nil))))) (ss_one (ss_expr (se_append (se_var (i := 2) (by rfl) (by first | exact .inl rfl | exact .inr (.inl rfl) | exact .inr (.inr rfl))) (se_tup (sa_cons (se_var (i := 6) (by rfl) (by first | exact .inl rfl | exact .inr (.inl rfl) | exact .inr (.inr rfl))) (sa_cons (se_var (i := 12) (by rfl) (by first | exact .inl rfl | exact .inr (.inl rfl) | exact .inr (.inr rfl))) (sa_cons (se_op oe_add im_add (se_var (i := 8) (by rfl) (by first | exact .inl rfl | exact .inr (.inl rfl) | exact .inr (.inr rfl))) (se_var (i := 13) (by rfl) (by first | exact .inl rfl | exact .inr (.inl rfl) | exact .inr (.inr rfl)))) (sa_cons (se_op oe_add im_add (se_var (i := 9) (by rfl) (by first | exact .inl rfl | exact .inr (.inl rfl) | exact .inr (.inr rfl))) (se_var (i := 14) (by rfl) (by first | exact .inl rfl | exact .inr (.inl rfl) | exact .inr (.inr rfl)))) sa_nil))))))))))) (ss_cons (ss_set (i := 3) (by rfl) (by first | exact .inl rfl | exact .inr rfl) (by rfl) (se_callG d_without_events rfl (Nat.le_of_ble_eq_true rfl) (by rfl) (sa_cons (se_var (i := 0) (by rfl) (by first | exact .inl rfl | exact .inr (.inl rfl) | exact .inr (.inr rfl))) (sa_cons (se_frz (sf_lst (sa_cons (se_var (i := 1) (by rfl) (by first | exact .inl rfl | exact .inr (.inl rfl) | exact .inr (.inr rfl))) sa_nil))) (sa_cons (se_var (i := 2) (by rfl) (by first | exact .inl rfl | exact .inr (.inl rfl) | exact .inr (.inr rfl))) sa_nil))))) (ss_one (ss_ret (se_if (st_val (se_callG d_fits_net rfl (Nat.le_of_ble_eq_true rfl) (by rfl) (sa_cons (se_var (i := 3) (by rfl) (by first | exact .inl rfl | exact .inr (.inl rfl) | exact .inr (.inr rfl))) sa_nil))) (se_var (i := 3) (by rfl) (by first | exact .inl rfl | exact .inr (.inl rfl) | exact .inr (.inr rfl))) se_non)))))))))
theorem ok_led_through {G : Cfg} (gf : GF G) {f : Addr} {fd : FuncData} (F : FnP G.K "led_through" (top 43) f fd) (hm : G.mg "led_through" = some (.ref f)) (d_places_into : DefOk G 1 "places_into" 2 (F_places_into G.β G.ms)) (d_is_free : DefOk G 1 "is_free" 2 (F_is_free G.β G.ms)) (d_without_events : DefOk G 1 "without_events" 3 (F_without_events G.β G.ms)) (d_fits_net : DefOk G 5 "fits_net" 1 (F_fits_net G.β G.ms)) : DefOk G 6 "led_through" 2 (F_led_through G.β G.ms) :=
  def_ok F sc_led_through hm (F.bindsN fun _ _ _ _ _ _ us hl => match us, hl with | [_, _], _ => rfl) rfl (ss_led_through gf d_places_into d_is_free d_without_events d_fits_net)
/-! sources_as -/
theorem sc_sources_as : FnScope ["net", "event", "one", "other", "places", "place"] ["net", "event", "one", "other"] (defScope (top 44)) := ⟨rfl, rfl, rfl, by decide +kernel, rfl, by decide +kernel, by decide +kernel⟩
def S_sources_as (β : Box) (ms : List Int) : Fs := (sSeq (sSet 4 (fFrz (fLc [5] (fIt (fCallD 2 (F_places_into β ms) (faCons (fVar 0) (faCons (fVar 1) faNil)))) (gN 5) bYes (f2 opAdd (fTup (faCons (fIf (fun env h => asB ((f2 (opEq β) (f2 opIx (fVar 5) (fC (.int 0))) (fVar 3)) env h)) (fVar 2) (f2 opIx (fVar 5) (fC (.int 0)))) faNil)) (fSlT (fVar 5) (oSome (fC (.int 2))) oNone))))) (sRet (fFrz (fSortSet β (fVar 4)))))
def F_sources_as (β : Box) (ms : List Int) : Fd := fDef 6 (S_sources_as β ms)
theorem ss_sources_as {G : Cfg} (gf : GF G) (d_places_into : DefOk G 1 "places_into" 2 (F_places_into G.β G.ms)) : SSs { G with N := ["net", "event", "one", "other", "places", "place"], sc := defScope (top 44), lev := 1, fnb := fun _ => true } (defBody (top 44)) (S_sources_as G.β G.ms) :=
  (ss_cons (ss_setLc [("place", 5)] false (by rfl) (by rfl) (by rfl) (by rfl) (by rfl) (si_any (se_callG d_places_into rfl (Nat.le_of_ble_eq_true rfl) (by rfl) (sa_cons (se_var (i := 0) (by rfl) (by first | exact .inl rfl | exact .inr (.inl rfl) | exact .inr (.inr rfl))) (sa_cons (se_var (i := 1) (by rfl) (by first | exact .inl rfl | exact .inr (.inl rfl) | exact .inr (.inr rfl))) sa_nil)))) (by rfl) (sg_name (i := 5) (by rfl) (by first | exact .inl rfl | exact .inr rfl) (by rfl)) (by rfl) sts_nil (se_op oe_add im_add (se_tup (sa_cons (se_if (st_cmp oe_eq im_eq (se_ix (se_var (i := 5) (by rfl) (by first | exact .inl rfl | exact .inr (.inl rfl) | exact .inr (.inr rfl))) se_int) (se_var (i := 3) (by rfl) (by first | exact .inl rfl | exact .inr (.inl rfl) | exact .inr (.inr rfl))) (by rfl)) (se_var (i := 2) (by rfl) (by first | exact .inl rfl | exact .inr (.inl rfl) | exact .inr (.inr rfl))) (se_ix (se_var (i := 5) (by rfl) (by first | exact .inl rfl | exact .inr (.inl rfl) | exact .inr (.inr rfl))) se_int)) sa_nil)) (se_slT (se_var (i := 5) (by rfl) (by first | exact .inl rfl | exact .inr (.inl rfl) | exact .inr (.inr rfl))) (so_some se_int) so_none))) (ss_one (ss_ret (se_frz (sf_sortSet (se_var (i := 4) (by rfl) (by first | exact .inl rfl | exact .inr (.inl rfl) | exact .inr (.inr rfl))) (by rfl) gf.b_sorted (by rfl) gf.b_set)))))
theorem ok_sources_as {G : Cfg} (gf : GF G) {f : Addr} {fd : FuncData} (F : FnP G.K "sources_as" (top 44) f fd) (hm : G.mg "sources_as" = some (.ref f)) (d_places_into : DefOk G 1 "places_into" 2 (F_places_into G.β G.ms)) : DefOk G 2 "sources_as" 4 (F_sources_as G.β G.ms) :=
  def_ok F sc_sources_as hm (F.bindsN fun _ _ _ _ _ _ us hl => match us, hl with | [_, _, _, _], _ => rfl) rfl (ss_sources_as gf d_places_into)
/-! made_one -/
theorem sc_made_one : FnScope ["net", "event", "other", "places", "place"] ["net", "event", "other"] (defScope (top 45)) := ⟨rfl, rfl, rfl, by decide +kernel, rfl, by decide +kernel, by decide +kernel⟩
def S_made_one (β : Box) (ms : List Int) : Fs := (sSeq (sIf (bOr (fun env h => asB ((f2 (opEq β) (fVar 1) (fVar 2)) env h)) (bOr (fun env h => asB ((f2 (opIn β) (fVar 1) (f2 opIx (fVar 0) (fC (.int 1)))) env h)) (bNot (fun env h => asB ((fCallD 2 (F_is_free β ms) (faCons (fVar 0) (faCons (fVar 2) faNil))) env h))))) (sRet (fC .non)) sNil) (sSeq (sIf (fun env h => asB ((f2 (opNe β) (fCallD 4 (F_sources_as β ms) (faCons (fVar 0) (faCons (fVar 1) (faCons (fVar 1) (faCons (fVar 2) faNil))))) (fCallD 4 (F_sources_as β ms) (faCons (fVar 0) (faCons (fVar 2) (faCons (fVar 1) (faCons (fVar 2) faNil)))))) env h)) (sRet (fC .non)) sNil) (sSeq (sSet 3 (fFrz (fLc [4] (fIt (f2 opIx (fVar 0) (fC (.int 3)))) (gN 4) (fun env h => asB ((f2 (opNe β) (f2 opIx (fVar 4) (fC (.int 1))) (fVar 2)) env h)) (f2 opAdd (fTup (faCons (fIf (fun env h => asB ((f2 (opEq β) (f2 opIx (fVar 4) (fC (.int 0))) (fVar 2)) env h)) (fVar 1) (f2 opIx (fVar 4) (fC (.int 0)))) faNil)) (fSlT (fVar 4) (oSome (fC (.int 1))) oNone))))) (sRet (fCallD 3 (F_without_events β ms) (faCons (fVar 0) (faCons (fFrz (fLst (faCons (fVar 2) faNil))) (faCons (fVar 3) faNil))))))))
def F_made_one (β : Box) (ms : List Int) : Fd := fDef 5 (S_made_one β ms)
theorem ss_made_one {G : Cfg} (gf : GF G) (d_is_free : DefOk G 1 "is_free" 2 (F_is_free G.β G.ms)) (d_sources_as : DefOk G 2 "sources_as" 4 (F_sources_as G.β G.ms)) (d_without_events : DefOk G 1 "without_events" 3 (F_without_events G.β G.ms)) : SSs { G with N := ["net", "event", "other", "places", "place"], sc := defScope (top 45), lev := 2, fnb := fun _ => true } (defBody (top 45)) (S_made_one G.β G.ms) :=
  (ss_cons (ss_if (st_of (sw_or (st_cmp oe_eq im_eq (se_var (i := 1) (by rfl) (by first | exact .inl rfl | exact .inr (.inl rfl) | exact .inr (.inr rfl))) (se_var (i := 2) (by rfl) (by first | exact .inl rfl | exact .inr (.inl rfl) | exact .inr (.inr rfl))) (by rfl)) (sw_or (st_cmp (r := fun K => rInA K false) oe_in im_in (se_var (i := 1) (by rfl) (by first | exact .inl rfl | exact .inr (.inl rfl) | exact .inr (.inr rfl))) (se_ix (se_var (i := 0) (by rfl) (by first | exact .inl rfl | exact .inr (.inl rfl) | exact .inr (.inr rfl))) se_int) (by rfl)) (sw_or1 (st_not (st_val (se_callG d_is_free rfl (Nat.le_of_ble_eq_true rfl) (by rfl) (sa_cons (se_var (i := 0) (by rfl) (by first | exact .inl rfl | exact .inr (.inl rfl) | exact .inr (.inr rfl))) (sa_cons (se_var (i := 2) (by rfl) (by first | exact .inl rfl | exact .inr (.inl rfl) | exact .inr (.inr rfl))) sa_nil))))))))) (ss_one (ss_ret se_non)) ss_nil) (ss_cons (ss_if (st_cmp oe_ne im_ne (se_callG d_sources_as rfl (Nat.le_of_ble_eq_true rfl) (by rfl) (sa_cons (se_var (i := 0) (by rfl) (by first | exact .inl rfl | exact .inr (.inl rfl) | exact .inr (.inr rfl))) (sa_cons (se_var (i := 1) (by rfl) (by first | exact .inl rfl | exact .inr (.inl rfl) | exact .inr (.inr rfl))) (sa_cons (se_var (i := 1) (by rfl) (by first | exact .inl rfl | exact .inr (.inl rfl) | exact .inr (.inr rfl))) (sa_cons (se_var (i := 2) (by rfl) (by first | exact .inl rfl | exact .inr (.inl rfl) | exact .inr (.inr rfl))) sa_nil))))) (se_callG d_sources_as rfl (Nat.le_of_ble_eq_true rfl) (by rfl) (sa_cons (se_var (i := 0) (by rfl) (by first | exact .inl rfl | exact .inr (.inl rfl) | exact .inr (.inr rfl))) (sa_cons (se_var (i := 2) (by rfl) (by first | exact .inl rfl | exact .inr (.inl rfl) | exact .inr (.inr rfl))) (sa_cons (se_var (i := 1) (by rfl) (by first | exact .inl rfl | exact .inr (.inl rfl) | exact .inr (.inr rfl))) (sa_cons (se_var (i := 2) (by rfl) (by first | exact .inl rfl | exact .inr (.inl rfl) | exact .inr (.inr rfl))) sa_nil))))) (by rfl)) (ss_one (ss_ret se_non)) ss_nil) (ss_cons (ss_setLc [("place", 4)] false (by rfl) (by rfl) (by rfl) (by rfl) (by rfl) (si_any (se_ix (se_var (i := 0) (by rfl) (by first | exact .inl rfl | exact .inr (.inl rfl) | exact .inr (.inr rfl))) se_int)) (by rfl) (sg_name (i := 4) (by rfl) (by first | exact .inl rfl | exact .inr rfl) (by rfl)) (by rfl) (sts_one (st_cmp oe_ne im_ne (se_ix (se_var (i := 4) (by rfl) (by first | exact .inl rfl | exact .inr (.inl rfl) | exact .inr (.inr rfl))) se_int) (se_var (i := 2) (by rfl) (by first | exact .inl rfl | exact .inr (.inl rfl) | exact .inr (.inr rfl))) (by rfl))) (se_op oe_add im_add (se_tup (sa_cons (se_if (st_cmp oe_eq im_eq (se_ix (se_var (i := 4) (by rfl) (by first | exact .inl rfl | exact .inr (.inl rfl) | exact .inr (.inr rfl))) se_int) (se_var (i := 2) (by rfl) (by first | exact .inl rfl | exact .inr (.inl rfl) | exact .inr (.inr rfl))) (by rfl)) (se_var (i := 1) (by rfl) (by first | exact .inl rfl | exact .inr (.inl rfl) | exact .inr (.inr rfl))) (se_ix (se_var (i := 4) (by rfl) (by first | exact .inl rfl | exact .inr (.inl rfl) | exact .inr (.inr rfl))) se_int)) sa_nil)) (se_slT (se_var (i := 4) (by rfl) (by first | exact .inl rfl | exact .inr (.inl rfl) | exact .inr (.inr rfl))) (so_some se_int) so_none))) (ss_one (ss_ret (se_callG d_without_events rfl (Nat.le_of_ble_eq_true rfl) (by rfl) (sa_cons (se_var (i := 0) (by rfl) (by first | exact .inl rfl | exact .inr (.inl rfl) | exact .inr (.inr rfl))) (sa_cons (se_frz (sf_lst (sa_cons (se_var (i := 2) (by rfl) (by first | exact .inl rfl | exact .inr (.inl rfl) | exact .inr (.inr rfl))) sa_nil))) (sa_cons (se_var (i := 3) (by rfl) (by first | exact .inl rfl | exact .inr (.inl rfl) | exact .inr (.inr rfl))) sa_nil)))))))))
theorem ok_made_one {G : Cfg} (gf : GF G) {f : Addr} {fd : FuncData} (F : FnP G.K "made_one" (top 45) f fd) (hm : G.mg "made_one" = some (.ref f)) (d_is_free : DefOk G 1 "is_free" 2 (F_is_free G.β G.ms)) (d_sources_as : DefOk G 2 "sources_as" 4 (F_sources_as G.β G.ms)) (d_without_events : DefOk G 1 "without_events" 3 (F_without_events G.β G.ms)) : DefOk G 3 "made_one" 3 (F_made_one G.β G.ms) :=
  def_ok F sc_made_one hm (F.bindsN fun _ _ _ _ _ _ us hl => match us, hl with | [_, _, _], _ => rfl) rfl (ss_made_one gf d_is_free d_sources_as d_without_events)
/-! is_place_in -/
theorem sc_is_place_in : FnScope ["net", "value", "part"] ["net", "value"] (defScope (top 47)) := ⟨rfl, rfl, rfl, by decide +kernel, rfl, by decide +kernel, by decide +kernel⟩
def S_is_place_in (β : Box) (ms : List Int) : Fs := (sSeq (sIf (bOr (bNot (fun env h => asB ((f1 (fun d h => ofB (isT h .tuple d) h) (fVar 1)) env h))) (bOr (fun env h => asB ((f2 (opNe β) (fCall (opLen) (faCons (fVar 1) faNil)) (fC (.int 4))) env h)) (bNot (fun env h => asB ((fCall (opAll) (faCons (fFrz (fLc [2] (fIt (fVar 1)) (gN 2) bYes (fCallD 1 (F_is_integer β ms) (faCons (fVar 2) faNil)))) faNil)) env h))))) (sRet (fC (.bl false))) sNil) (sRet (f2 (opIn β) (fVar 1) (f2 opIx (fVar 0) (fC (.int 3))))))
def F_is_place_in (β : Box) (ms : List Int) : Fd := fDef 3 (S_is_place_in β ms)
theorem ss_is_place_in {G : Cfg} (gf : GF G) (d_is_integer : DefOk G 1 "is_integer" 1 (F_is_integer G.β G.ms)) : SSs { G with N := ["net", "value", "part"], sc := defScope (top 47), lev := 1, fnb := fun _ => true } (defBody (top 47)) (S_is_place_in G.β G.ms) :=
  (ss_cons (ss_if (st_of (sw_or (st_not (st_val (se_isi (t := .tuple) (by rfl) gf.b_isinstance (by rfl) gf.b_tuple (by rfl) (by decide) (by decide) (se_var (i := 1) (by rfl) (by first | exact .inl rfl | exact .inr (.inl rfl) | exact .inr (.inr rfl)))))) (sw_or (st_cmp oe_ne im_ne (se_callB cr_lenA im_len (by rfl) gf.b_len (by rfl) (sa_cons (se_var (i := 1) (by rfl) (by first | exact .inl rfl | exact .inr (.inl rfl) | exact .inr (.inr rfl))) sa_nil)) se_int (by rfl)) (sw_or1 (st_not (st_val (se_callB cr_allA im_all (by rfl) gf.b_all (by rfl) (sa_cons (se_frz (sf_lc [("part", 2)] (si_any (se_var (i := 1) (by rfl) (by first | exact .inl rfl | exact .inr (.inl rfl) | exact .inr (.inr rfl)))) (by rfl) (sg_name (i := 2) (by rfl) (by first | exact .inl rfl | exact .inr rfl) (by rfl)) (by rfl) sts_nil (se_callG d_is_integer rfl (Nat.le_of_ble_eq_true rfl) (by rfl) (sa_cons (se_var (i := 2) (by rfl) (by first | exact .inl rfl | exact .inr (.inl rfl) | exact .inr (.inr rfl))) sa_nil)))) sa_nil)))))))) (ss_one (ss_ret se_bl)) ss_nil) (ss_one (ss_ret (se_cmp (r := fun K => rInA K false) oe_in im_in (se_var (i := 1) (by rfl) (by first | exact .inl rfl | exact .inr (.inl rfl) | exact .inr (.inr rfl))) (se_ix (se_var (i := 0) (by rfl) (by first | exact .inl rfl | exact .inr (.inl rfl) | exact .inr (.inr rfl))) se_int) (by rfl)))))
theorem ok_is_place_in {G : Cfg} (gf : GF G) {f : Addr} {fd : FuncData} (F : FnP G.K "is_place_in" (top 47) f fd) (hm : G.mg "is_place_in" = some (.ref f)) (d_is_integer : DefOk G 1 "is_integer" 1 (F_is_integer G.β G.ms)) : DefOk G 2 "is_place_in" 2 (F_is_place_in G.β G.ms) :=
  def_ok F sc_is_place_in hm (F.bindsN fun _ _ _ _ _ _ us hl => match us, hl with | [_, _], _ => rfl) rfl (ss_is_place_in gf d_is_integer)
/-! led_by_net_step -/
theorem sc_led_by_net_step : FnScope ["net", "value", "word", "rest", "event"] ["net", "value"] (defScope (top 46)) := ⟨rfl, rfl, rfl, by decide +kernel, rfl, by decide +kernel, by decide +kernel⟩
def S_led_by_net_step (β : Box) (ms : List Int) : Fs := (sSeq (sIf (bOr (bNot (fun env h => asB ((f1 (fun d h => ofB (isT h .tuple d) h) (fVar 1)) env h))) (bOr (bNot (fun env h => asB ((fCh (opLe β) (opLe β) (fC (.int 2)) (fCall (opLen) (faCons (fVar 1) faNil)) (fC (.int 3))) env h))) (bNot (fun env h => asB ((f1 (fun d h => ofB (isT h .str d) h) (f2 opIx (fVar 1) (fC (.int 0)))) env h))))) (sRet (fC .non)) sNil) (sSeq (sPar 2 3 (faCons (f2 opIx (fVar 1) (fC (.int 0))) (faCons (fSlT (fVar 1) (oSome (fC (.int 1))) oNone) faNil))) (sSeq (sIf (fun env h => asB ((f2 (opEq β) (fVar 2) (fC (.str "drop"))) env h)) (sRet (fIf (bAnd (fun env h => asB ((f2 (opEq β) (fCall (opLen) (faCons (fVar 3) faNil)) (fC (.int 1))) env h)) (fun env h => asB ((fCallD 2 (F_is_place_in β ms) (faCons (fVar 0) (faCons (f2 opIx (fVar 3) (fC (.int 0))) faNil))) env h))) (fCallD 2 (F_dropped β ms) (faCons (fVar 0) (faCons (f2 opIx (fVar 3) (fC (.int 0))) faNil))) (fC .non))) sNil) (sSeq (sIf (bNot (fun env h => asB ((fCall (opAll) (faCons (fFrz (fLc [4] (fIt (fVar 3)) (gN 4) bYes (fCallD 2 (F_fits_event β ms) (faCons (fVar 0) (faCons (fVar 4) faNil))))) faNil)) env h))) (sRet (fC .non)) sNil) (sSeq (sIf (fun env h => asB ((f2 (opEq β) (fVar 2) (fC (.str "like"))) env h)) (sRet (fIf (fun env h => asB ((f2 (opEq β) (fCall (opLen) (faCons (fVar 3) faNil)) (fC (.int 2))) env h)) (fCallD 3 (F_made_one β ms) (faCons (fVar 0) (faCons (f2 opIx (fVar 3) (fC (.int 0))) (faCons (f2 opIx (fVar 3) (fC (.int 1))) faNil)))) (fC .non))) sNil) (sSeq (sIf (bOr (fun env h => asB ((f2 (opNe β) (fCall (opLen) (faCons (fVar 3) faNil)) (fC (.int 1))) env h)) (fun env h => asB ((f2 (opNi β) (fVar 2) (fTup (faCons (fC (.str "out")) (faCons (fC (.str "through")) faNil)))) env h))) (sRet (fC .non)) sNil) (sRet (fIf (fun env h => asB ((f2 (opEq β) (fVar 2) (fC (.str "out"))) env h)) (fCallD 2 (F_left_out β ms) (faCons (fVar 0) (faCons (f2 opIx (fVar 3) (fC (.int 0))) faNil))) (fCallD 2 (F_led_through β ms) (faCons (fVar 0) (faCons (f2 opIx (fVar 3) (fC (.int 0))) faNil)))))))))))
def F_led_by_net_step (β : Box) (ms : List Int) : Fd := fDef 5 (S_led_by_net_step β ms)
theorem ss_led_by_net_step {G : Cfg} (gf : GF G) (d_is_place_in : DefOk G 2 "is_place_in" 2 (F_is_place_in G.β G.ms)) (d_dropped : DefOk G 2 "dropped" 2 (F_dropped G.β G.ms)) (d_fits_event : DefOk G 3 "fits_event" 2 (F_fits_event G.β G.ms)) (d_made_one : DefOk G 3 "made_one" 3 (F_made_one G.β G.ms)) (d_left_out : DefOk G 2 "left_out" 2 (F_left_out G.β G.ms)) (d_led_through : DefOk G 6 "led_through" 2 (F_led_through G.β G.ms)) : SSs { G with N := ["net", "value", "word", "rest", "event"], sc := defScope (top 46), lev := 6, fnb := fun _ => true } (defBody (top 46)) (S_led_by_net_step G.β G.ms) :=
  (ss_cons (ss_if (st_of (sw_or (st_not (st_val (se_isi (t := .tuple) (by rfl) gf.b_isinstance (by rfl) gf.b_tuple (by rfl) (by decide) (by decide) (se_var (i := 1) (by rfl) (by first | exact .inl rfl | exact .inr (.inl rfl) | exact .inr (.inr rfl)))))) (sw_or (st_not (st_chain oe_le oe_le im_le im_le se_int (se_callB cr_lenA im_len (by rfl) gf.b_len (by rfl) (sa_cons (se_var (i := 1) (by rfl) (by first | exact .inl rfl | exact .inr (.inl rfl) | exact .inr (.inr rfl))) sa_nil)) se_int (by rfl))) (sw_or1 (st_not (st_val (se_isi (t := .str) (by rfl) gf.b_isinstance (by rfl) gf.b_str (by rfl) (by decide) (by decide) (se_ix (se_var (i := 1) (by rfl) (by first | exact .inl rfl | exact .inr (.inl rfl) | exact .inr (.inr rfl))) se_int)))))))) (ss_one (ss_ret se_non)) ss_nil) (ss_cons (ss_par (i := 2) (j := 3) (by rfl) (by rfl) (by decide) (by rfl) (by rfl) (sa_cons (se_ix (se_var (i := 1) (by rfl) (by first | exact .inl rfl | exact .inr (.inl rfl) | exact .inr (.inr rfl))) se_int) (sa_cons (se_slT (se_var (i := 1) (by rfl) (by first | exact .inl rfl | exact .inr (.inl rfl) | exact .inr (.inr rfl))) (so_some se_int) so_none) sa_nil)) (by rfl)) (ss_cons (ss_if (st_cmp oe_eq im_eq (se_var (i := 2) (by rfl) (by first | exact .inl rfl | exact .inr (.inl rfl) | exact .inr (.inr rfl))) (se_gstr (by rfl) gf.c_DROP) (by rfl)) (ss_one (ss_ret (se_if (st_of (sw_and (st_cmp oe_eq im_eq (se_callB cr_lenA im_len (by rfl) gf.b_len (by rfl) (sa_cons (se_var (i := 3) (by rfl) (by first | exact .inl rfl | exact .inr (.inl rfl) | exact .inr (.inr rfl))) sa_nil)) se_int (by rfl)) (sw_and1 (st_val (se_callG d_is_place_in rfl (Nat.le_of_ble_eq_true rfl) (by rfl) (sa_cons (se_var (i := 0) (by rfl) (by first | exact .inl rfl | exact .inr (.inl rfl) | exact .inr (.inr rfl))) (sa_cons (se_ix (se_var (i := 3) (by rfl) (by first | exact .inl rfl | exact .inr (.inl rfl) | exact .inr (.inr rfl))) se_int) sa_nil))))))) (se_callG d_dropped rfl (Nat.le_of_ble_eq_true rfl) (by rfl) (sa_cons (se_var (i := 0) (by rfl) (by first | exact .inl rfl | exact .inr (.inl rfl) | exact .inr (.inr rfl))) (sa_cons (se_ix (se_var (i := 3) (by rfl) (by first | exact .inl rfl | exact .inr (.inl rfl) | exact .inr (.inr rfl))) se_int) sa_nil))) se_non))) ss_nil) (ss_cons (ss_if (st_not (st_val (se_callB cr_allA im_all (by rfl) gf.b_all (by rfl) (sa_cons (se_frz (sf_lc [("event", 4)] (si_any (se_var (i := 3) (by rfl) (by first | exact .inl rfl | exact .inr (.inl rfl) | exact .inr (.inr rfl)))) (by rfl) (sg_name (i := 4) (by rfl) (by first | exact .inl rfl | exact .inr rfl) (by rfl)) (by rfl) sts_nil (se_callG d_fits_event rfl (Nat.le_of_ble_eq_true rfl) (by rfl) (sa_cons (se_var (i := 0) (by rfl) (by first | exact .inl rfl | exact .inr (.inl rfl) | exact .inr (.inr rfl))) (sa_cons (se_var (i := 4) (by rfl) (by first | exact .inl rfl | exact .inr (.inl rfl) | exact .inr (.inr rfl))) sa_nil))))) sa_nil)))) (ss_one (ss_ret se_non)) ss_nil) (ss_cons (ss_if (st_cmp oe_eq im_eq (se_var (i := 2) (by rfl) (by first | exact .inl rfl | exact .inr (.inl rfl) | exact .inr (.inr rfl))) (se_gstr (by rfl) gf.c_LIKE) (by rfl)) (ss_one (ss_ret (se_if (st_cmp oe_eq im_eq (se_callB cr_lenA im_len (by rfl) gf.b_len (by rfl) (sa_cons (se_var (i := 3) (by rfl) (by first | exact .inl rfl | exact .inr (.inl rfl) | exact .inr (.inr rfl))) sa_nil)) se_int (by rfl)) (se_callG d_made_one rfl (Nat.le_of_ble_eq_true rfl) (by rfl) (sa_cons (se_var (i := 0) (by rfl) (by first | exact .inl rfl | exact .inr (.inl rfl) | exact .inr (.inr rfl))) (sa_cons (se_ix (se_var (i := 3) (by rfl) (by first | exact .inl rfl | exact .inr (.inl rfl) | exact .inr (.inr rfl))) se_int) (sa_cons (se_ix (se_var (i := 3) (by rfl) (by first | exact .inl rfl | exact .inr (.inl rfl) | exact .inr (.inr rfl))) se_int) sa_nil)))) se_non))) ss_nil) (ss_cons (ss_if (st_of (sw_or (st_cmp oe_ne im_ne (se_callB cr_lenA im_len (by rfl) gf.b_len (by rfl) (sa_cons (se_var (i := 3) (by rfl) (by first | exact .inl rfl | exact .inr (.inl rfl) | exact .inr (.inr rfl))) sa_nil)) se_int (by rfl)) (sw_or1 (st_cmp (r := fun K => rInA K true) oe_ni im_ni (se_var (i := 2) (by rfl) (by first | exact .inl rfl | exact .inr (.inl rfl) | exact .inr (.inr rfl))) (se_tup (sa_cons (se_gstr (by rfl) gf.c_OUT) (sa_cons (se_gstr (by rfl) gf.c_THROUGH) sa_nil))) (by rfl))))) (ss_one (ss_ret se_non)) ss_nil) (ss_one (ss_ret (se_if (st_cmp oe_eq im_eq (se_var (i := 2) (by rfl) (by first | exact .inl rfl | exact .inr (.inl rfl) | exact .inr (.inr rfl))) (se_gstr (by rfl) gf.c_OUT) (by rfl)) (se_callG d_left_out rfl (Nat.le_of_ble_eq_true rfl) (by rfl) (sa_cons (se_var (i := 0) (by rfl) (by first | exact .inl rfl | exact .inr (.inl rfl) | exact .inr (.inr rfl))) (sa_cons (se_ix (se_var (i := 3) (by rfl) (by first | exact .inl rfl | exact .inr (.inl rfl) | exact .inr (.inr rfl))) se_int) sa_nil))) (se_callG d_led_through rfl (Nat.le_of_ble_eq_true rfl) (by rfl) (sa_cons (se_var (i := 0) (by rfl) (by first | exact .inl rfl | exact .inr (.inl rfl) | exact .inr (.inr rfl))) (sa_cons (se_ix (se_var (i := 3) (by rfl) (by first | exact .inl rfl | exact .inr (.inl rfl) | exact .inr (.inr rfl))) se_int) sa_nil))))))))))))
theorem ok_led_by_net_step {G : Cfg} (gf : GF G) {f : Addr} {fd : FuncData} (F : FnP G.K "led_by_net_step" (top 46) f fd) (hm : G.mg "led_by_net_step" = some (.ref f)) (d_is_place_in : DefOk G 2 "is_place_in" 2 (F_is_place_in G.β G.ms)) (d_dropped : DefOk G 2 "dropped" 2 (F_dropped G.β G.ms)) (d_fits_event : DefOk G 3 "fits_event" 2 (F_fits_event G.β G.ms)) (d_made_one : DefOk G 3 "made_one" 3 (F_made_one G.β G.ms)) (d_left_out : DefOk G 2 "left_out" 2 (F_left_out G.β G.ms)) (d_led_through : DefOk G 6 "led_through" 2 (F_led_through G.β G.ms)) : DefOk G 7 "led_by_net_step" 2 (F_led_by_net_step G.β G.ms) :=
  def_ok F sc_led_by_net_step hm (F.bindsN fun _ _ _ _ _ _ us hl => match us, hl with | [_, _], _ => rfl) rfl (ss_led_by_net_step gf d_is_place_in d_dropped d_fits_event d_made_one d_left_out d_led_through)
/-! tries_of -/
theorem sc_tries_of : FnScope ["net", "events", "found", "place", "event", "other"] ["net"] (defScope (top 48)) := ⟨rfl, rfl, rfl, by decide +kernel, rfl, by decide +kernel, by decide +kernel⟩
def S_tries_of (β : Box) (ms : List Int) : Fs := (sSeq (sSet 1 (fRng1 (f2 opIx (fVar 0) (fC (.int 0))))) (sSeq (sSet 2 (fFrz (fCat (fFrz (fLc [3] (fIt (f2 opIx (fVar 0) (fC (.int 3)))) (gN 3) bYes (fTup (faCons (fC (.str "drop")) (faCons (fVar 3) faNil))))) (fFrz (fLc [4] (fIt (fVar 1)) (gN 4) bYes (fTup (faCons (fC (.str "out")) (faCons (fVar 4) faNil)))))))) (sSeq (sSet 2 (fFrz (fCat (fVar 2) (fFrz (fLc [4] (fIt (fVar 1)) (gN 4) bYes (fTup (faCons (fC (.str "through")) (faCons (fVar 4) faNil)))))))) (sRet (fFrz (fCat (fVar 2) (fFrz (fLc2 [4, 5] [5] (fIt (fVar 1)) (gN 4) bYes (fIt (fVar 1)) (gN 5) bYes (fTup (faCons (fC (.str "like")) (faCons (fVar 4) (faCons (fVar 5) faNil))))))))))))
def F_tries_of (β : Box) (ms : List Int) : Fd := fDef 6 (S_tries_of β ms)
theorem ss_tries_of {G : Cfg} (gf : GF G) : SSs { G with N := ["net", "events", "found", "place", "event", "other"], sc := defScope (top 48), lev := 0, fnb := fun _ => true } (defBody (top 48)) (S_tries_of G.β G.ms) :=
  (ss_cons (ss_set (i := 1) (by rfl) (by first | exact .inl rfl | exact .inr rfl) (by rfl) (se_range1 (by rfl) gf.b_range (se_ix (se_var (i := 0) (by rfl) (by first | exact .inl rfl | exact .inr (.inl rfl) | exact .inr (.inr rfl))) se_int))) (ss_cons (ss_set (i := 2) (by rfl) (by first | exact .inl rfl | exact .inr rfl) (by rfl) (se_frz (sf_cat (se_frz (sf_lc [("place", 3)] (si_any (se_ix (se_var (i := 0) (by rfl) (by first | exact .inl rfl | exact .inr (.inl rfl) | exact .inr (.inr rfl))) se_int)) (by rfl) (sg_name (i := 3) (by rfl) (by first | exact .inl rfl | exact .inr rfl) (by rfl)) (by rfl) sts_nil (se_tup (sa_cons (se_gstr (by rfl) gf.c_DROP) (sa_cons (se_var (i := 3) (by rfl) (by first | exact .inl rfl | exact .inr (.inl rfl) | exact .inr (.inr rfl))) sa_nil))))) (se_frz (sf_lc [("event", 4)] (si_any (se_var (i := 1) (by rfl) (by first | exact .inl rfl | exact .inr (.inl rfl) | exact .inr (.inr rfl)))) (by rfl) (sg_name (i := 4) (by rfl) (by first | exact .inl rfl | exact .inr rfl) (by rfl)) (by rfl) sts_nil (se_tup (sa_cons (se_gstr (by rfl) gf.c_OUT) (sa_cons (se_var (i := 4) (by rfl) (by first | exact .inl rfl | exact .inr (.inl rfl) | exact .inr (.inr rfl))) sa_nil)))))))) (ss_cons (ss_set (i := 2) (by rfl) (by first | exact .inl rfl | exact .inr rfl) (by rfl) (se_frz (sf_cat (se_var (i := 2) (by rfl) (by first | exact .inl rfl | exact .inr (.inl rfl) | exact .inr (.inr rfl))) (se_frz (sf_lc [("event", 4)] (si_any (se_var (i := 1) (by rfl) (by first | exact .inl rfl | exact .inr (.inl rfl) | exact .inr (.inr rfl)))) (by rfl) (sg_name (i := 4) (by rfl) (by first | exact .inl rfl | exact .inr rfl) (by rfl)) (by rfl) sts_nil (se_tup (sa_cons (se_gstr (by rfl) gf.c_THROUGH) (sa_cons (se_var (i := 4) (by rfl) (by first | exact .inl rfl | exact .inr (.inl rfl) | exact .inr (.inr rfl))) sa_nil)))))))) (ss_one (ss_ret (se_frz (sf_cat (se_var (i := 2) (by rfl) (by first | exact .inl rfl | exact .inr (.inl rfl) | exact .inr (.inr rfl))) (se_frz (sf_lc2 [("event", 4), ("other", 5)] (si_any (se_var (i := 1) (by rfl) (by first | exact .inl rfl | exact .inr (.inl rfl) | exact .inr (.inr rfl)))) (by rfl) (sg_name (i := 4) (by rfl) (by first | exact .inl rfl | exact .inr rfl) (by rfl)) (by rfl) sts_nil (si_any (se_var (i := 1) (by rfl) (by first | exact .inl rfl | exact .inr (.inl rfl) | exact .inr (.inr rfl)))) (sg_name (i := 5) (by rfl) (by first | exact .inl rfl | exact .inr rfl) (by rfl)) (by rfl) sts_nil (se_tup (sa_cons (se_gstr (by rfl) gf.c_LIKE) (sa_cons (se_var (i := 4) (by rfl) (by first | exact .inl rfl | exact .inr (.inl rfl) | exact .inr (.inr rfl))) (sa_cons (se_var (i := 5) (by rfl) (by first | exact .inl rfl | exact .inr (.inl rfl) | exact .inr (.inr rfl))) sa_nil)))))))))))))
theorem ok_tries_of {G : Cfg} (gf : GF G) {f : Addr} {fd : FuncData} (F : FnP G.K "tries_of" (top 48) f fd) (hm : G.mg "tries_of" = some (.ref f)) : DefOk G 1 "tries_of" 1 (F_tries_of G.β G.ms) :=
  def_ok F sc_tries_of hm (F.bindsN fun _ _ _ _ _ _ us hl => match us, hl with | [_], _ => rfl) rfl (ss_tries_of gf)
/-! net_steps -/
theorem sc_net_steps : FnScope ["net", "step"] ["net"] (defScope (top 49)) := ⟨rfl, rfl, rfl, by decide +kernel, rfl, by decide +kernel, by decide +kernel⟩
def S_net_steps (β : Box) (ms : List Int) : Fs := (sSeq (sExpr (fCallD 1 (F_need_net β ms) (faCons (fVar 0) faNil))) (sRet (fCall (opTuple) (faCons (fFrz (fLc [1] (fIt (fCallD 1 (F_tries_of β ms) (faCons (fVar 0) faNil))) (gN 1) (fun env h => asB ((f2 (opIn') (fCallD 2 (F_led_by_net_step β ms) (faCons (fVar 0) (faCons (fVar 1) faNil))) (fC .non)) env h)) (fVar 1))) faNil))))
def F_net_steps (β : Box) (ms : List Int) : Fd := fDef 2 (S_net_steps β ms)
theorem ss_net_steps {G : Cfg} (gf : GF G) (d_need_net : DefOk G 6 "need_net" 1 (F_need_net G.β G.ms)) (d_tries_of : DefOk G 1 "tries_of" 1 (F_tries_of G.β G.ms)) (d_led_by_net_step : DefOk G 7 "led_by_net_step" 2 (F_led_by_net_step G.β G.ms)) : SSs { G with N := ["net", "step"], sc := defScope (top 49), lev := 7, fnb := fun _ => true } (defBody (top 49)) (S_net_steps G.β G.ms) :=
  (ss_cons (ss_expr (se_callG d_need_net rfl (Nat.le_of_ble_eq_true rfl) (by rfl) (sa_cons (se_var (i := 0) (by rfl) (by first | exact .inl rfl | exact .inr (.inl rfl) | exact .inr (.inr rfl))) sa_nil))) (ss_one (ss_ret (se_callT cr_tupA im_tuple (by rfl) gf.b_tuple (by rfl) (sa_cons (se_frz (sf_lc [("step", 1)] (si_any (se_callG d_tries_of rfl (Nat.le_of_ble_eq_true rfl) (by rfl) (sa_cons (se_var (i := 0) (by rfl) (by first | exact .inl rfl | exact .inr (.inl rfl) | exact .inr (.inr rfl))) sa_nil))) (by rfl) (sg_name (i := 1) (by rfl) (by first | exact .inl rfl | exact .inr rfl) (by rfl)) (by rfl) (sts_one (st_cmp oe_isn im_isn (se_callG d_led_by_net_step rfl (Nat.le_of_ble_eq_true rfl) (by rfl) (sa_cons (se_var (i := 0) (by rfl) (by first | exact .inl rfl | exact .inr (.inl rfl) | exact .inr (.inr rfl))) (sa_cons (se_var (i := 1) (by rfl) (by first | exact .inl rfl | exact .inr (.inl rfl) | exact .inr (.inr rfl))) sa_nil))) se_non (by rfl))) (se_var (i := 1) (by rfl) (by first | exact .inl rfl | exact .inr (.inl rfl) | exact .inr (.inr rfl))))) sa_nil)))))
theorem ok_net_steps {G : Cfg} (gf : GF G) {f : Addr} {fd : FuncData} (F : FnP G.K "net_steps" (top 49) f fd) (hm : G.mg "net_steps" = some (.ref f)) (d_need_net : DefOk G 6 "need_net" 1 (F_need_net G.β G.ms)) (d_tries_of : DefOk G 1 "tries_of" 1 (F_tries_of G.β G.ms)) (d_led_by_net_step : DefOk G 7 "led_by_net_step" 2 (F_led_by_net_step G.β G.ms)) : DefOk G 8 "net_steps" 1 (F_net_steps G.β G.ms) :=
  def_ok F sc_net_steps hm (F.bindsN fun _ _ _ _ _ _ us hl => match us, hl with | [_], _ => rfl) rfl (ss_net_steps gf d_need_net d_tries_of d_led_by_net_step)
/-! is_net_step -/
theorem sc_is_net_step : FnScope ["net", "value"] ["net", "value"] (defScope (top 50)) := ⟨rfl, rfl, rfl, by decide +kernel, rfl, by decide +kernel, by decide +kernel⟩
def S_is_net_step (β : Box) (ms : List Int) : Fs := (sSeq (sExpr (fCallD 1 (F_need_net β ms) (faCons (fVar 0) faNil))) (sRet (f2 (opIn') (fCallD 2 (F_led_by_net_step β ms) (faCons (fVar 0) (faCons (fVar 1) faNil))) (fC .non))))
def F_is_net_step (β : Box) (ms : List Int) : Fd := fDef 2 (S_is_net_step β ms)
theorem ss_is_net_step {G : Cfg} (gf : GF G) (d_need_net : DefOk G 6 "need_net" 1 (F_need_net G.β G.ms)) (d_led_by_net_step : DefOk G 7 "led_by_net_step" 2 (F_led_by_net_step G.β G.ms)) : SSs { G with N := ["net", "value"], sc := defScope (top 50), lev := 7, fnb := fun _ => true } (defBody (top 50)) (S_is_net_step G.β G.ms) :=
  (ss_cons (ss_expr (se_callG d_need_net rfl (Nat.le_of_ble_eq_true rfl) (by rfl) (sa_cons (se_var (i := 0) (by rfl) (by first | exact .inl rfl | exact .inr (.inl rfl) | exact .inr (.inr rfl))) sa_nil))) (ss_one (ss_ret (se_cmp oe_isn im_isn (se_callG d_led_by_net_step rfl (Nat.le_of_ble_eq_true rfl) (by rfl) (sa_cons (se_var (i := 0) (by rfl) (by first | exact .inl rfl | exact .inr (.inl rfl) | exact .inr (.inr rfl))) (sa_cons (se_var (i := 1) (by rfl) (by first | exact .inl rfl | exact .inr (.inl rfl) | exact .inr (.inr rfl))) sa_nil))) se_non (by rfl)))))
theorem ok_is_net_step {G : Cfg} (gf : GF G) {f : Addr} {fd : FuncData} (F : FnP G.K "is_net_step" (top 50) f fd) (hm : G.mg "is_net_step" = some (.ref f)) (d_need_net : DefOk G 6 "need_net" 1 (F_need_net G.β G.ms)) (d_led_by_net_step : DefOk G 7 "led_by_net_step" 2 (F_led_by_net_step G.β G.ms)) : DefOk G 8 "is_net_step" 2 (F_is_net_step G.β G.ms) :=
  def_ok F sc_is_net_step hm (F.bindsN fun _ _ _ _ _ _ us hl => match us, hl with | [_, _], _ => rfl) rfl (ss_is_net_step gf d_need_net d_led_by_net_step)
/-! net_led -/
theorem sc_net_led : FnScope ["net", "step", "found"] ["net", "step"] (defScope (top 51)) := ⟨rfl, rfl, rfl, by decide +kernel, rfl, by decide +kernel, by decide +kernel⟩
def S_net_led (β : Box) (ms : List Int) : Fs := (sSeq (sExpr (fCallD 1 (F_need_net β ms) (faCons (fVar 0) faNil))) (sSeq (sSet 2 (fCallD 2 (F_led_by_net_step β ms) (faCons (fVar 0) (faCons (fVar 1) faNil)))) (sSeq (sIf (fun env h => asB ((f2 (opIs) (fVar 2) (fC .non)) env h)) (fun _ _ => .bad) sNil) (sRet (fVar 2)))))
def F_net_led (β : Box) (ms : List Int) : Fd := fDef 3 (S_net_led β ms)
theorem ss_net_led {G : Cfg} (gf : GF G) (d_need_net : DefOk G 6 "need_net" 1 (F_need_net G.β G.ms)) (d_led_by_net_step : DefOk G 7 "led_by_net_step" 2 (F_led_by_net_step G.β G.ms)) : SSs { G with N := ["net", "step", "found"], sc := defScope (top 51), lev := 7, fnb := fun _ => true } (defBody (top 51)) (S_net_led G.β G.ms) :=
  (ss_cons (ss_expr (se_callG d_need_net rfl (Nat.le_of_ble_eq_true rfl) (by rfl) (sa_cons (se_var (i := 0) (by rfl) (by first | exact .inl rfl | exact .inr (.inl rfl) | exact .inr (.inr rfl))) sa_nil))) (ss_cons (ss_set (i := 2) (by rfl) (by first | exact .inl rfl | exact .inr rfl) (by rfl) (se_callG d_led_by_net_step rfl (Nat.le_of_ble_eq_true rfl) (by rfl) (sa_cons (se_var (i := 0) (by rfl) (by first | exact .inl rfl | exact .inr (.inl rfl) | exact .inr (.inr rfl))) (sa_cons (se_var (i := 1) (by rfl) (by first | exact .inl rfl | exact .inr (.inl rfl) | exact .inr (.inr rfl))) sa_nil)))) (ss_cons (ss_if (st_cmp oe_is im_is (se_var (i := 2) (by rfl) (by first | exact .inl rfl | exact .inr (.inl rfl) | exact .inr (.inr rfl))) se_non (by rfl)) (ss_one ss_bad) ss_nil) (ss_one (ss_ret (se_var (i := 2) (by rfl) (by first | exact .inl rfl | exact .inr (.inl rfl) | exact .inr (.inr rfl))))))))
theorem ok_net_led {G : Cfg} (gf : GF G) {f : Addr} {fd : FuncData} (F : FnP G.K "net_led" (top 51) f fd) (hm : G.mg "net_led" = some (.ref f)) (d_need_net : DefOk G 6 "need_net" 1 (F_need_net G.β G.ms)) (d_led_by_net_step : DefOk G 7 "led_by_net_step" 2 (F_led_by_net_step G.β G.ms)) : DefOk G 8 "net_led" 2 (F_net_led G.β G.ms) :=
  def_ok F sc_net_led hm (F.bindsN fun _ _ _ _ _ _ us hl => match us, hl with | [_, _], _ => rfl) rfl (ss_net_led gf d_need_net d_led_by_net_step)
/-! need_fired -/
theorem sc_need_fired : FnScope ["net", "many", "rows"] ["net", "many", "rows"] (defScope (top 53)) := ⟨rfl, rfl, rfl, by decide +kernel, rfl, by decide +kernel, by decide +kernel⟩
def S_need_fired (β : Box) (ms : List Int) : Fs := (sSeq (sExpr (fCallD 1 (F_need_net β ms) (faCons (fVar 0) faNil))) (sSeq (sExpr (fCallD 3 (F_need_whole β ms) (faCons (fVar 1) (faCons (fC (.int 0)) (faCons (fC (.int 200)) faNil))))) (sExpr (fCallD 3 (F_need_rows β ms) (faCons (fVar 0) (faCons (fVar 1) (faCons (fVar 2) faNil)))))))
def F_need_fired (β : Box) (ms : List Int) : Fd := fDef 3 (S_need_fired β ms)
theorem ss_need_fired {G : Cfg} (gf : GF G) (d_need_net : DefOk G 6 "need_net" 1 (F_need_net G.β G.ms)) (d_need_whole : DefOk G 3 "need_whole" 3 (F_need_whole G.β G.ms)) (d_need_rows : DefOk G 5 "need_rows" 3 (F_need_rows G.β G.ms)) : SSs { G with N := ["net", "many", "rows"], sc := defScope (top 53), lev := 6, fnb := fun _ => true } (defBody (top 53)) (S_need_fired G.β G.ms) :=
  (ss_cons (ss_expr (se_callG d_need_net rfl (Nat.le_of_ble_eq_true rfl) (by rfl) (sa_cons (se_var (i := 0) (by rfl) (by first | exact .inl rfl | exact .inr (.inl rfl) | exact .inr (.inr rfl))) sa_nil))) (ss_cons (ss_expr (se_callG d_need_whole rfl (Nat.le_of_ble_eq_true rfl) (by rfl) (sa_cons (se_var (i := 1) (by rfl) (by first | exact .inl rfl | exact .inr (.inl rfl) | exact .inr (.inr rfl))) (sa_cons se_int (sa_cons (se_gint (by rfl) gf.c_MOST_FIRINGS) sa_nil))))) (ss_one (ss_expr (se_callG d_need_rows rfl (Nat.le_of_ble_eq_true rfl) (by rfl) (sa_cons (se_var (i := 0) (by rfl) (by first | exact .inl rfl | exact .inr (.inl rfl) | exact .inr (.inr rfl))) (sa_cons (se_var (i := 1) (by rfl) (by first | exact .inl rfl | exact .inr (.inl rfl) | exact .inr (.inr rfl))) (sa_cons (se_var (i := 2) (by rfl) (by first | exact .inl rfl | exact .inr (.inl rfl) | exact .inr (.inr rfl))) sa_nil))))))))
theorem ok_need_fired {G : Cfg} (gf : GF G) {f : Addr} {fd : FuncData} (F : FnP G.K "need_fired" (top 53) f fd) (hm : G.mg "need_fired" = some (.ref f)) (d_need_net : DefOk G 6 "need_net" 1 (F_need_net G.β G.ms)) (d_need_whole : DefOk G 3 "need_whole" 3 (F_need_whole G.β G.ms)) (d_need_rows : DefOk G 5 "need_rows" 3 (F_need_rows G.β G.ms)) : DefOk G 7 "need_fired" 3 (F_need_fired G.β G.ms) :=
  def_ok F sc_need_fired hm (F.bindsN fun _ _ _ _ _ _ us hl => match us, hl with | [_, _, _], _ => rfl) rfl (ss_need_fired gf d_need_net d_need_whole d_need_rows)
/-! times_of -/
theorem sc_times_of : FnScope ["net", "many", "rows", "row"] ["net", "many", "rows"] (defScope (top 54)) := ⟨rfl, rfl, rfl, by decide +kernel, rfl, by decide +kernel, by decide +kernel⟩
def S_times_of (β : Box) (ms : List Int) : Fs := (sSeq (sExpr (fCallD 3 (F_need_fired β ms) (faCons (fVar 0) (faCons (fVar 1) (faCons (fVar 2) faNil))))) (sRet (fCall (opTuple) (faCons (fFrz (fLc [3] (fIt (fCallD 3 (F_times_in β ms) (faCons (fVar 0) (faCons (fVar 1) (faCons (fVar 2) faNil))))) (gN 3) bYes (fCall (opTuple) (faCons (fVar 3) faNil)))) faNil))))
def F_times_of (β : Box) (ms : List Int) : Fd := fDef 4 (S_times_of β ms)
theorem ss_times_of {G : Cfg} (gf : GF G) (d_need_fired : DefOk G 7 "need_fired" 3 (F_need_fired G.β G.ms)) (d_times_in : DefOk G 3 "times_in" 3 (F_times_in G.β G.ms)) : SSs { G with N := ["net", "many", "rows", "row"], sc := defScope (top 54), lev := 7, fnb := fun _ => true } (defBody (top 54)) (S_times_of G.β G.ms) :=
  (ss_cons (ss_expr (se_callG d_need_fired rfl (Nat.le_of_ble_eq_true rfl) (by rfl) (sa_cons (se_var (i := 0) (by rfl) (by first | exact .inl rfl | exact .inr (.inl rfl) | exact .inr (.inr rfl))) (sa_cons (se_var (i := 1) (by rfl) (by first | exact .inl rfl | exact .inr (.inl rfl) | exact .inr (.inr rfl))) (sa_cons (se_var (i := 2) (by rfl) (by first | exact .inl rfl | exact .inr (.inl rfl) | exact .inr (.inr rfl))) sa_nil))))) (ss_one (ss_ret (se_callT cr_tupA im_tuple (by rfl) gf.b_tuple (by rfl) (sa_cons (se_frz (sf_lc [("row", 3)] (si_any (se_callG d_times_in rfl (Nat.le_of_ble_eq_true rfl) (by rfl) (sa_cons (se_var (i := 0) (by rfl) (by first | exact .inl rfl | exact .inr (.inl rfl) | exact .inr (.inr rfl))) (sa_cons (se_var (i := 1) (by rfl) (by first | exact .inl rfl | exact .inr (.inl rfl) | exact .inr (.inr rfl))) (sa_cons (se_var (i := 2) (by rfl) (by first | exact .inl rfl | exact .inr (.inl rfl) | exact .inr (.inr rfl))) sa_nil))))) (by rfl) (sg_name (i := 3) (by rfl) (by first | exact .inl rfl | exact .inr rfl) (by rfl)) (by rfl) sts_nil (se_callT cr_tupA im_tuple (by rfl) gf.b_tuple (by rfl) (sa_cons (se_var (i := 3) (by rfl) (by first | exact .inl rfl | exact .inr (.inl rfl) | exact .inr (.inr rfl))) sa_nil)))) sa_nil)))))
theorem ok_times_of {G : Cfg} (gf : GF G) {f : Addr} {fd : FuncData} (F : FnP G.K "times_of" (top 54) f fd) (hm : G.mg "times_of" = some (.ref f)) (d_need_fired : DefOk G 7 "need_fired" 3 (F_need_fired G.β G.ms)) (d_times_in : DefOk G 3 "times_in" 3 (F_times_in G.β G.ms)) : DefOk G 8 "times_of" 3 (F_times_of G.β G.ms) :=
  def_ok F sc_times_of hm (F.bindsN fun _ _ _ _ _ _ us hl => match us, hl with | [_, _, _], _ => rfl) rfl (ss_times_of gf d_need_fired d_times_in)
/-! output_times -/
theorem sc_output_times : FnScope ["net", "many", "rows", "found", "event"] ["net", "many", "rows"] (defScope (top 55)) := ⟨rfl, rfl, rfl, by decide +kernel, rfl, by decide +kernel, by decide +kernel⟩
def S_output_times (β : Box) (ms : List Int) : Fs := (sSeq (sExpr (fCallD 3 (F_need_fired β ms) (faCons (fVar 0) (faCons (fVar 1) (faCons (fVar 2) faNil))))) (sSeq (sSet 3 (fCallD 3 (F_times_in β ms) (faCons (fVar 0) (faCons (fVar 1) (faCons (fVar 2) faNil))))) (sRet (fCall (opTuple) (faCons (fFrz (fLc [4] (fIt (f2 opIx (fVar 0) (fC (.int 2)))) (gN 4) bYes (fCall (opTuple) (faCons (f2 opIx (fVar 3) (fVar 4)) faNil)))) faNil)))))
def F_output_times (β : Box) (ms : List Int) : Fd := fDef 5 (S_output_times β ms)
theorem ss_output_times {G : Cfg} (gf : GF G) (d_need_fired : DefOk G 7 "need_fired" 3 (F_need_fired G.β G.ms)) (d_times_in : DefOk G 3 "times_in" 3 (F_times_in G.β G.ms)) : SSs { G with N := ["net", "many", "rows", "found", "event"], sc := defScope (top 55), lev := 7, fnb := fun _ => true } (defBody (top 55)) (S_output_times G.β G.ms) :=
  (ss_cons (ss_expr (se_callG d_need_fired rfl (Nat.le_of_ble_eq_true rfl) (by rfl) (sa_cons (se_var (i := 0) (by rfl) (by first | exact .inl rfl | exact .inr (.inl rfl) | exact .inr (.inr rfl))) (sa_cons (se_var (i := 1) (by rfl) (by first | exact .inl rfl | exact .inr (.inl rfl) | exact .inr (.inr rfl))) (sa_cons (se_var (i := 2) (by rfl) (by first | exact .inl rfl | exact .inr (.inl rfl) | exact .inr (.inr rfl))) sa_nil))))) (ss_cons (ss_set (i := 3) (by rfl) (by first | exact .inl rfl | exact .inr rfl) (by rfl) (se_callG d_times_in rfl (Nat.le_of_ble_eq_true rfl) (by rfl) (sa_cons (se_var (i := 0) (by rfl) (by first | exact .inl rfl | exact .inr (.inl rfl) | exact .inr (.inr rfl))) (sa_cons (se_var (i := 1) (by rfl) (by first | exact .inl rfl | exact .inr (.inl rfl) | exact .inr (.inr rfl))) (sa_cons (se_var (i := 2) (by rfl) (by first | exact .inl rfl | exact .inr (.inl rfl) | exact .inr (.inr rfl))) sa_nil))))) (ss_one (ss_ret (se_callT cr_tupA im_tuple (by rfl) gf.b_tuple (by rfl) (sa_cons (se_frz (sf_lc [("event", 4)] (si_any (se_ix (se_var (i := 0) (by rfl) (by first | exact .inl rfl | exact .inr (.inl rfl) | exact .inr (.inr rfl))) se_int)) (by rfl) (sg_name (i := 4) (by rfl) (by first | exact .inl rfl | exact .inr rfl) (by rfl)) (by rfl) sts_nil (se_callT cr_tupA im_tuple (by rfl) gf.b_tuple (by rfl) (sa_cons (se_ix (se_var (i := 3) (by rfl) (by first | exact .inl rfl | exact .inr (.inl rfl) | exact .inr (.inr rfl))) (se_var (i := 4) (by rfl) (by first | exact .inl rfl | exact .inr (.inl rfl) | exact .inr (.inr rfl)))) sa_nil)))) sa_nil))))))
theorem ok_output_times {G : Cfg} (gf : GF G) {f : Addr} {fd : FuncData} (F : FnP G.K "output_times" (top 55) f fd) (hm : G.mg "output_times" = some (.ref f)) (d_need_fired : DefOk G 7 "need_fired" 3 (F_need_fired G.β G.ms)) (d_times_in : DefOk G 3 "times_in" 3 (F_times_in G.β G.ms)) : DefOk G 8 "output_times" 3 (F_output_times G.β G.ms) :=
  def_ok F sc_output_times hm (F.bindsN fun _ _ _ _ _ _ us hl => match us, hl with | [_, _, _], _ => rfl) rfl (ss_output_times gf d_need_fired d_times_in)
/-! _law_roll -/
theorem sc__law_roll : FnScope ["cup", "many", "deep", "found"] ["cup", "many"] (defScope (top 58)) := ⟨rfl, rfl, rfl, by decide +kernel, rfl, by decide +kernel, by decide +kernel⟩
def S__law_roll (β : Box) (ms : List Int) : Fs := (sSeq (sIf (fun env h => asB ((f2 (opGt β) (f2 opIx (fVar 0) (fC (.int 0))) (fC (.int 0))) env h)) (sSeq (sSet 3 (f2 opMod (fCall (opInt) (faCons (f2 opIx (fVar 0) (fC (.int 0))) faNil)) (fVar 1))) (sSeq (sSub (f2 opFdiv (f2 opIx (fVar 0) (fC (.int 0))) (fVar 1)) (fVar 0) (fC (.int 0))) (sRet (fVar 3)))) sNil) (sSeq (sSub (f2 opMod (fCall (opInt) (faCons (f2 opAdd (f2 opMul (f2 opIx (fVar 0) (fC (.int 1))) (fC (.int 31051))) (fC (.int 7993))) faNil)) (fC (.int 2147483543))) (fVar 0) (fC (.int 1))) (sSeq (sSet 2 (f2 opMod (fCall (opInt) (faCons (f2 opMul (f2 opIx (fVar 0) (fC (.int 1))) (f2 opAdd (f2 opIx (fVar 0) (fC (.int 1))) (fC (.int 229)))) faNil)) (fC (.int 2147483587)))) (sRet (f2 opMod (fCall (opInt) (faCons (f2 opFdiv (fVar 2) (fC (.int 821))) faNil)) (fVar 1))))))
def F0__law_roll (β : Box) (ms : List Int) : Fd := fDef 4 (S__law_roll β ms)
theorem ss__law_roll {G : Cfg} (gf : GF G) : SSs { G with N := ["cup", "many", "deep", "found"], sc := defScope (top 58), lev := 0, fnb := fun _ => true } (defBody (top 58)) (S__law_roll G.β G.ms) :=
  (ss_cons (ss_if (st_cmp oe_gt im_gt (se_ix (se_var (i := 0) (by rfl) (by first | exact .inl rfl | exact .inr (.inl rfl) | exact .inr (.inr rfl))) se_int) se_int (by rfl)) (ss_cons (ss_set (i := 3) (by rfl) (by first | exact .inl rfl | exact .inr rfl) (by rfl) (se_op oe_mod im_mod (se_callT cr_intA im_int (by rfl) gf.b_int (by rfl) (sa_cons (se_ix (se_var (i := 0) (by rfl) (by first | exact .inl rfl | exact .inr (.inl rfl) | exact .inr (.inr rfl))) se_int) sa_nil)) (se_var (i := 1) (by rfl) (by first | exact .inl rfl | exact .inr (.inl rfl) | exact .inr (.inr rfl))))) (ss_cons (ss_sub (se_op oe_fdiv im_fdiv (se_ix (se_var (i := 0) (by rfl) (by first | exact .inl rfl | exact .inr (.inl rfl) | exact .inr (.inr rfl))) se_int) (se_var (i := 1) (by rfl) (by first | exact .inl rfl | exact .inr (.inl rfl) | exact .inr (.inr rfl)))) (se_var (i := 0) (by rfl) (by first | exact .inl rfl | exact .inr (.inl rfl) | exact .inr (.inr rfl))) se_int (by rfl)) (ss_one (ss_ret (se_var (i := 3) (by rfl) (by first | exact .inl rfl | exact .inr (.inl rfl) | exact .inr (.inr rfl))))))) ss_nil) (ss_cons (ss_sub (se_op oe_mod im_mod (se_callT cr_intA im_int (by rfl) gf.b_int (by rfl) (sa_cons (se_op oe_add im_add (se_op oe_mul im_mul (se_ix (se_var (i := 0) (by rfl) (by first | exact .inl rfl | exact .inr (.inl rfl) | exact .inr (.inr rfl))) se_int) se_int) se_int) sa_nil)) se_int) (se_var (i := 0) (by rfl) (by first | exact .inl rfl | exact .inr (.inl rfl) | exact .inr (.inr rfl))) se_int (by rfl)) (ss_cons (ss_set (i := 2) (by rfl) (by first | exact .inl rfl | exact .inr rfl) (by rfl) (se_op oe_mod im_mod (se_callT cr_intA im_int (by rfl) gf.b_int (by rfl) (sa_cons (se_op oe_mul im_mul (se_ix (se_var (i := 0) (by rfl) (by first | exact .inl rfl | exact .inr (.inl rfl) | exact .inr (.inr rfl))) se_int) (se_op oe_add im_add (se_ix (se_var (i := 0) (by rfl) (by first | exact .inl rfl | exact .inr (.inl rfl) | exact .inr (.inr rfl))) se_int) se_int)) sa_nil)) se_int)) (ss_one (ss_ret (se_op oe_mod im_mod (se_callT cr_intA im_int (by rfl) gf.b_int (by rfl) (sa_cons (se_op oe_fdiv im_fdiv (se_var (i := 2) (by rfl) (by first | exact .inl rfl | exact .inr (.inl rfl) | exact .inr (.inr rfl))) se_int) sa_nil)) (se_var (i := 1) (by rfl) (by first | exact .inl rfl | exact .inr (.inl rfl) | exact .inr (.inr rfl)))))))))
theorem roll_hF (β : Box) (ms : List Int) (m : Int) (hm : ltI 0 m = true) (hs : ltI m 1073741824 = true) (c0 c1 : Int) (b0 : 0 ≤ c1) (b1 : c1 < 4294967296) :
    F0__law_roll β ms [Eg.D.ref 0, Eg.D.int m] [HObj.lst [Eg.D.int c0, Eg.D.int c1]] = Out.ok (Eg.D.int (rollV c0 c1 m)) [HObj.lst [Eg.D.int (roll0 c0 m), Eg.D.int (roll1 c0 c1)]] := by
  have s1 : Eg.small64 c1 = true := small_ok b0 (by omega)
  have s2 : Eg.small64 ((c1 * 31051 + 7993) % 2147483543) = true := small_ok (by omega) (by omega)
  have s3 : Eg.small64 ((c1 * 31051 + 7993) % 2147483543 + 229) = true := small_ok (by omega) (by omega)
  have q7 : Eg.small64 31051 = true := rfl
  have q1 : Nat.blt 0 2 = true := rfl
  have q2 : Nat.blt 1 2 = true := rfl
  have q3 : ltI 0 2147483543 = true := rfl
  have q4 : ltI 0 2147483587 = true := rfl
  have q5 : ltI 0 821 = true := rfl
  have q6 : ltI 821 1073741824 = true := rfl
  cases hb : ltI 0 c0 with
  | true =>
    obtain ⟨e1, e2, e3⟩ := roll_pos (c1 := c1) (m := m) hb
    rw [e1, e2, e3]
    unfold F0__law_roll S__law_roll
    simp [fDef, sSeq, sIf, sSet, sSub, sRet, f2, fVar, fC, fCall, faCons, faNil, Out.bind, at_, opGt, dLt, opIx, getI, lookL, look, hat, asB, opMul, opMod, opFdiv, opAdd, opInt, opSet, hset, isNil, fRes, sNil, hm, hs, s1, s2, s3, q7, List.set, zof, mkz, ofB, mulK, addK, zeroK, hb, q1, q2, q3, q4, q5, q6]
  | false =>
    obtain ⟨e1, e2, e3⟩ := roll_neg (c1 := c1) (m := m) hb
    rw [e1, e2, e3]
    unfold F0__law_roll S__law_roll
    simp [fDef, sSeq, sIf, sSet, sSub, sRet, f2, fVar, fC, fCall, faCons, faNil, Out.bind, at_, opGt, dLt, opIx, getI, lookL, look, hat, asB, opMul, opMod, opFdiv, opAdd, opInt, opSet, hset, isNil, fRes, sNil, hm, hs, s1, s2, s3, q7, List.set, zof, mkz, ofB, mulK, addK, zeroK, hb, q1, q2, q3, q4, q5, q6]
def F__law_roll (β : Box) (ms : List Int) : Fd := rollF ms
theorem ok__law_roll {G : Cfg} (gf : GF G) {f : Addr} {fd : FuncData} (F : FnP G.K "_law_roll" (top 58) f fd) (hm : G.mg "_law_roll" = some (.ref f)) (hms : ∀ m ∈ G.ms, ltI 0 m = true ∧ ltI m 1073741824 = true) : DefOk G 1 "_law_roll" 2 (F__law_roll G.β G.ms) :=
  roll_ok (F := F0__law_roll G.β G.ms) (def_ok F sc__law_roll hm (F.bindsN fun _ _ _ _ _ _ us hl => match us, hl with | [_, _], _ => rfl) rfl (ss__law_roll gf)) (fun m h c0 c1 b0 b1 => roll_hF G.β G.ms m (hms m h).1 (hms m h).2 c0 c1 b0 b1) roll_hB
/-! _law_sort -/
theorem sc__law_sort : FnScope ["value"] ["value"] (defScope (top 59)) := ⟨rfl, rfl, rfl, by decide +kernel, rfl, by decide +kernel, by decide +kernel⟩
def S__law_sort (β : Box) (ms : List Int) : Fs := (sSeq (sIf (bOr (fun env h => asB ((f2 (opIs) (fVar 0) (fC .non)) env h)) (fun env h => asB ((f1 (fun d h => ofB (isT h .bool d) h) (fVar 0)) env h))) (sRet (fIf (fun env h => asB ((f2 (opIs) (fVar 0) (fC .non)) env h)) (fC (.int 0)) (fC (.int 1)))) sNil) (sSeq (sIf (bOr (fun env h => asB ((f1 (fun d h => ofB (isT h .int d) h) (fVar 0)) env h)) (fun env h => asB ((f1 (fun d h => ofB (isT h .str d) h) (fVar 0)) env h))) (sRet (fIf (fun env h => asB ((f1 (fun d h => ofB (isT h .int d) h) (fVar 0)) env h)) (fC (.int 2)) (fC (.int 3)))) sNil) (sRet (fIf (fun env h => asB ((f1 (fun d h => ofB (isT h .tuple d) h) (fVar 0)) env h)) (fC (.int 4)) (fIf (fun env h => asB ((f1 (fun d h => ofB (isT h .list d) h) (fVar 0)) env h)) (fC (.int 5)) (fC (.int 6)))))))
def F__law_sort (β : Box) (ms : List Int) : Fd := fDef 1 (S__law_sort β ms)
theorem ss__law_sort {G : Cfg} (gf : GF G) : SSs { G with N := ["value"], sc := defScope (top 59), lev := 0, fnb := fun _ => true } (defBody (top 59)) (S__law_sort G.β G.ms) :=
  (ss_cons (ss_if (st_of (sw_or (st_cmp oe_is im_is (se_var (i := 0) (by rfl) (by first | exact .inl rfl | exact .inr (.inl rfl) | exact .inr (.inr rfl))) se_non (by rfl)) (sw_or1 (st_val (se_isi (t := .bool) (by rfl) gf.b_isinstance (by rfl) gf.b_bool (by rfl) (by decide) (by decide) (se_var (i := 0) (by rfl) (by first | exact .inl rfl | exact .inr (.inl rfl) | exact .inr (.inr rfl)))))))) (ss_one (ss_ret (se_if (st_cmp oe_is im_is (se_var (i := 0) (by rfl) (by first | exact .inl rfl | exact .inr (.inl rfl) | exact .inr (.inr rfl))) se_non (by rfl)) se_int se_int))) ss_nil) (ss_cons (ss_if (st_of (sw_or (st_val (se_isi (t := .int) (by rfl) gf.b_isinstance (by rfl) gf.b_int (by rfl) (by decide) (by decide) (se_var (i := 0) (by rfl) (by first | exact .inl rfl | exact .inr (.inl rfl) | exact .inr (.inr rfl))))) (sw_or1 (st_val (se_isi (t := .str) (by rfl) gf.b_isinstance (by rfl) gf.b_str (by rfl) (by decide) (by decide) (se_var (i := 0) (by rfl) (by first | exact .inl rfl | exact .inr (.inl rfl) | exact .inr (.inr rfl)))))))) (ss_one (ss_ret (se_if (st_val (se_isi (t := .int) (by rfl) gf.b_isinstance (by rfl) gf.b_int (by rfl) (by decide) (by decide) (se_var (i := 0) (by rfl) (by first | exact .inl rfl | exact .inr (.inl rfl) | exact .inr (.inr rfl))))) se_int se_int))) ss_nil) (ss_one (ss_ret (se_if (st_val (se_isi (t := .tuple) (by rfl) gf.b_isinstance (by rfl) gf.b_tuple (by rfl) (by decide) (by decide) (se_var (i := 0) (by rfl) (by first | exact .inl rfl | exact .inr (.inl rfl) | exact .inr (.inr rfl))))) se_int (se_if (st_val (se_isi (t := .list) (by rfl) gf.b_isinstance (by rfl) gf.b_list (by rfl) (by decide) (by decide) (se_var (i := 0) (by rfl) (by first | exact .inl rfl | exact .inr (.inl rfl) | exact .inr (.inr rfl))))) se_int se_int))))))
theorem ok__law_sort {G : Cfg} (gf : GF G) {f : Addr} {fd : FuncData} (F : FnP G.K "_law_sort" (top 59) f fd) (hm : G.mg "_law_sort" = some (.ref f)) : DefOk G 1 "_law_sort" 1 (F__law_sort G.β G.ms) :=
  def_ok F sc__law_sort hm (F.bindsN fun _ _ _ _ _ _ us hl => match us, hl with | [_], _ => rfl) rfl (ss__law_sort gf)
/-! _law_like -/
theorem sc__law_like : FnScope ["one", "other", "sort", "first", "second"] ["one", "other"] (defScope (top 60)) := ⟨rfl, rfl, rfl, by decide +kernel, rfl, by decide +kernel, by decide +kernel⟩
def S__law_like (F0 : Box → List Int → Fd) (β : Box) (ms : List Int) : Fs := (sSeq (sSet 2 (fCallD 1 (F__law_sort β ms) (faCons (fVar 1) faNil))) (sSeq (sIf (bOr (fun env h => asB ((f2 (opNe β) (fCallD 1 (F__law_sort β ms) (faCons (fVar 0) faNil)) (fVar 2)) env h)) (fun env h => asB ((f2 (opEq β) (fVar 2) (fC (.int 6))) env h))) (sRet (fC (.bl false))) sNil) (sSeq (sIf (fun env h => asB ((f2 (opIn β) (fVar 2) (fTup (faCons (fC (.int 4)) (faCons (fC (.int 5)) faNil)))) env h)) (sRet (fAnd (f2 (opEq β) (fCall (opLen) (faCons (fVar 0) faNil)) (fCall (opLen) (faCons (fVar 1) faNil))) (f2 (opEq β) (fFrz (fLc [3, 4] (fZip (fVar 0) (fVar 1)) (gT 2 (gsCons (gN 3) (gsCons (gN 4) gsNil))) (bNot (fun env h => asB ((fCallD 2 (F0 β ms) (faCons (fVar 3) (faCons (fVar 4) faNil))) env h))) (fC (.int 1)))) (fFrz (fLst faNil))))) sNil) (sRet (f2 (opEq β) (fVar 0) (fVar 1))))))
def R__law_like : Nat → Box → List Int → Fd
  | 0 => fun _ _ => fDef 5 (fun _ _ => .bad)
  | j + 1 => fun β ms => fDef 5 (S__law_like (R__law_like j) β ms)
def F__law_like (β : Box) (ms : List Int) : Fd := R__law_like 7 β ms
theorem ss__law_like {G : Cfg} (gf : GF G) (d__law_sort : DefOk G 1 "_law_sort" 1 (F__law_sort G.β G.ms)) {F0 : Box → List Int → Fd} {j : Nat} (d__law_like : DefOk G (1 + 1 + j) "_law_like" 2 (F0 G.β G.ms)) : SSs { G with N := ["one", "other", "sort", "first", "second"], sc := defScope (top 60), lev := 1 + 1 + j, fnb := fun _ => true } (defBody (top 60)) (S__law_like F0 G.β G.ms) :=
  (ss_cons (ss_set (i := 2) (by rfl) (by first | exact .inl rfl | exact .inr rfl) (by rfl) (se_callG d__law_sort rfl (Nat.le_add_right_of_le (by decide)) (by rfl) (sa_cons (se_var (i := 1) (by rfl) (by first | exact .inl rfl | exact .inr (.inl rfl) | exact .inr (.inr rfl))) sa_nil))) (ss_cons (ss_if (st_of (sw_or (st_cmp oe_ne im_ne (se_callG d__law_sort rfl (Nat.le_add_right_of_le (by decide)) (by rfl) (sa_cons (se_var (i := 0) (by rfl) (by first | exact .inl rfl | exact .inr (.inl rfl) | exact .inr (.inr rfl))) sa_nil)) (se_var (i := 2) (by rfl) (by first | exact .inl rfl | exact .inr (.inl rfl) | exact .inr (.inr rfl))) (by rfl)) (sw_or1 (st_cmp oe_eq im_eq (se_var (i := 2) (by rfl) (by first | exact .inl rfl | exact .inr (.inl rfl) | exact .inr (.inr rfl))) se_int (by rfl))))) (ss_one (ss_ret se_bl)) ss_nil) (ss_cons (ss_if (st_cmp (r := fun K => rInA K false) oe_in im_in (se_var (i := 2) (by rfl) (by first | exact .inl rfl | exact .inr (.inl rfl) | exact .inr (.inr rfl))) (se_tup (sa_cons se_int (sa_cons se_int sa_nil))) (by rfl)) (ss_one (ss_ret (se_and (se_cmp oe_eq im_eq (se_callB cr_lenA im_len (by rfl) gf.b_len (by rfl) (sa_cons (se_var (i := 0) (by rfl) (by first | exact .inl rfl | exact .inr (.inl rfl) | exact .inr (.inr rfl))) sa_nil)) (se_callB cr_lenA im_len (by rfl) gf.b_len (by rfl) (sa_cons (se_var (i := 1) (by rfl) (by first | exact .inl rfl | exact .inr (.inl rfl) | exact .inr (.inr rfl))) sa_nil)) (by rfl)) (se_one (se_cmp oe_eq im_eq (se_frz (sf_lc [("first", 3), ("second", 4)] (si_zip (by rfl) gf.b_zip (se_var (i := 0) (by rfl) (by first | exact .inl rfl | exact .inr (.inl rfl) | exact .inr (.inr rfl))) (se_var (i := 1) (by rfl) (by first | exact .inl rfl | exact .inr (.inl rfl) | exact .inr (.inr rfl)))) (by rfl) (sg_tup (n := 2) (sgs_cons (sg_name (i := 3) (by rfl) (by first | exact .inl rfl | exact .inr rfl) (by rfl)) (sgs_cons (sg_name (i := 4) (by rfl) (by first | exact .inl rfl | exact .inr rfl) (by rfl)) sgs_nil))) (by rfl) (sts_one (st_not (st_val (se_callG d__law_like rfl (Nat.le_refl _) (by rfl) (sa_cons (se_var (i := 3) (by rfl) (by first | exact .inl rfl | exact .inr (.inl rfl) | exact .inr (.inr rfl))) (sa_cons (se_var (i := 4) (by rfl) (by first | exact .inl rfl | exact .inr (.inl rfl) | exact .inr (.inr rfl))) sa_nil)))))) se_int)) (se_frz (sf_lst sa_nil)) (by rfl)))))) ss_nil) (ss_one (ss_ret (se_cmp oe_eq im_eq (se_var (i := 0) (by rfl) (by first | exact .inl rfl | exact .inr (.inl rfl) | exact .inr (.inr rfl))) (se_var (i := 1) (by rfl) (by first | exact .inl rfl | exact .inr (.inl rfl) | exact .inr (.inr rfl))) (by rfl)))))))
theorem ok__law_like {G : Cfg} (gf : GF G) {f : Addr} {fd : FuncData} (F : FnP G.K "_law_like" (top 60) f fd) (hm : G.mg "_law_like" = some (.ref f)) (d__law_sort : DefOk G 1 "_law_sort" 1 (F__law_sort G.β G.ms)) : DefOk G 9 "_law_like" 2 (F__law_like G.β G.ms) := by
  have key : ∀ j, DefOk G (1 + 1 + j) "_law_like" 2 (R__law_like j G.β G.ms) := fun j => by
    induction j with
    | zero => exact def_ok F sc__law_like hm (F.bindsN fun _ _ _ _ _ _ us hl => match us, hl with | [_, _], _ => rfl) rfl sss_bad
    | succ j ih => exact def_ok F sc__law_like hm (F.bindsN fun _ _ _ _ _ _ us hl => match us, hl with | [_, _], _ => rfl) rfl (ss__law_like gf d__law_sort ih)
  exact (key 7)
/-! _law_drops_right -/
theorem sc__law_drops_right : FnScope ["cup", "net", "late", "few", "told", "ring", "rounds", "later", "far", "more"] ["cup"] (defScope (top 61)) := ⟨rfl, rfl, rfl, by decide +kernel, rfl, by decide +kernel, by decide +kernel⟩
def S__law_drops_right (β : Box) (ms : List Int) : Fs := (sSeq (sPar 8 9 (faCons (f2 opAdd (fC (.int 1)) (fCallD 2 (F__law_roll β ms) (faCons (fVar 0) (faCons (fC (.int 9)) faNil)))) (faCons (fCallD 2 (F__law_roll β ms) (faCons (fVar 0) (faCons (fC (.int 3)) faNil))) faNil))) (sSeq (sSet 1 (fTup (faCons (fC (.int 3)) (faCons (fTup (faCons (fC (.int 0)) faNil)) (faCons (fTup (faCons (fC (.int 2)) faNil)) (faCons (fCall (opTuple) (faCons (fFrz (fCallL (opSortA β) (faCons (fFrz (fLst (faCons (fTup (faCons (fC (.int 0)) (faCons (fC (.int 1)) (faCons (fC (.int 1)) (faCons (fVar 8) faNil))))) (faCons (fTup (faCons (fC (.int 0)) (faCons (fC (.int 2)) (faCons (fC (.int 1)) (faCons (f2 opAdd (fVar 8) (fVar 9)) faNil))))) (faCons (fTup (faCons (fC (.int 1)) (faCons (fC (.int 2)) (faCons (fC (.int 0)) (faCons (fVar 9) faNil))))) faNil))))) faNil))) faNil)) faNil)))))) (sSeq (sSet 2 (fTup (faCons (fC (.int 3)) (faCons (fTup (faCons (fC (.int 0)) faNil)) (faCons (fTup (faCons (fC (.int 2)) faNil)) (faCons (fCall (opTuple) (faCons (fFrz (fCallL (opSortA β) (faCons (fFrz (fLst (faCons (fTup (faCons (fC (.int 0)) (faCons (fC (.int 1)) (faCons (fC (.int 1)) (faCons (fVar 8) faNil))))) (faCons (fTup (faCons (fC (.int 0)) (faCons (fC (.int 2)) (faCons (fC (.int 1)) (faCons (f2 opAdd (f2 opAdd (fVar 8) (fVar 9)) (fC (.int 1))) faNil))))) (faCons (fTup (faCons (fC (.int 1)) (faCons (fC (.int 2)) (faCons (fC (.int 0)) (faCons (fVar 9) faNil))))) faNil))))) faNil))) faNil)) faNil)))))) (sSeq (sSet 3 (fTup (faCons (fC (.int 3)) (faCons (fTup (faCons (fC (.int 0)) faNil)) (faCons (fTup (faCons (fC (.int 2)) faNil)) (faCons (fCall (opTuple) (faCons (fFrz (fCallL (opSortA β) (faCons (fFrz (fLst (faCons (fTup (faCons (fC (.int 0)) (faCons (fC (.int 1)) (faCons (fC (.int 1)) (faCons (fVar 8) faNil))))) (faCons (fTup (faCons (fC (.int 0)) (faCons (fC (.int 2)) (faCons (fC (.int 0)) (faCons (f2 opAdd (fVar 8) (fVar 9)) faNil))))) (faCons (fTup (faCons (fC (.int 1)) (faCons (fC (.int 2)) (faCons (fC (.int 0)) (faCons (fVar 9) faNil))))) faNil))))) faNil))) faNil)) faNil)))))) (sSeq (sSet 4 (fFrz (fLst (faCons (fCallD 2 (F_is_net_step β ms) (faCons (fVar 1) (faCons (fTup (faCons (fC (.str "drop")) (faCons (fTup (faCons (fC (.int 0)) (faCons (fC (.int 2)) (faCons (fC (.int 1)) (faCons (f2 opAdd (fVar 8) (fVar 9)) faNil))))) faNil))) faNil))) (faCons (fCallD 2 (F_is_net_step β ms) (faCons (fVar 2) (faCons (fTup (faCons (fC (.str "drop")) (faCons (fTup (faCons (fC (.int 0)) (faCons (fC (.int 2)) (faCons (fC (.int 1)) (faCons (f2 opAdd (f2 opAdd (fVar 8) (fVar 9)) (fC (.int 1))) faNil))))) faNil))) faNil))) (faCons (fCallD 2 (F_is_net_step β ms) (faCons (fVar 3) (faCons (fTup (faCons (fC (.str "drop")) (faCons (fTup (faCons (fC (.int 0)) (faCons (fC (.int 2)) (faCons (fC (.int 0)) (faCons (f2 opAdd (fVar 8) (fVar 9)) faNil))))) faNil))) faNil))) faNil)))))) (sSeq (sSet 4 (fFrz (fCat (fVar 4) (fFrz (fLst (faCons (fCallD 2 (F_is_net_step β ms) (faCons (fVar 1) (faCons (fTup (faCons (fC (.str "drop")) (faCons (fTup (faCons (fC (.int 1)) (faCons (fC (.int 2)) (faCons (fC (.int 0)) (faCons (fVar 9) faNil))))) faNil))) faNil))) (faCons (fCallD 2 (F_is_net_step β ms) (faCons (fVar 1) (faCons (fTup (faCons (fC (.str "drop")) (faCons (fTup (faCons (fC (.int 0)) (faCons (fC (.int 1)) (faCons (fC (.int 1)) (faCons (fVar 8) faNil))))) faNil))) faNil))) faNil))))))) (sSeq (sSet 5 (fTup (faCons (fC (.int 2)) (faCons (fTup (faCons (fC (.int 0)) faNil)) (faCons (fTup (faCons (fC (.int 1)) faNil)) (faCons (fTup (faCons (fTup (faCons (fC (.int 0)) (faCons (fC (.int 1)) (faCons (fC (.int 0)) (faCons (fC (.int 0)) faNil))))) (faCons (fTup (faCons (fC (.int 1)) (faCons (fC (.int 1)) (faCons (fC (.int 2)) (faCons (fC (.int 0)) faNil))))) (faCons (fTup (faCons (fC (.int 1)) (faCons (fC (.int 1)) (faCons (fC (.int 3)) (faCons (fVar 8) faNil))))) faNil)))) faNil)))))) (sSeq (sSet 4 (fFrz (fCat (fVar 4) (fFrz (fLst (faCons (fCallD 2 (F_is_net_step β ms) (faCons (fVar 5) (faCons (fTup (faCons (fC (.str "drop")) (faCons (fTup (faCons (fC (.int 1)) (faCons (fC (.int 1)) (faCons (fC (.int 2)) (faCons (fC (.int 0)) faNil))))) faNil))) faNil))) (faCons (fCallD 2 (F_is_net_step β ms) (faCons (fVar 5) (faCons (fTup (faCons (fC (.str "drop")) (faCons (fTup (faCons (fC (.int 1)) (faCons (fC (.int 1)) (faCons (fC (.int 3)) (faCons (fVar 8) faNil))))) faNil))) faNil))) (faCons (fCallD 2 (F_is_net_step β ms) (faCons (fTup (faCons (fC (.int 1)) (faCons (fTup faNil) (faCons (fTup (faCons (fC (.int 0)) faNil)) (faCons (fTup (faCons (fTup (faCons (fC (.int 0)) (faCons (fC (.int 0)) (faCons (fC (.int 1)) (faCons (fC (.int 0)) faNil))))) faNil)) faNil))))) (faCons (fTup (faCons (fC (.str "drop")) (faCons (fTup (faCons (fC (.int 0)) (faCons (fC (.int 0)) (faCons (fC (.int 1)) (faCons (fC (.int 0)) faNil))))) faNil))) faNil))) faNil)))))))) (sSeq (sSet 6 (fTup (faCons (fC (.int 2)) (faCons (fTup (faCons (fC (.int 0)) faNil)) (faCons (fTup (faCons (fC (.int 1)) faNil)) (faCons (fTup (faCons (fTup (faCons (fC (.int 0)) (faCons (fC (.int 1)) (faCons (fC (.int 0)) (faCons (fC (.int 0)) faNil))))) (faCons (fTup (faCons (fC (.int 1)) (faCons (fC (.int 1)) (faCons (fC (.int 1)) (faCons (fVar 8) faNil))))) (faCons (fTup (faCons (fC (.int 1)) (faCons (fC (.int 1)) (faCons (fC (.int 3)) (faCons (f2 opMul (fC (.int 3)) (fVar 8)) faNil))))) faNil)))) faNil)))))) (sSeq (sSet 7 (fTup (faCons (fC (.int 2)) (faCons (fTup (faCons (fC (.int 0)) faNil)) (faCons (fTup (faCons (fC (.int 1)) faNil)) (faCons (fTup (faCons (fTup (faCons (fC (.int 0)) (faCons (fC (.int 1)) (faCons (fC (.int 0)) (faCons (fC (.int 0)) faNil))))) (faCons (fTup (faCons (fC (.int 1)) (faCons (fC (.int 1)) (faCons (fC (.int 1)) (faCons (fVar 8) faNil))))) (faCons (fTup (faCons (fC (.int 1)) (faCons (fC (.int 1)) (faCons (fC (.int 3)) (faCons (f2 opAdd (f2 opMul (fC (.int 3)) (fVar 8)) (fC (.int 1))) faNil))))) faNil)))) faNil)))))) (sSeq (sSet 4 (fFrz (fCat (fVar 4) (fFrz (fLst (faCons (fCallD 2 (F_is_net_step β ms) (faCons (fVar 6) (faCons (fTup (faCons (fC (.str "drop")) (faCons (fTup (faCons (fC (.int 1)) (faCons (fC (.int 1)) (faCons (fC (.int 3)) (faCons (f2 opMul (fC (.int 3)) (fVar 8)) faNil))))) faNil))) faNil))) (faCons (fCallD 2 (F_is_net_step β ms) (faCons (fVar 7) (faCons (fTup (faCons (fC (.str "drop")) (faCons (fTup (faCons (fC (.int 1)) (faCons (fC (.int 1)) (faCons (fC (.int 3)) (faCons (f2 opAdd (f2 opMul (fC (.int 3)) (fVar 8)) (fC (.int 1))) faNil))))) faNil))) faNil))) faNil))))))) (sRet (fCallD 2 (F__law_like β ms) (faCons (fVar 4) (faCons (fFrz (fLst (faCons (fC (.bl true)) (faCons (fC (.bl false)) (faCons (fC (.bl false)) (faCons (fC (.bl false)) (faCons (fC (.bl false)) (faCons (fC (.bl true)) (faCons (fC (.bl false)) (faCons (fC (.bl false)) (faCons (fC (.bl true)) (faCons (fC (.bl false)) faNil)))))))))))) faNil)))))))))))))))
def F__law_drops_right (β : Box) (ms : List Int) : Fd := fDef 10 (S__law_drops_right β ms)
theorem ss__law_drops_right {G : Cfg} (gf : GF G) (d__law_roll : DefOk G 1 "_law_roll" 2 (F__law_roll G.β G.ms)) (d_is_net_step : DefOk G 8 "is_net_step" 2 (F_is_net_step G.β G.ms)) (d__law_like : DefOk G 9 "_law_like" 2 (F__law_like G.β G.ms)) : SSs { G with N := ["cup", "net", "late", "few", "told", "ring", "rounds", "later", "far", "more"], sc := defScope (top 61), lev := 9, fnb := fun _ => true } (defBody (top 61)) (S__law_drops_right G.β G.ms) :=
  (ss_cons (ss_par (i := 8) (j := 9) (by rfl) (by rfl) (by decide) (by rfl) (by rfl) (sa_cons (se_op oe_add im_add se_int (se_callG d__law_roll rfl (Nat.le_of_ble_eq_true rfl) (by rfl) (sa_cons (se_var (i := 0) (by rfl) (by first | exact .inl rfl | exact .inr (.inl rfl) | exact .inr (.inr rfl))) (sa_cons se_int sa_nil)))) (sa_cons (se_callG d__law_roll rfl (Nat.le_of_ble_eq_true rfl) (by rfl) (sa_cons (se_var (i := 0) (by rfl) (by first | exact .inl rfl | exact .inr (.inl rfl) | exact .inr (.inr rfl))) (sa_cons se_int sa_nil))) sa_nil)) (by rfl)) (ss_cons (ss_set (i := 1) (by rfl) (by first | exact .inl rfl | exact .inr rfl) (by rfl) (se_tup (sa_cons se_int (sa_cons (se_tup (sa_cons se_int sa_nil)) (sa_cons (se_tup (sa_cons se_int sa_nil)) (sa_cons (se_callT cr_tupA im_tuple (by rfl) gf.b_tuple (by rfl) (sa_cons (se_frz (sf_callB cr_sortA im_sortA (by rfl) gf.b_sorted (by rfl) (sa_cons (se_frz (sf_lst (sa_cons (se_tup (sa_cons se_int (sa_cons se_int (sa_cons se_int (sa_cons (se_var (i := 8) (by rfl) (by first | exact .inl rfl | exact .inr (.inl rfl) | exact .inr (.inr rfl))) sa_nil))))) (sa_cons (se_tup (sa_cons se_int (sa_cons se_int (sa_cons se_int (sa_cons (se_op oe_add im_add (se_var (i := 8) (by rfl) (by first | exact .inl rfl | exact .inr (.inl rfl) | exact .inr (.inr rfl))) (se_var (i := 9) (by rfl) (by first | exact .inl rfl | exact .inr (.inl rfl) | exact .inr (.inr rfl)))) sa_nil))))) (sa_cons (se_tup (sa_cons se_int (sa_cons se_int (sa_cons se_int (sa_cons (se_var (i := 9) (by rfl) (by first | exact .inl rfl | exact .inr (.inl rfl) | exact .inr (.inr rfl))) sa_nil))))) sa_nil))))) sa_nil))) sa_nil)) sa_nil)))))) (ss_cons (ss_set (i := 2) (by rfl) (by first | exact .inl rfl | exact .inr rfl) (by rfl) (se_tup (sa_cons se_int (sa_cons (se_tup (sa_cons se_int sa_nil)) (sa_cons (se_tup (sa_cons se_int sa_nil)) (sa_cons (se_callT cr_tupA im_tuple (by rfl) gf.b_tuple (by rfl) (sa_cons (se_frz (sf_callB cr_sortA im_sortA (by rfl) gf.b_sorted (by rfl) (sa_cons (se_frz (sf_lst (sa_cons (se_tup (sa_cons se_int (sa_cons se_int (sa_cons se_int (sa_cons (se_var (i := 8) (by rfl) (by first | exact .inl rfl | exact .inr (.inl rfl) | exact .inr (.inr rfl))) sa_nil))))) (sa_cons (se_tup (sa_cons se_int (sa_cons se_int (sa_cons se_int (sa_cons (se_op oe_add im_add (se_op oe_add im_add (se_var (i := 8) (by rfl) (by first | exact .inl rfl | exact .inr (.inl rfl) | exact .inr (.inr rfl))) (se_var (i := 9) (by rfl) (by first | exact .inl rfl | exact .inr (.inl rfl) | exact .inr (.inr rfl)))) se_int) sa_nil))))) (sa_cons (se_tup (sa_cons se_int (sa_cons se_int (sa_cons se_int (sa_cons (se_var (i := 9) (by rfl) (by first | exact .inl rfl | exact .inr (.inl rfl) | exact .inr (.inr rfl))) sa_nil))))) sa_nil))))) sa_nil))) sa_nil)) sa_nil)))))) (ss_cons (ss_set (i := 3) (by rfl) (by first | exact .inl rfl | exact .inr rfl) (by rfl) (se_tup (sa_cons se_int (sa_cons (se_tup (sa_cons se_int sa_nil)) (sa_cons (se_tup (sa_cons se_int sa_nil)) (sa_cons (se_callT cr_tupA im_tuple (by rfl) gf.b_tuple (by rfl) (sa_cons (se_frz (sf_callB cr_sortA im_sortA (by rfl) gf.b_sorted (by rfl) (sa_cons (se_frz (sf_lst (sa_cons (se_tup (sa_cons se_int (sa_cons se_int (sa_cons se_int (sa_cons (se_var (i := 8) (by rfl) (by first | exact .inl rfl | exact .inr (.inl rfl) | exact .inr (.inr rfl))) sa_nil))))) (sa_cons (se_tup (sa_cons se_int (sa_cons se_int (sa_cons se_int (sa_cons (se_op oe_add im_add (se_var (i := 8) (by rfl) (by first | exact .inl rfl | exact .inr (.inl rfl) | exact .inr (.inr rfl))) (se_var (i := 9) (by rfl) (by first | exact .inl rfl | exact .inr (.inl rfl) | exact .inr (.inr rfl)))) sa_nil))))) (sa_cons (se_tup (sa_cons se_int (sa_cons se_int (sa_cons se_int (sa_cons (se_var (i := 9) (by rfl) (by first | exact .inl rfl | exact .inr (.inl rfl) | exact .inr (.inr rfl))) sa_nil))))) sa_nil))))) sa_nil))) sa_nil)) sa_nil)))))) (ss_cons (ss_set (i := 4) (by rfl) (by first | exact .inl rfl | exact .inr rfl) (by rfl) (se_frz (sf_lst (sa_cons (se_callG d_is_net_step rfl (Nat.le_of_ble_eq_true rfl) (by rfl) (sa_cons (se_var (i := 1) (by rfl) (by first | exact .inl rfl | exact .inr (.inl rfl) | exact .inr (.inr rfl))) (sa_cons (se_tup (sa_cons se_str (sa_cons (se_tup (sa_cons se_int (sa_cons se_int (sa_cons se_int (sa_cons (se_op oe_add im_add (se_var (i := 8) (by rfl) (by first | exact .inl rfl | exact .inr (.inl rfl) | exact .inr (.inr rfl))) (se_var (i := 9) (by rfl) (by first | exact .inl rfl | exact .inr (.inl rfl) | exact .inr (.inr rfl)))) sa_nil))))) sa_nil))) sa_nil))) (sa_cons (se_callG d_is_net_step rfl (Nat.le_of_ble_eq_true rfl) (by rfl) (sa_cons (se_var (i := 2) (by rfl) (by first | exact .inl rfl | exact .inr (.inl rfl) | exact .inr (.inr rfl))) (sa_cons (se_tup (sa_cons se_str (sa_cons (se_tup (sa_cons se_int (sa_cons se_int (sa_cons se_int (sa_cons (se_op oe_add im_add (se_op oe_add im_add (se_var (i := 8) (by rfl) (by first | exact .inl rfl | exact .inr (.inl rfl) | exact .inr (.inr rfl))) (se_var (i := 9) (by rfl) (by first | exact .inl rfl | exact .inr (.inl rfl) | exact .inr (.inr rfl)))) se_int) sa_nil))))) sa_nil))) sa_nil))) (sa_cons (se_callG d_is_net_step rfl (Nat.le_of_ble_eq_true rfl) (by rfl) (sa_cons (se_var (i := 3) (by rfl) (by first | exact .inl rfl | exact .inr (.inl rfl) | exact .inr (.inr rfl))) (sa_cons (se_tup (sa_cons se_str (sa_cons (se_tup (sa_cons se_int (sa_cons se_int (sa_cons se_int (sa_cons (se_op oe_add im_add (se_var (i := 8) (by rfl) (by first | exact .inl rfl | exact .inr (.inl rfl) | exact .inr (.inr rfl))) (se_var (i := 9) (by rfl) (by first | exact .inl rfl | exact .inr (.inl rfl) | exact .inr (.inr rfl)))) sa_nil))))) sa_nil))) sa_nil))) sa_nil)))))) (ss_cons (ss_set (i := 4) (by rfl) (by first | exact .inl rfl | exact .inr rfl) (by rfl) (se_frz (sf_cat (se_var (i := 4) (by rfl) (by first | exact .inl rfl | exact .inr (.inl rfl) | exact .inr (.inr rfl))) (se_frz (sf_lst (sa_cons (se_callG d_is_net_step rfl (Nat.le_of_ble_eq_true rfl) (by rfl) (sa_cons (se_var (i := 1) (by rfl) (by first | exact .inl rfl | exact .inr (.inl rfl) | exact .inr (.inr rfl))) (sa_cons (se_tup (sa_cons se_str (sa_cons (se_tup (sa_cons se_int (sa_cons se_int (sa_cons se_int (sa_cons (se_var (i := 9) (by rfl) (by first | exact .inl rfl | exact .inr (.inl rfl) | exact .inr (.inr rfl))) sa_nil))))) sa_nil))) sa_nil))) (sa_cons (se_callG d_is_net_step rfl (Nat.le_of_ble_eq_true rfl) (by rfl) (sa_cons (se_var (i := 1) (by rfl) (by first | exact .inl rfl | exact .inr (.inl rfl) | exact .inr (.inr rfl))) (sa_cons (se_tup (sa_cons se_str (sa_cons (se_tup (sa_cons se_int (sa_cons se_int (sa_cons se_int (sa_cons (se_var (i := 8) (by rfl) (by first | exact .inl rfl | exact .inr (.inl rfl) | exact .inr (.inr rfl))) sa_nil))))) sa_nil))) sa_nil))) sa_nil))))))) (ss_cons (ss_set (i := 5) (by rfl) (by first | exact .inl rfl | exact .inr rfl) (by rfl) (se_tup (sa_cons se_int (sa_cons (se_tup (sa_cons se_int sa_nil)) (sa_cons (se_tup (sa_cons se_int sa_nil)) (sa_cons (se_tup (sa_cons (se_tup (sa_cons se_int (sa_cons se_int (sa_cons se_int (sa_cons se_int sa_nil))))) (sa_cons (se_tup (sa_cons se_int (sa_cons se_int (sa_cons se_int (sa_cons se_int sa_nil))))) (sa_cons (se_tup (sa_cons se_int (sa_cons se_int (sa_cons se_int (sa_cons (se_var (i := 8) (by rfl) (by first | exact .inl rfl | exact .inr (.inl rfl) | exact .inr (.inr rfl))) sa_nil))))) sa_nil)))) sa_nil)))))) (ss_cons (ss_set (i := 4) (by rfl) (by first | exact .inl rfl | exact .inr rfl) (by rfl) (se_frz (sf_cat (se_var (i := 4) (by rfl) (by first | exact .inl rfl | exact .inr (.inl rfl) | exact .inr (.inr rfl))) (se_frz (sf_lst (sa_cons (se_callG d_is_net_step rfl (Nat.le_of_ble_eq_true rfl) (by rfl) (sa_cons (se_var (i := 5) (by rfl) (by first | exact .inl rfl | exact .inr (.inl rfl) | exact .inr (.inr rfl))) (sa_cons (se_tup (sa_cons se_str (sa_cons (se_tup (sa_cons se_int (sa_cons se_int (sa_cons se_int (sa_cons se_int sa_nil))))) sa_nil))) sa_nil))) (sa_cons (se_callG d_is_net_step rfl (Nat.le_of_ble_eq_true rfl) (by rfl) (sa_cons (se_var (i := 5) (by rfl) (by first | exact .inl rfl | exact .inr (.inl rfl) | exact .inr (.inr rfl))) (sa_cons (se_tup (sa_cons se_str (sa_cons (se_tup (sa_cons se_int (sa_cons se_int (sa_cons se_int (sa_cons (se_var (i := 8) (by rfl) (by first | exact .inl rfl | exact .inr (.inl rfl) | exact .inr (.inr rfl))) sa_nil))))) sa_nil))) sa_nil))) (sa_cons (se_callG d_is_net_step rfl (Nat.le_of_ble_eq_true rfl) (by rfl) (sa_cons (se_tup (sa_cons se_int (sa_cons (se_tup sa_nil) (sa_cons (se_tup (sa_cons se_int sa_nil)) (sa_cons (se_tup (sa_cons (se_tup (sa_cons se_int (sa_cons se_int (sa_cons se_int (sa_cons se_int sa_nil))))) sa_nil)) sa_nil))))) (sa_cons (se_tup (sa_cons se_str (sa_cons (se_tup (sa_cons se_int (sa_cons se_int (sa_cons se_int (sa_cons se_int sa_nil))))) sa_nil))) sa_nil))) sa_nil)))))))) (ss_cons (ss_set (i := 6) (by rfl) (by first | exact .inl rfl | exact .inr rfl) (by rfl) (se_tup (sa_cons se_int (sa_cons (se_tup (sa_cons se_int sa_nil)) (sa_cons (se_tup (sa_cons se_int sa_nil)) (sa_cons (se_tup (sa_cons (se_tup (sa_cons se_int (sa_cons se_int (sa_cons se_int (sa_cons se_int sa_nil))))) (sa_cons (se_tup (sa_cons se_int (sa_cons se_int (sa_cons se_int (sa_cons (se_var (i := 8) (by rfl) (by first | exact .inl rfl | exact .inr (.inl rfl) | exact .inr (.inr rfl))) sa_nil))))) (sa_cons (se_tup (sa_cons se_int (sa_cons se_int (sa_cons se_int (sa_cons (se_op oe_mul im_mul se_int (se_var (i := 8) (by rfl) (by first | exact .inl rfl | exact .inr (.inl rfl) | exact .inr (.inr rfl)))) sa_nil))))) sa_nil)))) sa_nil)))))) (ss_cons (ss_set (i := 7) (by rfl) (by first | exact .inl rfl | exact .inr rfl) (by rfl) (se_tup (sa_cons se_int (sa_cons (se_tup (sa_cons se_int sa_nil)) (sa_cons (se_tup (sa_cons se_int sa_nil)) (sa_cons (se_tup (sa_cons (se_tup (sa_cons se_int (sa_cons se_int (sa_cons se_int (sa_cons se_int sa_nil))))) (sa_cons (se_tup (sa_cons se_int (sa_cons se_int (sa_cons se_int (sa_cons (se_var (i := 8) (by rfl) (by first | exact .inl rfl | exact .inr (.inl rfl) | exact .inr (.inr rfl))) sa_nil))))) (sa_cons (se_tup (sa_cons se_int (sa_cons se_int (sa_cons se_int (sa_cons (se_op oe_add im_add (se_op oe_mul im_mul se_int (se_var (i := 8) (by rfl) (by first | exact .inl rfl | exact .inr (.inl rfl) | exact .inr (.inr rfl)))) se_int) sa_nil))))) sa_nil)))) sa_nil)))))) (ss_cons (ss_set (i := 4) (by rfl) (by first | exact .inl rfl | exact .inr rfl) (by rfl) (se_frz (sf_cat (se_var (i := 4) (by rfl) (by first | exact .inl rfl | exact .inr (.inl rfl) | exact .inr (.inr rfl))) (se_frz (sf_lst (sa_cons (se_callG d_is_net_step rfl (Nat.le_of_ble_eq_true rfl) (by rfl) (sa_cons (se_var (i := 6) (by rfl) (by first | exact .inl rfl | exact .inr (.inl rfl) | exact .inr (.inr rfl))) (sa_cons (se_tup (sa_cons se_str (sa_cons (se_tup (sa_cons se_int (sa_cons se_int (sa_cons se_int (sa_cons (se_op oe_mul im_mul se_int (se_var (i := 8) (by rfl) (by first | exact .inl rfl | exact .inr (.inl rfl) | exact .inr (.inr rfl)))) sa_nil))))) sa_nil))) sa_nil))) (sa_cons (se_callG d_is_net_step rfl (Nat.le_of_ble_eq_true rfl) (by rfl) (sa_cons (se_var (i := 7) (by rfl) (by first | exact .inl rfl | exact .inr (.inl rfl) | exact .inr (.inr rfl))) (sa_cons (se_tup (sa_cons se_str (sa_cons (se_tup (sa_cons se_int (sa_cons se_int (sa_cons se_int (sa_cons (se_op oe_add im_add (se_op oe_mul im_mul se_int (se_var (i := 8) (by rfl) (by first | exact .inl rfl | exact .inr (.inl rfl) | exact .inr (.inr rfl)))) se_int) sa_nil))))) sa_nil))) sa_nil))) sa_nil))))))) (ss_one (ss_ret (se_callG d__law_like rfl (Nat.le_of_ble_eq_true rfl) (by rfl) (sa_cons (se_var (i := 4) (by rfl) (by first | exact .inl rfl | exact .inr (.inl rfl) | exact .inr (.inr rfl))) (sa_cons (se_frz (sf_lst (sa_cons se_bl (sa_cons se_bl (sa_cons se_bl (sa_cons se_bl (sa_cons se_bl (sa_cons se_bl (sa_cons se_bl (sa_cons se_bl (sa_cons se_bl (sa_cons se_bl sa_nil)))))))))))) sa_nil))))))))))))))))
theorem ok__law_drops_right {G : Cfg} (gf : GF G) {f : Addr} {fd : FuncData} (F : FnP G.K "_law_drops_right" (top 61) f fd) (hm : G.mg "_law_drops_right" = some (.ref f)) (d__law_roll : DefOk G 1 "_law_roll" 2 (F__law_roll G.β G.ms)) (d_is_net_step : DefOk G 8 "is_net_step" 2 (F_is_net_step G.β G.ms)) (d__law_like : DefOk G 9 "_law_like" 2 (F__law_like G.β G.ms)) : DefOk G 10 "_law_drops_right" 1 (F__law_drops_right G.β G.ms) :=
  def_ok F sc__law_drops_right hm (F.bindsN fun _ _ _ _ _ _ us hl => match us, hl with | [_], _ => rfl) rfl (ss__law_drops_right gf d__law_roll d_is_net_step d__law_like)
/-! _law_through_right -/
theorem sc__law_through_right : FnScope ["cup", "first", "whole", "told", "due", "loop", "dead", "seven", "great", "least", "turn", "delay", "back", "net"] ["cup"] (defScope (top 62)) := ⟨rfl, rfl, rfl, by decide +kernel, rfl, by decide +kernel, by decide +kernel⟩
def S__law_through_right (β : Box) (ms : List Int) : Fs := (sSeq (sPar 11 12 (faCons (f2 opAdd (fC (.int 1)) (fCallD 2 (F__law_roll β ms) (faCons (fVar 0) (faCons (fC (.int 9)) faNil)))) (faCons (fCallD 2 (F__law_roll β ms) (faCons (fVar 0) (faCons (fC (.int 5)) faNil))) faNil))) (sSeq (sSet 1 (fTup (faCons (fC (.int 3)) (faCons (fTup (faCons (fC (.int 0)) faNil)) (faCons (fTup (faCons (fC (.int 2)) faNil)) (faCons (fTup (faCons (fTup (faCons (fC (.int 0)) (faCons (fC (.int 1)) (faCons (fC (.int 1)) (faCons (fVar 11) faNil))))) (faCons (fTup (faCons (fC (.int 1)) (faCons (fC (.int 2)) (faCons (fC (.int 0)) (faCons (fVar 12) faNil))))) faNil))) faNil)))))) (sSeq (sSet 2 (fTup (faCons (fC (.int 3)) (faCons (fTup (faCons (fC (.int 0)) faNil)) (faCons (fTup (faCons (fC (.int 2)) faNil)) (faCons (fTup (faCons (fTup (faCons (fC (.int 0)) (faCons (fC (.int 1)) (faCons (fC (.int 0)) (faCons (fVar 11) faNil))))) (faCons (fTup (faCons (fC (.int 1)) (faCons (fC (.int 2)) (faCons (fC (.int 1)) (faCons (fVar 12) faNil))))) faNil))) faNil)))))) (sSeq (sSet 3 (fFrz (fLst (faCons (fCallD 2 (F_is_net_step β ms) (faCons (fVar 1) (faCons (fTup (faCons (fC (.str "through")) (faCons (fC (.int 1)) faNil))) faNil))) (faCons (f2 opIx (fCallD 3 (F_times_of β ms) (faCons (fVar 1) (faCons (fC (.int 2)) (faCons (fTup (faCons (fTup (faCons (fC (.int 4)) (faCons (fC (.int 4)) faNil))) faNil)) faNil)))) (fC (.int 2))) (faCons (fCallD 2 (F_is_net_step β ms) (faCons (fVar 2) (faCons (fTup (faCons (fC (.str "through")) (faCons (fC (.int 1)) faNil))) faNil))) (faCons (fCallD 2 (F_net_led β ms) (faCons (fVar 2) (faCons (fTup (faCons (fC (.str "through")) (faCons (fC (.int 1)) faNil))) faNil))) faNil))))))) (sSeq (sSet 4 (fFrz (fLst (faCons (f2 (opEq β) (fVar 12) (fC (.int 0))) (faCons (fTup (faCons (fVar 12) (faCons (f2 opAdd (f2 opAdd (fC (.int 4)) (fVar 11)) (fVar 12)) faNil))) (faCons (fC (.bl true)) (faCons (fTup (faCons (fC (.int 2)) (faCons (fTup (faCons (fC (.int 0)) faNil)) (faCons (fTup (faCons (fC (.int 1)) faNil)) (faCons (fTup (faCons (fTup (faCons (fC (.int 0)) (faCons (fC (.int 1)) (faCons (fC (.int 1)) (faCons (f2 opAdd (fVar 11) (fVar 12)) faNil))))) faNil)) faNil))))) faNil))))))) (sSeq (sIf (bNot (fun env h => asB ((fCallD 2 (F__law_like β ms) (faCons (fVar 3) (faCons (fVar 4) faNil))) env h))) (sRet (fC (.bl false))) sNil) (sSeq (sSet 5 (fTup (faCons (fC (.int 3)) (faCons (fTup (faCons (fC (.int 0)) faNil)) (faCons (fTup (faCons (fC (.int 2)) faNil)) (faCons (fTup (faCons (fTup (faCons (fC (.int 0)) (faCons (fC (.int 1)) (faCons (fC (.int 0)) (faCons (fC (.int 1)) faNil))))) (faCons (fTup (faCons (fC (.int 1)) (faCons (fC (.int 1)) (faCons (fC (.int 1)) (faCons (fC (.int 2)) faNil))))) (faCons (fTup (faCons (fC (.int 1)) (faCons (fC (.int 2)) (faCons (fC (.int 0)) (faCons (fC (.int 0)) faNil))))) faNil)))) faNil)))))) (sSeq (sSet 6 (fTup (faCons (fC (.int 3)) (faCons (fTup (faCons (fC (.int 0)) faNil)) (faCons (fTup (faCons (fC (.int 2)) faNil)) (faCons (fTup (faCons (fTup (faCons (fC (.int 0)) (faCons (fC (.int 1)) (faCons (fC (.int 0)) (faCons (fC (.int 1)) faNil))))) (faCons (fTup (faCons (fC (.int 0)) (faCons (fC (.int 2)) (faCons (fC (.int 0)) (faCons (fC (.int 0)) faNil))))) faNil))) faNil)))))) (sSeq (sSet 3 (fFrz (fLst (faCons (fCallD 2 (F_is_net_step β ms) (faCons (fVar 2) (faCons (fTup (faCons (fC (.str "through")) (faCons (fC (.int 2)) faNil))) faNil))) (faCons (fCallD 2 (F_is_net_step β ms) (faCons (fVar 2) (faCons (fTup (faCons (fC (.str "through")) (faCons (fC (.int 0)) faNil))) faNil))) (faCons (fCallD 2 (F_is_net_step β ms) (faCons (fVar 5) (faCons (fTup (faCons (fC (.str "through")) (faCons (fC (.int 1)) faNil))) faNil))) (faCons (fCallD 2 (F_is_net_step β ms) (faCons (fVar 6) (faCons (fTup (faCons (fC (.str "through")) (faCons (fC (.int 1)) faNil))) faNil))) (faCons (fCallD 2 (F_net_led β ms) (faCons (fVar 6) (faCons (fTup (faCons (fC (.str "out")) (faCons (fC (.int 1)) faNil))) faNil))) faNil)))))))) (sSeq (sIf (bNot (fun env h => asB ((fCallD 2 (F__law_like β ms) (faCons (fVar 3) (faCons (fFrz (fLst (faCons (fC (.bl false)) (faCons (fC (.bl false)) (faCons (fC (.bl false)) (faCons (fC (.bl false)) (faCons (fTup (faCons (fC (.int 2)) (faCons (fTup (faCons (fC (.int 0)) faNil)) (faCons (fTup (faCons (fC (.int 1)) faNil)) (faCons (fTup (faCons (fTup (faCons (fC (.int 0)) (faCons (fC (.int 1)) (faCons (fC (.int 0)) (faCons (fC (.int 0)) faNil))))) faNil)) faNil))))) faNil))))))) faNil))) env h))) (sRet (fC (.bl false))) sNil) (sSeq (sSet 7 (fTup (faCons (fC (.int 3)) (faCons (fTup (faCons (fC (.int 0)) faNil)) (faCons (fTup (faCons (fC (.int 2)) faNil)) (faCons (fTup (faCons (fTup (faCons (fC (.int 0)) (faCons (fC (.int 1)) (faCons (fC (.int 0)) (faCons (fC (.int 1)) faNil))))) (faCons (fTup (faCons (fC (.int 0)) (faCons (fC (.int 1)) (faCons (fC (.int 3)) (faCons (fC (.int 600)) faNil))))) (faCons (fTup (faCons (fC (.int 1)) (faCons (fC (.int 2)) (faCons (fC (.int 4)) (faCons (fC (.int 0)) faNil))))) faNil)))) faNil)))))) (sSeq (sSet 8 (fTup (faCons (fC (.int 3)) (faCons (fTup (faCons (fC (.int 0)) faNil)) (faCons (fTup (faCons (fC (.int 2)) faNil)) (faCons (fTup (faCons (fTup (faCons (fC (.int 0)) (faCons (fC (.int 1)) (faCons (fC (.int 0)) (faCons (fC (.int 600)) faNil))))) (faCons (fTup (faCons (fC (.int 1)) (faCons (fC (.int 2)) (faCons (fC (.int 1)) (faCons (fC (.int 401)) faNil))))) faNil))) faNil)))))) (sSeq (sSet 9 (fTup (faCons (fC (.int 3)) (faCons (fTup (faCons (fC (.int 0)) faNil)) (faCons (fTup (faCons (fC (.int 2)) faNil)) (faCons (fTup (faCons (fTup (faCons (fC (.int 0)) (faCons (fC (.int 1)) (faCons (fC (.int 0)) (faCons (fC (.int 600)) faNil))))) (faCons (fTup (faCons (fC (.int 1)) (faCons (fC (.int 2)) (faCons (fC (.int 1)) (faCons (fC (.int 400)) faNil))))) faNil))) faNil)))))) (sSeq (sSet 3 (fFrz (fLc [13] (fIt (fTup (faCons (fVar 7) (faCons (fVar 8) (faCons (fVar 9) faNil))))) (gN 13) bYes (fCallD 2 (F_is_net_step β ms) (faCons (fVar 13) (faCons (fTup (faCons (fC (.str "through")) (faCons (fC (.int 1)) faNil))) faNil)))))) (sSeq (sSet 10 (fTup (faCons (fC (.int 3)) (faCons (fTup (faCons (fC (.int 0)) faNil)) (faCons (fTup (faCons (fC (.int 1)) faNil)) (faCons (fTup (faCons (fTup (faCons (fC (.int 0)) (faCons (fC (.int 1)) (faCons (fC (.int 0)) (faCons (fC (.int 1)) faNil))))) (faCons (fTup (faCons (fC (.int 1)) (faCons (fC (.int 2)) (faCons (fC (.int 0)) (faCons (fC (.int 2)) faNil))))) (faCons (fTup (faCons (fC (.int 2)) (faCons (fC (.int 1)) (faCons (fC (.int 1)) (faCons (fC (.int 3)) faNil))))) faNil)))) faNil)))))) (sRet (fCallD 2 (F__law_like β ms) (faCons (fFrz (fCat (fVar 3) (fFrz (fLst (faCons (fCallD 2 (F_net_led β ms) (faCons (fVar 10) (faCons (fTup (faCons (fC (.str "through")) (faCons (fC (.int 2)) faNil))) faNil))) faNil))))) (faCons (fFrz (fLst (faCons (fC (.bl false)) (faCons (fC (.bl false)) (faCons (fC (.bl true)) (faCons (fTup (faCons (fC (.int 2)) (faCons (fTup (faCons (fC (.int 0)) faNil)) (faCons (fTup (faCons (fC (.int 1)) faNil)) (faCons (fTup (faCons (fTup (faCons (fC (.int 0)) (faCons (fC (.int 1)) (faCons (fC (.int 0)) (faCons (fC (.int 1)) faNil))))) (faCons (fTup (faCons (fC (.int 1)) (faCons (fC (.int 1)) (faCons (fC (.int 1)) (faCons (fC (.int 5)) faNil))))) faNil))) faNil))))) faNil)))))) faNil)))))))))))))))))))
def F__law_through_right (β : Box) (ms : List Int) : Fd := fDef 14 (S__law_through_right β ms)
theorem ss__law_through_right {G : Cfg} (gf : GF G) (d__law_roll : DefOk G 1 "_law_roll" 2 (F__law_roll G.β G.ms)) (d_is_net_step : DefOk G 8 "is_net_step" 2 (F_is_net_step G.β G.ms)) (d_times_of : DefOk G 8 "times_of" 3 (F_times_of G.β G.ms)) (d_net_led : DefOk G 8 "net_led" 2 (F_net_led G.β G.ms)) (d__law_like : DefOk G 9 "_law_like" 2 (F__law_like G.β G.ms)) : SSs { G with N := ["cup", "first", "whole", "told", "due", "loop", "dead", "seven", "great", "least", "turn", "delay", "back", "net"], sc := defScope (top 62), lev := 9, fnb := fun _ => true } (defBody (top 62)) (S__law_through_right G.β G.ms) :=
  (ss_cons (ss_par (i := 11) (j := 12) (by rfl) (by rfl) (by decide) (by rfl) (by rfl) (sa_cons (se_op oe_add im_add se_int (se_callG d__law_roll rfl (Nat.le_of_ble_eq_true rfl) (by rfl) (sa_cons (se_var (i := 0) (by rfl) (by first | exact .inl rfl | exact .inr (.inl rfl) | exact .inr (.inr rfl))) (sa_cons se_int sa_nil)))) (sa_cons (se_callG d__law_roll rfl (Nat.le_of_ble_eq_true rfl) (by rfl) (sa_cons (se_var (i := 0) (by rfl) (by first | exact .inl rfl | exact .inr (.inl rfl) | exact .inr (.inr rfl))) (sa_cons se_int sa_nil))) sa_nil)) (by rfl)) (ss_cons (ss_set (i := 1) (by rfl) (by first | exact .inl rfl | exact .inr rfl) (by rfl) (se_tup (sa_cons se_int (sa_cons (se_tup (sa_cons se_int sa_nil)) (sa_cons (se_tup (sa_cons se_int sa_nil)) (sa_cons (se_tup (sa_cons (se_tup (sa_cons se_int (sa_cons se_int (sa_cons se_int (sa_cons (se_var (i := 11) (by rfl) (by first | exact .inl rfl | exact .inr (.inl rfl) | exact .inr (.inr rfl))) sa_nil))))) (sa_cons (se_tup (sa_cons se_int (sa_cons se_int (sa_cons se_int (sa_cons (se_var (i := 12) (by rfl) (by first | exact .inl rfl | exact .inr (.inl rfl) | exact .inr (.inr rfl))) sa_nil))))) sa_nil))) sa_nil)))))) (ss_cons (ss_set (i := 2) (by rfl) (by first | exact .inl rfl | exact .inr rfl) (by rfl) (se_tup (sa_cons se_int (sa_cons (se_tup (sa_cons se_int sa_nil)) (sa_cons (se_tup (sa_cons se_int sa_nil)) (sa_cons (se_tup (sa_cons (se_tup (sa_cons se_int (sa_cons se_int (sa_cons se_int (sa_cons (se_var (i := 11) (by rfl) (by first | exact .inl rfl | exact .inr (.inl rfl) | exact .inr (.inr rfl))) sa_nil))))) (sa_cons (se_tup (sa_cons se_int (sa_cons se_int (sa_cons se_int (sa_cons (se_var (i := 12) (by rfl) (by first | exact .inl rfl | exact .inr (.inl rfl) | exact .inr (.inr rfl))) sa_nil))))) sa_nil))) sa_nil)))))) (ss_cons (ss_set (i := 3) (by rfl) (by first | exact .inl rfl | exact .inr rfl) (by rfl) (se_frz (sf_lst (sa_cons (se_callG d_is_net_step rfl (Nat.le_of_ble_eq_true rfl) (by rfl) (sa_cons (se_var (i := 1) (by rfl) (by first | exact .inl rfl | exact .inr (.inl rfl) | exact .inr (.inr rfl))) (sa_cons (se_tup (sa_cons se_str (sa_cons se_int sa_nil))) sa_nil))) (sa_cons (se_ix (se_callG d_times_of rfl (Nat.le_of_ble_eq_true rfl) (by rfl) (sa_cons (se_var (i := 1) (by rfl) (by first | exact .inl rfl | exact .inr (.inl rfl) | exact .inr (.inr rfl))) (sa_cons se_int (sa_cons (se_tup (sa_cons (se_tup (sa_cons se_int (sa_cons se_int sa_nil))) sa_nil)) sa_nil)))) se_int) (sa_cons (se_callG d_is_net_step rfl (Nat.le_of_ble_eq_true rfl) (by rfl) (sa_cons (se_var (i := 2) (by rfl) (by first | exact .inl rfl | exact .inr (.inl rfl) | exact .inr (.inr rfl))) (sa_cons (se_tup (sa_cons se_str (sa_cons se_int sa_nil))) sa_nil))) (sa_cons (se_callG d_net_led rfl (Nat.le_of_ble_eq_true rfl) (by rfl) (sa_cons (se_var (i := 2) (by rfl) (by first | exact .inl rfl | exact .inr (.inl rfl) | exact .inr (.inr rfl))) (sa_cons (se_tup (sa_cons se_str (sa_cons se_int sa_nil))) sa_nil))) sa_nil))))))) (ss_cons (ss_set (i := 4) (by rfl) (by first | exact .inl rfl | exact .inr rfl) (by rfl) (se_frz (sf_lst (sa_cons (se_cmp oe_eq im_eq (se_var (i := 12) (by rfl) (by first | exact .inl rfl | exact .inr (.inl rfl) | exact .inr (.inr rfl))) se_int (by rfl)) (sa_cons (se_tup (sa_cons (se_var (i := 12) (by rfl) (by first | exact .inl rfl | exact .inr (.inl rfl) | exact .inr (.inr rfl))) (sa_cons (se_op oe_add im_add (se_op oe_add im_add se_int (se_var (i := 11) (by rfl) (by first | exact .inl rfl | exact .inr (.inl rfl) | exact .inr (.inr rfl)))) (se_var (i := 12) (by rfl) (by first | exact .inl rfl | exact .inr (.inl rfl) | exact .inr (.inr rfl)))) sa_nil))) (sa_cons se_bl (sa_cons (se_tup (sa_cons se_int (sa_cons (se_tup (sa_cons se_int sa_nil)) (sa_cons (se_tup (sa_cons se_int sa_nil)) (sa_cons (se_tup (sa_cons (se_tup (sa_cons se_int (sa_cons se_int (sa_cons se_int (sa_cons (se_op oe_add im_add (se_var (i := 11) (by rfl) (by first | exact .inl rfl | exact .inr (.inl rfl) | exact .inr (.inr rfl))) (se_var (i := 12) (by rfl) (by first | exact .inl rfl | exact .inr (.inl rfl) | exact .inr (.inr rfl)))) sa_nil))))) sa_nil)) sa_nil))))) sa_nil))))))) (ss_cons (ss_if (st_not (st_val (se_callG d__law_like rfl (Nat.le_of_ble_eq_true rfl) (by rfl) (sa_cons (se_var (i := 3) (by rfl) (by first | exact .inl rfl | exact .inr (.inl rfl) | exact .inr (.inr rfl))) (sa_cons (se_var (i := 4) (by rfl) (by first | exact .inl rfl | exact .inr (.inl rfl) | exact .inr (.inr rfl))) sa_nil))))) (ss_one (ss_ret se_bl)) ss_nil) (ss_cons (ss_set (i := 5) (by rfl) (by first | exact .inl rfl | exact .inr rfl) (by rfl) (se_tup (sa_cons se_int (sa_cons (se_tup (sa_cons se_int sa_nil)) (sa_cons (se_tup (sa_cons se_int sa_nil)) (sa_cons (se_tup (sa_cons (se_tup (sa_cons se_int (sa_cons se_int (sa_cons se_int (sa_cons se_int sa_nil))))) (sa_cons (se_tup (sa_cons se_int (sa_cons se_int (sa_cons se_int (sa_cons se_int sa_nil))))) (sa_cons (se_tup (sa_cons se_int (sa_cons se_int (sa_cons se_int (sa_cons se_int sa_nil))))) sa_nil)))) sa_nil)))))) (ss_cons (ss_set (i := 6) (by rfl) (by first | exact .inl rfl | exact .inr rfl) (by rfl) (se_tup (sa_cons se_int (sa_cons (se_tup (sa_cons se_int sa_nil)) (sa_cons (se_tup (sa_cons se_int sa_nil)) (sa_cons (se_tup (sa_cons (se_tup (sa_cons se_int (sa_cons se_int (sa_cons se_int (sa_cons se_int sa_nil))))) (sa_cons (se_tup (sa_cons se_int (sa_cons se_int (sa_cons se_int (sa_cons se_int sa_nil))))) sa_nil))) sa_nil)))))) (ss_cons (ss_set (i := 3) (by rfl) (by first | exact .inl rfl | exact .inr rfl) (by rfl) (se_frz (sf_lst (sa_cons (se_callG d_is_net_step rfl (Nat.le_of_ble_eq_true rfl) (by rfl) (sa_cons (se_var (i := 2) (by rfl) (by first | exact .inl rfl | exact .inr (.inl rfl) | exact .inr (.inr rfl))) (sa_cons (se_tup (sa_cons se_str (sa_cons se_int sa_nil))) sa_nil))) (sa_cons (se_callG d_is_net_step rfl (Nat.le_of_ble_eq_true rfl) (by rfl) (sa_cons (se_var (i := 2) (by rfl) (by first | exact .inl rfl | exact .inr (.inl rfl) | exact .inr (.inr rfl))) (sa_cons (se_tup (sa_cons se_str (sa_cons se_int sa_nil))) sa_nil))) (sa_cons (se_callG d_is_net_step rfl (Nat.le_of_ble_eq_true rfl) (by rfl) (sa_cons (se_var (i := 5) (by rfl) (by first | exact .inl rfl | exact .inr (.inl rfl) | exact .inr (.inr rfl))) (sa_cons (se_tup (sa_cons se_str (sa_cons se_int sa_nil))) sa_nil))) (sa_cons (se_callG d_is_net_step rfl (Nat.le_of_ble_eq_true rfl) (by rfl) (sa_cons (se_var (i := 6) (by rfl) (by first | exact .inl rfl | exact .inr (.inl rfl) | exact .inr (.inr rfl))) (sa_cons (se_tup (sa_cons se_str (sa_cons se_int sa_nil))) sa_nil))) (sa_cons (se_callG d_net_led rfl (Nat.le_of_ble_eq_true rfl) (by rfl) (sa_cons (se_var (i := 6) (by rfl) (by first | exact .inl rfl | exact .inr (.inl rfl) | exact .inr (.inr rfl))) (sa_cons (se_tup (sa_cons se_str (sa_cons se_int sa_nil))) sa_nil))) sa_nil)))))))) (ss_cons (ss_if (st_not (st_val (se_callG d__law_like rfl (Nat.le_of_ble_eq_true rfl) (by rfl) (sa_cons (se_var (i := 3) (by rfl) (by first | exact .inl rfl | exact .inr (.inl rfl) | exact .inr (.inr rfl))) (sa_cons (se_frz (sf_lst (sa_cons se_bl (sa_cons se_bl (sa_cons se_bl (sa_cons se_bl (sa_cons (se_tup (sa_cons se_int (sa_cons (se_tup (sa_cons se_int sa_nil)) (sa_cons (se_tup (sa_cons se_int sa_nil)) (sa_cons (se_tup (sa_cons (se_tup (sa_cons se_int (sa_cons se_int (sa_cons se_int (sa_cons se_int sa_nil))))) sa_nil)) sa_nil))))) sa_nil))))))) sa_nil))))) (ss_one (ss_ret se_bl)) ss_nil) (ss_cons (ss_set (i := 7) (by rfl) (by first | exact .inl rfl | exact .inr rfl) (by rfl) (se_tup (sa_cons se_int (sa_cons (se_tup (sa_cons se_int sa_nil)) (sa_cons (se_tup (sa_cons se_int sa_nil)) (sa_cons (se_tup (sa_cons (se_tup (sa_cons se_int (sa_cons se_int (sa_cons se_int (sa_cons se_int sa_nil))))) (sa_cons (se_tup (sa_cons se_int (sa_cons se_int (sa_cons se_int (sa_cons se_int sa_nil))))) (sa_cons (se_tup (sa_cons se_int (sa_cons se_int (sa_cons se_int (sa_cons se_int sa_nil))))) sa_nil)))) sa_nil)))))) (ss_cons (ss_set (i := 8) (by rfl) (by first | exact .inl rfl | exact .inr rfl) (by rfl) (se_tup (sa_cons se_int (sa_cons (se_tup (sa_cons se_int sa_nil)) (sa_cons (se_tup (sa_cons se_int sa_nil)) (sa_cons (se_tup (sa_cons (se_tup (sa_cons se_int (sa_cons se_int (sa_cons se_int (sa_cons se_int sa_nil))))) (sa_cons (se_tup (sa_cons se_int (sa_cons se_int (sa_cons se_int (sa_cons se_int sa_nil))))) sa_nil))) sa_nil)))))) (ss_cons (ss_set (i := 9) (by rfl) (by first | exact .inl rfl | exact .inr rfl) (by rfl) (se_tup (sa_cons se_int (sa_cons (se_tup (sa_cons se_int sa_nil)) (sa_cons (se_tup (sa_cons se_int sa_nil)) (sa_cons (se_tup (sa_cons (se_tup (sa_cons se_int (sa_cons se_int (sa_cons se_int (sa_cons se_int sa_nil))))) (sa_cons (se_tup (sa_cons se_int (sa_cons se_int (sa_cons se_int (sa_cons se_int sa_nil))))) sa_nil))) sa_nil)))))) (ss_cons (ss_setLc [("net", 13)] false (by rfl) (by rfl) (by rfl) (by rfl) (by rfl) (si_any (se_tup (sa_cons (se_var (i := 7) (by rfl) (by first | exact .inl rfl | exact .inr (.inl rfl) | exact .inr (.inr rfl))) (sa_cons (se_var (i := 8) (by rfl) (by first | exact .inl rfl | exact .inr (.inl rfl) | exact .inr (.inr rfl))) (sa_cons (se_var (i := 9) (by rfl) (by first | exact .inl rfl | exact .inr (.inl rfl) | exact .inr (.inr rfl))) sa_nil))))) (by rfl) (sg_name (i := 13) (by rfl) (by first | exact .inl rfl | exact .inr rfl) (by rfl)) (by rfl) sts_nil (se_callG d_is_net_step rfl (Nat.le_of_ble_eq_true rfl) (by rfl) (sa_cons (se_var (i := 13) (by rfl) (by first | exact .inl rfl | exact .inr (.inl rfl) | exact .inr (.inr rfl))) (sa_cons (se_tup (sa_cons se_str (sa_cons se_int sa_nil))) sa_nil)))) (ss_cons (ss_set (i := 10) (by rfl) (by first | exact .inl rfl | exact .inr rfl) (by rfl) (se_tup (sa_cons se_int (sa_cons (se_tup (sa_cons se_int sa_nil)) (sa_cons (se_tup (sa_cons se_int sa_nil)) (sa_cons (se_tup (sa_cons (se_tup (sa_cons se_int (sa_cons se_int (sa_cons se_int (sa_cons se_int sa_nil))))) (sa_cons (se_tup (sa_cons se_int (sa_cons se_int (sa_cons se_int (sa_cons se_int sa_nil))))) (sa_cons (se_tup (sa_cons se_int (sa_cons se_int (sa_cons se_int (sa_cons se_int sa_nil))))) sa_nil)))) sa_nil)))))) (ss_one (ss_ret (se_callG d__law_like rfl (Nat.le_of_ble_eq_true rfl) (by rfl) (sa_cons (se_frz (sf_cat (se_var (i := 3) (by rfl) (by first | exact .inl rfl | exact .inr (.inl rfl) | exact .inr (.inr rfl))) (se_frz (sf_lst (sa_cons (se_callG d_net_led rfl (Nat.le_of_ble_eq_true rfl) (by rfl) (sa_cons (se_var (i := 10) (by rfl) (by first | exact .inl rfl | exact .inr (.inl rfl) | exact .inr (.inr rfl))) (sa_cons (se_tup (sa_cons se_str (sa_cons se_int sa_nil))) sa_nil))) sa_nil))))) (sa_cons (se_frz (sf_lst (sa_cons se_bl (sa_cons se_bl (sa_cons se_bl (sa_cons (se_tup (sa_cons se_int (sa_cons (se_tup (sa_cons se_int sa_nil)) (sa_cons (se_tup (sa_cons se_int sa_nil)) (sa_cons (se_tup (sa_cons (se_tup (sa_cons se_int (sa_cons se_int (sa_cons se_int (sa_cons se_int sa_nil))))) (sa_cons (se_tup (sa_cons se_int (sa_cons se_int (sa_cons se_int (sa_cons se_int sa_nil))))) sa_nil))) sa_nil))))) sa_nil)))))) sa_nil))))))))))))))))))))
theorem ok__law_through_right {G : Cfg} (gf : GF G) {f : Addr} {fd : FuncData} (F : FnP G.K "_law_through_right" (top 62) f fd) (hm : G.mg "_law_through_right" = some (.ref f)) (d__law_roll : DefOk G 1 "_law_roll" 2 (F__law_roll G.β G.ms)) (d_is_net_step : DefOk G 8 "is_net_step" 2 (F_is_net_step G.β G.ms)) (d_times_of : DefOk G 8 "times_of" 3 (F_times_of G.β G.ms)) (d_net_led : DefOk G 8 "net_led" 2 (F_net_led G.β G.ms)) (d__law_like : DefOk G 9 "_law_like" 2 (F__law_like G.β G.ms)) : DefOk G 10 "_law_through_right" 1 (F__law_through_right G.β G.ms) :=
  def_ok F sc__law_through_right hm (F.bindsN fun _ _ _ _ _ _ us hl => match us, hl with | [_], _ => rfl) rfl (ss__law_through_right gf d__law_roll d_is_net_step d_times_of d_net_led d__law_like)
/-! _law_likes_right -/
theorem sc__law_likes_right : FnScope ["cup", "cross", "led", "told", "rows", "apart", "twins", "delay", "other", "at"] ["cup"] (defScope (top 63)) := ⟨rfl, rfl, rfl, by decide +kernel, rfl, by decide +kernel, by decide +kernel⟩
def S__law_likes_right (β : Box) (ms : List Int) : Fs := (sSeq (sPar 7 8 (faCons (f2 opAdd (fC (.int 1)) (fCallD 2 (F__law_roll β ms) (faCons (fVar 0) (faCons (fC (.int 9)) faNil)))) (faCons (f2 opAdd (fC (.int 1)) (fCallD 2 (F__law_roll β ms) (faCons (fVar 0) (faCons (fC (.int 9)) faNil)))) faNil))) (sSeq (sSet 1 (fTup (faCons (fC (.int 4)) (faCons (fTup (faCons (fC (.int 0)) faNil)) (faCons (fTup (faCons (fC (.int 3)) faNil)) (faCons (fCall (opTuple) (faCons (fFrz (fCallL (opSortA β) (faCons (fFrz (fLst (faCons (fTup (faCons (fC (.int 0)) (faCons (fC (.int 1)) (faCons (fC (.int 0)) (faCons (fVar 7) faNil))))) (faCons (fTup (faCons (fC (.int 0)) (faCons (fC (.int 2)) (faCons (fC (.int 0)) (faCons (fVar 7) faNil))))) (faCons (fTup (faCons (fC (.int 1)) (faCons (fC (.int 2)) (faCons (fC (.int 1)) (faCons (fVar 8) faNil))))) (faCons (fTup (faCons (fC (.int 2)) (faCons (fC (.int 1)) (faCons (fC (.int 1)) (faCons (fVar 8) faNil))))) (faCons (fTup (faCons (fC (.int 1)) (faCons (fC (.int 3)) (faCons (fC (.int 0)) (faCons (fC (.int 0)) faNil))))) (faCons (fTup (faCons (fC (.int 2)) (faCons (fC (.int 3)) (faCons (fC (.int 0)) (faCons (fC (.int 1)) faNil))))) faNil)))))))) faNil))) faNil)) faNil)))))) (sSeq (sSet 2 (fTup (faCons (fC (.int 3)) (faCons (fTup (faCons (fC (.int 0)) faNil)) (faCons (fTup (faCons (fC (.int 2)) faNil)) (faCons (fTup (faCons (fTup (faCons (fC (.int 0)) (faCons (fC (.int 1)) (faCons (fC (.int 0)) (faCons (fVar 7) faNil))))) (faCons (fTup (faCons (fC (.int 1)) (faCons (fC (.int 1)) (faCons (fC (.int 1)) (faCons (fVar 8) faNil))))) (faCons (fTup (faCons (fC (.int 1)) (faCons (fC (.int 2)) (faCons (fC (.int 0)) (faCons (fC (.int 0)) faNil))))) (faCons (fTup (faCons (fC (.int 1)) (faCons (fC (.int 2)) (faCons (fC (.int 0)) (faCons (fC (.int 1)) faNil))))) faNil))))) faNil)))))) (sSeq (sSet 3 (fFrz (fLst (faCons (fCallD 2 (F_net_led β ms) (faCons (fVar 1) (faCons (fTup (faCons (fC (.str "like")) (faCons (fC (.int 1)) (faCons (fC (.int 2)) faNil)))) faNil))) (faCons (fCallD 2 (F_net_led β ms) (faCons (fVar 1) (faCons (fTup (faCons (fC (.str "like")) (faCons (fC (.int 2)) (faCons (fC (.int 1)) faNil)))) faNil))) (faCons (fCallD 2 (F_is_net_step β ms) (faCons (fVar 1) (faCons (fTup (faCons (fC (.str "like")) (faCons (fC (.int 1)) (faCons (fC (.int 3)) faNil)))) faNil))) (faCons (fCallD 2 (F_is_net_step β ms) (faCons (fVar 1) (faCons (fTup (faCons (fC (.str "like")) (faCons (fC (.int 0)) (faCons (fC (.int 1)) faNil)))) faNil))) faNil))))))) (sSeq (sIf (bNot (fun env h => asB ((fCallD 2 (F__law_like β ms) (faCons (fVar 3) (faCons (fFrz (fLst (faCons (fVar 2) (faCons (fVar 2) (faCons (fC (.bl false)) (faCons (fC (.bl false)) faNil)))))) faNil))) env h))) (sRet (fC (.bl false))) sNil) (sSeq (sSet 4 (fTup (faCons (fCall (opTuple) (faCons (fFrz (fLc [9] (fIt (fRng1 (fC (.int 8)))) (gN 9) bYes (f2 opMul (fC (.int 3)) (fVar 9)))) faNil)) faNil))) (sSeq (sIf (fun env h => asB ((f2 (opNe β) (fCallD 3 (F_output_times β ms) (faCons (fVar 1) (faCons (fC (.int 8)) (faCons (fVar 4) faNil)))) (fCallD 3 (F_output_times β ms) (faCons (fVar 2) (faCons (fC (.int 8)) (faCons (fVar 4) faNil))))) env h)) (sRet (fC (.bl false))) sNil) (sSeq (sSet 5 (fTup (faCons (fC (.int 4)) (faCons (fTup (faCons (fC (.int 0)) faNil)) (faCons (fTup (faCons (fC (.int 3)) faNil)) (faCons (fCall (opTuple) (faCons (fFrz (fCallL (opSortA β) (faCons (fFrz (fLst (faCons (fTup (faCons (fC (.int 0)) (faCons (fC (.int 1)) (faCons (fC (.int 0)) (faCons (fVar 7) faNil))))) (faCons (fTup (faCons (fC (.int 0)) (faCons (fC (.int 2)) (faCons (fC (.int 0)) (faCons (f2 opAdd (fVar 7) (fC (.int 1))) faNil))))) (faCons (fTup (faCons (fC (.int 1)) (faCons (fC (.int 2)) (faCons (fC (.int 1)) (faCons (fVar 8) faNil))))) (faCons (fTup (faCons (fC (.int 2)) (faCons (fC (.int 1)) (faCons (fC (.int 1)) (faCons (fVar 8) faNil))))) (faCons (fTup (faCons (fC (.int 1)) (faCons (fC (.int 3)) (faCons (fC (.int 0)) (faCons (fC (.int 0)) faNil))))) (faCons (fTup (faCons (fC (.int 2)) (faCons (fC (.int 3)) (faCons (fC (.int 0)) (faCons (fC (.int 1)) faNil))))) faNil)))))))) faNil))) faNil)) faNil)))))) (sSeq (sSet 6 (fTup (faCons (fC (.int 3)) (faCons (fTup (faCons (fC (.int 0)) faNil)) (faCons (fTup (faCons (fC (.int 1)) (faCons (fC (.int 2)) faNil))) (faCons (fTup (faCons (fTup (faCons (fC (.int 0)) (faCons (fC (.int 1)) (faCons (fC (.int 0)) (faCons (fVar 7) faNil))))) (faCons (fTup (faCons (fC (.int 0)) (faCons (fC (.int 2)) (faCons (fC (.int 0)) (faCons (fVar 7) faNil))))) faNil))) faNil)))))) (sRet (fCallD 2 (F__law_like β ms) (faCons (fFrz (fLst (faCons (fCallD 2 (F_is_net_step β ms) (faCons (fVar 5) (faCons (fTup (faCons (fC (.str "like")) (faCons (fC (.int 1)) (faCons (fC (.int 2)) faNil)))) faNil))) (faCons (fCallD 1 (F_net_steps β ms) (faCons (fVar 6) faNil)) faNil)))) (faCons (fFrz (fLst (faCons (fC (.bl false)) (faCons (fTup faNil) faNil)))) faNil)))))))))))))
def F__law_likes_right (β : Box) (ms : List Int) : Fd := fDef 10 (S__law_likes_right β ms)
theorem ss__law_likes_right {G : Cfg} (gf : GF G) (d__law_roll : DefOk G 1 "_law_roll" 2 (F__law_roll G.β G.ms)) (d_net_led : DefOk G 8 "net_led" 2 (F_net_led G.β G.ms)) (d_is_net_step : DefOk G 8 "is_net_step" 2 (F_is_net_step G.β G.ms)) (d__law_like : DefOk G 9 "_law_like" 2 (F__law_like G.β G.ms)) (d_output_times : DefOk G 8 "output_times" 3 (F_output_times G.β G.ms)) (d_net_steps : DefOk G 8 "net_steps" 1 (F_net_steps G.β G.ms)) : SSs { G with N := ["cup", "cross", "led", "told", "rows", "apart", "twins", "delay", "other", "at"], sc := defScope (top 63), lev := 9, fnb := fun _ => true } (defBody (top 63)) (S__law_likes_right G.β G.ms) :=
  (ss_cons (ss_par (i := 7) (j := 8) (by rfl) (by rfl) (by decide) (by rfl) (by rfl) (sa_cons (se_op oe_add im_add se_int (se_callG d__law_roll rfl (Nat.le_of_ble_eq_true rfl) (by rfl) (sa_cons (se_var (i := 0) (by rfl) (by first | exact .inl rfl | exact .inr (.inl rfl) | exact .inr (.inr rfl))) (sa_cons se_int sa_nil)))) (sa_cons (se_op oe_add im_add se_int (se_callG d__law_roll rfl (Nat.le_of_ble_eq_true rfl) (by rfl) (sa_cons (se_var (i := 0) (by rfl) (by first | exact .inl rfl | exact .inr (.inl rfl) | exact .inr (.inr rfl))) (sa_cons se_int sa_nil)))) sa_nil)) (by rfl)) (ss_cons (ss_set (i := 1) (by rfl) (by first | exact .inl rfl | exact .inr rfl) (by rfl) (se_tup (sa_cons se_int (sa_cons (se_tup (sa_cons se_int sa_nil)) (sa_cons (se_tup (sa_cons se_int sa_nil)) (sa_cons (se_callT cr_tupA im_tuple (by rfl) gf.b_tuple (by rfl) (sa_cons (se_frz (sf_callB cr_sortA im_sortA (by rfl) gf.b_sorted (by rfl) (sa_cons (se_frz (sf_lst (sa_cons (se_tup (sa_cons se_int (sa_cons se_int (sa_cons se_int (sa_cons (se_var (i := 7) (by rfl) (by first | exact .inl rfl | exact .inr (.inl rfl) | exact .inr (.inr rfl))) sa_nil))))) (sa_cons (se_tup (sa_cons se_int (sa_cons se_int (sa_cons se_int (sa_cons (se_var (i := 7) (by rfl) (by first | exact .inl rfl | exact .inr (.inl rfl) | exact .inr (.inr rfl))) sa_nil))))) (sa_cons (se_tup (sa_cons se_int (sa_cons se_int (sa_cons se_int (sa_cons (se_var (i := 8) (by rfl) (by first | exact .inl rfl | exact .inr (.inl rfl) | exact .inr (.inr rfl))) sa_nil))))) (sa_cons (se_tup (sa_cons se_int (sa_cons se_int (sa_cons se_int (sa_cons (se_var (i := 8) (by rfl) (by first | exact .inl rfl | exact .inr (.inl rfl) | exact .inr (.inr rfl))) sa_nil))))) (sa_cons (se_tup (sa_cons se_int (sa_cons se_int (sa_cons se_int (sa_cons se_int sa_nil))))) (sa_cons (se_tup (sa_cons se_int (sa_cons se_int (sa_cons se_int (sa_cons se_int sa_nil))))) sa_nil)))))))) sa_nil))) sa_nil)) sa_nil)))))) (ss_cons (ss_set (i := 2) (by rfl) (by first | exact .inl rfl | exact .inr rfl) (by rfl) (se_tup (sa_cons se_int (sa_cons (se_tup (sa_cons se_int sa_nil)) (sa_cons (se_tup (sa_cons se_int sa_nil)) (sa_cons (se_tup (sa_cons (se_tup (sa_cons se_int (sa_cons se_int (sa_cons se_int (sa_cons (se_var (i := 7) (by rfl) (by first | exact .inl rfl | exact .inr (.inl rfl) | exact .inr (.inr rfl))) sa_nil))))) (sa_cons (se_tup (sa_cons se_int (sa_cons se_int (sa_cons se_int (sa_cons (se_var (i := 8) (by rfl) (by first | exact .inl rfl | exact .inr (.inl rfl) | exact .inr (.inr rfl))) sa_nil))))) (sa_cons (se_tup (sa_cons se_int (sa_cons se_int (sa_cons se_int (sa_cons se_int sa_nil))))) (sa_cons (se_tup (sa_cons se_int (sa_cons se_int (sa_cons se_int (sa_cons se_int sa_nil))))) sa_nil))))) sa_nil)))))) (ss_cons (ss_set (i := 3) (by rfl) (by first | exact .inl rfl | exact .inr rfl) (by rfl) (se_frz (sf_lst (sa_cons (se_callG d_net_led rfl (Nat.le_of_ble_eq_true rfl) (by rfl) (sa_cons (se_var (i := 1) (by rfl) (by first | exact .inl rfl | exact .inr (.inl rfl) | exact .inr (.inr rfl))) (sa_cons (se_tup (sa_cons se_str (sa_cons se_int (sa_cons se_int sa_nil)))) sa_nil))) (sa_cons (se_callG d_net_led rfl (Nat.le_of_ble_eq_true rfl) (by rfl) (sa_cons (se_var (i := 1) (by rfl) (by first | exact .inl rfl | exact .inr (.inl rfl) | exact .inr (.inr rfl))) (sa_cons (se_tup (sa_cons se_str (sa_cons se_int (sa_cons se_int sa_nil)))) sa_nil))) (sa_cons (se_callG d_is_net_step rfl (Nat.le_of_ble_eq_true rfl) (by rfl) (sa_cons (se_var (i := 1) (by rfl) (by first | exact .inl rfl | exact .inr (.inl rfl) | exact .inr (.inr rfl))) (sa_cons (se_tup (sa_cons se_str (sa_cons se_int (sa_cons se_int sa_nil)))) sa_nil))) (sa_cons (se_callG d_is_net_step rfl (Nat.le_of_ble_eq_true rfl) (by rfl) (sa_cons (se_var (i := 1) (by rfl) (by first | exact .inl rfl | exact .inr (.inl rfl) | exact .inr (.inr rfl))) (sa_cons (se_tup (sa_cons se_str (sa_cons se_int (sa_cons se_int sa_nil)))) sa_nil))) sa_nil))))))) (ss_cons (ss_if (st_not (st_val (se_callG d__law_like rfl (Nat.le_of_ble_eq_true rfl) (by rfl) (sa_cons (se_var (i := 3) (by rfl) (by first | exact .inl rfl | exact .inr (.inl rfl) | exact .inr (.inr rfl))) (sa_cons (se_frz (sf_lst (sa_cons (se_var (i := 2) (by rfl) (by first | exact .inl rfl | exact .inr (.inl rfl) | exact .inr (.inr rfl))) (sa_cons (se_var (i := 2) (by rfl) (by first | exact .inl rfl | exact .inr (.inl rfl) | exact .inr (.inr rfl))) (sa_cons se_bl (sa_cons se_bl sa_nil)))))) sa_nil))))) (ss_one (ss_ret se_bl)) ss_nil) (ss_cons (ss_set (i := 4) (by rfl) (by first | exact .inl rfl | exact .inr rfl) (by rfl) (se_tup (sa_cons (se_callT cr_tupA im_tuple (by rfl) gf.b_tuple (by rfl) (sa_cons (se_frz (sf_lc [("at", 9)] (si_any (se_range1 (by rfl) gf.b_range se_int)) (by rfl) (sg_name (i := 9) (by rfl) (by first | exact .inl rfl | exact .inr rfl) (by rfl)) (by rfl) sts_nil (se_op oe_mul im_mul se_int (se_var (i := 9) (by rfl) (by first | exact .inl rfl | exact .inr (.inl rfl) | exact .inr (.inr rfl)))))) sa_nil)) sa_nil))) (ss_cons (ss_if (st_cmp oe_ne im_ne (se_callG d_output_times rfl (Nat.le_of_ble_eq_true rfl) (by rfl) (sa_cons (se_var (i := 1) (by rfl) (by first | exact .inl rfl | exact .inr (.inl rfl) | exact .inr (.inr rfl))) (sa_cons se_int (sa_cons (se_var (i := 4) (by rfl) (by first | exact .inl rfl | exact .inr (.inl rfl) | exact .inr (.inr rfl))) sa_nil)))) (se_callG d_output_times rfl (Nat.le_of_ble_eq_true rfl) (by rfl) (sa_cons (se_var (i := 2) (by rfl) (by first | exact .inl rfl | exact .inr (.inl rfl) | exact .inr (.inr rfl))) (sa_cons se_int (sa_cons (se_var (i := 4) (by rfl) (by first | exact .inl rfl | exact .inr (.inl rfl) | exact .inr (.inr rfl))) sa_nil)))) (by rfl)) (ss_one (ss_ret se_bl)) ss_nil) (ss_cons (ss_set (i := 5) (by rfl) (by first | exact .inl rfl | exact .inr rfl) (by rfl) (se_tup (sa_cons se_int (sa_cons (se_tup (sa_cons se_int sa_nil)) (sa_cons (se_tup (sa_cons se_int sa_nil)) (sa_cons (se_callT cr_tupA im_tuple (by rfl) gf.b_tuple (by rfl) (sa_cons (se_frz (sf_callB cr_sortA im_sortA (by rfl) gf.b_sorted (by rfl) (sa_cons (se_frz (sf_lst (sa_cons (se_tup (sa_cons se_int (sa_cons se_int (sa_cons se_int (sa_cons (se_var (i := 7) (by rfl) (by first | exact .inl rfl | exact .inr (.inl rfl) | exact .inr (.inr rfl))) sa_nil))))) (sa_cons (se_tup (sa_cons se_int (sa_cons se_int (sa_cons se_int (sa_cons (se_op oe_add im_add (se_var (i := 7) (by rfl) (by first | exact .inl rfl | exact .inr (.inl rfl) | exact .inr (.inr rfl))) se_int) sa_nil))))) (sa_cons (se_tup (sa_cons se_int (sa_cons se_int (sa_cons se_int (sa_cons (se_var (i := 8) (by rfl) (by first | exact .inl rfl | exact .inr (.inl rfl) | exact .inr (.inr rfl))) sa_nil))))) (sa_cons (se_tup (sa_cons se_int (sa_cons se_int (sa_cons se_int (sa_cons (se_var (i := 8) (by rfl) (by first | exact .inl rfl | exact .inr (.inl rfl) | exact .inr (.inr rfl))) sa_nil))))) (sa_cons (se_tup (sa_cons se_int (sa_cons se_int (sa_cons se_int (sa_cons se_int sa_nil))))) (sa_cons (se_tup (sa_cons se_int (sa_cons se_int (sa_cons se_int (sa_cons se_int sa_nil))))) sa_nil)))))))) sa_nil))) sa_nil)) sa_nil)))))) (ss_cons (ss_set (i := 6) (by rfl) (by first | exact .inl rfl | exact .inr rfl) (by rfl) (se_tup (sa_cons se_int (sa_cons (se_tup (sa_cons se_int sa_nil)) (sa_cons (se_tup (sa_cons se_int (sa_cons se_int sa_nil))) (sa_cons (se_tup (sa_cons (se_tup (sa_cons se_int (sa_cons se_int (sa_cons se_int (sa_cons (se_var (i := 7) (by rfl) (by first | exact .inl rfl | exact .inr (.inl rfl) | exact .inr (.inr rfl))) sa_nil))))) (sa_cons (se_tup (sa_cons se_int (sa_cons se_int (sa_cons se_int (sa_cons (se_var (i := 7) (by rfl) (by first | exact .inl rfl | exact .inr (.inl rfl) | exact .inr (.inr rfl))) sa_nil))))) sa_nil))) sa_nil)))))) (ss_one (ss_ret (se_callG d__law_like rfl (Nat.le_of_ble_eq_true rfl) (by rfl) (sa_cons (se_frz (sf_lst (sa_cons (se_callG d_is_net_step rfl (Nat.le_of_ble_eq_true rfl) (by rfl) (sa_cons (se_var (i := 5) (by rfl) (by first | exact .inl rfl | exact .inr (.inl rfl) | exact .inr (.inr rfl))) (sa_cons (se_tup (sa_cons se_str (sa_cons se_int (sa_cons se_int sa_nil)))) sa_nil))) (sa_cons (se_callG d_net_steps rfl (Nat.le_of_ble_eq_true rfl) (by rfl) (sa_cons (se_var (i := 6) (by rfl) (by first | exact .inl rfl | exact .inr (.inl rfl) | exact .inr (.inr rfl))) sa_nil)) sa_nil)))) (sa_cons (se_frz (sf_lst (sa_cons se_bl (sa_cons (se_tup sa_nil) sa_nil)))) sa_nil))))))))))))))
theorem ok__law_likes_right {G : Cfg} (gf : GF G) {f : Addr} {fd : FuncData} (F : FnP G.K "_law_likes_right" (top 63) f fd) (hm : G.mg "_law_likes_right" = some (.ref f)) (d__law_roll : DefOk G 1 "_law_roll" 2 (F__law_roll G.β G.ms)) (d_net_led : DefOk G 8 "net_led" 2 (F_net_led G.β G.ms)) (d_is_net_step : DefOk G 8 "is_net_step" 2 (F_is_net_step G.β G.ms)) (d__law_like : DefOk G 9 "_law_like" 2 (F__law_like G.β G.ms)) (d_output_times : DefOk G 8 "output_times" 3 (F_output_times G.β G.ms)) (d_net_steps : DefOk G 8 "net_steps" 1 (F_net_steps G.β G.ms)) : DefOk G 10 "_law_likes_right" 1 (F__law_likes_right G.β G.ms) :=
  def_ok F sc__law_likes_right hm (F.bindsN fun _ _ _ _ _ _ us hl => match us, hl with | [_], _ => rfl) rfl (ss__law_likes_right gf d__law_roll d_net_led d_is_net_step d__law_like d_output_times d_net_steps)
/-! _law_outs_right -/
theorem sc__law_outs_right : FnScope ["net", "small", "told", "none", "one"] [] (defScope (top 64)) := ⟨rfl, rfl, rfl, by decide +kernel, rfl, by decide +kernel, by decide +kernel⟩
def S__law_outs_right (β : Box) (ms : List Int) : Fs := (sSeq (sSet 0 (fTup (faCons (fC (.int 5)) (faCons (fTup (faCons (fC (.int 0)) faNil)) (faCons (fTup (faCons (fC (.int 1)) faNil)) (faCons (fTup (faCons (fTup (faCons (fC (.int 0)) (faCons (fC (.int 1)) (faCons (fC (.int 0)) (faCons (fC (.int 2)) faNil))))) (faCons (fTup (faCons (fC (.int 1)) (faCons (fC (.int 2)) (faCons (fC (.int 0)) (faCons (fC (.int 1)) faNil))))) (faCons (fTup (faCons (fC (.int 2)) (faCons (fC (.int 3)) (faCons (fC (.int 0)) (faCons (fC (.int 1)) faNil))))) (faCons (fTup (faCons (fC (.int 3)) (faCons (fC (.int 4)) (faCons (fC (.int 1)) (faCons (fC (.int 1)) faNil))))) (faCons (fTup (faCons (fC (.int 4)) (faCons (fC (.int 3)) (faCons (fC (.int 1)) (faCons (fC (.int 1)) faNil))))) faNil)))))) faNil)))))) (sSeq (sSet 1 (fTup (faCons (fC (.int 2)) (faCons (fTup (faCons (fC (.int 0)) faNil)) (faCons (fTup (faCons (fC (.int 1)) faNil)) (faCons (fTup (faCons (fTup (faCons (fC (.int 0)) (faCons (fC (.int 1)) (faCons (fC (.int 0)) (faCons (fC (.int 2)) faNil))))) faNil)) faNil)))))) (sSeq (sSet 2 (fFrz (fLst (faCons (fCallD 2 (F_net_led β ms) (faCons (fVar 0) (faCons (fTup (faCons (fC (.str "out")) (faCons (fC (.int 2)) faNil))) faNil))) (faCons (fCallD 2 (F_net_led β ms) (faCons (fVar 0) (faCons (fTup (faCons (fC (.str "out")) (faCons (fC (.int 3)) faNil))) faNil))) (faCons (fCallD 2 (F_is_net_step β ms) (faCons (fVar 0) (faCons (fTup (faCons (fC (.str "out")) (faCons (fC (.int 1)) faNil))) faNil))) (faCons (fCallD 2 (F_is_net_step β ms) (faCons (fVar 0) (faCons (fTup (faCons (fC (.str "out")) (faCons (fC (.int 0)) faNil))) faNil))) (faCons (f2 (opEq β) (fCallD 2 (F_net_led β ms) (faCons (fVar 0) (faCons (fTup (faCons (fC (.str "out")) (faCons (fC (.int 4)) faNil))) faNil))) (fCallD 2 (F_net_led β ms) (faCons (fVar 0) (faCons (fTup (faCons (fC (.str "out")) (faCons (fC (.int 3)) faNil))) faNil)))) faNil)))))))) (sSeq (sIf (bNot (fun env h => asB ((fCallD 2 (F__law_like β ms) (faCons (fVar 2) (faCons (fFrz (fLst (faCons (fVar 1) (faCons (fTup (faCons (fC (.int 3)) (faCons (fTup (faCons (fC (.int 0)) faNil)) (faCons (fTup (faCons (fC (.int 1)) faNil)) (faCons (fTup (faCons (fTup (faCons (fC (.int 0)) (faCons (fC (.int 1)) (faCons (fC (.int 0)) (faCons (fC (.int 2)) faNil))))) (faCons (fTup (faCons (fC (.int 1)) (faCons (fC (.int 2)) (faCons (fC (.int 0)) (faCons (fC (.int 1)) faNil))))) faNil))) faNil))))) (faCons (fC (.bl false)) (faCons (fC (.bl false)) (faCons (fC (.bl true)) faNil))))))) faNil))) env h))) (sRet (fC (.bl false))) sNil) (sSeq (sAsg (gT 2 (gsCons (gN 3) (gsCons (gN 4) gsNil))) (fTup (faCons (fTup (faCons (fC (.int 1)) (faCons (fTup faNil) (faCons (fTup faNil) (faCons (fTup (faCons (fTup (faCons (fC (.int 0)) (faCons (fC (.int 0)) (faCons (fC (.int 1)) (faCons (fC (.int 1)) faNil))))) faNil)) faNil))))) (faCons (fTup (faCons (fC (.int 2)) (faCons (fTup faNil) (faCons (fTup faNil) (faCons (fTup (faCons (fTup (faCons (fC (.int 0)) (faCons (fC (.int 0)) (faCons (fC (.int 1)) (faCons (fC (.int 1)) faNil))))) (faCons (fTup (faCons (fC (.int 1)) (faCons (fC (.int 1)) (faCons (fC (.int 1)) (faCons (fC (.int 1)) faNil))))) faNil))) faNil))))) faNil)))) (sRet (fCallD 2 (F__law_like β ms) (faCons (fFrz (fLst (faCons (fCallD 1 (F_net_steps β ms) (faCons (fVar 3) faNil)) (faCons (fCallD 2 (F_net_led β ms) (faCons (fVar 4) (faCons (fTup (faCons (fC (.str "out")) (faCons (fC (.int 0)) faNil))) faNil))) (faCons (fCallD 2 (F_net_led β ms) (faCons (fTup (faCons (fC (.int 2)) (faCons (fTup (faCons (fC (.int 0)) faNil)) (faCons (fTup faNil) (faCons (fTup (faCons (fTup (faCons (fC (.int 0)) (faCons (fC (.int 1)) (faCons (fC (.int 0)) (faCons (fC (.int 3)) faNil))))) faNil)) faNil))))) (faCons (fTup (faCons (fC (.str "out")) (faCons (fC (.int 1)) faNil))) faNil))) faNil))))) (faCons (fFrz (fLst (faCons (fTup faNil) (faCons (fVar 3) (faCons (fTup (faCons (fC (.int 1)) (faCons (fTup (faCons (fC (.int 0)) faNil)) (faCons (fTup faNil) (faCons (fTup faNil) faNil))))) faNil))))) faNil)))))))))
def F__law_outs_right (β : Box) (ms : List Int) : Fd := fDef 5 (S__law_outs_right β ms)
theorem ss__law_outs_right {G : Cfg} (gf : GF G) (d_net_led : DefOk G 8 "net_led" 2 (F_net_led G.β G.ms)) (d_is_net_step : DefOk G 8 "is_net_step" 2 (F_is_net_step G.β G.ms)) (d__law_like : DefOk G 9 "_law_like" 2 (F__law_like G.β G.ms)) (d_net_steps : DefOk G 8 "net_steps" 1 (F_net_steps G.β G.ms)) : SSs { G with N := ["net", "small", "told", "none", "one"], sc := defScope (top 64), lev := 9, fnb := fun _ => true } (defBody (top 64)) (S__law_outs_right G.β G.ms) :=
  (ss_cons (ss_set (i := 0) (by rfl) (by first | exact .inl rfl | exact .inr rfl) (by rfl) (se_tup (sa_cons se_int (sa_cons (se_tup (sa_cons se_int sa_nil)) (sa_cons (se_tup (sa_cons se_int sa_nil)) (sa_cons (se_tup (sa_cons (se_tup (sa_cons se_int (sa_cons se_int (sa_cons se_int (sa_cons se_int sa_nil))))) (sa_cons (se_tup (sa_cons se_int (sa_cons se_int (sa_cons se_int (sa_cons se_int sa_nil))))) (sa_cons (se_tup (sa_cons se_int (sa_cons se_int (sa_cons se_int (sa_cons se_int sa_nil))))) (sa_cons (se_tup (sa_cons se_int (sa_cons se_int (sa_cons se_int (sa_cons se_int sa_nil))))) (sa_cons (se_tup (sa_cons se_int (sa_cons se_int (sa_cons se_int (sa_cons se_int sa_nil))))) sa_nil)))))) sa_nil)))))) (ss_cons (ss_set (i := 1) (by rfl) (by first | exact .inl rfl | exact .inr rfl) (by rfl) (se_tup (sa_cons se_int (sa_cons (se_tup (sa_cons se_int sa_nil)) (sa_cons (se_tup (sa_cons se_int sa_nil)) (sa_cons (se_tup (sa_cons (se_tup (sa_cons se_int (sa_cons se_int (sa_cons se_int (sa_cons se_int sa_nil))))) sa_nil)) sa_nil)))))) (ss_cons (ss_set (i := 2) (by rfl) (by first | exact .inl rfl | exact .inr rfl) (by rfl) (se_frz (sf_lst (sa_cons (se_callG d_net_led rfl (Nat.le_of_ble_eq_true rfl) (by rfl) (sa_cons (se_var (i := 0) (by rfl) (by first | exact .inl rfl | exact .inr (.inl rfl) | exact .inr (.inr rfl))) (sa_cons (se_tup (sa_cons se_str (sa_cons se_int sa_nil))) sa_nil))) (sa_cons (se_callG d_net_led rfl (Nat.le_of_ble_eq_true rfl) (by rfl) (sa_cons (se_var (i := 0) (by rfl) (by first | exact .inl rfl | exact .inr (.inl rfl) | exact .inr (.inr rfl))) (sa_cons (se_tup (sa_cons se_str (sa_cons se_int sa_nil))) sa_nil))) (sa_cons (se_callG d_is_net_step rfl (Nat.le_of_ble_eq_true rfl) (by rfl) (sa_cons (se_var (i := 0) (by rfl) (by first | exact .inl rfl | exact .inr (.inl rfl) | exact .inr (.inr rfl))) (sa_cons (se_tup (sa_cons se_str (sa_cons se_int sa_nil))) sa_nil))) (sa_cons (se_callG d_is_net_step rfl (Nat.le_of_ble_eq_true rfl) (by rfl) (sa_cons (se_var (i := 0) (by rfl) (by first | exact .inl rfl | exact .inr (.inl rfl) | exact .inr (.inr rfl))) (sa_cons (se_tup (sa_cons se_str (sa_cons se_int sa_nil))) sa_nil))) (sa_cons (se_cmp oe_eq im_eq (se_callG d_net_led rfl (Nat.le_of_ble_eq_true rfl) (by rfl) (sa_cons (se_var (i := 0) (by rfl) (by first | exact .inl rfl | exact .inr (.inl rfl) | exact .inr (.inr rfl))) (sa_cons (se_tup (sa_cons se_str (sa_cons se_int sa_nil))) sa_nil))) (se_callG d_net_led rfl (Nat.le_of_ble_eq_true rfl) (by rfl) (sa_cons (se_var (i := 0) (by rfl) (by first | exact .inl rfl | exact .inr (.inl rfl) | exact .inr (.inr rfl))) (sa_cons (se_tup (sa_cons se_str (sa_cons se_int sa_nil))) sa_nil))) (by rfl)) sa_nil)))))))) (ss_cons (ss_if (st_not (st_val (se_callG d__law_like rfl (Nat.le_of_ble_eq_true rfl) (by rfl) (sa_cons (se_var (i := 2) (by rfl) (by first | exact .inl rfl | exact .inr (.inl rfl) | exact .inr (.inr rfl))) (sa_cons (se_frz (sf_lst (sa_cons (se_var (i := 1) (by rfl) (by first | exact .inl rfl | exact .inr (.inl rfl) | exact .inr (.inr rfl))) (sa_cons (se_tup (sa_cons se_int (sa_cons (se_tup (sa_cons se_int sa_nil)) (sa_cons (se_tup (sa_cons se_int sa_nil)) (sa_cons (se_tup (sa_cons (se_tup (sa_cons se_int (sa_cons se_int (sa_cons se_int (sa_cons se_int sa_nil))))) (sa_cons (se_tup (sa_cons se_int (sa_cons se_int (sa_cons se_int (sa_cons se_int sa_nil))))) sa_nil))) sa_nil))))) (sa_cons se_bl (sa_cons se_bl (sa_cons se_bl sa_nil))))))) sa_nil))))) (ss_one (ss_ret se_bl)) ss_nil) (ss_cons (ss_asg (se_tup (sa_cons (se_tup (sa_cons se_int (sa_cons (se_tup sa_nil) (sa_cons (se_tup sa_nil) (sa_cons (se_tup (sa_cons (se_tup (sa_cons se_int (sa_cons se_int (sa_cons se_int (sa_cons se_int sa_nil))))) sa_nil)) sa_nil))))) (sa_cons (se_tup (sa_cons se_int (sa_cons (se_tup sa_nil) (sa_cons (se_tup sa_nil) (sa_cons (se_tup (sa_cons (se_tup (sa_cons se_int (sa_cons se_int (sa_cons se_int (sa_cons se_int sa_nil))))) (sa_cons (se_tup (sa_cons se_int (sa_cons se_int (sa_cons se_int (sa_cons se_int sa_nil))))) sa_nil))) sa_nil))))) sa_nil))) (sg_tup (n := 2) (sgs_cons (sg_name (i := 3) (by rfl) (by first | exact .inl rfl | exact .inr rfl) (by rfl)) (sgs_cons (sg_name (i := 4) (by rfl) (by first | exact .inl rfl | exact .inr rfl) (by rfl)) sgs_nil))) (by rfl)) (ss_one (ss_ret (se_callG d__law_like rfl (Nat.le_of_ble_eq_true rfl) (by rfl) (sa_cons (se_frz (sf_lst (sa_cons (se_callG d_net_steps rfl (Nat.le_of_ble_eq_true rfl) (by rfl) (sa_cons (se_var (i := 3) (by rfl) (by first | exact .inl rfl | exact .inr (.inl rfl) | exact .inr (.inr rfl))) sa_nil)) (sa_cons (se_callG d_net_led rfl (Nat.le_of_ble_eq_true rfl) (by rfl) (sa_cons (se_var (i := 4) (by rfl) (by first | exact .inl rfl | exact .inr (.inl rfl) | exact .inr (.inr rfl))) (sa_cons (se_tup (sa_cons se_str (sa_cons se_int sa_nil))) sa_nil))) (sa_cons (se_callG d_net_led rfl (Nat.le_of_ble_eq_true rfl) (by rfl) (sa_cons (se_tup (sa_cons se_int (sa_cons (se_tup (sa_cons se_int sa_nil)) (sa_cons (se_tup sa_nil) (sa_cons (se_tup (sa_cons (se_tup (sa_cons se_int (sa_cons se_int (sa_cons se_int (sa_cons se_int sa_nil))))) sa_nil)) sa_nil))))) (sa_cons (se_tup (sa_cons se_str (sa_cons se_int sa_nil))) sa_nil))) sa_nil))))) (sa_cons (se_frz (sf_lst (sa_cons (se_tup sa_nil) (sa_cons (se_var (i := 3) (by rfl) (by first | exact .inl rfl | exact .inr (.inl rfl) | exact .inr (.inr rfl))) (sa_cons (se_tup (sa_cons se_int (sa_cons (se_tup (sa_cons se_int sa_nil)) (sa_cons (se_tup sa_nil) (sa_cons (se_tup sa_nil) sa_nil))))) sa_nil))))) sa_nil))))))))))
theorem ok__law_outs_right {G : Cfg} (gf : GF G) {f : Addr} {fd : FuncData} (F : FnP G.K "_law_outs_right" (top 64) f fd) (hm : G.mg "_law_outs_right" = some (.ref f)) (d_net_led : DefOk G 8 "net_led" 2 (F_net_led G.β G.ms)) (d_is_net_step : DefOk G 8 "is_net_step" 2 (F_is_net_step G.β G.ms)) (d__law_like : DefOk G 9 "_law_like" 2 (F__law_like G.β G.ms)) (d_net_steps : DefOk G 8 "net_steps" 1 (F_net_steps G.β G.ms)) : DefOk G 10 "_law_outs_right" 0 (F__law_outs_right G.β G.ms) :=
  def_ok F sc__law_outs_right hm (F.bindsN fun _ _ _ _ _ _ us hl => match us, hl with | [], _ => rfl) rfl (ss__law_outs_right gf d_net_led d_is_net_step d__law_like d_net_steps)
theorem sc__law_cup : FnScope ["script", "cell"] ["script"] (defScope (top 57)) := ⟨rfl, rfl, rfl, by decide +kernel, rfl, by decide +kernel, by decide +kernel⟩
def S_cup (β : Box) : Fs := (sRet (fMut (fLst (faCons (fIf (fun env h => asB ((f2 (opGe β) (fVar 1) (f2 opPow (fC (.int 10)) (fC (.int 18)))) env h)) (f2 opFdiv (fVar 1) (fC (.int 73))) (fC (.int 0))) (faCons (f2 opAdd (f2 opMod (fCall (opInt) (faCons (f2 opAdd (f2 opMul (fVar 1) (fC (.int 283))) (fC (.int 3907))) faNil)) (fC (.int 2077503167))) (fC (.int 167))) faNil)))))
theorem ss_cup {G : Cfg} (gf : GF G) : SS { G with N := ["script", "cell"], sc := defScope (top 57), lev := 0, fnb := fun _ => true } ((defBody (top 57)).getD 1 (.Pass ⟨0, 0, 0, 0⟩)) (S_cup G.β) :=
  (ss_ret (se_mut (sf_lst (sa_cons (se_if (st_cmp oe_ge im_ge (se_var (i := 1) (by rfl) (by first | exact .inl rfl | exact .inr (.inl rfl) | exact .inr (.inr rfl))) (se_op oe_pow im_pow se_int se_int) (by rfl)) (se_op oe_fdiv im_fdiv (se_var (i := 1) (by rfl) (by first | exact .inl rfl | exact .inr (.inl rfl) | exact .inr (.inr rfl))) se_int) se_int) (sa_cons (se_op oe_add im_add (se_op oe_mod im_mod (se_callT cr_intA im_int (by rfl) gf.b_int (by rfl) (sa_cons (se_op oe_add im_add (se_op oe_mul im_mul (se_var (i := 1) (by rfl) (by first | exact .inl rfl | exact .inr (.inl rfl) | exact .inr (.inr rfl))) se_int) se_int) sa_nil)) se_int) se_int) sa_nil)))))
theorem sc_law : FnScope ["script", "cup"] ["script"] (defScope (top 65)) := ⟨rfl, rfl, rfl, by decide +kernel, rfl, by decide +kernel, by decide +kernel⟩
abbrev iCup : Nat := 57
abbrev iLaw : Nat := 65
/-! the law's cup -/
theorem cup_eval (c : Int) : ∃ c0 c1 : Int, 0 ≤ c1 ∧ c1 < 4294967296 ∧ S_cup [] [Eg.D.und, Eg.D.int c] [] = Out.ok (Fl.rt (Eg.D.ref 0)) [HObj.lst [Eg.D.int c0, Eg.D.int c1]] := by
  have q1 : ltI 0 73 = true := rfl
  have q2 : ltI 73 1073741824 = true := rfl
  have q3 : Eg.small64 283 = true := rfl
  have q4 : ltI 0 2077503167 = true := rfl
  have e : opPow (Eg.D.int 10) (Eg.D.int 18) [] = Out.ok (Eg.D.int 1000000000000000000) [] := by rfl
  cases hc : ltI c 1000000000000000000 with
  | true =>
    refine ⟨0, (c * 283 + 3907) % 2077503167 + 167, by omega, by omega, ?_⟩
    unfold S_cup
    simp [sRet, fMut, fLst, faCons, faNil, fIf, f2, fVar, fC, fCall, Out.bind, at_, opGe, dLt, asB, ofB, opFdiv, opMod, opMul, opAdd, opInt, zof, mkz, mulK, addK, zeroK, short, most, e, hc, q1, q2, q3, q4]
  | false =>
    refine ⟨c / 73, (c * 283 + 3907) % 2077503167 + 167, by omega, by omega, ?_⟩
    unfold S_cup
    simp [sRet, fMut, fLst, faCons, faNil, fIf, f2, fVar, fC, fCall, Out.bind, at_, opGe, dLt, asB, ofB, opFdiv, opMod, opMul, opAdd, opInt, zof, mkz, mulK, addK, zeroK, short, most, e, hc, q1, q2, q3, q4]
theorem atI0 {x : V} {xs : List V} : atI (x :: xs) 0 = some x := by
  unfold atI ixN
  simp
theorem cup_new {G : Cfg} (gf : GF G) (hβ : G.β = []) {f : Addr} {fd : FuncData} (F : FnP G.K "_law_cup" (top iCup) f fd) : FnOk G.prog G.w G.K G.mg G.base (L2.CX G.prog G.w) 1 f fd ["script"] (spNew G.K) := by
  refine F.ok sc__law_cup (fun vs H Q E q => by obtain ⟨a, ns, rfl, _⟩ := q; rfl) fun cdv A outer s H vs Q E hr hsp => ?_
  obtain ⟨a, ns, rfl, hS, hl, hq⟩ := hsp
  have oks : OkS { G with N := ["script", "cell"], sc := defScope (top iCup), lev := 0, fnb := fun _ => true } (cxOf (L2.CX G.prog G.w) G.prog G.w G.K G.mg G.base ["script", "cell"] "_law_cup" (defScope (top iCup)) f cdv A outer s H E) E :=
    ⟨⟨rfl, rfl, rfl, rfl, rfl, rfl, sc__law_cup.nd, rfl, rfl, hr, fun _ _ => .inl rfl⟩, takes_of rfl rfl rfl rfl, passes_of rfl⟩
  refine ⟨_, pss_cons (ps_set (i := 1) sc__law_cup.nd rfl (Or.inl rfl) (pe_callB call_abs rfl gf.b_abs rfl (pa_cons (pe_ix ix_list (pe_op op_cat (pe_callTy call_list_of rfl gf.b_list rfl (pa_cons (pv 0) pa_nil)) (pe_lst (pa_cons pe_int pa_nil))) pe_int (fun _ _ => rfl)) pa_nil)))
    (pss_one (ss_cup gf _ E oks)), ?_⟩
  refine ⟨.ref a, rfl, a, ns.map V.int, rfl, .inl hS, fun l hl1 => ⟨by decide, fun b hb => ⟨l, b, ns.map V.int, [V.int 0], rfl, rfl, ?_, upd_same, ?_, fun p hp => ?_⟩⟩⟩
  · have : l ≠ b := fun e => by subst e; rw [upd_same] at hb; cases hb
    rw [upd_ne this]; exact upd_same
  · simp [sizeLine_eq]; omega
  · obtain ⟨i, hi⟩ : ∃ i, atI (ns.map V.int ++ [V.int 0]) 0 = some (V.int i) := by
      cases ns with
      | nil => exact ⟨0, atI0⟩
      | cons n ns => exact ⟨n, atI0⟩
    refine ⟨p, _, 0, V.int i, rfl, rfl, .of upd_same, hi, i, rfl, ?_⟩
    obtain ⟨c0, c1, b0, b1, ev⟩ := cup_eval (if i < 0 then -i else i)
    refine ⟨[], fun _ => False, [], [Eg.D.und, Eg.D.int (if i < 0 then -i else i)], [], ⟨by show inBox G.β []; rw [hβ]; trivial, ⟨rfl, fun i j b q1 => by simp at q1, fun b q => by simp at q, fun b q => q.elim, fun n o q => by simp at q⟩, ⟨rfl, fun j d e ne => ?_⟩⟩, ?_⟩
    · cases j with
      | zero => simp at e; exact absurd e.symm ne
      | succ j => cases j with
        | zero => simp at e; subst e; exact ⟨_, rfl, .int _⟩
        | succ j => simp at e
    · show PostG _ _ _ _ E (S_cup G.β _ _) _
      rw [hβ, ev]
      intro Z' ρ' H' s' rh v rv
      cases rv with
      | ref e =>
        obtain ⟨a', xs, e1, e2, rs⟩ := rh.obj 0 _ rfl
        rw [e] at e1; cases e1
        obtain ⟨v1, v2, rfl, r1, r2⟩ := rs.two
        cases r1; cases r2
        exact hq H' _ c0 c1 b0 b1 e2

/-! the law -/
abbrev ms : List Int := [9, 3, 9, 5, 9, 9]
theorem ms_pos : ∀ m ∈ ms, ltI 0 m = true ∧ ltI m 1073741824 = true := by decide
def B0 : List Box := [[(0, 8), (0, 2), (0, 8), (0, 4), (0, 8), (0, 8)]]
def B1 : List Box := [[(0, 8), (0, 2), (0, 8), (0, 0), (0, 8), (0, 8)], [(0, 8), (0, 2), (0, 8), (1, 4), (0, 8), (0, 8)]]
def B2 : List Box := [[(0, 8), (0, 2), (0, 8), (0, 4), (0, 8), (0, 2)], [(0, 8), (0, 2), (0, 8), (0, 4), (0, 8), (3, 3)], [(0, 8), (0, 2), (0, 8), (0, 4), (0, 8), (4, 8)]]
theorem six {ν : List Int} (h : inBox (rangeB ms) ν) : ∃ a b c d e f : Int, ν = [a, b, c, d, e, f] ∧ (0 ≤ a ∧ a ≤ 8) ∧ (0 ≤ b ∧ b ≤ 2) ∧ (0 ≤ c ∧ c ≤ 8) ∧ (0 ≤ d ∧ d ≤ 4) ∧ (0 ≤ e ∧ e ≤ 8) ∧ (0 ≤ f ∧ f ≤ 8) := by
  obtain ⟨a, _, rfl, a1, a2, h⟩ := inBox_cons h
  obtain ⟨b, _, rfl, b1, b2, h⟩ := inBox_cons h
  obtain ⟨c, _, rfl, c1, c2, h⟩ := inBox_cons h
  obtain ⟨d, _, rfl, d1, d2, h⟩ := inBox_cons h
  obtain ⟨e, _, rfl, e1, e2, h⟩ := inBox_cons h
  obtain ⟨f, _, rfl, f1, f2, h⟩ := inBox_cons h
  cases inBox_nil h
  exact ⟨a, b, c, d, e, f, rfl, by omega, by omega, by omega, by omega, by omega, by omega⟩
theorem cov0 (ν : List Int) (h : inBox (rangeB ms) ν) : ∃ β ∈ B0, inBox β ν := by
  obtain ⟨a, b, c, d, e, f, rfl, ha, hb, hc, hd, he, hf⟩ := six h
  exact ⟨_, List.mem_cons_self .., ha.1, ha.2, hb.1, hb.2, hc.1, hc.2, hd.1, hd.2, he.1, he.2, hf.1, hf.2, trivial⟩
theorem cov1 (ν : List Int) (h : inBox (rangeB ms) ν) : ∃ β ∈ B1, inBox β ν := by
  obtain ⟨a, b, c, d, e, f, rfl, ha, hb, hc, hd, he, hf⟩ := six h
  by_cases q : d ≤ 0
  · exact ⟨_, List.mem_cons_self .., ha.1, ha.2, hb.1, hb.2, hc.1, hc.2, hd.1, q, he.1, he.2, hf.1, hf.2, trivial⟩
  · exact ⟨_, List.mem_cons_of_mem _ (List.mem_cons_self ..), ha.1, ha.2, hb.1, hb.2, hc.1, hc.2, by omega, hd.2, he.1, he.2, hf.1, hf.2, trivial⟩
theorem cov2 (ν : List Int) (h : inBox (rangeB ms) ν) : ∃ β ∈ B2, inBox β ν := by
  obtain ⟨a, b, c, d, e, f, rfl, ha, hb, hc, hd, he, hf⟩ := six h
  by_cases q : f ≤ 2
  · exact ⟨_, List.mem_cons_self .., ha.1, ha.2, hb.1, hb.2, hc.1, hc.2, hd.1, hd.2, he.1, he.2, hf.1, q, trivial⟩
  · by_cases r : f ≤ 3
    · exact ⟨_, List.mem_cons_of_mem _ (List.mem_cons_self ..), ha.1, ha.2, hb.1, hb.2, hc.1, hc.2, hd.1, hd.2, he.1, he.2, by omega, r, trivial⟩
    · exact ⟨_, List.mem_cons_of_mem _ (List.mem_cons_of_mem _ (List.mem_cons_self ..)), ha.1, ha.2, hb.1, hb.2, hc.1, hc.2, hd.1, hd.2, he.1, he.2, by omega, hf.2, trivial⟩
theorem ev0 : ∀ β ∈ B0, cupYes 2 (F__law_drops_right β ms [.ref 0] [.cup 0]) = true := by decide +kernel
theorem ev1 : ∀ β ∈ B1, cupYes 4 (F__law_through_right β ms [.ref 0] [.cup 2]) = true := by decide +kernel
theorem ev2 : ∀ β ∈ B2, cupYes 6 (F__law_likes_right β ms [.ref 0] [.cup 4]) = true := by decide +kernel
theorem ev3 : isYes (F__law_outs_right [] ms [] []) = true := by decide +kernel
theorem law_ok {P : Program} {w : World} {K : PySem.W.Frag} {mg : Str → Option Value} {base : Heap} {f fC fA fB fD fE : Addr} {fd fdC fdA fdB fdD fdE : FuncData} (F : FnP K "law" (top iLaw) f fd)
    (FC : FnP K "_law_cup" (top iCup) fC fdC) (gC : mg "_law_cup" = some (.ref fC)) (HC : FnOk P w K mg base (L2.CX P w) 10 fC fdC ["script"] (spNew K))
    (FA : FnP K "_law_drops_right" (top 61) fA fdA) (gA : mg "_law_drops_right" = some (.ref fA)) (HA : FnOk P w K mg base (L2.CX P w) 10 fA fdA ["cup"] (spCup ms 0 2))
    (FB : FnP K "_law_through_right" (top 62) fB fdB) (gB : mg "_law_through_right" = some (.ref fB)) (HB : FnOk P w K mg base (L2.CX P w) 10 fB fdB ["cup"] (spCup ms 2 4))
    (FD : FnP K "_law_likes_right" (top 63) fD fdD) (gD : mg "_law_likes_right" = some (.ref fD)) (HD : FnOk P w K mg base (L2.CX P w) 10 fD fdD ["cup"] (spCup ms 4 6))
    (FE : FnP K "_law_outs_right" (top 64) fE fdE) (gE : mg "_law_outs_right" = some (.ref fE)) (HE : FnOk P w K mg base (L2.CX P w) 10 fE fdE [] spYes) :
    FnOk P w K mg base (L2.CX P w) 11 f fd ["script"] (spLaw K) := by
  refine F.ok sc_law (fun vs H Q E q => by obtain ⟨a, ns, rfl, _⟩ := q; rfl) fun cdv A outer s H vs Q E hr hsp => ?_
  obtain ⟨a, ns, rfl, hS, hl, hq⟩ := hsp
  have tk : Takes (cxOf (L2.CX P w) P w K mg base ["script", "cup"] "law" (defScope (top iLaw)) f cdv A outer s H E) (fun c d _ H => E c d H) := takes_of rfl rfl rfl rfl
  refine ⟨_, pss_cons (ps_set (i := 1) sc_law.nd rfl (Or.inl rfl) (pe_callSD (E := WE fun c d _ H => E c d H) (dvs := []) (ds := []) HC hr rfl gC FC.kp (FC.bindsN fun _ _ _ _ _ _ us hl => match us, hl with | [_], _ => rfl) .nil (fun σ => passAt tk σ) (pa_cons (pv 0) pa_nil)))
    (pss_one (ps_ret (pe_and (pe_callSD (E := WE fun c d _ H => E c d H) (dvs := []) (ds := []) HA hr rfl gA FA.kp (FA.bindsN fun _ _ _ _ _ _ us hl => match us, hl with | [_], _ => rfl) .nil (fun σ => passAt tk σ) (pa_cons (pv 1) pa_nil))
      (pe_and (pe_callSD (E := WE fun c d _ H => E c d H) (dvs := []) (ds := []) HB hr rfl gB FB.kp (FB.bindsN fun _ _ _ _ _ _ us hl => match us, hl with | [_], _ => rfl) .nil (fun σ => passAt tk σ) (pa_cons (pv 1) pa_nil))
      (pe_and (pe_callSD (E := WE fun c d _ H => E c d H) (dvs := []) (ds := []) HD hr rfl gD FD.kp (FD.bindsN fun _ _ _ _ _ _ us hl => match us, hl with | [_], _ => rfl) .nil (fun σ => passAt tk σ) (pa_cons (pv 1) pa_nil))
      (pe_one (pe_call0S (E := WE fun c d _ H => E c d H) (dvs := []) (ds := []) HE hr rfl gE FE.kp (FE.bindsN fun _ _ _ _ _ _ us hl => match us, hl with | [], _ => rfl) .nil (fun σ => passAt tk σ)))))))), ?_⟩
  refine ⟨.ref a, rfl, a, ns, rfl, hS, hl, fun H1 p c0 c1 b0 b1 e => ?_⟩
  have hc : isCup ms (drawsOf ms c0 c1) 0 (H1 p) := ⟨c0, c1, e, b0, b1, rfl⟩
  have hin : inBox (rangeB ms) (drawsOf ms c0 c1) := draws_in c0 c1 (by decide)
  refine ⟨.ref p, rfl, p, _, rfl, hc, hin, fun H2 h2 => ⟨true, rfl, ?_⟩⟩
  rw [if_pos rfl]
  refine ⟨.ref p, rfl, p, _, rfl, h2, hin, fun H3 h3 => ⟨true, rfl, ?_⟩⟩
  rw [if_pos rfl]
  refine ⟨.ref p, rfl, p, _, rfl, h3, hin, fun H4 h4 => ⟨true, rfl, ?_⟩⟩
  rw [if_pos rfl]
  exact ⟨rfl, fun H5 => hq H5⟩

def d_is_integer : He.DefD := ⟨("is_integer", none), "is_integer", "is_integer", defArgs (top 7), defBody (top 7), defScope (top 7), [], []⟩
def d_is_whole : He.DefD := ⟨("is_whole", none), "is_whole", "is_whole", defArgs (top 8), defBody (top 8), defScope (top 8), [], []⟩
def d_need_whole : He.DefD := ⟨("need_whole", none), "need_whole", "need_whole", defArgs (top 9), defBody (top 9), defScope (top 9), [], []⟩
def d_is_tuple_of : He.DefD := ⟨("is_tuple_of", none), "is_tuple_of", "is_tuple_of", defArgs (top 10), defBody (top 10), defScope (top 10), [], []⟩
def d_is_rising : He.DefD := ⟨("is_rising", none), "is_rising", "is_rising", defArgs (top 11), defBody (top 11), defScope (top 11), [], []⟩
def d_are_events : He.DefD := ⟨("are_events", none), "are_events", "are_events", defArgs (top 19), defBody (top 19), defScope (top 19), [], []⟩
def d_fits_place : He.DefD := ⟨("fits_place", none), "fits_place", "fits_place", defArgs (top 20), defBody (top 20), defScope (top 20), [], []⟩
def d_bare_order : He.DefD := ⟨("bare_order", none), "bare_order", "bare_order", defArgs (top 21), defBody (top 21), defScope (top 21), [], []⟩
def d_fits_form : He.DefD := ⟨("fits_form", none), "fits_form", "fits_form", defArgs (top 22), defBody (top 22), defScope (top 22), [], []⟩
def d_fits_net : He.DefD := ⟨("fits_net", none), "fits_net", "fits_net", defArgs (top 23), defBody (top 23), defScope (top 23), [], []⟩
def d_need_net : He.DefD := ⟨("need_net", none), "need_net", "need_net", defArgs (top 24), defBody (top 24), defScope (top 24), [], []⟩
def d_fits_event : He.DefD := ⟨("fits_event", none), "fits_event", "fits_event", defArgs (top 25), defBody (top 25), defScope (top 25), [], []⟩
def d_is_row : He.DefD := ⟨("is_row", none), "is_row", "is_row", defArgs (top 26), defBody (top 26), defScope (top 26), [], []⟩
def d_fits_rows : He.DefD := ⟨("fits_rows", none), "fits_rows", "fits_rows", defArgs (top 27), defBody (top 27), defScope (top 27), [], []⟩
def d_need_rows : He.DefD := ⟨("need_rows", none), "need_rows", "need_rows", defArgs (top 28), defBody (top 28), defScope (top 28), [], []⟩
def d_places_into : He.DefD := ⟨("places_into", none), "places_into", "places_into", defArgs (top 29), defBody (top 29), defScope (top 29), [], []⟩
def d_waits_in : He.DefD := ⟨("waits_in", none), "waits_in", "waits_in", defArgs (top 30), defBody (top 30), defScope (top 30), [], []⟩
def d_times_in : He.DefD := ⟨("times_in", none), "times_in", "times_in", defArgs (top 31), defBody (top 31), defScope (top 31), [], []⟩
def d_led_to : He.DefD := ⟨("led_to", none), "led_to", "led_to", defArgs (top 37), defBody (top 37), defScope (top 37), [], []⟩
def d_is_bound : He.DefD := ⟨("is_bound", none), "is_bound", "is_bound", defArgs (top 38), defBody (top 38), defScope (top 38), [], []⟩
def d_without_events : He.DefD := ⟨("without_events", none), "without_events", "without_events", defArgs (top 39), defBody (top 39), defScope (top 39), [], []⟩
def d_dropped : He.DefD := ⟨("dropped", none), "dropped", "dropped", defArgs (top 40), defBody (top 40), defScope (top 40), [], []⟩
def d_is_free : He.DefD := ⟨("is_free", none), "is_free", "is_free", defArgs (top 41), defBody (top 41), defScope (top 41), [], []⟩
def d_left_out : He.DefD := ⟨("left_out", none), "left_out", "left_out", defArgs (top 42), defBody (top 42), defScope (top 42), [], []⟩
def d_led_through : He.DefD := ⟨("led_through", none), "led_through", "led_through", defArgs (top 43), defBody (top 43), defScope (top 43), [], []⟩
def d_sources_as : He.DefD := ⟨("sources_as", none), "sources_as", "sources_as", defArgs (top 44), defBody (top 44), defScope (top 44), [], []⟩
def d_made_one : He.DefD := ⟨("made_one", none), "made_one", "made_one", defArgs (top 45), defBody (top 45), defScope (top 45), [], []⟩
def d_is_place_in : He.DefD := ⟨("is_place_in", none), "is_place_in", "is_place_in", defArgs (top 47), defBody (top 47), defScope (top 47), [], []⟩
def d_led_by_net_step : He.DefD := ⟨("led_by_net_step", none), "led_by_net_step", "led_by_net_step", defArgs (top 46), defBody (top 46), defScope (top 46), [], []⟩
def d_tries_of : He.DefD := ⟨("tries_of", none), "tries_of", "tries_of", defArgs (top 48), defBody (top 48), defScope (top 48), [], []⟩
def d_net_steps : He.DefD := ⟨("net_steps", none), "net_steps", "net_steps", defArgs (top 49), defBody (top 49), defScope (top 49), [], []⟩
def d_is_net_step : He.DefD := ⟨("is_net_step", none), "is_net_step", "is_net_step", defArgs (top 50), defBody (top 50), defScope (top 50), [], []⟩
def d_net_led : He.DefD := ⟨("net_led", none), "net_led", "net_led", defArgs (top 51), defBody (top 51), defScope (top 51), [], []⟩
def d_need_fired : He.DefD := ⟨("need_fired", none), "need_fired", "need_fired", defArgs (top 53), defBody (top 53), defScope (top 53), [], []⟩
def d_times_of : He.DefD := ⟨("times_of", none), "times_of", "times_of", defArgs (top 54), defBody (top 54), defScope (top 54), [], []⟩
def d_output_times : He.DefD := ⟨("output_times", none), "output_times", "output_times", defArgs (top 55), defBody (top 55), defScope (top 55), [], []⟩
def d__law_roll : He.DefD := ⟨("_law_roll", none), "_law_roll", "_law_roll", defArgs (top 58), defBody (top 58), defScope (top 58), [], []⟩
def d__law_sort : He.DefD := ⟨("_law_sort", none), "_law_sort", "_law_sort", defArgs (top 59), defBody (top 59), defScope (top 59), [], []⟩
def d__law_like : He.DefD := ⟨("_law_like", none), "_law_like", "_law_like", defArgs (top 60), defBody (top 60), defScope (top 60), [], []⟩
def d__law_drops_right : He.DefD := ⟨("_law_drops_right", none), "_law_drops_right", "_law_drops_right", defArgs (top 61), defBody (top 61), defScope (top 61), [], []⟩
def d__law_through_right : He.DefD := ⟨("_law_through_right", none), "_law_through_right", "_law_through_right", defArgs (top 62), defBody (top 62), defScope (top 62), [], []⟩
def d__law_likes_right : He.DefD := ⟨("_law_likes_right", none), "_law_likes_right", "_law_likes_right", defArgs (top 63), defBody (top 63), defScope (top 63), [], []⟩
def d__law_outs_right : He.DefD := ⟨("_law_outs_right", none), "_law_outs_right", "_law_outs_right", defArgs (top 64), defBody (top 64), defScope (top 64), [], []⟩
def d__law_cup : He.DefD := ⟨("_law_cup", none), "_law_cup", "_law_cup", defArgs (top 57), defBody (top 57), defScope (top 57), [], []⟩
def d_law : He.DefD := ⟨("law", none), "law", "law", defArgs (top 65), defBody (top 65), defScope (top 65), [], []⟩
def fn0 : List He.DefD := [d_is_integer, d_is_whole, d_need_whole, d_is_tuple_of, d_is_rising, d_are_events, d_fits_place, d_bare_order, d_fits_form, d_fits_net, d_need_net, d_fits_event, d_is_row, d_fits_rows, d_need_rows, d_places_into, d_waits_in, d_times_in, d_led_to, d_is_bound, d_without_events, d_dropped, d_is_free, d_left_out, d_led_through, d_sources_as, d_made_one, d_is_place_in, d_led_by_net_step, d_tries_of]
def fn1 : List He.DefD := [d_net_steps, d_is_net_step, d_net_led, d_need_fired, d_times_of, d_output_times, d__law_roll, d__law_sort, d__law_like, d__law_drops_right, d__law_through_right, d__law_likes_right, d__law_outs_right, d__law_cup, d_law]
def fn : List He.DefD := fn0 ++ (fn1)
def fas0 : List He.Fa := [.glo "is_integer", .glo "is_whole", .glo "need_whole", .glo "is_tuple_of", .glo "is_rising", .glo "are_events", .glo "fits_place", .glo "bare_order", .glo "fits_form", .glo "fits_net", .glo "need_net", .glo "fits_event", .glo "is_row", .glo "fits_rows", .glo "need_rows", .glo "places_into", .glo "waits_in", .glo "times_in", .glo "led_to", .glo "is_bound", .glo "without_events", .glo "dropped", .glo "is_free", .glo "left_out", .glo "led_through", .glo "sources_as", .glo "made_one", .glo "is_place_in", .glo "led_by_net_step", .glo "tries_of"]
def fas1 : List He.Fa := [.glo "net_steps", .glo "is_net_step", .glo "net_led", .glo "need_fired", .glo "times_of", .glo "output_times", .glo "_law_roll", .glo "_law_sort", .glo "_law_like", .glo "_law_drops_right", .glo "_law_through_right", .glo "_law_likes_right", .glo "_law_outs_right", .glo "_law_cup", .glo "law", .free "abs", .free "all", .free "any", .free "bool", .free "dict", .free "enumerate", .free "int", .free "isinstance", .free "len", .free "list", .free "max", .free "range", .free "set", .free "sorted", .free "str"]
def fas2 : List He.Fa := [.free "tuple", .free "zip", .str "DROP" "drop", .int "FAR" 1000000000000, .str "LIKE" "like", .int "MOST_DELAY" 1000, .int "MOST_EVENTS" 12, .int "MOST_FIRINGS" 200, .int "MOST_PLACES" 40, .int "MOST_TOKENS" 6, .str "OUT" "out", .str "THROUGH" "through"]
def fas : List He.Fa := fas0 ++ (fas1 ++ (fas2))
def loose0 : List Str := ["TimeError", "InvalidNet", "InvalidNumber", "InvalidRows", "InvalidMove", "is_integer", "is_whole", "need_whole", "is_tuple_of", "is_rising", "MOST_EVENTS", "MOST_PLACES", "MOST_TOKENS", "MOST_DELAY", "MOST_FIRINGS", "FAR", "are_events", "fits_place", "bare_order", "fits_form", "fits_net", "need_net", "fits_event", "is_row", "fits_rows", "need_rows", "places_into", "waits_in", "times_in", "DROP"]
def loose1 : List Str := ["OUT", "THROUGH", "LIKE", "led_to", "is_bound", "without_events", "dropped", "is_free", "left_out", "led_through", "sources_as", "made_one", "led_by_net_step", "is_place_in", "tries_of", "net_steps", "is_net_step", "net_led", "need_fired", "times_of", "output_times", "_law_cup", "_law_roll", "_law_sort", "_law_like", "_law_drops_right", "_law_through_right", "_law_likes_right", "_law_outs_right"]
def loose : List Str := loose0 ++ (loose1)
abbrev R : PySem.W.OpenRow := PySem.W.OpenLaw.row PySem.Challenge.rw_timesmet_k66_whole_net_steps_written
abbrev hk : PySem.W.Hook := He.hookD 4 fas fn
def ob (s : PySem.W.SharedT) : He.AlD := He.obsDG 4 fas fn (HandSHeadRun.getT s)
theorem ob_eq (s : PySem.W.SharedT) : ob s = hk.obs s.abs := He.obsDG_eq (HandSHeadRun.getT_eq s)
theorem run (w : World) : HandSHeadRun.RunEq R (PySem.W.view R.prog [65]) hk ob 4000 loose w := by
  intro os
  kernel_rfl
theorem facts {P : Program} {w : World} {K : PySem.W.Frag} {h : Heap} {mg : Str → Option Value} {f : Addr} (X : K.In h) (Gn : h.Ns mainGlobals mg) (hfa : mg ("law" : Str) = some (.ref f)) (c : He.SaysD fas fn K) :
    ∃ fd : FuncData, (∀ (s : Shared) (v : Value), BindsTo s fd ⟨[v], []⟩ [("script", v)]) ∧ ∀ base : Heap, K.In base → base.Ns mainGlobals mg → FnOk P w K mg base (L2.CX P w) 11 f fd ["script"] (spLaw K) := by
  obtain ⟨fd_is_integer, F_is_integer_⟩ := c.def_ 0 (d := d_is_integer) rfl
  have hm_is_integer := He.glo_ok X Gn (c.fact 0 (f := .glo "is_integer") rfl)
  obtain ⟨fd_is_whole, F_is_whole_⟩ := c.def_ 1 (d := d_is_whole) rfl
  have hm_is_whole := He.glo_ok X Gn (c.fact 1 (f := .glo "is_whole") rfl)
  obtain ⟨fd_need_whole, F_need_whole_⟩ := c.def_ 2 (d := d_need_whole) rfl
  have hm_need_whole := He.glo_ok X Gn (c.fact 2 (f := .glo "need_whole") rfl)
  obtain ⟨fd_is_tuple_of, F_is_tuple_of_⟩ := c.def_ 3 (d := d_is_tuple_of) rfl
  have hm_is_tuple_of := He.glo_ok X Gn (c.fact 3 (f := .glo "is_tuple_of") rfl)
  obtain ⟨fd_is_rising, F_is_rising_⟩ := c.def_ 4 (d := d_is_rising) rfl
  have hm_is_rising := He.glo_ok X Gn (c.fact 4 (f := .glo "is_rising") rfl)
  obtain ⟨fd_are_events, F_are_events_⟩ := c.def_ 5 (d := d_are_events) rfl
  have hm_are_events := He.glo_ok X Gn (c.fact 5 (f := .glo "are_events") rfl)
  obtain ⟨fd_fits_place, F_fits_place_⟩ := c.def_ 6 (d := d_fits_place) rfl
  have hm_fits_place := He.glo_ok X Gn (c.fact 6 (f := .glo "fits_place") rfl)
  obtain ⟨fd_bare_order, F_bare_order_⟩ := c.def_ 7 (d := d_bare_order) rfl
  have hm_bare_order := He.glo_ok X Gn (c.fact 7 (f := .glo "bare_order") rfl)
  obtain ⟨fd_fits_form, F_fits_form_⟩ := c.def_ 8 (d := d_fits_form) rfl
  have hm_fits_form := He.glo_ok X Gn (c.fact 8 (f := .glo "fits_form") rfl)
  obtain ⟨fd_fits_net, F_fits_net_⟩ := c.def_ 9 (d := d_fits_net) rfl
  have hm_fits_net := He.glo_ok X Gn (c.fact 9 (f := .glo "fits_net") rfl)
  obtain ⟨fd_need_net, F_need_net_⟩ := c.def_ 10 (d := d_need_net) rfl
  have hm_need_net := He.glo_ok X Gn (c.fact 10 (f := .glo "need_net") rfl)
  obtain ⟨fd_fits_event, F_fits_event_⟩ := c.def_ 11 (d := d_fits_event) rfl
  have hm_fits_event := He.glo_ok X Gn (c.fact 11 (f := .glo "fits_event") rfl)
  obtain ⟨fd_is_row, F_is_row_⟩ := c.def_ 12 (d := d_is_row) rfl
  have hm_is_row := He.glo_ok X Gn (c.fact 12 (f := .glo "is_row") rfl)
  obtain ⟨fd_fits_rows, F_fits_rows_⟩ := c.def_ 13 (d := d_fits_rows) rfl
  have hm_fits_rows := He.glo_ok X Gn (c.fact 13 (f := .glo "fits_rows") rfl)
  obtain ⟨fd_need_rows, F_need_rows_⟩ := c.def_ 14 (d := d_need_rows) rfl
  have hm_need_rows := He.glo_ok X Gn (c.fact 14 (f := .glo "need_rows") rfl)
  obtain ⟨fd_places_into, F_places_into_⟩ := c.def_ 15 (d := d_places_into) rfl
  have hm_places_into := He.glo_ok X Gn (c.fact 15 (f := .glo "places_into") rfl)
  obtain ⟨fd_waits_in, F_waits_in_⟩ := c.def_ 16 (d := d_waits_in) rfl
  have hm_waits_in := He.glo_ok X Gn (c.fact 16 (f := .glo "waits_in") rfl)
  obtain ⟨fd_times_in, F_times_in_⟩ := c.def_ 17 (d := d_times_in) rfl
  have hm_times_in := He.glo_ok X Gn (c.fact 17 (f := .glo "times_in") rfl)
  obtain ⟨fd_led_to, F_led_to_⟩ := c.def_ 18 (d := d_led_to) rfl
  have hm_led_to := He.glo_ok X Gn (c.fact 18 (f := .glo "led_to") rfl)
  obtain ⟨fd_is_bound, F_is_bound_⟩ := c.def_ 19 (d := d_is_bound) rfl
  have hm_is_bound := He.glo_ok X Gn (c.fact 19 (f := .glo "is_bound") rfl)
  obtain ⟨fd_without_events, F_without_events_⟩ := c.def_ 20 (d := d_without_events) rfl
  have hm_without_events := He.glo_ok X Gn (c.fact 20 (f := .glo "without_events") rfl)
  obtain ⟨fd_dropped, F_dropped_⟩ := c.def_ 21 (d := d_dropped) rfl
  have hm_dropped := He.glo_ok X Gn (c.fact 21 (f := .glo "dropped") rfl)
  obtain ⟨fd_is_free, F_is_free_⟩ := c.def_ 22 (d := d_is_free) rfl
  have hm_is_free := He.glo_ok X Gn (c.fact 22 (f := .glo "is_free") rfl)
  obtain ⟨fd_left_out, F_left_out_⟩ := c.def_ 23 (d := d_left_out) rfl
  have hm_left_out := He.glo_ok X Gn (c.fact 23 (f := .glo "left_out") rfl)
  obtain ⟨fd_led_through, F_led_through_⟩ := c.def_ 24 (d := d_led_through) rfl
  have hm_led_through := He.glo_ok X Gn (c.fact 24 (f := .glo "led_through") rfl)
  obtain ⟨fd_sources_as, F_sources_as_⟩ := c.def_ 25 (d := d_sources_as) rfl
  have hm_sources_as := He.glo_ok X Gn (c.fact 25 (f := .glo "sources_as") rfl)
  obtain ⟨fd_made_one, F_made_one_⟩ := c.def_ 26 (d := d_made_one) rfl
  have hm_made_one := He.glo_ok X Gn (c.fact 26 (f := .glo "made_one") rfl)
  obtain ⟨fd_is_place_in, F_is_place_in_⟩ := c.def_ 27 (d := d_is_place_in) rfl
  have hm_is_place_in := He.glo_ok X Gn (c.fact 27 (f := .glo "is_place_in") rfl)
  obtain ⟨fd_led_by_net_step, F_led_by_net_step_⟩ := c.def_ 28 (d := d_led_by_net_step) rfl
  have hm_led_by_net_step := He.glo_ok X Gn (c.fact 28 (f := .glo "led_by_net_step") rfl)
  obtain ⟨fd_tries_of, F_tries_of_⟩ := c.def_ 29 (d := d_tries_of) rfl
  have hm_tries_of := He.glo_ok X Gn (c.fact 29 (f := .glo "tries_of") rfl)
  obtain ⟨fd_net_steps, F_net_steps_⟩ := c.def_ 30 (d := d_net_steps) rfl
  have hm_net_steps := He.glo_ok X Gn (c.fact 30 (f := .glo "net_steps") rfl)
  obtain ⟨fd_is_net_step, F_is_net_step_⟩ := c.def_ 31 (d := d_is_net_step) rfl
  have hm_is_net_step := He.glo_ok X Gn (c.fact 31 (f := .glo "is_net_step") rfl)
  obtain ⟨fd_net_led, F_net_led_⟩ := c.def_ 32 (d := d_net_led) rfl
  have hm_net_led := He.glo_ok X Gn (c.fact 32 (f := .glo "net_led") rfl)
  obtain ⟨fd_need_fired, F_need_fired_⟩ := c.def_ 33 (d := d_need_fired) rfl
  have hm_need_fired := He.glo_ok X Gn (c.fact 33 (f := .glo "need_fired") rfl)
  obtain ⟨fd_times_of, F_times_of_⟩ := c.def_ 34 (d := d_times_of) rfl
  have hm_times_of := He.glo_ok X Gn (c.fact 34 (f := .glo "times_of") rfl)
  obtain ⟨fd_output_times, F_output_times_⟩ := c.def_ 35 (d := d_output_times) rfl
  have hm_output_times := He.glo_ok X Gn (c.fact 35 (f := .glo "output_times") rfl)
  obtain ⟨fd__law_roll, F__law_roll_⟩ := c.def_ 36 (d := d__law_roll) rfl
  have hm__law_roll := He.glo_ok X Gn (c.fact 36 (f := .glo "_law_roll") rfl)
  obtain ⟨fd__law_sort, F__law_sort_⟩ := c.def_ 37 (d := d__law_sort) rfl
  have hm__law_sort := He.glo_ok X Gn (c.fact 37 (f := .glo "_law_sort") rfl)
  obtain ⟨fd__law_like, F__law_like_⟩ := c.def_ 38 (d := d__law_like) rfl
  have hm__law_like := He.glo_ok X Gn (c.fact 38 (f := .glo "_law_like") rfl)
  obtain ⟨fd__law_drops_right, F__law_drops_right_⟩ := c.def_ 39 (d := d__law_drops_right) rfl
  have hm__law_drops_right := He.glo_ok X Gn (c.fact 39 (f := .glo "_law_drops_right") rfl)
  obtain ⟨fd__law_through_right, F__law_through_right_⟩ := c.def_ 40 (d := d__law_through_right) rfl
  have hm__law_through_right := He.glo_ok X Gn (c.fact 40 (f := .glo "_law_through_right") rfl)
  obtain ⟨fd__law_likes_right, F__law_likes_right_⟩ := c.def_ 41 (d := d__law_likes_right) rfl
  have hm__law_likes_right := He.glo_ok X Gn (c.fact 41 (f := .glo "_law_likes_right") rfl)
  obtain ⟨fd__law_outs_right, F__law_outs_right_⟩ := c.def_ 42 (d := d__law_outs_right) rfl
  have hm__law_outs_right := He.glo_ok X Gn (c.fact 42 (f := .glo "_law_outs_right") rfl)
  obtain ⟨fd__law_cup, F__law_cup_⟩ := c.def_ 43 (d := d__law_cup) rfl
  have hm__law_cup := He.glo_ok X Gn (c.fact 43 (f := .glo "_law_cup") rfl)
  obtain ⟨fd_law, F_law_⟩ := c.def_ 44 (d := d_law) rfl
  have hm_law := He.glo_ok X Gn (c.fact 44 (f := .glo "law") rfl)
  have e := hfa.symm.trans hm_law
  cases e
  have b := FunD.bindsA (ps := ["script"]) F_law_ fun _ _ _ _ _ _ us hl => match us, hl with | [_], _ => rfl
  refine ⟨fd_law, fun s v => b s [v] rfl, fun base _ _ => ?_⟩
  let Gc : Box → Cfg := fun β => ⟨β, fun _ => none, fun _ => none, P, w, K, mg, base, [], defScope (top iLaw), fun _ => true, 0, ms⟩
  have gf : ∀ β, GF (Gc β) := fun β => { b_abs := He.free_ok X Gn (c.fact 45 (f := .free "abs") rfl), b_all := He.free_ok X Gn (c.fact 46 (f := .free "all") rfl), b_any := He.free_ok X Gn (c.fact 47 (f := .free "any") rfl), b_bool := He.free_ok X Gn (c.fact 48 (f := .free "bool") rfl), b_dict := He.free_ok X Gn (c.fact 49 (f := .free "dict") rfl), b_enumerate := He.free_ok X Gn (c.fact 50 (f := .free "enumerate") rfl), b_int := He.free_ok X Gn (c.fact 51 (f := .free "int") rfl), b_isinstance := He.free_ok X Gn (c.fact 52 (f := .free "isinstance") rfl), b_len := He.free_ok X Gn (c.fact 53 (f := .free "len") rfl), b_list := He.free_ok X Gn (c.fact 54 (f := .free "list") rfl), b_max := He.free_ok X Gn (c.fact 55 (f := .free "max") rfl), b_range := He.free_ok X Gn (c.fact 56 (f := .free "range") rfl), b_set := He.free_ok X Gn (c.fact 57 (f := .free "set") rfl), b_sorted := He.free_ok X Gn (c.fact 58 (f := .free "sorted") rfl), b_str := He.free_ok X Gn (c.fact 59 (f := .free "str") rfl), b_tuple := He.free_ok X Gn (c.fact 60 (f := .free "tuple") rfl), b_zip := He.free_ok X Gn (c.fact 61 (f := .free "zip") rfl), c_DROP := He.str_ok X Gn (c.fact 62 (f := .str "DROP" "drop") rfl), c_FAR := He.int_ok X Gn (c.fact 63 (f := .int "FAR" 1000000000000) rfl), c_LIKE := He.str_ok X Gn (c.fact 64 (f := .str "LIKE" "like") rfl), c_MOST_DELAY := He.int_ok X Gn (c.fact 65 (f := .int "MOST_DELAY" 1000) rfl), c_MOST_EVENTS := He.int_ok X Gn (c.fact 66 (f := .int "MOST_EVENTS" 12) rfl), c_MOST_FIRINGS := He.int_ok X Gn (c.fact 67 (f := .int "MOST_FIRINGS" 200) rfl), c_MOST_PLACES := He.int_ok X Gn (c.fact 68 (f := .int "MOST_PLACES" 40) rfl), c_MOST_TOKENS := He.int_ok X Gn (c.fact 69 (f := .int "MOST_TOKENS" 6) rfl), c_OUT := He.str_ok X Gn (c.fact 70 (f := .str "OUT" "out") rfl), c_THROUGH := He.str_ok X Gn (c.fact 71 (f := .str "THROUGH" "through") rfl) }
  have o_is_integer : ∀ β, DefOk (Gc β) 1 "is_integer" 1 (F_is_integer β ms) := fun β => ok_is_integer (gf β) F_is_integer_ hm_is_integer
  have o_is_whole : ∀ β, DefOk (Gc β) 2 "is_whole" 3 (F_is_whole β ms) := fun β => ok_is_whole (gf β) F_is_whole_ hm_is_whole (o_is_integer β)
  have o_need_whole : ∀ β, DefOk (Gc β) 3 "need_whole" 3 (F_need_whole β ms) := fun β => ok_need_whole (gf β) F_need_whole_ hm_need_whole (o_is_whole β)
  have o_is_tuple_of : ∀ β, DefOk (Gc β) 1 "is_tuple_of" 3 (F_is_tuple_of β ms) := fun β => ok_is_tuple_of (gf β) F_is_tuple_of_ hm_is_tuple_of
  have o_is_rising : ∀ β, DefOk (Gc β) 1 "is_rising" 1 (F_is_rising β ms) := fun β => ok_is_rising (gf β) F_is_rising_ hm_is_rising
  have o_are_events : ∀ β, DefOk (Gc β) 3 "are_events" 2 (F_are_events β ms) := fun β => ok_are_events (gf β) F_are_events_ hm_are_events (o_is_whole β) (o_is_tuple_of β) (o_is_rising β)
  have o_fits_place : ∀ β, DefOk (Gc β) 3 "fits_place" 2 (F_fits_place β ms) := fun β => ok_fits_place (gf β) F_fits_place_ hm_fits_place (o_is_whole β) (o_is_tuple_of β)
  have o_bare_order : ∀ β, DefOk (Gc β) 1 "bare_order" 2 (F_bare_order β ms) := fun β => ok_bare_order (gf β) F_bare_order_ hm_bare_order
  have o_fits_form : ∀ β, DefOk (Gc β) 4 "fits_form" 1 (F_fits_form β ms) := fun β => ok_fits_form (gf β) F_fits_form_ hm_fits_form (o_is_whole β) (o_is_tuple_of β) (o_are_events β) (o_is_rising β) (o_fits_place β)
  have o_fits_net : ∀ β, DefOk (Gc β) 5 "fits_net" 1 (F_fits_net β ms) := fun β => ok_fits_net (gf β) F_fits_net_ hm_fits_net (o_fits_form β) (o_bare_order β)
  have o_need_net : ∀ β, DefOk (Gc β) 6 "need_net" 1 (F_need_net β ms) := fun β => ok_need_net (gf β) F_need_net_ hm_need_net (o_fits_net β)
  have o_fits_event : ∀ β, DefOk (Gc β) 3 "fits_event" 2 (F_fits_event β ms) := fun β => ok_fits_event (gf β) F_fits_event_ hm_fits_event (o_is_whole β)
  have o_is_row : ∀ β, DefOk (Gc β) 3 "is_row" 2 (F_is_row β ms) := fun β => ok_is_row (gf β) F_is_row_ hm_is_row (o_is_whole β) (o_is_tuple_of β)
  have o_fits_rows : ∀ β, DefOk (Gc β) 4 "fits_rows" 3 (F_fits_rows β ms) := fun β => ok_fits_rows (gf β) F_fits_rows_ hm_fits_rows (o_is_row β) (o_is_tuple_of β)
  have o_need_rows : ∀ β, DefOk (Gc β) 5 "need_rows" 3 (F_need_rows β ms) := fun β => ok_need_rows (gf β) F_need_rows_ hm_need_rows (o_fits_rows β)
  have o_places_into : ∀ β, DefOk (Gc β) 1 "places_into" 2 (F_places_into β ms) := fun β => ok_places_into (gf β) F_places_into_ hm_places_into
  have o_waits_in : ∀ β, DefOk (Gc β) 2 "waits_in" 4 (F_waits_in β ms) := fun β => ok_waits_in (gf β) F_waits_in_ hm_waits_in (o_places_into β)
  have o_times_in : ∀ β, DefOk (Gc β) 3 "times_in" 3 (F_times_in β ms) := fun β => ok_times_in (gf β) F_times_in_ hm_times_in (o_bare_order β) (o_waits_in β)
  have o_led_to : ∀ β, DefOk (Gc β) 1 "led_to" 2 (F_led_to β ms) := fun β => ok_led_to (gf β) F_led_to_ hm_led_to
  have o_is_bound : ∀ β, DefOk (Gc β) 1 "is_bound" 2 (F_is_bound β ms) := fun β => ok_is_bound (gf β) F_is_bound_ hm_is_bound
  have o_without_events : ∀ β, DefOk (Gc β) 1 "without_events" 3 (F_without_events β ms) := fun β => ok_without_events (gf β) F_without_events_ hm_without_events
  have o_dropped : ∀ β, DefOk (Gc β) 2 "dropped" 2 (F_dropped β ms) := fun β => ok_dropped (gf β) F_dropped_ hm_dropped (o_is_bound β) (o_places_into β)
  have o_is_free : ∀ β, DefOk (Gc β) 1 "is_free" 2 (F_is_free β ms) := fun β => ok_is_free (gf β) F_is_free_ hm_is_free
  have o_left_out : ∀ β, DefOk (Gc β) 2 "left_out" 2 (F_left_out β ms) := fun β => ok_left_out (gf β) F_left_out_ hm_left_out (o_led_to β) (o_without_events β)
  have o_led_through : ∀ β, DefOk (Gc β) 6 "led_through" 2 (F_led_through β ms) := fun β => ok_led_through (gf β) F_led_through_ hm_led_through (o_places_into β) (o_is_free β) (o_without_events β) (o_fits_net β)
  have o_sources_as : ∀ β, DefOk (Gc β) 2 "sources_as" 4 (F_sources_as β ms) := fun β => ok_sources_as (gf β) F_sources_as_ hm_sources_as (o_places_into β)
  have o_made_one : ∀ β, DefOk (Gc β) 3 "made_one" 3 (F_made_one β ms) := fun β => ok_made_one (gf β) F_made_one_ hm_made_one (o_is_free β) (o_sources_as β) (o_without_events β)
  have o_is_place_in : ∀ β, DefOk (Gc β) 2 "is_place_in" 2 (F_is_place_in β ms) := fun β => ok_is_place_in (gf β) F_is_place_in_ hm_is_place_in (o_is_integer β)
  have o_led_by_net_step : ∀ β, DefOk (Gc β) 7 "led_by_net_step" 2 (F_led_by_net_step β ms) := fun β => ok_led_by_net_step (gf β) F_led_by_net_step_ hm_led_by_net_step (o_is_place_in β) (o_dropped β) (o_fits_event β) (o_made_one β) (o_left_out β) (o_led_through β)
  have o_tries_of : ∀ β, DefOk (Gc β) 1 "tries_of" 1 (F_tries_of β ms) := fun β => ok_tries_of (gf β) F_tries_of_ hm_tries_of
  have o_net_steps : ∀ β, DefOk (Gc β) 8 "net_steps" 1 (F_net_steps β ms) := fun β => ok_net_steps (gf β) F_net_steps_ hm_net_steps (o_need_net β) (o_tries_of β) (o_led_by_net_step β)
  have o_is_net_step : ∀ β, DefOk (Gc β) 8 "is_net_step" 2 (F_is_net_step β ms) := fun β => ok_is_net_step (gf β) F_is_net_step_ hm_is_net_step (o_need_net β) (o_led_by_net_step β)
  have o_net_led : ∀ β, DefOk (Gc β) 8 "net_led" 2 (F_net_led β ms) := fun β => ok_net_led (gf β) F_net_led_ hm_net_led (o_need_net β) (o_led_by_net_step β)
  have o_need_fired : ∀ β, DefOk (Gc β) 7 "need_fired" 3 (F_need_fired β ms) := fun β => ok_need_fired (gf β) F_need_fired_ hm_need_fired (o_need_net β) (o_need_whole β) (o_need_rows β)
  have o_times_of : ∀ β, DefOk (Gc β) 8 "times_of" 3 (F_times_of β ms) := fun β => ok_times_of (gf β) F_times_of_ hm_times_of (o_need_fired β) (o_times_in β)
  have o_output_times : ∀ β, DefOk (Gc β) 8 "output_times" 3 (F_output_times β ms) := fun β => ok_output_times (gf β) F_output_times_ hm_output_times (o_need_fired β) (o_times_in β)
  have o__law_roll : ∀ β, DefOk (Gc β) 1 "_law_roll" 2 (F__law_roll β ms) := fun β => ok__law_roll (gf β) F__law_roll_ hm__law_roll ms_pos
  have o__law_sort : ∀ β, DefOk (Gc β) 1 "_law_sort" 1 (F__law_sort β ms) := fun β => ok__law_sort (gf β) F__law_sort_ hm__law_sort
  have o__law_like : ∀ β, DefOk (Gc β) 9 "_law_like" 2 (F__law_like β ms) := fun β => ok__law_like (gf β) F__law_like_ hm__law_like (o__law_sort β)
  have o__law_drops_right : ∀ β, DefOk (Gc β) 10 "_law_drops_right" 1 (F__law_drops_right β ms) := fun β => ok__law_drops_right (gf β) F__law_drops_right_ hm__law_drops_right (o__law_roll β) (o_is_net_step β) (o__law_like β)
  have o__law_through_right : ∀ β, DefOk (Gc β) 10 "_law_through_right" 1 (F__law_through_right β ms) := fun β => ok__law_through_right (gf β) F__law_through_right_ hm__law_through_right (o__law_roll β) (o_is_net_step β) (o_times_of β) (o_net_led β) (o__law_like β)
  have o__law_likes_right : ∀ β, DefOk (Gc β) 10 "_law_likes_right" 1 (F__law_likes_right β ms) := fun β => ok__law_likes_right (gf β) F__law_likes_right_ hm__law_likes_right (o__law_roll β) (o_net_led β) (o_is_net_step β) (o__law_like β) (o_output_times β) (o_net_steps β)
  have o__law_outs_right : ∀ β, DefOk (Gc β) 10 "_law_outs_right" 0 (F__law_outs_right β ms) := fun β => ok__law_outs_right (gf β) F__law_outs_right_ hm__law_outs_right (o_net_led β) (o_is_net_step β) (o__law_like β) (o_net_steps β)
  have HC := (cup_new (G := Gc []) (gf []) rfl F__law_cup_).mono (show 1 ≤ 10 by decide)
  have HA : FnOk P w K mg base (L2.CX P w) 10 _ fd__law_drops_right ["cup"] (spCup ms 0 2) := cup_fn Gc (fun _ => rfl) (fun _ => rfl) (fun β => def_fn (G := Gc β) F__law_drops_right_ sc__law_drops_right rfl (ss__law_drops_right (gf β) (o__law_roll β) (o_is_net_step β) (o__law_like β))) cov0 ev0 rfl
  have HB : FnOk P w K mg base (L2.CX P w) 10 _ fd__law_through_right ["cup"] (spCup ms 2 4) := cup_fn Gc (fun _ => rfl) (fun _ => rfl) (fun β => def_fn (G := Gc β) F__law_through_right_ sc__law_through_right rfl (ss__law_through_right (gf β) (o__law_roll β) (o_is_net_step β) (o_times_of β) (o_net_led β) (o__law_like β))) cov1 ev1 rfl
  have HD : FnOk P w K mg base (L2.CX P w) 10 _ fd__law_likes_right ["cup"] (spCup ms 4 6) := cup_fn Gc (fun _ => rfl) (fun _ => rfl) (fun β => def_fn (G := Gc β) F__law_likes_right_ sc__law_likes_right rfl (ss__law_likes_right (gf β) (o__law_roll β) (o_net_led β) (o_is_net_step β) (o__law_like β) (o_output_times β) (o_net_steps β))) cov2 ev2 rfl
  have HE : FnOk P w K mg base (L2.CX P w) 10 _ fd__law_outs_right [] spYes := yes_fn (Gc []) rfl (def_fn (G := Gc []) F__law_outs_right_ sc__law_outs_right rfl (ss__law_outs_right (gf []) (o_net_led []) (o_is_net_step []) (o__law_like []) (o_net_steps []))) ev3 rfl
  exact law_ok F_law_ F__law_cup_ hm__law_cup HC F__law_drops_right_ hm__law_drops_right HA F__law_through_right_ hm__law_through_right HB F__law_likes_right_ hm__law_likes_right HD F__law_outs_right_ hm__law_outs_right HE

end K66
open PySem PySem.W PySem.Calls PyProof.Rows
theorem PySem.Challenge.cw_timesmet_k66_whole_net_steps_written_holds : PySem.Challenge.rw_timesmet_k66_whole_net_steps_written.Holds := by
  w_on; o_law
  refine HandSHeadRun.head_any (r := OpenLaw.row PySem.Challenge.rw_timesmet_k66_whole_net_steps_written) (q := view (OpenLaw.row PySem.Challenge.rw_timesmet_k66_whole_net_steps_written).prog [65]) (H := K66.hk) (ob := K66.ob) (M := 4000) (loose := K66.loose) (d := HandSHeadRun.topDef (OpenLaw.row PySem.Challenge.rw_timesmet_k66_whole_net_steps_written).prog 65) (kwd := []) K66.ob_eq
    (by kernel_rfl) (fun s => by kernel_rfl) K66.run (by kernel_rfl) (by kernel_rfl) (by kernel_rfl) (by rfl) (by first | assumption | decide +kernel) (by decide +kernel) ⟨rfl, rfl, rfl, rfl, rfl, by decide +kernel⟩ ?hw ?hc
  case hw => w_witness2
  case hc =>
    refine L2.walk_ofE (l := PySem.Challenge.rw_timesmet_k66_whole_net_steps_written) (n := 63) (k := 11) (x := "script") (CX := L2.CX0) rfl (by decide) (by kernel_rfl) ⟨rfl, by decide, by decide⟩ ?F (fun _ _ _ _ z => z)
    intro w mg fa h Y G hmg0
    obtain ⟨K, KX, c⟩ := Y
    have hmg : mg ("law" : PySem.Str) = some (.ref fa) := by
      have e : (HandSHeadRun.topDef (OpenLaw.row PySem.Challenge.rw_timesmet_k66_whole_net_steps_written).prog 65).name = ("law" : PySem.Str) := by kernel_rfl
      rw [← e]
      exact hmg0
    obtain ⟨fd, hb, hF⟩ := K66.facts (P := (PySem.Challenge.rw_timesmet_k66_whole_net_steps_written).prog) (w := w) KX G hmg c
    exact ⟨K, fd, Eg.spLaw K, KX, hb, fun H a ns hl _ hS => ⟨a, ns, rfl, hS, hl, fun _ => rfl⟩, fun base h1 h2 => Eg.FnOk.calm (hF base h1 h2) fun vs H Q E q => q⟩


