import PyProof.Rows.All
import Wide.All
import OpenK.AllK
import Wide.FinOn
import PySem.Challenge.RW_nt0159_01
open PySem PySem.W PyProof.Rows
set_option Elab.async false
namespace Nt
section Plain
/-- lowest terms -/
def Lo (t b : Int) : Prop := 0 < b ∧ Int.gcd t b = 1
theorem Lo.of (q : Rat) : Lo q.num q.den := ⟨Int.natCast_pos.mpr q.den_pos, q.reduced⟩
theorem Lo.eq {t b : Int} {q : Rat} (h : Lo t b) (e : t * q.den = q.num * b) : t = q.num ∧ b = q.den := by
  obtain ⟨hb, hg⟩ := h
  obtain ⟨n, rfl⟩ := Int.eq_ofNat_of_zero_le (Int.le_of_lt hb)
  have hn : n ≠ 0 := by omega
  have hp : (⟨t, n, hn, hg⟩ : Rat) = q := Rat.eq_iff_mul_eq_mul.mpr e
  subst hp
  exact ⟨rfl, rfl⟩
theorem cop_mul {a b c : Int} (h : Int.gcd a c = 1) (k : Int.gcd b c = 1) : Int.gcd (a * b) c = 1 := by
  unfold Int.gcd at *
  rw [Int.natAbs_mul]
  exact Nat.Coprime.mul_left h k
theorem cop_mul_right {a b c : Int} (h : Int.gcd c a = 1) (k : Int.gcd c b = 1) : Int.gcd c (a * b) = 1 := by
  rw [Int.gcd_comm] at *
  exact cop_mul h k
theorem cop_dvd_left {a b c : Int} (h : Int.gcd a c = 1) (k : b ∣ a) : Int.gcd b c = 1 := by
  unfold Int.gcd at *
  exact Nat.Coprime.coprime_dvd_left (Int.natAbs_dvd_natAbs.mpr k) h
theorem cop_dvd_right {a b c : Int} (h : Int.gcd c a = 1) (k : b ∣ a) : Int.gcd c b = 1 := by
  rw [Int.gcd_comm] at *
  exact cop_dvd_left h k
/-- both by their divisor -/
theorem gcd_split {a b : Int} (h : a ≠ 0 ∨ b ≠ 0) : ∃ g a' b' : Int, (Int.gcd a b : Int) = g ∧ 0 < g ∧ a = g * a' ∧ b = g * b' ∧ a.fdiv g = a' ∧ b.fdiv g = b' ∧ Int.gcd a' b' = 1 := by
  have hg : 0 < (Int.gcd a b : Int) := by
    have : Int.gcd a b ≠ 0 := fun e => by have := Int.gcd_eq_zero_iff.mp e; omega
    omega
  obtain ⟨a', ha⟩ := Int.gcd_dvd_left a b
  obtain ⟨b', hb⟩ := Int.gcd_dvd_right a b
  refine ⟨_, a', b', rfl, hg, ha, hb, ?_, ?_, ?_⟩
  · conv => lhs; arg 1; rw [ha]
    rw [Int.mul_fdiv_cancel_left _ (by omega)]
  · conv => lhs; arg 1; rw [hb]
    rw [Int.mul_fdiv_cancel_left _ (by omega)]
  · have e : Int.gcd (Int.gcd a b * a') (Int.gcd a b * b') = Int.gcd a b * Int.gcd a' b' := by
      rw [Int.gcd_mul_left]; rfl
    rw [← ha, ← hb] at e
    have h1 : Int.gcd a b * 1 = Int.gcd a b * Int.gcd a' b' := by rw [Nat.mul_one]; exact e
    exact (Nat.eq_of_mul_eq_mul_left (by omega) h1).symm
/-- the sum's top before the last division, its top, its bottom -/
def addM (t1 b1 t2 b2 : Int) : Int := t1 * b2.fdiv (Int.gcd b1 b2) + t2 * b1.fdiv (Int.gcd b1 b2)
def addT (t1 b1 t2 b2 : Int) : Int := (addM t1 b1 t2 b2).fdiv (Int.gcd (addM t1 b1 t2 b2) (Int.gcd b1 b2))
def addB (t1 b1 t2 b2 : Int) : Int := b1.fdiv (Int.gcd b1 b2) * b2.fdiv (Int.gcd (addM t1 b1 t2 b2) (Int.gcd b1 b2))
theorem add_one_one (t1 t2 : Int) : addT t1 1 t2 1 = t1 + t2 ∧ addB t1 1 t2 1 = 1 := by
  have e : ∀ x : Int, x.fdiv 1 = x := Int.fdiv_one
  constructor <;> simp [addT, addB, addM, e]
def mulT (t1 b1 t2 b2 : Int) : Int := t1.fdiv (Int.gcd t1 b2) * t2.fdiv (Int.gcd t2 b1)
def mulB (t1 b1 t2 b2 : Int) : Int := b1.fdiv (Int.gcd t2 b1) * b2.fdiv (Int.gcd t1 b2)
theorem mul_one_one (t1 t2 : Int) : mulT t1 1 t2 1 = t1 * t2 ∧ mulB t1 1 t2 1 = 1 := by
  have e : ∀ x : Int, x.fdiv 1 = x := Int.fdiv_one
  constructor <;> simp [mulT, mulB, e]
theorem fdiv_of_mul {a b c : Int} (h : b ≠ 0) (e : a = b * c) : a.fdiv b = c := by rw [e, Int.mul_fdiv_cancel_left _ h]
theorem pos_of_mul {a b : Int} (ha : 0 < a) (h : 0 < a * b) : 0 < b := Int.pos_of_mul_pos_left (Int.mul_comm a b ▸ h) ha
theorem add_lo {t1 b1 t2 b2 : Int} (h1 : Lo t1 b1) (h2 : Lo t2 b2) : Lo (addT t1 b1 t2 b2) (addB t1 b1 t2 b2) ∧ addT t1 b1 t2 b2 * (b1 * b2) = (t1 * b2 + t2 * b1) * addB t1 b1 t2 b2 := by
  obtain ⟨p1, c1⟩ := h1
  obtain ⟨p2, c2⟩ := h2
  obtain ⟨g, u, v, eg, hg, e1, e2, f1, f2, huv⟩ := gcd_split (a := b1) (b := b2) (.inl (by omega))
  have hu : 0 < u := pos_of_mul hg (e1 ▸ p1)
  have hv : 0 < v := pos_of_mul hg (e2 ▸ p2)
  unfold addT addB addM
  rw [eg, f1, f2]
  obtain ⟨s, t', g', es, hs, et, eg', ft, fg, htg⟩ := gcd_split (a := t1 * v + t2 * u) (b := g) (.inr (by omega))
  have hg' : 0 < g' := pos_of_mul hs (eg' ▸ hg)
  have e3 : b2.fdiv s = g' * v := fdiv_of_mul (by omega) (by rw [e2, eg', Int.mul_assoc])
  rw [es, ft, e3]
  have du : t' ∣ t1 * v + t2 * u := ⟨s, by rw [Int.mul_comm t' s]; exact et⟩
  have cu : Int.gcd t' u = 1 := by
    refine cop_dvd_left (a := t1 * v + t2 * u) ?_ du
    rw [Int.gcd_add_mul_right_left]
    exact cop_mul (cop_dvd_right c1 ⟨g, by rw [Int.mul_comm u g]; exact e1⟩) (by rw [Int.gcd_comm]; exact huv)
  have cv : Int.gcd t' v = 1 := by
    refine cop_dvd_left (a := t1 * v + t2 * u) ?_ du
    rw [Int.add_comm, Int.gcd_add_mul_right_left]
    exact cop_mul (cop_dvd_right c2 ⟨g, by rw [Int.mul_comm v g]; exact e2⟩) huv
  refine ⟨⟨Int.mul_pos hu (Int.mul_pos hg' hv), cop_mul_right cu (cop_mul_right htg cv)⟩, ?_⟩
  have e4 : t1 * b2 + t2 * b1 = g * (s * t') := by
    rw [← et, e1, e2]; grind
  rw [e4, e1, e2]
  generalize hX : g = X at *
  grind
theorem mul_lo {t1 b1 t2 b2 : Int} (h1 : Lo t1 b1) (h2 : Lo t2 b2) : Lo (mulT t1 b1 t2 b2) (mulB t1 b1 t2 b2) ∧ mulT t1 b1 t2 b2 * (b1 * b2) = (t1 * t2) * mulB t1 b1 t2 b2 := by
  obtain ⟨p1, c1⟩ := h1
  obtain ⟨p2, c2⟩ := h2
  obtain ⟨f, a, d, ef, hf, e1, e2, f1, f2, had⟩ := gcd_split (a := t1) (b := b2) (.inr (by omega))
  obtain ⟨s, c, b, es, hs, e3, e4, f3, f4, hcb⟩ := gcd_split (a := t2) (b := b1) (.inr (by omega))
  unfold mulT mulB
  rw [ef, es, f1, f2, f3, f4]
  have hb : 0 < b := pos_of_mul hs (e4 ▸ p1)
  have hd : 0 < d := pos_of_mul hf (e2 ▸ p2)
  have cab : Int.gcd a b = 1 := cop_dvd_left (cop_dvd_right c1 ⟨s, by rw [Int.mul_comm]; exact e4⟩) ⟨f, by rw [Int.mul_comm]; exact e1⟩
  have ccd : Int.gcd c d = 1 := cop_dvd_left (cop_dvd_right c2 ⟨f, by rw [Int.mul_comm]; exact e2⟩) ⟨s, by rw [Int.mul_comm]; exact e3⟩
  refine ⟨⟨Int.mul_pos hb hd, cop_mul (cop_mul_right cab had) (cop_mul_right hcb ccd)⟩, ?_⟩
  rw [e1, e2, e3, e4]
  grind
theorem den_ne (q : Rat) : ((q.den : Nat) : Int) ≠ 0 := by have := q.den_pos; omega
theorem den_pos' (q : Rat) : (0 : Int) < ((q.den : Nat) : Int) := by have := q.den_pos; omega
theorem cross_mk {q : Rat} {n : Int} {d : Nat} (hd : d ≠ 0) (e : q = mkRat n d) : q.num * d = n * q.den := by
  have h := e.symm
  rw [← Rat.mkRat_self q, Rat.mkRat_eq_iff hd q.den_nz] at h
  exact h.symm
theorem add_cross (p q : Rat) : (p + q).num * ((p.den : Int) * (q.den : Int)) = (p.num * q.den + q.num * p.den) * ((p + q).den : Int) := by
  have h := cross_mk (Nat.mul_ne_zero p.den_nz q.den_nz) (Rat.add_def' p q)
  rwa [Int.natCast_mul] at h
theorem sub_cross (p q : Rat) : (p - q).num * ((p.den : Int) * (q.den : Int)) = (p.num * q.den - q.num * p.den) * ((p - q).den : Int) := by
  have h := cross_mk (Nat.mul_ne_zero p.den_nz q.den_nz) (Rat.sub_def' p q)
  rwa [Int.natCast_mul] at h
theorem mul_cross (p q : Rat) : (p * q).num * ((p.den : Int) * (q.den : Int)) = (p.num * q.num) * ((p * q).den : Int) := by
  have h := cross_mk (Nat.mul_ne_zero p.den_nz q.den_nz) (Rat.mul_def' p q)
  rwa [Int.natCast_mul] at h
theorem rat_of {t b n d : Int} {q : Rat} (h : Lo t b) (hd : d ≠ 0) (e : t * d = n * b) (k : q.num * d = n * q.den) : t = q.num ∧ b = q.den := by
  refine h.eq ?_
  refine Int.eq_of_mul_eq_mul_right hd ?_
  have e1 : t * (q.den : Int) * d = (t * d) * q.den := by grind
  have e2 : q.num * b * d = (q.num * d) * b := by grind
  rw [e1, e2, e, k]; grind
theorem add_rat (p q : Rat) : addT p.num p.den q.num q.den = (p + q).num ∧ addB p.num p.den q.num q.den = ((p + q).den : Int) :=
  rat_of (add_lo (Lo.of p) (Lo.of q)).1 (Int.mul_ne_zero (den_ne p) (den_ne q)) (add_lo (Lo.of p) (Lo.of q)).2 (add_cross p q)
theorem mul_rat (p q : Rat) : mulT p.num p.den q.num q.den = (p * q).num ∧ mulB p.num p.den q.num q.den = ((p * q).den : Int) :=
  rat_of (mul_lo (Lo.of p) (Lo.of q)).1 (Int.mul_ne_zero (den_ne p) (den_ne q)) (mul_lo (Lo.of p) (Lo.of q)).2 (mul_cross p q)
theorem inv_rat (q : Rat) (h : q.num ≠ 0) : (if q.num < 0 then 0 - (q.den : Int) else q.den) = (q⁻¹).num ∧ (if q.num < 0 then 0 - q.num else q.num) = ((q⁻¹).den : Int) := by
  rw [Rat.num_inv, Rat.den_inv, if_neg h]
  split
  · rename_i h1
    rw [Int.sign_eq_neg_one_of_neg h1]; omega
  · rename_i h1
    rw [Int.sign_eq_one_of_pos (by omega)]; omega
theorem div_cross (p q : Rat) (h : q.num ≠ 0) : (p * q⁻¹).num * ((p.den : Int) * q.num) = (p.num * q.den) * ((p * q⁻¹).den : Int) := by
  have h1 := mul_cross p q⁻¹
  have h2 := inv_rat q h
  rw [← h2.1, ← h2.2] at h1
  split at h1
  · have e : (p * q⁻¹).num * (↑p.den * (0 - q.num)) = - ((p * q⁻¹).num * (↑p.den * q.num)) := by grind
    have e' : p.num * (0 - ↑q.den) * ↑(p * q⁻¹).den = - (p.num * ↑q.den * ↑(p * q⁻¹).den) := by grind
    rw [e, e'] at h1
    exact Int.neg_inj.mp h1
  · exact h1
end Plain
section Head
set_option maxRecDepth 100000 in
set_option maxHeartbeats 8000000 in
open_top hd for PySem.Challenge.rw_nt0159_01
end Head
theorem room0 {dp d n : Nat} (h : dp + d < n) : dp < n := Nat.lt_of_le_of_lt (Nat.le_add_right _ _) h
theorem room1 {dp d k n : Nat} (h : dp + d < n) (hk : 1 + k ≤ d) : dp + 1 + k < n := Nat.lt_of_le_of_lt (by rw [Nat.add_assoc]; exact Nat.add_le_add_left hk _) h
theorem room3 {un d k n : Nat} (h : un + 8 * d < n) (hk : 3 + 8 * k ≤ 8 * d) : un + 3 + 8 * k < n := Nat.lt_of_le_of_lt (by rw [Nat.add_assoc]; exact Nat.add_le_add_left hk _) h
local macro_rules | `(tactic| ktr_room) => `(tactic| first | exact room0 (by assumption) | exact room1 (by assumption) (by decide))
local macro_rules | `(tactic| ktr_units) => `(tactic| exact room3 (by assumption) (by decide))
local macro_rules | `(tactic| k_room) => `(tactic| ktr_room)
local macro_rules | `(tactic| units_room) => `(tactic| ktr_units)
local macro_rules | `(tactic| mul_fits) => `(tactic| assumption)
local macro_rules | `(tactic| k_all) => `(tactic| assumption)
local macro_rules | `(tactic| walk_at $s:str) => `(tactic| k_extra $s)
abbrev Led := List (Addr × Obj)
/-- an exact number over a ledger: top t by bottom b -/
inductive NumIn (news : Led) : Value → Int → Int → Prop
  | int {t : Int} {k : Tok} : NumIn news (.int t k) t 1
  | ratio {x dx : Addr} {t b : Int} {k1 k2 k3 k4 : Tok} {h1 h2 : Int} {n : Nat} : b ≠ 1 → (x, instObj 31 dx) ∈ news → (dx, dictOf [⟨h1, .str (Str.ofString "top") k1, .int t k2⟩, ⟨h2, .str (Str.ofString "bottom") k3, .int b k4⟩] n) ∈ news → NumIn news (.ref x) t b
theorem NumIn.mono {news news' : Led} {v : Value} {t b : Int} (h : NumIn news v t b) (s : ∀ p ∈ news, p ∈ news') : NumIn news' v t b := by
  cases h with
  | int => exact .int
  | ratio h0 h1 h2 => exact .ratio h0 (s _ h1) (s _ h2)
/-- what a call of the def at f does, from any state -/
def Does (w : World) (f : Addr) (d : Nat) (vs : List Value) (news : Led) (Out : Value → Led → Prop) : Prop :=
  ∀ (mean : ExcName → Option Value) (mg mb : Str → Option Value) (dp un : Nat) (gd : Option (List Code)) (cn : Str) (cs : Scope) (a : Addr) (ccd : Value) (cl : List (Str × Addr)) (outer : List Env) (A₀ : Around) (base h₀ : Heap) (L : Addr) (m : Str → Option Value) (s : Shared)
    (Q E : Value → Shared → Prop),
    Below A₀ base outer h₀ → Fr h₀ L s.heap m → (Nt.hd.heap_39 w.params).In h₀ → News h₀ L s.heap news → Top Nt.hd.view_39 (looseW Nt.hd.view_39 []) mean mg mb h₀ → cs.kind = .function → dp + d < recursionLimit → un + 8 * d < cLine →
    (∀ r news' h' tk', Fr h₀ L h' m → News h₀ L h' news' → Out r news' → Q r { s with heap := h', toks := tk' }) →
    wpAny (model PySem.Challenge.rw_nt0159_01.row.prog w) (ktrTop dp un gd cn cs L a ccd cl outer) (call (.ref f) vs) Q E s
abbrev OI (news : Led) (x : Int) : Value → Led → Prop := fun r news' => news' = news ∧ ∃ k, r = .int x k
abbrev OB (news : Led) (x : Bool) : Value → Led → Prop := fun r news' => news' = news ∧ r = .bool x
abbrev ON (news : Led) (t b : Int) : Value → Led → Prop := fun r news' => (∀ p ∈ news, p ∈ news') ∧ NumIn news' r t b
/-- as ON, and what is new lies above -/
abbrev OF (news : Led) (t b : Int) : Value → Led → Prop := fun r news' => ∃ tl, news' = tl ++ news ∧ (∀ p ∈ tl, ∀ q ∈ news, q.1 < p.1) ∧ NumIn tl r t b
theorem OF.toN {news news' : Led} {t b : Int} {r : Value} (h : OF news t b r news') : ON news t b r news' := by
  obtain ⟨tl, rfl, _, h⟩ := h
  exact ⟨fun p hp => List.mem_append.mpr (.inr hp), h.mono fun p hp => List.mem_append.mpr (.inl hp)⟩
theorem Does.weaken {w : World} {f : Addr} {d : Nat} {vs : List Value} {news : Led} {O O' : Value → Led → Prop} (h : Does w f d vs news O) (k : ∀ r n, O r n → O' r n) : Does w f d vs news O' :=
  fun _ _ _ _ _ _ _ _ _ _ _ _ _ _ _ _ _ _ _ _ B F X N T hk hd hu hret => h _ _ _ _ _ _ _ _ _ _ _ _ _ _ _ _ _ _ _ _ B F X N T hk hd hu (fun r n h' tk' F' N' o => hret r n h' tk' F' N' (k r n o))
set_option maxRecDepth 100000 in
set_option maxHeartbeats 8000000 in
theorem is_whole_does {w : World} {news : Led} {v : Value} {t b : Int} (hv : NumIn news v t b) : Does w 42 5 [v] news (OB news (decide (b = 1))) := by
  unfold Does
  k_fill
  w_top off
  k_with_none
  intro mean mg mb dp un gd cn cs a ccd cl outer A₀ base h₀ L m s Q E B F X N T hk hd hu hret
  cases hv
  all_goals (
    refine wpAny_call ?_
    k_dflt ktr_enter
    k_steps)
  · exact hret _ _ _ _ (by k_asm) (by k_asm) ⟨rfl, rfl⟩
  · exact hret _ _ _ _ (by k_asm) (by k_asm) ⟨rfl, by rw [decide_eq_false (by assumption)]⟩
set_option maxRecDepth 100000 in
set_option maxHeartbeats 8000000 in
theorem top_of_does {w : World} {news : Led} {v : Value} {t b : Int} (hv : NumIn news v t b) : Does w 56 5 [v] news (OI news t) := by
  unfold Does
  k_fill
  w_top off
  k_with_none
  intro mean mg mb dp un gd cn cs a ccd cl outer A₀ base h₀ L m s Q E B F X N T hk hd hu hret
  cases hv
  all_goals (
    refine wpAny_call ?_
    k_dflt ktr_enter
    k_steps)
  all_goals exact hret _ _ _ _ (by k_asm) (by k_asm) ⟨rfl, _, rfl⟩
set_option maxRecDepth 100000 in
set_option maxHeartbeats 8000000 in
theorem bottom_of_does {w : World} {news : Led} {v : Value} {t b : Int} (hv : NumIn news v t b) : Does w 63 5 [v] news (OI news b) := by
  unfold Does
  k_fill
  w_top off
  k_with_none
  intro mean mg mb dp un gd cn cs a ccd cl outer A₀ base h₀ L m s Q E B F X N T hk hd hu hret
  cases hv
  all_goals (
    refine wpAny_call ?_
    k_dflt ktr_enter
    k_steps)
  all_goals exact hret _ _ _ _ (by k_asm) (by k_asm) ⟨rfl, _, rfl⟩
theorem OF.ofInt {news : Led} {t b : Int} {k : Tok} (h : b = 1) : OF news t b (.int t k) news := ⟨[], rfl, (fun _ h => nomatch h), h ▸ .int⟩
theorem OF.ofRatio {news : Led} {x dx : Addr} {t b : Int} {k1 k2 k3 k4 : Tok} {h1 h2 : Int} {n : Nat} (hb : b ≠ 1) (l1 : ∀ p ∈ news, p.1 < dx) (l2 : @LT.lt Nat _ dx x) :
    OF news t b (.ref x) ((x, instObj 31 dx) :: (dx, dictOf [⟨h1, .str (Str.ofString "top") k1, .int t k2⟩, ⟨h2, .str (Str.ofString "bottom") k3, .int b k4⟩] n) :: news) := by
  refine ⟨[_, _], rfl, fun p hp q hq => ?_, .ratio hb (.head _) (.tail _ (.head _))⟩
  have h := l1 q hq
  rcases List.mem_cons.mp hp with rfl | hp
  · exact Nat.lt_trans h l2
  · rw [List.mem_singleton.mp hp]; exact h
set_option maxRecDepth 100000 in
set_option maxHeartbeats 8000000 in
theorem made_does {w : World} {news : Led} {t b : Int} {k1 k2 : Tok} : Does w 84 5 [.int t k1, .int b k2] news (OF news t b) := by
  unfold Does
  k_fill
  w_top off
  k_with_none
  intro mean mg mb dp un gd cn cs a ccd cl outer A₀ base h₀ L m s Q E B F X N T hk hd hu hret
  refine wpAny_call ?_
  k_dflt ktr_enter
  k_steps
  · exact hret _ _ _ _ (by k_asm) (by k_asm) (OF.ofInt (by assumption))
  · exact hret _ _ _ _ (by k_asm) (by k_asm) (OF.ofRatio (by assumption) (by assumption) (by assumption))
/-- a turn's end: the state goes on as c', the ledger and the names that count -/
def WEnd {σ : Type} (h₀ : Heap) (L : Addr) (s : Shared) (Led : σ → Led) (ps : σ → List (Str × Value)) (P : σ → Prop) (μ : σ → Nat) (c : σ) (s₂ : Shared) : Prop :=
  ∃ (c' : σ) (h' : Heap) (tk : Nat) (m' : Str → Option Value) (news' : List (Addr × Obj)), s₂ = { s with heap := h', toks := tk } ∧ Fr h₀ L h' m' ∧ News h₀ L h' news' ∧ (∀ p ∈ Led c', p ∈ news') ∧ (∀ p ∈ ps c', m' p.1 = some p.2) ∧ P c' ∧ μ c' < μ c
def WPost {σ : Type} (h₀ : Heap) (L : Addr) (s : Shared) (Led : σ → Led) (ps : σ → List (Str × Value)) (P : σ → Prop) (μ : σ → Nat) (Q : Flow → Shared → Prop) (c : σ) (f : Flow) (s₂ : Shared) : Prop :=
  match f with
  | .next | .cont => WEnd h₀ L s Led ps P μ c s₂
  | .brk => Q .next s₂
  | .ret v => Q (.ret v) s₂
theorem wEnd {σ : Type} {h₀ : Heap} {L : Addr} {s : Shared} {led : σ → Led} {ps : σ → List (Str × Value)} {P : σ → Prop} {μ : σ → Nat} {Q : Flow → Shared → Prop} {c : σ} {h' : Heap} {tk : Nat} {m' : Str → Option Value} {news' : Led} (c' : σ)
    (F : Fr h₀ L h' m') (N : News h₀ L h' news') (hl : ∀ p ∈ led c', p ∈ news') (hm : ∀ p ∈ ps c', m' p.1 = some p.2) (hp : P c') (hμ : μ c' < μ c) :
    WPost h₀ L s led ps P μ Q c .next { s with heap := h', toks := tk } := ⟨c', h', tk, m', news', rfl, F, N, hl, hm, hp, hμ⟩
theorem nt_while {prog : Program} {w : World} {A : Around} {E : Value → Shared → Prop} {Q : Flow → Shared → Prop} {s : Shared} {env : Env} {h₀ : Heap} {L : Addr} {σ : Type} {test : Expr} {body : List Stmt} {pos : Pos} {m₀ : Str → Option Value} {news : Led}
    (led : σ → Led) (ps : σ → List (Str × Value)) (P : σ → Prop) (μ : σ → Nat) (c₀ : σ) (F : Fr h₀ L s.heap m₀) (N : News h₀ L s.heap news) (hl : ∀ p ∈ led c₀, p ∈ news) (hm : ∀ p ∈ ps c₀, m₀ p.1 = some p.2) (hp : P c₀)
    (turn : ∀ (c : σ) (u : Str → Option Value) (h : Heap) (tk : Nat), P c → Fr h₀ L h (kstB u (ps c)) → News h₀ L h (led c) →
      wpAny (model prog w) A (isTrue test env (eval test env)) (fun b s₂ => if b = true then wpAny (model prog w) A (execs body env) (WPost h₀ L s led ps P μ Q c) E s₂ else Q .next s₂) E { s with heap := h, toks := tk })
    (hE : PassesOwn (model prog w) A env E := by passes_own) :
    wpAny (model prog w) A (exec (.While test body [] pos) env) Q E s := by
  refine While_inv2 (fun n m nx => ∃ c : σ, μ c = n ∧ P c ∧ (∀ p ∈ led c, p ∈ nx) ∧ ∀ p ∈ ps c, m p.1 = some p.2) F N ⟨c₀, rfl, hp, hl, hm⟩ ?_ hE
  rintro n m₁ nx h tk F₁ N₁ ⟨c, hn, hP, hl₁, hm₁⟩
  have e : kstB m₁ (ps c) = m₁ := funext fun y => kstB_eq hm₁ fun _ => rfl
  refine wpAny_mono (turn c m₁ h tk hP (e.symm ▸ F₁) (fun p hp => N₁ p (hl₁ p hp))) (fun b s₂ q => ?_) fun _ _ x => x
  cases b with
  | false => exact q
  | true =>
    refine wpAny_mono q (fun f s₃ r => ?_) fun _ _ x => x
    cases f with
    | ret v => exact r
    | brk => exact r
    | next =>
      obtain ⟨c', h', tk', m', news', e', F', N', hl', hm', hP', hμ⟩ := r
      exact ⟨h', tk', m', news', μ c', e', F', N', hn ▸ hμ, c', rfl, hP', hl', hm'⟩
    | cont =>
      obtain ⟨c', h', tk', m', news', e', F', N', hl', hm', hP', hμ⟩ := r
      exact ⟨h', tk', m', news', μ c', e', F', N', hn ▸ hμ, c', rfl, hP', hl', hm'⟩
theorem ps1 {m : Str → Option Value} {a : Str} {v : Value} (h : m a = some v) : ∀ p ∈ [(a, v)], m p.1 = some p.2 := List.forall_mem_cons.mpr ⟨h, List.forall_mem_nil _⟩
theorem ps2 {m : Str → Option Value} {a b : Str} {v u : Value} (h : m a = some v) (k : m b = some u) : ∀ p ∈ [(a, v), (b, u)], m p.1 = some p.2 := List.forall_mem_cons.mpr ⟨h, ps1 k⟩
theorem gcd_abs_abs (a b : Int) : Int.gcd (if a < 0 then -a else a) (if b < 0 then -b else b) = Int.gcd a b := by
  split <;> split <;> simp only [Int.neg_gcd, Int.gcd_neg]
theorem gcd_emod (x y : Int) : Int.gcd (x % y) y = Int.gcd x y := by
  have h := Int.gcd_add_mul_left_left y (x % y) (x / y)
  rw [Int.emod_add_mul_ediv] at h
  exact h.symm
theorem gcd_fmod_step {x y : Int} (hy : 0 ≤ y) : Int.gcd y (x.fmod y) = Int.gcd x y := by
  rw [Int.fmod_eq_emod_of_nonneg _ hy, Int.gcd_comm y, gcd_emod]
theorem fmod_range {x y : Int} (hy : 0 ≤ y) (h : y ≠ 0) : 0 ≤ x.fmod y ∧ x.fmod y < y := by
  rw [Int.fmod_eq_emod_of_nonneg _ hy]
  exact ⟨Int.emod_nonneg _ h, Int.emod_lt_of_pos _ (by omega)⟩
theorem led_drop {h₀ h : Heap} {L : Addr} {news news' : Led} (N : News h₀ L h news') (hs : ∀ p ∈ news, p ∈ news') : News h₀ L h news := fun p hp => N p (hs p hp)
set_option maxRecDepth 100000 in
set_option maxHeartbeats 8000000 in
theorem gcd_of_does {w : World} {news : Led} {a b : Int} {k1 k2 : Tok} : Does w 70 5 [.int a k1, .int b k2] news (OI news (Int.gcd a b)) := by
  unfold Does
  k_fill
  w_top off
  k_with_none
  intro mean mg mb dp un gd cn cs ad ccd cl outer A₀ base h₀ L m s Q E B F X N T hk hd hu hret
  refine wpAny_call ?_
  k_dflt ktr_enter
  repeat' (first | ((fail_if_success (with_reducible show wpAny _ _ (exec (Stmt.While _ _ _ _) _) _ _ _)); first | (k_unfold; (try dsimp only)) | walk1 | (dsimp only; walk1)))
  k_dflt (refine' nt_while (σ := Int × Int × Tok × Tok) (fun _ => news) (fun c => [(Str.ofString "one", .int c.1 c.2.2.1), (Str.ofString "other", .int c.2.1 c.2.2.2)]) (fun c => 0 ≤ c.1 ∧ 0 ≤ c.2.1 ∧ Int.gcd c.1 c.2.1 = Int.gcd a b) (fun c => c.2.1.natAbs) (if a < 0 then -a else a, if b < 0 then -b else b, _, _) (by assumption) (by assumption) (fun _ h => .tail _ h) (ps2 rfl rfl) ?hp ?turn)
  case hp => exact ⟨by dsimp only; split <;> omega, by dsimp only; split <;> omega, gcd_abs_abs a b⟩
  case turn =>
    rintro ⟨x, y, t1, t2⟩ u h tk hP F1 N1
    dsimp only at hP F1 ⊢
    obtain ⟨hx, hy, hg⟩ := hP
    k_steps
    · have hr := @fmod_range x y hy (by assumption)
      exact wEnd (y, x.fmod y, _, _) (by assumption) (by assumption) (fun _ h => .tail _ h) (ps2 rfl rfl) ⟨hy, hr.1, (gcd_fmod_step hy).trans hg⟩ (by dsimp only; omega)
    · have e : x = Int.gcd a b := by
        rw [← hg]
        have : y = 0 := by assumption
        subst this
        rw [Int.gcd_zero_right]; omega
      subst e
      exact hret _ _ _ _ (by k_asm) (by k_asm) ⟨rfl, _, rfl⟩
theorem fmod_gcd_left {x y : Int} (hy : 0 ≤ y) : Int.gcd (x.fmod y) y = Int.gcd x y := by
  rw [Int.fmod_eq_emod_of_nonneg _ hy, gcd_emod]
theorem fmod_gcd_right {x y : Int} (hx : 0 ≤ x) : Int.gcd x (y.fmod x) = Int.gcd x y := by
  rw [gcd_fmod_step hx, Int.gcd_comm]
set_option maxRecDepth 100000 in
set_option maxHeartbeats 8000000 in
theorem law_divisor_does {w : World} {news : Led} {a b : Int} {k1 k2 : Tok} (ha : 0 ≤ a) (hb : 0 ≤ b) : Does w 208 5 [.int a k1, .int b k2] news (OI news (Int.gcd a b)) := by
  unfold Does
  k_fill
  w_top off
  k_with_none
  intro mean mg mb dp un gd cn cs ad ccd cl outer A₀ base h₀ L m s Q E B F X N T hk hd hu hret
  refine wpAny_call ?_
  k_dflt ktr_enter
  repeat' (first | ((fail_if_success (with_reducible show wpAny _ _ (exec (Stmt.While _ _ _ _) _) _ _ _)); first | (k_unfold; (try dsimp only)) | walk1 | (dsimp only; walk1)))
  k_dflt (refine' nt_while (σ := Int × Int × Tok × Tok) (fun _ => news) (fun c => [(Str.ofString "one", .int c.1 c.2.2.1), (Str.ofString "other", .int c.2.1 c.2.2.2)]) (fun c => 0 ≤ c.1 ∧ 0 ≤ c.2.1 ∧ Int.gcd c.1 c.2.1 = Int.gcd a b) (fun c => c.1.natAbs + c.2.1.natAbs) (a, b, _, _) (by assumption) (by assumption) (fun _ h => h) (ps2 rfl rfl) ?hp ?turn)
  case hp => exact ⟨ha, hb, rfl⟩
  case turn =>
    rintro ⟨x, y, t1, t2⟩ u h tk hP F1 N1
    dsimp only at hP F1 ⊢
    obtain ⟨hx, hy, hg⟩ := hP
    k_steps
    · have hr := @fmod_range x y hy (by assumption)
      exact wEnd (x.fmod y, y, _, _) (by assumption) (by assumption) (fun _ h => .tail _ h) (ps2 rfl rfl) ⟨hr.1, hy, (fmod_gcd_left hy).trans hg⟩ (by dsimp only; omega)
    · have hr := @fmod_range y x hx (by assumption)
      exact wEnd (x, y.fmod x, _, _) (by assumption) (by assumption) (fun _ h => .tail _ h) (ps2 rfl rfl) ⟨hx, hr.1, (fmod_gcd_right hx).trans hg⟩ (by dsimp only; omega)
    all_goals (
      have e : x + y = Int.gcd a b := by
        rw [← hg]
        first
        | (have e0 : y = 0 := by assumption
           subst e0
           rw [Int.gcd_zero_right]; omega)
        | (have e0 : x = 0 := by assumption
           subst e0
           rw [Int.gcd_zero_left]; omega)
      rw [e]
      exact hret _ _ _ _ (by k_asm) (by k_asm) ⟨rfl, _, rfl⟩)
/-- the exact numbers at hand, over a ledger that has grown from base -/
structure Nums (base news : Led) (l : List (Value × Int × Int)) : Prop where
  sub : ∀ p ∈ base, p ∈ news
  num : ∀ v t b, (v, t, b) ∈ l → NumIn news v t b
theorem Nums.nil {news : Led} : Nums news news [] := ⟨fun _ h => h, fun _ _ _ h => nomatch h⟩
theorem Nums.cons {base news : Led} {l : List (Value × Int × Int)} {v : Value} {t b : Int} (h : NumIn news v t b) (k : Nums base news l) : Nums base news ((v, t, b) :: l) := ⟨k.sub, fun v' t' b' hm => by
  cases hm with
  | head => exact h
  | tail _ hm => exact k.num _ _ _ hm⟩
theorem Nums.mono {base news news' : Led} {l : List (Value × Int × Int)} (h : Nums base news l) (s : ∀ p ∈ news, p ∈ news') : Nums base news' l := ⟨fun p hp => s p (h.sub p hp), fun v t b hm => (h.num v t b hm).mono s⟩
theorem Nums.get {base news : Led} {l : List (Value × Int × Int)} {v : Value} {t b : Int} (h : Nums base news l) (m : (v, t, b) ∈ l) : NumIn news v t b := h.num _ _ _ m
theorem Nums.out {base news : Led} {l : List (Value × Int × Int)} {v : Value} {t b : Int} (h : Nums base news l) (m : (v, t, b) ∈ l) : ON base t b v news := ⟨h.sub, h.num _ _ _ m⟩
theorem Nums.pick {bs news news' : Led} {l : List (Value × Int × Int)} {h₀ h : Heap} {L : Addr} (_ : Nums bs news l) (N : News h₀ L h news') (s : ∀ p ∈ news, p ∈ news') : News h₀ L h news := fun p hp => N p (s p hp)
/-- an int of at most k bits -/
def Sm (k : Nat) (x : Int) : Prop := x.natAbs < 2 ^ k
theorem Sm.le {j k : Nat} {x : Int} (h : Sm j x) (hk : j ≤ k) : Sm k x := Nat.lt_of_lt_of_le h (Nat.pow_le_pow_right (by decide) hk)
theorem Sm.mul {j k : Nat} {x y : Int} (h : Sm j x) (hk : Sm k y) : Sm (j + k) (x * y) := by
  unfold Sm; rw [Int.natAbs_mul, Nat.pow_add]; exact Nat.mul_lt_mul'' h hk
theorem Sm.add {k : Nat} {x y : Int} (h : Sm k x) (hk : Sm k y) : Sm (k + 1) (x + y) := by
  unfold Sm at *; rw [Nat.pow_succ]; have := Int.natAbs_add_le x y; omega
theorem Sm.sub {k : Nat} {x y : Int} (h : Sm k x) (hk : Sm k y) : Sm (k + 1) (x - y) := by
  unfold Sm at *; rw [Nat.pow_succ]; have := Int.natAbs_sub_le x y; omega
theorem Sm.of_natAbs_le {k : Nat} {x y : Int} (h : Sm k y) (hl : x.natAbs ≤ y.natAbs) : Sm k x := Nat.lt_of_le_of_lt hl h
theorem Sm.bits {k : Nat} {x : Int} (h : Sm k x) : Builtin.Int.intBits x ≤ k + 1 := by
  unfold Sm at h
  unfold Builtin.Int.intBits
  split
  · exact Nat.zero_le _
  · rename_i h0
    have h1 : x.natAbs ≠ 0 := fun e => h0 (by rw [Int.natAbs_eq_zero.mp e]; rfl)
    have := (Nat.log2_lt h1).mpr h
    omega
theorem Sm.ok {j k : Nat} {x y : Int} (h : Sm j x) (h' : Sm k y) (hj : j ≤ 100000) (hk : k ≤ 100000) : IntMulOk x y :=
  IntMulOk.of_bits (Nat.le_trans h.bits (Nat.le_trans (Nat.succ_le_succ hj) (by decide))) (Nat.le_trans h'.bits (Nat.le_trans (Nat.succ_le_succ hk) (by decide)))
theorem gcd_cast_ne {a b : Int} (h : a ≠ 0 ∨ b ≠ 0) : ((Int.gcd a b : Nat) : Int) ≠ 0 := by
  intro e
  have := Int.gcd_eq_zero_iff.mp (Int.ofNat_eq_zero.mp e)
  omega
theorem gcd_cast_pos {a b : Int} (h : a ≠ 0 ∨ b ≠ 0) : 0 < ((Int.gcd a b : Nat) : Int) := by
  have := gcd_cast_ne h
  omega
theorem Sm.gcd {k : Nat} {a b : Int} (ha : Sm k a) (hb : Sm k b) : Sm k ((Int.gcd a b : Nat) : Int) := by
  unfold Sm at *
  rw [Int.natAbs_natCast]
  by_cases h : a = 0
  · subst h; rw [Int.gcd_zero_left]; exact hb
  · exact Nat.lt_of_le_of_lt (Nat.le_of_dvd (Int.natAbs_pos.mpr h) (Int.gcd_dvd_natAbs_left a b)) ha
theorem Sm.abs {k : Nat} {a : Int} (ha : Sm k a) : Sm k (if a < 0 then -a else a) := by
  unfold Sm at *
  split <;> omega
theorem Sm.fdiv {k : Nat} {a b : Int} (ha : Sm k a) (hb : 0 ≤ b) : Sm k (a.fdiv b) := by
  refine ha.of_natAbs_le ?_
  rw [Int.fdiv_eq_ediv_of_nonneg _ hb]
  exact Int.natAbs_ediv_le_natAbs a b
/-- a divisor that the machine's own division takes -/
def Dv (y : Int) : Prop := y ≠ 0 ∧ y.natAbs.log2 < 9000
theorem Dv.of {k : Nat} {y : Int} (h : Sm k y) (hk : k ≤ 9000) (h0 : y ≠ 0) : Dv y :=
  ⟨h0, Nat.lt_of_lt_of_le ((Nat.log2_lt (by omega)).mpr h) hk⟩
theorem floordiv_dv {prog : Program} {w : World} {A : Around} {E : Value → Shared → Prop} {s : Shared} {a b : Int} {t u : Tok} {Q : Value → Shared → Prop} (hd : Dv b) (h : Q (.int (a.fdiv b) s.toks) { s with toks := s.toks + 1 }) :
    wpAny (model prog w) A (binaryOp .FloorDiv (.int a t) (.int b u)) Q E s := floordiv_int hd.1 h (Or.inl (PyProof.noPylong_of_log2 hd.2))
theorem divmod_dv {prog : Program} {w : World} {A : Around} {E : Value → Shared → Prop} {s : Shared} {a b : Int} {t u : Tok} {Q : Value → Shared → Prop} {h₀ : Heap} {L : Addr} {m : Str → Option Value} {news : Led} (hd : Dv b) (F : Fr h₀ L s.heap m) (N : News h₀ L s.heap news)
    (h : ∀ h', Fr h₀ L h' m → News h₀ L h' ((s.heap.objs.size, { cls := .type "tuple", data := .seq #[.int (a.fdiv b) s.toks, .int (a.fmod b) (s.toks + 1)] }) :: news) → Q (.ref s.heap.objs.size) { s with toks := s.toks + 1 + 1, heap := h' }) :
    wpAny (model prog w) A (call (.builtin "divmod") [.int a t, .int b u]) Q E s := divmod_N F N hd.1 h (Or.inl (PyProof.noPylong_of_log2 hd.2))
/-- the caller, as the walk knows it -/
structure Caller (w : World) (mean : ExcName → Option Value) (mg mb : Str → Option Value) (cs : Scope) (outer : List Env) (A₀ : Around) (base h₀ : Heap) (L : Addr) (m : Str → Option Value) (s : Shared) (news : Led) : Prop where
  F : Fr h₀ L s.heap m
  N : News h₀ L s.heap news
  B : Below A₀ base outer h₀
  X : (Nt.hd.heap_39 w.params).In h₀
  T : Top Nt.hd.view_39 (looseW Nt.hd.view_39 []) mean mg mb h₀
  hk : cs.kind = .function
theorem callI {w : World} {f : Addr} {d : Nat} {vs : List Value} {news : Led} {mean : ExcName → Option Value} {mg mb : Str → Option Value} {dp un : Nat} {gd : Option (List Code)} {cn : Str} {cs : Scope} {a : Addr} {ccd : Value} {cl : List (Str × Addr)} {outer : List Env} {A₀ : Around} {base h₀ : Heap} {L : Addr} {m : Str → Option Value} {s : Shared} {Q E : Value → Shared → Prop} {x : Int}
    (K : Caller w mean mg mb cs outer A₀ base h₀ L m s news) (C : Does w f d vs news (OI news x)) (hd : dp + d < recursionLimit) (hu : un + 8 * d < cLine)
    (ret : ∀ k h' tk', Fr h₀ L h' m → News h₀ L h' news → Q (.int x k) { s with heap := h', toks := tk' }) :
    wpAny (model PySem.Challenge.rw_nt0159_01.row.prog w) (ktrTop dp un gd cn cs L a ccd cl outer) (call (.ref f) vs) Q E s :=
  C _ _ _ _ _ _ _ _ _ _ _ _ _ _ _ _ _ _ _ _ K.B K.F K.X K.N K.T K.hk hd hu (by rintro r news' h' tk' F' N' ⟨rfl, k, rfl⟩; exact ret _ _ _ F' N')
theorem callB {w : World} {f : Addr} {d : Nat} {vs : List Value} {news : Led} {mean : ExcName → Option Value} {mg mb : Str → Option Value} {dp un : Nat} {gd : Option (List Code)} {cn : Str} {cs : Scope} {a : Addr} {ccd : Value} {cl : List (Str × Addr)} {outer : List Env} {A₀ : Around} {base h₀ : Heap} {L : Addr} {m : Str → Option Value} {s : Shared} {Q E : Value → Shared → Prop} {x : Bool}
    (K : Caller w mean mg mb cs outer A₀ base h₀ L m s news) (C : Does w f d vs news (OB news x)) (hd : dp + d < recursionLimit) (hu : un + 8 * d < cLine)
    (ret : ∀ h' tk', Fr h₀ L h' m → News h₀ L h' news → Q (.bool x) { s with heap := h', toks := tk' }) :
    wpAny (model PySem.Challenge.rw_nt0159_01.row.prog w) (ktrTop dp un gd cn cs L a ccd cl outer) (call (.ref f) vs) Q E s :=
  C _ _ _ _ _ _ _ _ _ _ _ _ _ _ _ _ _ _ _ _ K.B K.F K.X K.N K.T K.hk hd hu (by rintro r news' h' tk' F' N' ⟨rfl, rfl⟩; exact ret _ _ F' N')
theorem callN {w : World} {f : Addr} {d : Nat} {vs : List Value} {news : Led} {mean : ExcName → Option Value} {mg mb : Str → Option Value} {dp un : Nat} {gd : Option (List Code)} {cn : Str} {cs : Scope} {a : Addr} {ccd : Value} {cl : List (Str × Addr)} {outer : List Env} {A₀ : Around} {base h₀ : Heap} {L : Addr} {m : Str → Option Value} {s : Shared} {Q E : Value → Shared → Prop} {bs : Led} {t b : Int} {l : List (Value × Int × Int)}
    (K : Caller w mean mg mb cs outer A₀ base h₀ L m s news) (C : Does w f d vs news (ON news t b)) (H : Nums bs news l) (hd : dp + d < recursionLimit) (hu : un + 8 * d < cLine)
    (ret : ∀ r news' h' tk', Fr h₀ L h' m → News h₀ L h' news' → Nums bs news' ((r, t, b) :: l) → Q r { s with heap := h', toks := tk' }) :
    wpAny (model PySem.Challenge.rw_nt0159_01.row.prog w) (ktrTop dp un gd cn cs L a ccd cl outer) (call (.ref f) vs) Q E s :=
  C _ _ _ _ _ _ _ _ _ _ _ _ _ _ _ _ _ _ _ _ K.B K.F K.X K.N K.T K.hk hd hu (fun r news' h' tk' F' N' o => ret _ _ _ _ F' N' (Nums.cons o.2 (H.mono o.1)))
theorem callF {w : World} {f : Addr} {d : Nat} {vs : List Value} {news : Led} {mean : ExcName → Option Value} {mg mb : Str → Option Value} {dp un : Nat} {gd : Option (List Code)} {cn : Str} {cs : Scope} {a : Addr} {ccd : Value} {cl : List (Str × Addr)} {outer : List Env} {A₀ : Around} {base h₀ : Heap} {L : Addr} {m : Str → Option Value} {s : Shared} {Q E : Value → Shared → Prop} {O : Value → Led → Prop}
    (K : Caller w mean mg mb cs outer A₀ base h₀ L m s news) (C : Does w f d vs news O) (hd : dp + d < recursionLimit) (hu : un + 8 * d < cLine)
    (ret : ∀ r news' h' tk', Fr h₀ L h' m → News h₀ L h' news' → O r news' → Q r { s with heap := h', toks := tk' }) :
    wpAny (model PySem.Challenge.rw_nt0159_01.row.prog w) (ktrTop dp un gd cn cs L a ccd cl outer) (call (.ref f) vs) Q E s :=
  C _ _ _ _ _ _ _ _ _ _ _ _ _ _ _ _ _ _ _ _ K.B K.F K.X K.N K.T K.hk hd hu ret
set_option maxRecDepth 100000 in
set_option maxHeartbeats 8000000 in
theorem lcm_of_does {w : World} {news : Led} {a b : Int} {k1 k2 : Tok} (ha : Sm 4000 a) (hb : Sm 4000 b) :
    Does w 77 10 [.int a k1, .int b k2] news (OI news (if a = 0 ∨ b = 0 then 0 else (if a < 0 then -a else a).fdiv (Int.gcd a b) * (if b < 0 then -b else b))) := by
  unfold Does
  k_fill
  w_top off
  k_with_none
  k_with "binaryOp FloorDiv int int" => (with_reducible refine floordiv_dv (by assumption) ?_)
  k_with "call builtin:divmod" => (k_here; (with_reducible show wpAny _ _ (call (Value.builtin _) [Value.int _ _, Value.int _ _]) _ _ _); refine divmod_dv (by assumption) (by assumption) (by assumption) ?_; intro _ _ _)
  k_with "call ref" => (k_here; (k_dflt (first | (refine callI (by exact ⟨by k_asm, (by first | exact Nums.pick (by assumption) (by assumption) (by first | exact fun _ h => h | exact fun _ h => .tail _ h | exact fun _ h => .tail _ (.tail _ h)) | k_asm), by k_asm, by k_asm, by k_asm, by first | exact rfl | assumption⟩) (by first | exact gcd_of_does | exact top_of_does (by first | assumption | exact Nums.get (by assumption) (by k_mem)) | exact bottom_of_does (by first | assumption | exact Nums.get (by assumption) (by k_mem)) | exact is_whole_does (by first | assumption | exact Nums.get (by assumption) (by k_mem)) | exact made_does.weaken (fun _ _ => OF.toN)) (by ktr_room) (by ktr_units) ?_; intro k9 h9 tk9 F9 N9) | (refine callB (by exact ⟨by k_asm, (by first | exact Nums.pick (by assumption) (by assumption) (by first | exact fun _ h => h | exact fun _ h => .tail _ h | exact fun _ h => .tail _ (.tail _ h)) | k_asm), by k_asm, by k_asm, by k_asm, by first | exact rfl | assumption⟩) (by first | exact gcd_of_does | exact top_of_does (by first | assumption | exact Nums.get (by assumption) (by k_mem)) | exact bottom_of_does (by first | assumption | exact Nums.get (by assumption) (by k_mem)) | exact is_whole_does (by first | assumption | exact Nums.get (by assumption) (by k_mem)) | exact made_does.weaken (fun _ _ => OF.toN)) (by ktr_room) (by ktr_units) ?_; intro h9 tk9 F9 N9) | (refine callN (by exact ⟨by k_asm, (by first | exact Nums.pick (by assumption) (by assumption) (by first | exact fun _ h => h | exact fun _ h => .tail _ h | exact fun _ h => .tail _ (.tail _ h)) | k_asm), by k_asm, by k_asm, by k_asm, by first | exact rfl | assumption⟩) (by first | exact gcd_of_does | exact top_of_does (by first | assumption | exact Nums.get (by assumption) (by k_mem)) | exact bottom_of_does (by first | assumption | exact Nums.get (by assumption) (by k_mem)) | exact is_whole_does (by first | assumption | exact Nums.get (by assumption) (by k_mem)) | exact made_does.weaken (fun _ _ => OF.toN)) (by first | assumption | exact Nums.nil) (by ktr_room) (by ktr_units) ?_; intro r9 n9 h9 tk9 F9 N9 H9))); (try dsimp only); (try k_fold))
  intro mean mg mb dp un gd cn cs ad ccd cl outer A₀ base h₀ L m s Q E B F X N T hk hd hu hret
  by_cases h0 : a = 0 ∨ b = 0
  · refine wpAny_call ?_
    k_dflt ktr_enter
    k_steps
    all_goals first | exact hret _ _ _ _ (by k_asm) (by k_asm) ⟨rfl, _, by rw [if_pos h0]⟩ | (exfalso; omega)
  · have hg : a ≠ 0 ∨ b ≠ 0 := by omega
    have hd1 := Dv.of (Sm.gcd ha hb) (by decide) (gcd_cast_ne hg)
    have hm : IntMulOk ((if a < 0 then -a else a).fdiv (Int.gcd a b)) (if b < 0 then -b else b) := Sm.ok (Sm.fdiv ha.abs (Int.natCast_nonneg _)) hb.abs (by decide) (by decide)
    refine wpAny_call ?_
    k_dflt ktr_enter
    k_steps
    all_goals first | exact hret _ _ _ _ (by k_asm) (by k_asm) ⟨rfl, _, by rw [if_neg h0]⟩ | (exfalso; omega)
set_option maxRecDepth 100000 in
set_option maxHeartbeats 8000000 in
theorem negate_does {w : World} {news : Led} {v : Value} {t b : Int} (hv : NumIn news v t b) : Does w 105 10 [v] news (ON news (0 - t) b) := by
  unfold Does
  k_fill
  w_top off
  k_with_none
  k_with "binaryOp FloorDiv int int" => (with_reducible refine floordiv_dv (by assumption) ?_)
  k_with "call builtin:divmod" => (k_here; (with_reducible show wpAny _ _ (call (Value.builtin _) [Value.int _ _, Value.int _ _]) _ _ _); refine divmod_dv (by assumption) (by assumption) (by assumption) ?_; intro _ _ _)
  k_with "call ref" => (k_here; (k_dflt (first | (refine callI (by exact ⟨by k_asm, (by first | exact Nums.pick (by assumption) (by assumption) (by first | exact fun _ h => h | exact fun _ h => .tail _ h | exact fun _ h => .tail _ (.tail _ h)) | k_asm), by k_asm, by k_asm, by k_asm, by first | exact rfl | assumption⟩) (by first | exact gcd_of_does | exact top_of_does (by first | assumption | exact Nums.get (by assumption) (by k_mem)) | exact bottom_of_does (by first | assumption | exact Nums.get (by assumption) (by k_mem)) | exact is_whole_does (by first | assumption | exact Nums.get (by assumption) (by k_mem)) | exact made_does.weaken (fun _ _ => OF.toN)) (by ktr_room) (by ktr_units) ?_; intro k9 h9 tk9 F9 N9) | (refine callB (by exact ⟨by k_asm, (by first | exact Nums.pick (by assumption) (by assumption) (by first | exact fun _ h => h | exact fun _ h => .tail _ h | exact fun _ h => .tail _ (.tail _ h)) | k_asm), by k_asm, by k_asm, by k_asm, by first | exact rfl | assumption⟩) (by first | exact gcd_of_does | exact top_of_does (by first | assumption | exact Nums.get (by assumption) (by k_mem)) | exact bottom_of_does (by first | assumption | exact Nums.get (by assumption) (by k_mem)) | exact is_whole_does (by first | assumption | exact Nums.get (by assumption) (by k_mem)) | exact made_does.weaken (fun _ _ => OF.toN)) (by ktr_room) (by ktr_units) ?_; intro h9 tk9 F9 N9) | (refine callN (by exact ⟨by k_asm, (by first | exact Nums.pick (by assumption) (by assumption) (by first | exact fun _ h => h | exact fun _ h => .tail _ h | exact fun _ h => .tail _ (.tail _ h)) | k_asm), by k_asm, by k_asm, by k_asm, by first | exact rfl | assumption⟩) (by first | exact gcd_of_does | exact top_of_does (by first | assumption | exact Nums.get (by assumption) (by k_mem)) | exact bottom_of_does (by first | assumption | exact Nums.get (by assumption) (by k_mem)) | exact is_whole_does (by first | assumption | exact Nums.get (by assumption) (by k_mem)) | exact made_does.weaken (fun _ _ => OF.toN)) (by first | assumption | exact Nums.nil) (by ktr_room) (by ktr_units) ?_; intro r9 n9 h9 tk9 F9 N9 H9))); (try dsimp only); (try k_fold))
  intro mean mg mb dp un gd cn cs ad ccd cl outer A₀ base h₀ L m s Q E B F X N T hk hd hu hret
  have H0 : Nums news news [(v, t, b)] := Nums.cons hv Nums.nil
  refine wpAny_call ?_
  k_dflt ktr_enter
  k_steps
  all_goals exact hret _ _ _ _ (by k_asm) (by k_asm) (Nums.out (by assumption) (by k_mem))
set_option maxRecDepth 100000 in
set_option maxHeartbeats 8000000 in
theorem sign_does {w : World} {news : Led} {v : Value} {t b : Int} (hv : NumIn news v t b) : Does w 98 10 [v] news (OI news (b2i (decide (0 < t)) - b2i (decide (t < 0)))) := by
  unfold Does
  k_fill
  w_top off
  k_with_none
  k_with "binaryOp FloorDiv int int" => (with_reducible refine floordiv_dv (by assumption) ?_)
  k_with "call builtin:divmod" => (k_here; (with_reducible show wpAny _ _ (call (Value.builtin _) [Value.int _ _, Value.int _ _]) _ _ _); refine divmod_dv (by assumption) (by assumption) (by assumption) ?_; intro _ _ _)
  k_with "call ref" => (k_here; (k_dflt (first | (refine callI (by exact ⟨by k_asm, (by first | exact Nums.pick (by assumption) (by assumption) (by first | exact fun _ h => h | exact fun _ h => .tail _ h | exact fun _ h => .tail _ (.tail _ h)) | k_asm), by k_asm, by k_asm, by k_asm, by first | exact rfl | assumption⟩) (by first | exact gcd_of_does | exact top_of_does (by first | assumption | exact Nums.get (by assumption) (by k_mem)) | exact bottom_of_does (by first | assumption | exact Nums.get (by assumption) (by k_mem)) | exact is_whole_does (by first | assumption | exact Nums.get (by assumption) (by k_mem)) | exact made_does.weaken (fun _ _ => OF.toN)) (by ktr_room) (by ktr_units) ?_; intro k9 h9 tk9 F9 N9) | (refine callB (by exact ⟨by k_asm, (by first | exact Nums.pick (by assumption) (by assumption) (by first | exact fun _ h => h | exact fun _ h => .tail _ h | exact fun _ h => .tail _ (.tail _ h)) | k_asm), by k_asm, by k_asm, by k_asm, by first | exact rfl | assumption⟩) (by first | exact gcd_of_does | exact top_of_does (by first | assumption | exact Nums.get (by assumption) (by k_mem)) | exact bottom_of_does (by first | assumption | exact Nums.get (by assumption) (by k_mem)) | exact is_whole_does (by first | assumption | exact Nums.get (by assumption) (by k_mem)) | exact made_does.weaken (fun _ _ => OF.toN)) (by ktr_room) (by ktr_units) ?_; intro h9 tk9 F9 N9) | (refine callN (by exact ⟨by k_asm, (by first | exact Nums.pick (by assumption) (by assumption) (by first | exact fun _ h => h | exact fun _ h => .tail _ h | exact fun _ h => .tail _ (.tail _ h)) | k_asm), by k_asm, by k_asm, by k_asm, by first | exact rfl | assumption⟩) (by first | exact gcd_of_does | exact top_of_does (by first | assumption | exact Nums.get (by assumption) (by k_mem)) | exact bottom_of_does (by first | assumption | exact Nums.get (by assumption) (by k_mem)) | exact is_whole_does (by first | assumption | exact Nums.get (by assumption) (by k_mem)) | exact made_does.weaken (fun _ _ => OF.toN)) (by first | assumption | exact Nums.nil) (by ktr_room) (by ktr_units) ?_; intro r9 n9 h9 tk9 F9 N9 H9))); (try dsimp only); (try k_fold))
  intro mean mg mb dp un gd cn cs ad ccd cl outer A₀ base h₀ L m s Q E B F X N T hk hd hu hret
  have H0 : Nums news news [(v, t, b)] := Nums.cons hv Nums.nil
  refine wpAny_call ?_
  k_dflt ktr_enter
  k_steps
  all_goals exact hret _ _ _ _ (by k_asm) (by k_asm) ⟨rfl, _, rfl⟩
set_option maxRecDepth 100000 in
set_option maxHeartbeats 8000000 in
theorem magnitude_does {w : World} {news : Led} {v : Value} {t b : Int} (hv : NumIn news v t b) : Does w 112 10 [v] news (ON news (if t < 0 then -t else t) b) := by
  unfold Does
  k_fill
  w_top off
  k_with_none
  k_with "binaryOp FloorDiv int int" => (with_reducible refine floordiv_dv (by assumption) ?_)
  k_with "call builtin:divmod" => (k_here; (with_reducible show wpAny _ _ (call (Value.builtin _) [Value.int _ _, Value.int _ _]) _ _ _); refine divmod_dv (by assumption) (by assumption) (by assumption) ?_; intro _ _ _)
  k_with "call ref" => (k_here; (k_dflt (first | (refine callI (by exact ⟨by k_asm, (by first | exact Nums.pick (by assumption) (by assumption) (by first | exact fun _ h => h | exact fun _ h => .tail _ h | exact fun _ h => .tail _ (.tail _ h)) | k_asm), by k_asm, by k_asm, by k_asm, by first | exact rfl | assumption⟩) (by first | exact gcd_of_does | exact top_of_does (by first | assumption | exact Nums.get (by assumption) (by k_mem)) | exact bottom_of_does (by first | assumption | exact Nums.get (by assumption) (by k_mem)) | exact is_whole_does (by first | assumption | exact Nums.get (by assumption) (by k_mem)) | exact made_does.weaken (fun _ _ => OF.toN)) (by ktr_room) (by ktr_units) ?_; intro k9 h9 tk9 F9 N9) | (refine callB (by exact ⟨by k_asm, (by first | exact Nums.pick (by assumption) (by assumption) (by first | exact fun _ h => h | exact fun _ h => .tail _ h | exact fun _ h => .tail _ (.tail _ h)) | k_asm), by k_asm, by k_asm, by k_asm, by first | exact rfl | assumption⟩) (by first | exact gcd_of_does | exact top_of_does (by first | assumption | exact Nums.get (by assumption) (by k_mem)) | exact bottom_of_does (by first | assumption | exact Nums.get (by assumption) (by k_mem)) | exact is_whole_does (by first | assumption | exact Nums.get (by assumption) (by k_mem)) | exact made_does.weaken (fun _ _ => OF.toN)) (by ktr_room) (by ktr_units) ?_; intro h9 tk9 F9 N9) | (refine callN (by exact ⟨by k_asm, (by first | exact Nums.pick (by assumption) (by assumption) (by first | exact fun _ h => h | exact fun _ h => .tail _ h | exact fun _ h => .tail _ (.tail _ h)) | k_asm), by k_asm, by k_asm, by k_asm, by first | exact rfl | assumption⟩) (by first | exact gcd_of_does | exact top_of_does (by first | assumption | exact Nums.get (by assumption) (by k_mem)) | exact bottom_of_does (by first | assumption | exact Nums.get (by assumption) (by k_mem)) | exact is_whole_does (by first | assumption | exact Nums.get (by assumption) (by k_mem)) | exact made_does.weaken (fun _ _ => OF.toN)) (by first | assumption | exact Nums.nil) (by ktr_room) (by ktr_units) ?_; intro r9 n9 h9 tk9 F9 N9 H9))); (try dsimp only); (try k_fold))
  intro mean mg mb dp un gd cn cs ad ccd cl outer A₀ base h₀ L m s Q E B F X N T hk hd hu hret
  have H0 : Nums news news [(v, t, b)] := Nums.cons hv Nums.nil
  refine wpAny_call ?_
  k_dflt ktr_enter
  k_steps
  all_goals exact hret _ _ _ _ (by k_asm) (by k_asm) (Nums.out (by assumption) (by k_mem))
set_option maxRecDepth 100000 in
set_option maxHeartbeats 8000000 in
theorem reciprocal_does {w : World} {news : Led} {v : Value} {t b : Int} (hv : NumIn news v t b) : Does w 140 10 [v] news (ON news (if t < 0 then 0 - b else b) (if t < 0 then 0 - t else t)) := by
  unfold Does
  k_fill
  w_top off
  k_with_none
  k_with "binaryOp FloorDiv int int" => (with_reducible refine floordiv_dv (by assumption) ?_)
  k_with "call builtin:divmod" => (k_here; (with_reducible show wpAny _ _ (call (Value.builtin _) [Value.int _ _, Value.int _ _]) _ _ _); refine divmod_dv (by assumption) (by assumption) (by assumption) ?_; intro _ _ _)
  k_with "call ref" => (k_here; (k_dflt (first | (refine callI (by exact ⟨by k_asm, (by first | exact Nums.pick (by assumption) (by assumption) (by first | exact fun _ h => h | exact fun _ h => .tail _ h | exact fun _ h => .tail _ (.tail _ h)) | k_asm), by k_asm, by k_asm, by k_asm, by first | exact rfl | assumption⟩) (by first | exact gcd_of_does | exact top_of_does (by first | assumption | exact Nums.get (by assumption) (by k_mem)) | exact bottom_of_does (by first | assumption | exact Nums.get (by assumption) (by k_mem)) | exact is_whole_does (by first | assumption | exact Nums.get (by assumption) (by k_mem)) | exact made_does.weaken (fun _ _ => OF.toN)) (by ktr_room) (by ktr_units) ?_; intro k9 h9 tk9 F9 N9) | (refine callB (by exact ⟨by k_asm, (by first | exact Nums.pick (by assumption) (by assumption) (by first | exact fun _ h => h | exact fun _ h => .tail _ h | exact fun _ h => .tail _ (.tail _ h)) | k_asm), by k_asm, by k_asm, by k_asm, by first | exact rfl | assumption⟩) (by first | exact gcd_of_does | exact top_of_does (by first | assumption | exact Nums.get (by assumption) (by k_mem)) | exact bottom_of_does (by first | assumption | exact Nums.get (by assumption) (by k_mem)) | exact is_whole_does (by first | assumption | exact Nums.get (by assumption) (by k_mem)) | exact made_does.weaken (fun _ _ => OF.toN)) (by ktr_room) (by ktr_units) ?_; intro h9 tk9 F9 N9) | (refine callN (by exact ⟨by k_asm, (by first | exact Nums.pick (by assumption) (by assumption) (by first | exact fun _ h => h | exact fun _ h => .tail _ h | exact fun _ h => .tail _ (.tail _ h)) | k_asm), by k_asm, by k_asm, by k_asm, by first | exact rfl | assumption⟩) (by first | exact gcd_of_does | exact top_of_does (by first | assumption | exact Nums.get (by assumption) (by k_mem)) | exact bottom_of_does (by first | assumption | exact Nums.get (by assumption) (by k_mem)) | exact is_whole_does (by first | assumption | exact Nums.get (by assumption) (by k_mem)) | exact made_does.weaken (fun _ _ => OF.toN)) (by first | assumption | exact Nums.nil) (by ktr_room) (by ktr_units) ?_; intro r9 n9 h9 tk9 F9 N9 H9))); (try dsimp only); (try k_fold))
  intro mean mg mb dp un gd cn cs ad ccd cl outer A₀ base h₀ L m s Q E B F X N T hk hd hu hret
  have H0 : Nums news news [(v, t, b)] := Nums.cons hv Nums.nil
  refine wpAny_call ?_
  k_dflt ktr_enter
  k_steps
  · rw [if_pos (show t < 0 by omega), if_pos (show t < 0 by omega)] at hret
    exact hret _ _ _ _ (by k_asm) (by k_asm) (Nums.out (by assumption) (by k_mem))
  · rw [if_neg (show ¬ t < 0 by omega), if_neg (show ¬ t < 0 by omega)] at hret
    exact hret _ _ _ _ (by k_asm) (by k_asm) (Nums.out (by assumption) (by k_mem))
set_option maxRecDepth 100000 in
set_option maxHeartbeats 8000000 in
theorem compare_does {w : World} {news : Led} {v1 v2 : Value} {t1 b1 t2 b2 : Int} (h1 : NumIn news v1 t1 b1) (h2 : NumIn news v2 t2 b2) (hm1 : IntMulOk t1 b2) (hm2 : IntMulOk t2 b1) : Does w 154 10 [v1, v2] news (OI news (b2i (decide (t2 * b1 < t1 * b2)) - b2i (decide (t1 * b2 < t2 * b1)))) := by
  unfold Does
  k_fill
  w_top off
  k_with_none
  k_with "binaryOp FloorDiv int int" => (with_reducible refine floordiv_dv (by assumption) ?_)
  k_with "call builtin:divmod" => (k_here; (with_reducible show wpAny _ _ (call (Value.builtin _) [Value.int _ _, Value.int _ _]) _ _ _); refine divmod_dv (by assumption) (by assumption) (by assumption) ?_; intro _ _ _)
  k_with "call ref" => (k_here; (k_dflt (first | (refine callI (by exact ⟨by k_asm, (by first | exact Nums.pick (by assumption) (by assumption) (by first | exact fun _ h => h | exact fun _ h => .tail _ h | exact fun _ h => .tail _ (.tail _ h)) | k_asm), by k_asm, by k_asm, by k_asm, by first | exact rfl | assumption⟩) (by first | exact gcd_of_does | exact top_of_does (by first | assumption | exact Nums.get (by assumption) (by k_mem)) | exact bottom_of_does (by first | assumption | exact Nums.get (by assumption) (by k_mem)) | exact is_whole_does (by first | assumption | exact Nums.get (by assumption) (by k_mem)) | exact made_does.weaken (fun _ _ => OF.toN)) (by ktr_room) (by ktr_units) ?_; intro k9 h9 tk9 F9 N9) | (refine callB (by exact ⟨by k_asm, (by first | exact Nums.pick (by assumption) (by assumption) (by first | exact fun _ h => h | exact fun _ h => .tail _ h | exact fun _ h => .tail _ (.tail _ h)) | k_asm), by k_asm, by k_asm, by k_asm, by first | exact rfl | assumption⟩) (by first | exact gcd_of_does | exact top_of_does (by first | assumption | exact Nums.get (by assumption) (by k_mem)) | exact bottom_of_does (by first | assumption | exact Nums.get (by assumption) (by k_mem)) | exact is_whole_does (by first | assumption | exact Nums.get (by assumption) (by k_mem)) | exact made_does.weaken (fun _ _ => OF.toN)) (by ktr_room) (by ktr_units) ?_; intro h9 tk9 F9 N9) | (refine callN (by exact ⟨by k_asm, (by first | exact Nums.pick (by assumption) (by assumption) (by first | exact fun _ h => h | exact fun _ h => .tail _ h | exact fun _ h => .tail _ (.tail _ h)) | k_asm), by k_asm, by k_asm, by k_asm, by first | exact rfl | assumption⟩) (by first | exact gcd_of_does | exact top_of_does (by first | assumption | exact Nums.get (by assumption) (by k_mem)) | exact bottom_of_does (by first | assumption | exact Nums.get (by assumption) (by k_mem)) | exact is_whole_does (by first | assumption | exact Nums.get (by assumption) (by k_mem)) | exact made_does.weaken (fun _ _ => OF.toN)) (by first | assumption | exact Nums.nil) (by ktr_room) (by ktr_units) ?_; intro r9 n9 h9 tk9 F9 N9 H9))); (try dsimp only); (try k_fold))
  intro mean mg mb dp un gd cn cs ad ccd cl outer A₀ base h₀ L m s Q E B F X N T hk hd hu hret
  have H0 : Nums news news [(v1, t1, b1), (v2, t2, b2)] := Nums.cons h1 (Nums.cons h2 Nums.nil)
  refine wpAny_call ?_
  k_dflt ktr_enter
  k_steps
  all_goals exact hret _ _ _ _ (by k_asm) (led_drop (by assumption) (fun _ h => .tail _ h)) ⟨rfl, _, rfl⟩
set_option maxRecDepth 100000 in
set_option maxHeartbeats 8000000 in
theorem is_equal_does {w : World} {news : Led} {v1 v2 : Value} {t1 b1 t2 b2 : Int} (h1 : NumIn news v1 t1 b1) (h2 : NumIn news v2 t2 b2) : Does w 161 10 [v1, v2] news (OB news (decide (t1 = t2 ∧ b1 = b2))) := by
  unfold Does
  k_fill
  w_top off
  k_with_none
  k_with "binaryOp FloorDiv int int" => (with_reducible refine floordiv_dv (by assumption) ?_)
  k_with "call builtin:divmod" => (k_here; (with_reducible show wpAny _ _ (call (Value.builtin _) [Value.int _ _, Value.int _ _]) _ _ _); refine divmod_dv (by assumption) (by assumption) (by assumption) ?_; intro _ _ _)
  k_with "call ref" => (k_here; (k_dflt (first | (refine callI (by exact ⟨by k_asm, (by first | exact Nums.pick (by assumption) (by assumption) (by first | exact fun _ h => h | exact fun _ h => .tail _ h | exact fun _ h => .tail _ (.tail _ h)) | k_asm), by k_asm, by k_asm, by k_asm, by first | exact rfl | assumption⟩) (by first | exact gcd_of_does | exact top_of_does (by first | assumption | exact Nums.get (by assumption) (by k_mem)) | exact bottom_of_does (by first | assumption | exact Nums.get (by assumption) (by k_mem)) | exact is_whole_does (by first | assumption | exact Nums.get (by assumption) (by k_mem)) | exact made_does.weaken (fun _ _ => OF.toN)) (by ktr_room) (by ktr_units) ?_; intro k9 h9 tk9 F9 N9) | (refine callB (by exact ⟨by k_asm, (by first | exact Nums.pick (by assumption) (by assumption) (by first | exact fun _ h => h | exact fun _ h => .tail _ h | exact fun _ h => .tail _ (.tail _ h)) | k_asm), by k_asm, by k_asm, by k_asm, by first | exact rfl | assumption⟩) (by first | exact gcd_of_does | exact top_of_does (by first | assumption | exact Nums.get (by assumption) (by k_mem)) | exact bottom_of_does (by first | assumption | exact Nums.get (by assumption) (by k_mem)) | exact is_whole_does (by first | assumption | exact Nums.get (by assumption) (by k_mem)) | exact made_does.weaken (fun _ _ => OF.toN)) (by ktr_room) (by ktr_units) ?_; intro h9 tk9 F9 N9) | (refine callN (by exact ⟨by k_asm, (by first | exact Nums.pick (by assumption) (by assumption) (by first | exact fun _ h => h | exact fun _ h => .tail _ h | exact fun _ h => .tail _ (.tail _ h)) | k_asm), by k_asm, by k_asm, by k_asm, by first | exact rfl | assumption⟩) (by first | exact gcd_of_does | exact top_of_does (by first | assumption | exact Nums.get (by assumption) (by k_mem)) | exact bottom_of_does (by first | assumption | exact Nums.get (by assumption) (by k_mem)) | exact is_whole_does (by first | assumption | exact Nums.get (by assumption) (by k_mem)) | exact made_does.weaken (fun _ _ => OF.toN)) (by first | assumption | exact Nums.nil) (by ktr_room) (by ktr_units) ?_; intro r9 n9 h9 tk9 F9 N9 H9))); (try dsimp only); (try k_fold))
  intro mean mg mb dp un gd cn cs ad ccd cl outer A₀ base h₀ L m s Q E B F X N T hk hd hu hret
  have H0 : Nums news news [(v1, t1, b1), (v2, t2, b2)] := Nums.cons h1 (Nums.cons h2 Nums.nil)
  refine wpAny_call ?_
  k_dflt ktr_enter
  k_steps
  all_goals exact hret _ _ _ _ (by k_asm) (by k_asm) ⟨rfl, congrArg Value.bool (by rw [Bool.eq_iff_iff]; simp only [beq_iff_eq, decide_eq_true_eq]; omega)⟩
set_option maxRecDepth 100000 in
set_option maxHeartbeats 8000000 in
theorem floor_does {w : World} {news : Led} {v : Value} {t b : Int} (hv : NumIn news v t b) (hb : Dv b) : Does w 168 10 [v] news (OI news (t.fdiv b)) := by
  unfold Does
  k_fill
  w_top off
  k_with_none
  k_with "binaryOp FloorDiv int int" => (with_reducible refine floordiv_dv (by assumption) ?_)
  k_with "call builtin:divmod" => (k_here; (with_reducible show wpAny _ _ (call (Value.builtin _) [Value.int _ _, Value.int _ _]) _ _ _); refine divmod_dv (by assumption) (by assumption) (by assumption) ?_; intro _ _ _)
  k_with "call ref" => (k_here; (k_dflt (first | (refine callI (by exact ⟨by k_asm, (by first | exact Nums.pick (by assumption) (by assumption) (by first | exact fun _ h => h | exact fun _ h => .tail _ h | exact fun _ h => .tail _ (.tail _ h)) | k_asm), by k_asm, by k_asm, by k_asm, by first | exact rfl | assumption⟩) (by first | exact gcd_of_does | exact top_of_does (by first | assumption | exact Nums.get (by assumption) (by k_mem)) | exact bottom_of_does (by first | assumption | exact Nums.get (by assumption) (by k_mem)) | exact is_whole_does (by first | assumption | exact Nums.get (by assumption) (by k_mem)) | exact made_does.weaken (fun _ _ => OF.toN)) (by ktr_room) (by ktr_units) ?_; intro k9 h9 tk9 F9 N9) | (refine callB (by exact ⟨by k_asm, (by first | exact Nums.pick (by assumption) (by assumption) (by first | exact fun _ h => h | exact fun _ h => .tail _ h | exact fun _ h => .tail _ (.tail _ h)) | k_asm), by k_asm, by k_asm, by k_asm, by first | exact rfl | assumption⟩) (by first | exact gcd_of_does | exact top_of_does (by first | assumption | exact Nums.get (by assumption) (by k_mem)) | exact bottom_of_does (by first | assumption | exact Nums.get (by assumption) (by k_mem)) | exact is_whole_does (by first | assumption | exact Nums.get (by assumption) (by k_mem)) | exact made_does.weaken (fun _ _ => OF.toN)) (by ktr_room) (by ktr_units) ?_; intro h9 tk9 F9 N9) | (refine callN (by exact ⟨by k_asm, (by first | exact Nums.pick (by assumption) (by assumption) (by first | exact fun _ h => h | exact fun _ h => .tail _ h | exact fun _ h => .tail _ (.tail _ h)) | k_asm), by k_asm, by k_asm, by k_asm, by first | exact rfl | assumption⟩) (by first | exact gcd_of_does | exact top_of_does (by first | assumption | exact Nums.get (by assumption) (by k_mem)) | exact bottom_of_does (by first | assumption | exact Nums.get (by assumption) (by k_mem)) | exact is_whole_does (by first | assumption | exact Nums.get (by assumption) (by k_mem)) | exact made_does.weaken (fun _ _ => OF.toN)) (by first | assumption | exact Nums.nil) (by ktr_room) (by ktr_units) ?_; intro r9 n9 h9 tk9 F9 N9 H9))); (try dsimp only); (try k_fold))
  intro mean mg mb dp un gd cn cs ad ccd cl outer A₀ base h₀ L m s Q E B F X N T hk hd hu hret
  have H0 : Nums news news [(v, t, b)] := Nums.cons hv Nums.nil
  refine wpAny_call ?_
  k_dflt ktr_enter
  k_steps
  all_goals exact hret _ _ _ _ (by k_asm) (by k_asm) ⟨rfl, _, rfl⟩
set_option maxRecDepth 100000 in
set_option maxHeartbeats 8000000 in
theorem ceiling_does {w : World} {news : Led} {v : Value} {t b : Int} (hv : NumIn news v t b) (hb : Dv b) : Does w 175 10 [v] news (OI news (0 - (0 - t).fdiv b)) := by
  unfold Does
  k_fill
  w_top off
  k_with_none
  k_with "binaryOp FloorDiv int int" => (with_reducible refine floordiv_dv (by assumption) ?_)
  k_with "call builtin:divmod" => (k_here; (with_reducible show wpAny _ _ (call (Value.builtin _) [Value.int _ _, Value.int _ _]) _ _ _); refine divmod_dv (by assumption) (by assumption) (by assumption) ?_; intro _ _ _)
  k_with "call ref" => (k_here; (k_dflt (first | (refine callI (by exact ⟨by k_asm, (by first | exact Nums.pick (by assumption) (by assumption) (by first | exact fun _ h => h | exact fun _ h => .tail _ h | exact fun _ h => .tail _ (.tail _ h)) | k_asm), by k_asm, by k_asm, by k_asm, by first | exact rfl | assumption⟩) (by first | exact gcd_of_does | exact top_of_does (by first | assumption | exact Nums.get (by assumption) (by k_mem)) | exact bottom_of_does (by first | assumption | exact Nums.get (by assumption) (by k_mem)) | exact is_whole_does (by first | assumption | exact Nums.get (by assumption) (by k_mem)) | exact made_does.weaken (fun _ _ => OF.toN)) (by ktr_room) (by ktr_units) ?_; intro k9 h9 tk9 F9 N9) | (refine callB (by exact ⟨by k_asm, (by first | exact Nums.pick (by assumption) (by assumption) (by first | exact fun _ h => h | exact fun _ h => .tail _ h | exact fun _ h => .tail _ (.tail _ h)) | k_asm), by k_asm, by k_asm, by k_asm, by first | exact rfl | assumption⟩) (by first | exact gcd_of_does | exact top_of_does (by first | assumption | exact Nums.get (by assumption) (by k_mem)) | exact bottom_of_does (by first | assumption | exact Nums.get (by assumption) (by k_mem)) | exact is_whole_does (by first | assumption | exact Nums.get (by assumption) (by k_mem)) | exact made_does.weaken (fun _ _ => OF.toN)) (by ktr_room) (by ktr_units) ?_; intro h9 tk9 F9 N9) | (refine callN (by exact ⟨by k_asm, (by first | exact Nums.pick (by assumption) (by assumption) (by first | exact fun _ h => h | exact fun _ h => .tail _ h | exact fun _ h => .tail _ (.tail _ h)) | k_asm), by k_asm, by k_asm, by k_asm, by first | exact rfl | assumption⟩) (by first | exact gcd_of_does | exact top_of_does (by first | assumption | exact Nums.get (by assumption) (by k_mem)) | exact bottom_of_does (by first | assumption | exact Nums.get (by assumption) (by k_mem)) | exact is_whole_does (by first | assumption | exact Nums.get (by assumption) (by k_mem)) | exact made_does.weaken (fun _ _ => OF.toN)) (by first | assumption | exact Nums.nil) (by ktr_room) (by ktr_units) ?_; intro r9 n9 h9 tk9 F9 N9 H9))); (try dsimp only); (try k_fold))
  intro mean mg mb dp un gd cn cs ad ccd cl outer A₀ base h₀ L m s Q E B F X N T hk hd hu hret
  have H0 : Nums news news [(v, t, b)] := Nums.cons hv Nums.nil
  refine wpAny_call ?_
  k_dflt ktr_enter
  k_steps
  all_goals exact hret _ _ _ _ (by k_asm) (by k_asm) ⟨rfl, _, rfl⟩
set_option maxRecDepth 100000 in
set_option maxHeartbeats 8000000 in
theorem round_does {w : World} {news : Led} {v : Value} {t b : Int} (hv : NumIn news v t b) (hb : Dv b) : Does w 189 10 [v] news (OI news (if b < 2 * t.fmod b ∨ (2 * t.fmod b = b ∧ (t.fdiv b).fmod 2 = 1) then t.fdiv b + 1 else t.fdiv b)) := by
  unfold Does
  k_fill
  w_top off
  k_with_none
  k_with "binaryOp FloorDiv int int" => (with_reducible refine floordiv_dv (by assumption) ?_)
  k_with "call builtin:divmod" => (k_here; (with_reducible show wpAny _ _ (call (Value.builtin _) [Value.int _ _, Value.int _ _]) _ _ _); refine divmod_dv (by assumption) (by assumption) (by assumption) ?_; intro _ _ _)
  k_with "call ref" => (k_here; (k_dflt (first | (refine callI (by exact ⟨by k_asm, (by first | exact Nums.pick (by assumption) (by assumption) (by first | exact fun _ h => h | exact fun _ h => .tail _ h | exact fun _ h => .tail _ (.tail _ h)) | k_asm), by k_asm, by k_asm, by k_asm, by first | exact rfl | assumption⟩) (by first | exact gcd_of_does | exact top_of_does (by first | assumption | exact Nums.get (by assumption) (by k_mem)) | exact bottom_of_does (by first | assumption | exact Nums.get (by assumption) (by k_mem)) | exact is_whole_does (by first | assumption | exact Nums.get (by assumption) (by k_mem)) | exact made_does.weaken (fun _ _ => OF.toN)) (by ktr_room) (by ktr_units) ?_; intro k9 h9 tk9 F9 N9) | (refine callB (by exact ⟨by k_asm, (by first | exact Nums.pick (by assumption) (by assumption) (by first | exact fun _ h => h | exact fun _ h => .tail _ h | exact fun _ h => .tail _ (.tail _ h)) | k_asm), by k_asm, by k_asm, by k_asm, by first | exact rfl | assumption⟩) (by first | exact gcd_of_does | exact top_of_does (by first | assumption | exact Nums.get (by assumption) (by k_mem)) | exact bottom_of_does (by first | assumption | exact Nums.get (by assumption) (by k_mem)) | exact is_whole_does (by first | assumption | exact Nums.get (by assumption) (by k_mem)) | exact made_does.weaken (fun _ _ => OF.toN)) (by ktr_room) (by ktr_units) ?_; intro h9 tk9 F9 N9) | (refine callN (by exact ⟨by k_asm, (by first | exact Nums.pick (by assumption) (by assumption) (by first | exact fun _ h => h | exact fun _ h => .tail _ h | exact fun _ h => .tail _ (.tail _ h)) | k_asm), by k_asm, by k_asm, by k_asm, by first | exact rfl | assumption⟩) (by first | exact gcd_of_does | exact top_of_does (by first | assumption | exact Nums.get (by assumption) (by k_mem)) | exact bottom_of_does (by first | assumption | exact Nums.get (by assumption) (by k_mem)) | exact is_whole_does (by first | assumption | exact Nums.get (by assumption) (by k_mem)) | exact made_does.weaken (fun _ _ => OF.toN)) (by first | assumption | exact Nums.nil) (by ktr_room) (by ktr_units) ?_; intro r9 n9 h9 tk9 F9 N9 H9))); (try dsimp only); (try k_fold))
  intro mean mg mb dp un gd cn cs ad ccd cl outer A₀ base h₀ L m s Q E B F X N T hk hd hu hret
  have H0 : Nums news news [(v, t, b)] := Nums.cons hv Nums.nil
  refine wpAny_call ?_
  k_dflt ktr_enter
  k_steps
  all_goals (first
    | (refine hret _ _ _ _ (by k_asm) (led_drop (by assumption) (fun _ h => .tail _ (.tail _ h))) ⟨rfl, _, congrArg (Value.int · _) ?_⟩)
    | (refine hret _ _ _ _ (by k_asm) (led_drop (by assumption) (fun _ h => .tail _ h)) ⟨rfl, _, congrArg (Value.int · _) ?_⟩))
  all_goals first | (rw [if_pos (by omega)]; done) | (rw [if_neg (by omega)]; done)
set_option maxRecDepth 100000 in
set_option maxHeartbeats 8000000 in
theorem truncate_does {w : World} {news : Led} {v : Value} {t b : Int} (hv : NumIn news v t b) (hb : Dv b) : Does w 182 15 [v] news (OI news (if 0 ≤ t then t.fdiv b else 0 - (0 - t).fdiv b)) := by
  unfold Does
  k_fill
  w_top off
  k_with_none
  k_with "binaryOp FloorDiv int int" => (with_reducible refine floordiv_dv (by assumption) ?_)
  k_with "call builtin:divmod" => (k_here; (with_reducible show wpAny _ _ (call (Value.builtin _) [Value.int _ _, Value.int _ _]) _ _ _); refine divmod_dv (by assumption) (by assumption) (by assumption) ?_; intro _ _ _)
  k_with "call ref" => (k_here; (k_dflt (first | (refine callI (by exact ⟨by k_asm, (by first | exact Nums.pick (by assumption) (by assumption) (by first | exact fun _ h => h | exact fun _ h => .tail _ h | exact fun _ h => .tail _ (.tail _ h)) | k_asm), by k_asm, by k_asm, by k_asm, by first | exact rfl | assumption⟩) (by first | exact floor_does (by first | assumption | exact Nums.get (by assumption) (by k_mem)) (by assumption) | exact ceiling_does (by first | assumption | exact Nums.get (by assumption) (by k_mem)) (by assumption) | exact gcd_of_does | exact top_of_does (by first | assumption | exact Nums.get (by assumption) (by k_mem)) | exact bottom_of_does (by first | assumption | exact Nums.get (by assumption) (by k_mem)) | exact is_whole_does (by first | assumption | exact Nums.get (by assumption) (by k_mem)) | exact made_does.weaken (fun _ _ => OF.toN)) (by ktr_room) (by ktr_units) ?_; intro k9 h9 tk9 F9 N9) | (refine callB (by exact ⟨by k_asm, (by first | exact Nums.pick (by assumption) (by assumption) (by first | exact fun _ h => h | exact fun _ h => .tail _ h | exact fun _ h => .tail _ (.tail _ h)) | k_asm), by k_asm, by k_asm, by k_asm, by first | exact rfl | assumption⟩) (by first | exact floor_does (by first | assumption | exact Nums.get (by assumption) (by k_mem)) (by assumption) | exact ceiling_does (by first | assumption | exact Nums.get (by assumption) (by k_mem)) (by assumption) | exact gcd_of_does | exact top_of_does (by first | assumption | exact Nums.get (by assumption) (by k_mem)) | exact bottom_of_does (by first | assumption | exact Nums.get (by assumption) (by k_mem)) | exact is_whole_does (by first | assumption | exact Nums.get (by assumption) (by k_mem)) | exact made_does.weaken (fun _ _ => OF.toN)) (by ktr_room) (by ktr_units) ?_; intro h9 tk9 F9 N9) | (refine callN (by exact ⟨by k_asm, (by first | exact Nums.pick (by assumption) (by assumption) (by first | exact fun _ h => h | exact fun _ h => .tail _ h | exact fun _ h => .tail _ (.tail _ h)) | k_asm), by k_asm, by k_asm, by k_asm, by first | exact rfl | assumption⟩) (by first | exact floor_does (by first | assumption | exact Nums.get (by assumption) (by k_mem)) (by assumption) | exact ceiling_does (by first | assumption | exact Nums.get (by assumption) (by k_mem)) (by assumption) | exact gcd_of_does | exact top_of_does (by first | assumption | exact Nums.get (by assumption) (by k_mem)) | exact bottom_of_does (by first | assumption | exact Nums.get (by assumption) (by k_mem)) | exact is_whole_does (by first | assumption | exact Nums.get (by assumption) (by k_mem)) | exact made_does.weaken (fun _ _ => OF.toN)) (by first | assumption | exact Nums.nil) (by ktr_room) (by ktr_units) ?_; intro r9 n9 h9 tk9 F9 N9 H9))); (try dsimp only); (try k_fold))
  intro mean mg mb dp un gd cn cs ad ccd cl outer A₀ base h₀ L m s Q E B F X N T hk hd hu hret
  have H0 : Nums news news [(v, t, b)] := Nums.cons hv Nums.nil
  refine wpAny_call ?_
  k_dflt ktr_enter
  k_steps
  all_goals (
    refine hret _ _ _ _ (by k_asm) (by k_asm) ⟨rfl, _, congrArg (Value.int · _) ?_⟩
    first | (rw [if_pos (by omega)]; done) | (rw [if_neg (by omega)]; done))
set_option maxRecDepth 100000 in
set_option maxHeartbeats 8000000 in
theorem is_ratio {w : World} {A : Around} {E : Value → Shared → Prop} {s : Shared} {Q : Value → Shared → Prop} {h₀ : Heap} {L : Addr} {m mg mb : Str → Option Value} {mean : ExcName → Option Value} {news : Led} {v : Value} {t b : Int} (F : Fr h₀ L s.heap m) (X : (Nt.hd.heap_39 w.params).In h₀) (N : News h₀ L s.heap news) (T : Top Nt.hd.view_39 (looseW Nt.hd.view_39 []) mean mg mb h₀) (hv : NumIn news v t b) (h : ∀ tk, Q (.bool (decide (b ≠ 1))) { s with toks := tk }) :
    wpAny (model PySem.Challenge.rw_nt0159_01.row.prog w) A (call (.builtin "isinstance") [v, .ref 31]) Q E s := by
  k_fill
  w_top off
  k_with_none
  k_with "binaryOp FloorDiv int int" => (with_reducible refine floordiv_dv (by assumption) ?_)
  k_with "call builtin:divmod" => (k_here; (with_reducible show wpAny _ _ (call (Value.builtin _) [Value.int _ _, Value.int _ _]) _ _ _); refine divmod_dv (by assumption) (by assumption) (by assumption) ?_; intro _ _ _)
  k_with "call ref" => (k_here; (k_dflt (first | (refine callI (by exact ⟨by k_asm, (by first | exact Nums.pick (by assumption) (by assumption) (by first | exact fun _ h => h | exact fun _ h => .tail _ h | exact fun _ h => .tail _ (.tail _ h)) | k_asm), by k_asm, by k_asm, by k_asm, by first | exact rfl | assumption⟩) (by first | exact floor_does (by first | assumption | exact Nums.get (by assumption) (by k_mem)) (by assumption) | exact ceiling_does (by first | assumption | exact Nums.get (by assumption) (by k_mem)) (by assumption) | exact gcd_of_does | exact top_of_does (by first | assumption | exact Nums.get (by assumption) (by k_mem)) | exact bottom_of_does (by first | assumption | exact Nums.get (by assumption) (by k_mem)) | exact is_whole_does (by first | assumption | exact Nums.get (by assumption) (by k_mem)) | exact made_does.weaken (fun _ _ => OF.toN)) (by ktr_room) (by ktr_units) ?_; intro k9 h9 tk9 F9 N9) | (refine callB (by exact ⟨by k_asm, (by first | exact Nums.pick (by assumption) (by assumption) (by first | exact fun _ h => h | exact fun _ h => .tail _ h | exact fun _ h => .tail _ (.tail _ h)) | k_asm), by k_asm, by k_asm, by k_asm, by first | exact rfl | assumption⟩) (by first | exact floor_does (by first | assumption | exact Nums.get (by assumption) (by k_mem)) (by assumption) | exact ceiling_does (by first | assumption | exact Nums.get (by assumption) (by k_mem)) (by assumption) | exact gcd_of_does | exact top_of_does (by first | assumption | exact Nums.get (by assumption) (by k_mem)) | exact bottom_of_does (by first | assumption | exact Nums.get (by assumption) (by k_mem)) | exact is_whole_does (by first | assumption | exact Nums.get (by assumption) (by k_mem)) | exact made_does.weaken (fun _ _ => OF.toN)) (by ktr_room) (by ktr_units) ?_; intro h9 tk9 F9 N9) | (refine callN (by exact ⟨by k_asm, (by first | exact Nums.pick (by assumption) (by assumption) (by first | exact fun _ h => h | exact fun _ h => .tail _ h | exact fun _ h => .tail _ (.tail _ h)) | k_asm), by k_asm, by k_asm, by k_asm, by first | exact rfl | assumption⟩) (by first | exact floor_does (by first | assumption | exact Nums.get (by assumption) (by k_mem)) (by assumption) | exact ceiling_does (by first | assumption | exact Nums.get (by assumption) (by k_mem)) (by assumption) | exact gcd_of_does | exact top_of_does (by first | assumption | exact Nums.get (by assumption) (by k_mem)) | exact bottom_of_does (by first | assumption | exact Nums.get (by assumption) (by k_mem)) | exact is_whole_does (by first | assumption | exact Nums.get (by assumption) (by k_mem)) | exact made_does.weaken (fun _ _ => OF.toN)) (by first | assumption | exact Nums.nil) (by ktr_room) (by ktr_units) ?_; intro r9 n9 h9 tk9 F9 N9 H9))); (try dsimp only); (try k_fold))
  cases hv
  all_goals walk1
  · exact h _
  · rw [decide_eq_true (by assumption)] at h
    exact h _
set_option maxRecDepth 100000 in
set_option maxHeartbeats 8000000 in
theorem is_exact_does {w : World} {news : Led} {v : Value} {t b : Int} (hv : NumIn news v t b) : Does w 49 10 [v] news (OB news true) := by
  unfold Does
  k_fill
  w_top off
  k_with_none
  k_with "binaryOp FloorDiv int int" => (with_reducible refine floordiv_dv (by assumption) ?_)
  k_with "call builtin:divmod" => (k_here; (with_reducible show wpAny _ _ (call (Value.builtin _) [Value.int _ _, Value.int _ _]) _ _ _); refine divmod_dv (by assumption) (by assumption) (by assumption) ?_; intro _ _ _)
  k_with "call builtin:isinstance" => (k_here; k_dflt (refine is_ratio (by k_asm) (by k_asm) (by first | exact Nums.pick (by assumption) (by assumption) (by first | exact fun _ h => h | exact fun _ h => .tail _ h | exact fun _ h => .tail _ (.tail _ h)) | k_asm) (by k_asm) (by first | assumption | exact Nums.get (by assumption) (by k_mem)) ?_); intro tk9)
  k_with "call ref" => (k_here; (k_dflt (first | (refine callI (by exact ⟨by k_asm, (by first | exact Nums.pick (by assumption) (by assumption) (by first | exact fun _ h => h | exact fun _ h => .tail _ h | exact fun _ h => .tail _ (.tail _ h)) | k_asm), by k_asm, by k_asm, by k_asm, by first | exact rfl | assumption⟩) (by first | exact floor_does (by first | assumption | exact Nums.get (by assumption) (by k_mem)) (by assumption) | exact ceiling_does (by first | assumption | exact Nums.get (by assumption) (by k_mem)) (by assumption) | exact gcd_of_does | exact top_of_does (by first | assumption | exact Nums.get (by assumption) (by k_mem)) | exact bottom_of_does (by first | assumption | exact Nums.get (by assumption) (by k_mem)) | exact is_whole_does (by first | assumption | exact Nums.get (by assumption) (by k_mem)) | exact made_does.weaken (fun _ _ => OF.toN)) (by ktr_room) (by ktr_units) ?_; intro k9 h9 tk9 F9 N9) | (refine callB (by exact ⟨by k_asm, (by first | exact Nums.pick (by assumption) (by assumption) (by first | exact fun _ h => h | exact fun _ h => .tail _ h | exact fun _ h => .tail _ (.tail _ h)) | k_asm), by k_asm, by k_asm, by k_asm, by first | exact rfl | assumption⟩) (by first | exact floor_does (by first | assumption | exact Nums.get (by assumption) (by k_mem)) (by assumption) | exact ceiling_does (by first | assumption | exact Nums.get (by assumption) (by k_mem)) (by assumption) | exact gcd_of_does | exact top_of_does (by first | assumption | exact Nums.get (by assumption) (by k_mem)) | exact bottom_of_does (by first | assumption | exact Nums.get (by assumption) (by k_mem)) | exact is_whole_does (by first | assumption | exact Nums.get (by assumption) (by k_mem)) | exact made_does.weaken (fun _ _ => OF.toN)) (by ktr_room) (by ktr_units) ?_; intro h9 tk9 F9 N9) | (refine callN (by exact ⟨by k_asm, (by first | exact Nums.pick (by assumption) (by assumption) (by first | exact fun _ h => h | exact fun _ h => .tail _ h | exact fun _ h => .tail _ (.tail _ h)) | k_asm), by k_asm, by k_asm, by k_asm, by first | exact rfl | assumption⟩) (by first | exact floor_does (by first | assumption | exact Nums.get (by assumption) (by k_mem)) (by assumption) | exact ceiling_does (by first | assumption | exact Nums.get (by assumption) (by k_mem)) (by assumption) | exact gcd_of_does | exact top_of_does (by first | assumption | exact Nums.get (by assumption) (by k_mem)) | exact bottom_of_does (by first | assumption | exact Nums.get (by assumption) (by k_mem)) | exact is_whole_does (by first | assumption | exact Nums.get (by assumption) (by k_mem)) | exact made_does.weaken (fun _ _ => OF.toN)) (by first | assumption | exact Nums.nil) (by ktr_room) (by ktr_units) ?_; intro r9 n9 h9 tk9 F9 N9 H9))); (try dsimp only); (try k_fold))
  intro mean mg mb dp un gd cn cs ad ccd cl outer A₀ base h₀ L m s Q E B F X N T hk hd hu hret
  have H0 : Nums news news [(v, t, b)] := Nums.cons hv Nums.nil
  refine wpAny_call ?_
  k_dflt ktr_enter
  k_steps
  all_goals exact hret _ _ _ _ (by k_asm) (by k_asm) ⟨rfl, congrArg Value.bool (by first | exact decide_eq_true (by assumption) | rfl)⟩
theorem NumIn.whole {news : Led} {v : Value} {t b : Int} (h : NumIn news v t b) (hb : b = 1) : ∃ k, v = .int t k := by
  cases h with
  | int => exact ⟨_, rfl⟩
  | ratio h0 => exact absurd hb h0
set_option maxRecDepth 100000 in
set_option maxHeartbeats 8000000 in
theorem add_does0 {w : World} {news : Led} {t1 t2 : Int} {k1 k2 : Tok} : Does w 119 20 [.int t1 k1, .int t2 k2] news (ON news (t1 + t2) 1) := by
  unfold Does
  k_fill
  w_top off
  k_with_none
  k_with "binaryOp FloorDiv int int" => (with_reducible refine floordiv_dv (by assumption) ?_)
  k_with "call builtin:divmod" => (k_here; (with_reducible show wpAny _ _ (call (Value.builtin _) [Value.int _ _, Value.int _ _]) _ _ _); refine divmod_dv (by assumption) (by assumption) (by assumption) ?_; intro _ _ _)
  k_with "call builtin:isinstance" => (k_here; k_dflt (refine is_ratio (by k_asm) (by k_asm) (by first | exact Nums.pick (by assumption) (by assumption) (by first | exact fun _ h => h | exact fun _ h => .tail _ h | exact fun _ h => .tail _ (.tail _ h)) | k_asm) (by k_asm) (by first | assumption | exact Nums.get (by assumption) (by k_mem)) ?_); intro tk9)
  k_with "call ref" => (k_here; (k_dflt (first | (refine callI (by exact ⟨by k_asm, (by first | exact Nums.pick (by assumption) (by assumption) (by first | exact fun _ h => h | exact fun _ h => .tail _ h | exact fun _ h => .tail _ (.tail _ h)) | k_asm), by k_asm, by k_asm, by k_asm, by first | exact rfl | assumption⟩) (by first | exact floor_does (by first | assumption | exact Nums.get (by assumption) (by k_mem)) (by assumption) | exact ceiling_does (by first | assumption | exact Nums.get (by assumption) (by k_mem)) (by assumption) | exact gcd_of_does | exact top_of_does (by first | assumption | exact Nums.get (by assumption) (by k_mem)) | exact bottom_of_does (by first | assumption | exact Nums.get (by assumption) (by k_mem)) | exact is_whole_does (by first | assumption | exact Nums.get (by assumption) (by k_mem)) | exact made_does.weaken (fun _ _ => OF.toN)) (by ktr_room) (by ktr_units) ?_; intro k9 h9 tk9 F9 N9) | (refine callB (by exact ⟨by k_asm, (by first | exact Nums.pick (by assumption) (by assumption) (by first | exact fun _ h => h | exact fun _ h => .tail _ h | exact fun _ h => .tail _ (.tail _ h)) | k_asm), by k_asm, by k_asm, by k_asm, by first | exact rfl | assumption⟩) (by first | exact floor_does (by first | assumption | exact Nums.get (by assumption) (by k_mem)) (by assumption) | exact ceiling_does (by first | assumption | exact Nums.get (by assumption) (by k_mem)) (by assumption) | exact gcd_of_does | exact top_of_does (by first | assumption | exact Nums.get (by assumption) (by k_mem)) | exact bottom_of_does (by first | assumption | exact Nums.get (by assumption) (by k_mem)) | exact is_whole_does (by first | assumption | exact Nums.get (by assumption) (by k_mem)) | exact made_does.weaken (fun _ _ => OF.toN)) (by ktr_room) (by ktr_units) ?_; intro h9 tk9 F9 N9) | (refine callN (by exact ⟨by k_asm, (by first | exact Nums.pick (by assumption) (by assumption) (by first | exact fun _ h => h | exact fun _ h => .tail _ h | exact fun _ h => .tail _ (.tail _ h)) | k_asm), by k_asm, by k_asm, by k_asm, by first | exact rfl | assumption⟩) (by first | exact floor_does (by first | assumption | exact Nums.get (by assumption) (by k_mem)) (by assumption) | exact ceiling_does (by first | assumption | exact Nums.get (by assumption) (by k_mem)) (by assumption) | exact gcd_of_does | exact top_of_does (by first | assumption | exact Nums.get (by assumption) (by k_mem)) | exact bottom_of_does (by first | assumption | exact Nums.get (by assumption) (by k_mem)) | exact is_whole_does (by first | assumption | exact Nums.get (by assumption) (by k_mem)) | exact made_does.weaken (fun _ _ => OF.toN)) (by first | assumption | exact Nums.nil) (by ktr_room) (by ktr_units) ?_; intro r9 n9 h9 tk9 F9 N9 H9))); (try dsimp only); (try k_fold))
  intro mean mg mb dp un gd cn cs ad ccd cl outer A₀ base h₀ L m s Q E B F X N T hk hd hu hret
  have H0 : Nums news news [(.int t1 k1, t1, 1), (.int t2 k2, t2, 1)] := Nums.cons .int (Nums.cons .int Nums.nil)
  refine wpAny_call ?_
  k_dflt ktr_enter
  k_steps
  all_goals first | exact hret _ _ _ _ (by k_asm) (by k_asm) ⟨fun _ h => h, .int⟩ | (exfalso; omega)
set_option maxRecDepth 100000 in
set_option maxHeartbeats 8000000 in
theorem add_does1 {w : World} {news : Led} {v1 v2 : Value} {t1 b1 t2 b2 : Int} (h1 : NumIn news v1 t1 b1) (h2 : NumIn news v2 t2 b2) (hw : ¬ (b1 = 1 ∧ b2 = 1)) (p1 : 0 < b1) (p2 : 0 < b2) (s1 : Sm 1000 t1) (s2 : Sm 1000 b1) (s3 : Sm 1000 t2) (s4 : Sm 1000 b2) : Does w 119 20 [v1, v2] news (ON news (addT t1 b1 t2 b2) (addB t1 b1 t2 b2)) := by
  unfold Does
  k_fill
  w_top off
  k_with_none
  k_with "binaryOp FloorDiv int int" => (with_reducible refine floordiv_dv (by assumption) ?_)
  k_with "call builtin:divmod" => (k_here; (with_reducible show wpAny _ _ (call (Value.builtin _) [Value.int _ _, Value.int _ _]) _ _ _); refine divmod_dv (by assumption) (by assumption) (by assumption) ?_; intro _ _ _)
  k_with "call builtin:isinstance" => (k_here; k_dflt (refine is_ratio (by k_asm) (by k_asm) (by first | exact Nums.pick (by assumption) (by assumption) (by first | exact fun _ h => h | exact fun _ h => .tail _ h | exact fun _ h => .tail _ (.tail _ h)) | k_asm) (by k_asm) (by first | assumption | exact Nums.get (by assumption) (by k_mem)) ?_); intro tk9)
  k_with "call ref" => (k_here; (k_dflt (first | (refine callI (by exact ⟨by k_asm, (by first | exact Nums.pick (by assumption) (by assumption) (by first | exact fun _ h => h | exact fun _ h => .tail _ h | exact fun _ h => .tail _ (.tail _ h)) | k_asm), by k_asm, by k_asm, by k_asm, by first | exact rfl | assumption⟩) (by first | exact floor_does (by first | assumption | exact Nums.get (by assumption) (by k_mem)) (by assumption) | exact ceiling_does (by first | assumption | exact Nums.get (by assumption) (by k_mem)) (by assumption) | exact gcd_of_does | exact top_of_does (by first | assumption | exact Nums.get (by assumption) (by k_mem)) | exact bottom_of_does (by first | assumption | exact Nums.get (by assumption) (by k_mem)) | exact is_whole_does (by first | assumption | exact Nums.get (by assumption) (by k_mem)) | exact made_does.weaken (fun _ _ => OF.toN)) (by ktr_room) (by ktr_units) ?_; intro k9 h9 tk9 F9 N9) | (refine callB (by exact ⟨by k_asm, (by first | exact Nums.pick (by assumption) (by assumption) (by first | exact fun _ h => h | exact fun _ h => .tail _ h | exact fun _ h => .tail _ (.tail _ h)) | k_asm), by k_asm, by k_asm, by k_asm, by first | exact rfl | assumption⟩) (by first | exact floor_does (by first | assumption | exact Nums.get (by assumption) (by k_mem)) (by assumption) | exact ceiling_does (by first | assumption | exact Nums.get (by assumption) (by k_mem)) (by assumption) | exact gcd_of_does | exact top_of_does (by first | assumption | exact Nums.get (by assumption) (by k_mem)) | exact bottom_of_does (by first | assumption | exact Nums.get (by assumption) (by k_mem)) | exact is_whole_does (by first | assumption | exact Nums.get (by assumption) (by k_mem)) | exact made_does.weaken (fun _ _ => OF.toN)) (by ktr_room) (by ktr_units) ?_; intro h9 tk9 F9 N9) | (refine callN (by exact ⟨by k_asm, (by first | exact Nums.pick (by assumption) (by assumption) (by first | exact fun _ h => h | exact fun _ h => .tail _ h | exact fun _ h => .tail _ (.tail _ h)) | k_asm), by k_asm, by k_asm, by k_asm, by first | exact rfl | assumption⟩) (by first | exact floor_does (by first | assumption | exact Nums.get (by assumption) (by k_mem)) (by assumption) | exact ceiling_does (by first | assumption | exact Nums.get (by assumption) (by k_mem)) (by assumption) | exact gcd_of_does | exact top_of_does (by first | assumption | exact Nums.get (by assumption) (by k_mem)) | exact bottom_of_does (by first | assumption | exact Nums.get (by assumption) (by k_mem)) | exact is_whole_does (by first | assumption | exact Nums.get (by assumption) (by k_mem)) | exact made_does.weaken (fun _ _ => OF.toN)) (by first | assumption | exact Nums.nil) (by ktr_room) (by ktr_units) ?_; intro r9 n9 h9 tk9 F9 N9 H9))); (try dsimp only); (try k_fold))
  intro mean mg mb dp un gd cn cs ad ccd cl outer A₀ base h₀ L m s Q E B F X N T hk hd hu hret
  have H0 : Nums news news [(v1, t1, b1), (v2, t2, b2)] := Nums.cons h1 (Nums.cons h2 Nums.nil)
  have hg : ((Int.gcd b1 b2 : Nat) : Int) ≠ 0 := gcd_cast_ne (.inl (by omega))
  have hd1 : Dv ((Int.gcd b1 b2 : Nat) : Int) := Dv.of (Sm.gcd s2 s4) (by decide) hg
  have hd2 : Dv ((Int.gcd (t1 * b2.fdiv (Int.gcd b1 b2) + t2 * b1.fdiv (Int.gcd b1 b2)) (Int.gcd b1 b2) : Nat) : Int) := Dv.of (k := 2001) (Sm.gcd (Sm.add (Sm.mul s1 (Sm.fdiv s4 (Int.natCast_nonneg _))) (Sm.mul s3 (Sm.fdiv s2 (Int.natCast_nonneg _)))) ((Sm.gcd s2 s4).le (by decide))) (by decide) (gcd_cast_ne (.inr hg))
  have hm1 : IntMulOk t1 (b2.fdiv (Int.gcd b1 b2)) := Sm.ok s1 (Sm.fdiv s4 (Int.natCast_nonneg _)) (by decide) (by decide)
  have hm2 : IntMulOk t2 (b1.fdiv (Int.gcd b1 b2)) := Sm.ok s3 (Sm.fdiv s2 (Int.natCast_nonneg _)) (by decide) (by decide)
  have hm3 : IntMulOk (b1.fdiv (Int.gcd b1 b2)) (b2.fdiv (Int.gcd (t1 * b2.fdiv (Int.gcd b1 b2) + t2 * b1.fdiv (Int.gcd b1 b2)) (Int.gcd b1 b2))) := Sm.ok (Sm.fdiv s2 (Int.natCast_nonneg _)) (Sm.fdiv s4 (Int.natCast_nonneg _)) (by decide) (by decide)
  refine wpAny_call ?_
  k_dflt ktr_enter
  k_steps
  all_goals first | exact hret _ _ _ _ (by k_asm) (by k_asm) (Nums.out (by assumption) (by k_mem)) | (exfalso; omega)
set_option maxRecDepth 100000 in
set_option maxHeartbeats 8000000 in
theorem mul_does0 {w : World} {news : Led} {t1 t2 : Int} {k1 k2 : Tok} (hm : IntMulOk t1 t2) : Does w 133 20 [.int t1 k1, .int t2 k2] news (ON news (t1 * t2) 1) := by
  unfold Does
  k_fill
  w_top off
  k_with_none
  k_with "binaryOp FloorDiv int int" => (with_reducible refine floordiv_dv (by assumption) ?_)
  k_with "call builtin:divmod" => (k_here; (with_reducible show wpAny _ _ (call (Value.builtin _) [Value.int _ _, Value.int _ _]) _ _ _); refine divmod_dv (by assumption) (by assumption) (by assumption) ?_; intro _ _ _)
  k_with "call builtin:isinstance" => (k_here; k_dflt (refine is_ratio (by k_asm) (by k_asm) (by first | exact Nums.pick (by assumption) (by assumption) (by first | exact fun _ h => h | exact fun _ h => .tail _ h | exact fun _ h => .tail _ (.tail _ h)) | k_asm) (by k_asm) (by first | assumption | exact Nums.get (by assumption) (by k_mem)) ?_); intro tk9)
  k_with "call ref" => (k_here; (k_dflt (first | (refine callI (by exact ⟨by k_asm, (by first | exact Nums.pick (by assumption) (by assumption) (by first | exact fun _ h => h | exact fun _ h => .tail _ h | exact fun _ h => .tail _ (.tail _ h)) | k_asm), by k_asm, by k_asm, by k_asm, by first | exact rfl | assumption⟩) (by first | exact floor_does (by first | assumption | exact Nums.get (by assumption) (by k_mem)) (by assumption) | exact ceiling_does (by first | assumption | exact Nums.get (by assumption) (by k_mem)) (by assumption) | exact gcd_of_does | exact top_of_does (by first | assumption | exact Nums.get (by assumption) (by k_mem)) | exact bottom_of_does (by first | assumption | exact Nums.get (by assumption) (by k_mem)) | exact is_whole_does (by first | assumption | exact Nums.get (by assumption) (by k_mem)) | exact made_does.weaken (fun _ _ => OF.toN)) (by ktr_room) (by ktr_units) ?_; intro k9 h9 tk9 F9 N9) | (refine callB (by exact ⟨by k_asm, (by first | exact Nums.pick (by assumption) (by assumption) (by first | exact fun _ h => h | exact fun _ h => .tail _ h | exact fun _ h => .tail _ (.tail _ h)) | k_asm), by k_asm, by k_asm, by k_asm, by first | exact rfl | assumption⟩) (by first | exact floor_does (by first | assumption | exact Nums.get (by assumption) (by k_mem)) (by assumption) | exact ceiling_does (by first | assumption | exact Nums.get (by assumption) (by k_mem)) (by assumption) | exact gcd_of_does | exact top_of_does (by first | assumption | exact Nums.get (by assumption) (by k_mem)) | exact bottom_of_does (by first | assumption | exact Nums.get (by assumption) (by k_mem)) | exact is_whole_does (by first | assumption | exact Nums.get (by assumption) (by k_mem)) | exact made_does.weaken (fun _ _ => OF.toN)) (by ktr_room) (by ktr_units) ?_; intro h9 tk9 F9 N9) | (refine callN (by exact ⟨by k_asm, (by first | exact Nums.pick (by assumption) (by assumption) (by first | exact fun _ h => h | exact fun _ h => .tail _ h | exact fun _ h => .tail _ (.tail _ h)) | k_asm), by k_asm, by k_asm, by k_asm, by first | exact rfl | assumption⟩) (by first | exact floor_does (by first | assumption | exact Nums.get (by assumption) (by k_mem)) (by assumption) | exact ceiling_does (by first | assumption | exact Nums.get (by assumption) (by k_mem)) (by assumption) | exact gcd_of_does | exact top_of_does (by first | assumption | exact Nums.get (by assumption) (by k_mem)) | exact bottom_of_does (by first | assumption | exact Nums.get (by assumption) (by k_mem)) | exact is_whole_does (by first | assumption | exact Nums.get (by assumption) (by k_mem)) | exact made_does.weaken (fun _ _ => OF.toN)) (by first | assumption | exact Nums.nil) (by ktr_room) (by ktr_units) ?_; intro r9 n9 h9 tk9 F9 N9 H9))); (try dsimp only); (try k_fold))
  intro mean mg mb dp un gd cn cs ad ccd cl outer A₀ base h₀ L m s Q E B F X N T hk hd hu hret
  have H0 : Nums news news [(.int t1 k1, t1, 1), (.int t2 k2, t2, 1)] := Nums.cons .int (Nums.cons .int Nums.nil)
  refine wpAny_call ?_
  k_dflt ktr_enter
  k_steps
  all_goals first | exact hret _ _ _ _ (by k_asm) (by k_asm) ⟨fun _ h => h, .int⟩ | (exfalso; omega)
set_option maxRecDepth 100000 in
set_option maxHeartbeats 8000000 in
theorem mul_does1 {w : World} {news : Led} {v1 v2 : Value} {t1 b1 t2 b2 : Int} (h1 : NumIn news v1 t1 b1) (h2 : NumIn news v2 t2 b2) (hw : ¬ (b1 = 1 ∧ b2 = 1)) (p1 : 0 < b1) (p2 : 0 < b2) (s1 : Sm 1000 t1) (s2 : Sm 1000 b1) (s3 : Sm 1000 t2) (s4 : Sm 1000 b2) : Does w 133 20 [v1, v2] news (ON news (mulT t1 b1 t2 b2) (mulB t1 b1 t2 b2)) := by
  unfold Does
  k_fill
  w_top off
  k_with_none
  k_with "binaryOp FloorDiv int int" => (with_reducible refine floordiv_dv (by assumption) ?_)
  k_with "call builtin:divmod" => (k_here; (with_reducible show wpAny _ _ (call (Value.builtin _) [Value.int _ _, Value.int _ _]) _ _ _); refine divmod_dv (by assumption) (by assumption) (by assumption) ?_; intro _ _ _)
  k_with "call builtin:isinstance" => (k_here; k_dflt (refine is_ratio (by k_asm) (by k_asm) (by first | exact Nums.pick (by assumption) (by assumption) (by first | exact fun _ h => h | exact fun _ h => .tail _ h | exact fun _ h => .tail _ (.tail _ h)) | k_asm) (by k_asm) (by first | assumption | exact Nums.get (by assumption) (by k_mem)) ?_); intro tk9)
  k_with "call ref" => (k_here; (k_dflt (first | (refine callI (by exact ⟨by k_asm, (by first | exact Nums.pick (by assumption) (by assumption) (by first | exact fun _ h => h | exact fun _ h => .tail _ h | exact fun _ h => .tail _ (.tail _ h)) | k_asm), by k_asm, by k_asm, by k_asm, by first | exact rfl | assumption⟩) (by first | exact floor_does (by first | assumption | exact Nums.get (by assumption) (by k_mem)) (by assumption) | exact ceiling_does (by first | assumption | exact Nums.get (by assumption) (by k_mem)) (by assumption) | exact gcd_of_does | exact top_of_does (by first | assumption | exact Nums.get (by assumption) (by k_mem)) | exact bottom_of_does (by first | assumption | exact Nums.get (by assumption) (by k_mem)) | exact is_whole_does (by first | assumption | exact Nums.get (by assumption) (by k_mem)) | exact made_does.weaken (fun _ _ => OF.toN)) (by ktr_room) (by ktr_units) ?_; intro k9 h9 tk9 F9 N9) | (refine callB (by exact ⟨by k_asm, (by first | exact Nums.pick (by assumption) (by assumption) (by first | exact fun _ h => h | exact fun _ h => .tail _ h | exact fun _ h => .tail _ (.tail _ h)) | k_asm), by k_asm, by k_asm, by k_asm, by first | exact rfl | assumption⟩) (by first | exact floor_does (by first | assumption | exact Nums.get (by assumption) (by k_mem)) (by assumption) | exact ceiling_does (by first | assumption | exact Nums.get (by assumption) (by k_mem)) (by assumption) | exact gcd_of_does | exact top_of_does (by first | assumption | exact Nums.get (by assumption) (by k_mem)) | exact bottom_of_does (by first | assumption | exact Nums.get (by assumption) (by k_mem)) | exact is_whole_does (by first | assumption | exact Nums.get (by assumption) (by k_mem)) | exact made_does.weaken (fun _ _ => OF.toN)) (by ktr_room) (by ktr_units) ?_; intro h9 tk9 F9 N9) | (refine callN (by exact ⟨by k_asm, (by first | exact Nums.pick (by assumption) (by assumption) (by first | exact fun _ h => h | exact fun _ h => .tail _ h | exact fun _ h => .tail _ (.tail _ h)) | k_asm), by k_asm, by k_asm, by k_asm, by first | exact rfl | assumption⟩) (by first | exact floor_does (by first | assumption | exact Nums.get (by assumption) (by k_mem)) (by assumption) | exact ceiling_does (by first | assumption | exact Nums.get (by assumption) (by k_mem)) (by assumption) | exact gcd_of_does | exact top_of_does (by first | assumption | exact Nums.get (by assumption) (by k_mem)) | exact bottom_of_does (by first | assumption | exact Nums.get (by assumption) (by k_mem)) | exact is_whole_does (by first | assumption | exact Nums.get (by assumption) (by k_mem)) | exact made_does.weaken (fun _ _ => OF.toN)) (by first | assumption | exact Nums.nil) (by ktr_room) (by ktr_units) ?_; intro r9 n9 h9 tk9 F9 N9 H9))); (try dsimp only); (try k_fold))
  intro mean mg mb dp un gd cn cs ad ccd cl outer A₀ base h₀ L m s Q E B F X N T hk hd hu hret
  have H0 : Nums news news [(v1, t1, b1), (v2, t2, b2)] := Nums.cons h1 (Nums.cons h2 Nums.nil)
  have hd1 : Dv ((Int.gcd t1 b2 : Nat) : Int) := Dv.of (Sm.gcd s1 s4) (by decide) (gcd_cast_ne (.inr (by omega)))
  have hd2 : Dv ((Int.gcd t2 b1 : Nat) : Int) := Dv.of (Sm.gcd s3 s2) (by decide) (gcd_cast_ne (.inr (by omega)))
  have hm1 : IntMulOk (t1.fdiv (Int.gcd t1 b2)) (t2.fdiv (Int.gcd t2 b1)) := Sm.ok (Sm.fdiv s1 (Int.natCast_nonneg _)) (Sm.fdiv s3 (Int.natCast_nonneg _)) (by decide) (by decide)
  have hm2 : IntMulOk (b1.fdiv (Int.gcd t2 b1)) (b2.fdiv (Int.gcd t1 b2)) := Sm.ok (Sm.fdiv s2 (Int.natCast_nonneg _)) (Sm.fdiv s4 (Int.natCast_nonneg _)) (by decide) (by decide)
  refine wpAny_call ?_
  k_dflt ktr_enter
  k_steps
  all_goals first | exact hret _ _ _ _ (by k_asm) (by k_asm) (Nums.out (by assumption) (by k_mem)) | (exfalso; omega)
/-- an exact number of at most k bits -/
def Sz (k : Nat) (q : Rat) : Prop := Sm k q.num ∧ Sm k ((q.den : Nat) : Int)
theorem Sz.le {j k : Nat} {q : Rat} (h : Sz j q) (hk : j ≤ k) : Sz k q := ⟨h.1.le hk, h.2.le hk⟩
theorem Sz.neg {k : Nat} {q : Rat} (h : Sz k q) : Sz k (-q) := ⟨by have := h.1; unfold Sm at *; rw [Rat.neg_num]; omega, h.2⟩
theorem Sz.inv {k : Nat} {q : Rat} (h : Sz k q) (h0 : q.num ≠ 0) : Sz k q⁻¹ := by
  have e := inv_rat q h0
  obtain ⟨h1, h2⟩ := h
  unfold Sz Sm at *
  rw [← e.1, ← e.2]
  constructor <;> split <;> omega
theorem natAbs_le_of_mul {a b c d : Int} (hb : 0 < b) (hc : 0 < c) (hd : b ≤ d) (e : a * d = c * b) : a.natAbs ≤ c.natAbs := by
  have h := congrArg Int.natAbs e
  rw [Int.natAbs_mul, Int.natAbs_mul] at h
  refine Nat.le_of_mul_le_mul_right (c := d.natAbs) ?_ (by omega)
  rw [h]
  exact Nat.mul_le_mul_left _ (by omega)
theorem Sz.add {j k : Nat} {p q : Rat} (h : Sz j p) (hk : Sz k q) : Sz (j + k + 1) (p + q) := by
  constructor
  · rw [Rat.num_add]
    refine Sm.of_natAbs_le (y := p.num * q.den + q.num * p.den) ?_ (Int.natAbs_ediv_le_natAbs _ _)
    have h2 := hk.1.mul h.2
    rw [Nat.add_comm k j] at h2
    exact Sm.add (h.1.mul hk.2) h2
  · rw [Rat.den_add]
    have h1 := h.2.mul hk.2
    refine Sm.le (j := j + k) (Sm.of_natAbs_le h1 ?_) (by omega)
    rw [Int.natAbs_natCast, ← Int.natCast_mul, Int.natAbs_natCast]
    exact Nat.div_le_self _ _
theorem Sz.sub {j k : Nat} {p q : Rat} (h : Sz j p) (hk : Sz k q) : Sz (j + k + 1) (p - q) := by
  rw [Rat.sub_eq_add_neg]; exact h.add hk.neg
theorem Sz.mul {j k : Nat} {p q : Rat} (h : Sz j p) (hk : Sz k q) : Sz (j + k) (p * q) := by
  constructor
  · rw [Rat.num_mul]
    exact Sm.of_natAbs_le (h.1.mul hk.1) (Int.natAbs_ediv_le_natAbs _ _)
  · rw [Rat.den_mul]
    refine Sm.of_natAbs_le (h.2.mul hk.2) ?_
    rw [Int.natAbs_natCast, ← Int.natCast_mul, Int.natAbs_natCast]
    exact Nat.div_le_self _ _
theorem addQ {w : World} {news : Led} {v1 v2 : Value} {p q : Rat} (h1 : NumIn news v1 p.num p.den) (h2 : NumIn news v2 q.num q.den) (s1 : Sz 1000 p) (s2 : Sz 1000 q) : Does w 119 20 [v1, v2] news (ON news (p + q).num (p + q).den) := by
  have e := add_rat p q
  by_cases hw : ((p.den : Nat) : Int) = 1 ∧ ((q.den : Nat) : Int) = 1
  · obtain ⟨k1, rfl⟩ := h1.whole hw.1
    obtain ⟨k2, rfl⟩ := h2.whole hw.2
    have e' := add_one_one p.num q.num
    rw [hw.1, hw.2] at e
    rw [← e.1, ← e.2, e'.1, e'.2]
    exact add_does0
  · rw [← e.1, ← e.2]
    exact add_does1 h1 h2 hw (den_pos' p) (den_pos' q) s1.1 s1.2 s2.1 s2.2
theorem mulQ {w : World} {news : Led} {v1 v2 : Value} {p q : Rat} (h1 : NumIn news v1 p.num p.den) (h2 : NumIn news v2 q.num q.den) (s1 : Sz 1000 p) (s2 : Sz 1000 q) : Does w 133 20 [v1, v2] news (ON news (p * q).num (p * q).den) := by
  have e := mul_rat p q
  by_cases hw : ((p.den : Nat) : Int) = 1 ∧ ((q.den : Nat) : Int) = 1
  · obtain ⟨k1, rfl⟩ := h1.whole hw.1
    obtain ⟨k2, rfl⟩ := h2.whole hw.2
    have e' := mul_one_one p.num q.num
    rw [hw.1, hw.2] at e
    rw [← e.1, ← e.2, e'.1, e'.2]
    exact mul_does0 (Sm.ok s1.1 s2.1 (by decide) (by decide))
  · rw [← e.1, ← e.2]
    exact mul_does1 h1 h2 hw (den_pos' p) (den_pos' q) s1.1 s1.2 s2.1 s2.2
theorem negQ {w : World} {news : Led} {v : Value} {q : Rat} (h : NumIn news v q.num q.den) : Does w 105 10 [v] news (ON news (-q).num (-q).den) := by
  have e := negate_does (w := w) h
  rwa [Int.zero_sub] at e
theorem invQ {w : World} {news : Led} {v : Value} {q : Rat} (h : NumIn news v q.num q.den) (h0 : q.num ≠ 0) : Does w 140 10 [v] news (ON news (q⁻¹).num (q⁻¹).den) := by
  have e := reciprocal_does (w := w) h
  have r := inv_rat q h0
  rwa [r.1, r.2] at e
set_option maxRecDepth 100000 in
set_option maxHeartbeats 8000000 in
theorem subQ {w : World} {news : Led} {v1 v2 : Value} {p q : Rat} (h1 : NumIn news v1 p.num p.den) (h2 : NumIn news v2 q.num q.den) (s1 : Sz 1000 p) (s2 : Sz 1000 q) : Does w 126 30 [v1, v2] news (ON news (p - q).num (p - q).den) := by
  unfold Does
  k_fill
  w_top off
  k_with_none
  k_with "binaryOp FloorDiv int int" => (with_reducible refine floordiv_dv (by assumption) ?_)
  k_with "call builtin:divmod" => (k_here; (with_reducible show wpAny _ _ (call (Value.builtin _) [Value.int _ _, Value.int _ _]) _ _ _); refine divmod_dv (by assumption) (by assumption) (by assumption) ?_; intro _ _ _)
  k_with "call builtin:isinstance" => (k_here; k_dflt (refine is_ratio (by k_asm) (by k_asm) (by first | exact Nums.pick (by assumption) (by assumption) (by first | exact fun _ h => h | exact fun _ h => .tail _ h | exact fun _ h => .tail _ (.tail _ h)) | k_asm) (by k_asm) (by first | assumption | exact Nums.get (by assumption) (by k_mem)) ?_); intro tk9)
  k_with "call ref" => (k_here; (k_dflt (first | (refine callI (by exact ⟨by k_asm, (by first | exact Nums.pick (by assumption) (by assumption) (by first | exact fun _ h => h | exact fun _ h => .tail _ h | exact fun _ h => .tail _ (.tail _ h)) | k_asm), by k_asm, by k_asm, by k_asm, by first | exact rfl | assumption⟩) (by first | exact addQ (by first | assumption | exact Nums.get (by assumption) (by k_mem)) (by first | assumption | exact Nums.get (by assumption) (by k_mem)) (by assumption) (by assumption) | exact mulQ (by first | assumption | exact Nums.get (by assumption) (by k_mem)) (by first | assumption | exact Nums.get (by assumption) (by k_mem)) (by assumption) (by assumption) | exact negQ (by first | assumption | exact Nums.get (by assumption) (by k_mem)) | exact invQ (by first | assumption | exact Nums.get (by assumption) (by k_mem)) (by assumption) | exact floor_does (by first | assumption | exact Nums.get (by assumption) (by k_mem)) (by assumption) | exact ceiling_does (by first | assumption | exact Nums.get (by assumption) (by k_mem)) (by assumption) | exact gcd_of_does | exact top_of_does (by first | assumption | exact Nums.get (by assumption) (by k_mem)) | exact bottom_of_does (by first | assumption | exact Nums.get (by assumption) (by k_mem)) | exact is_whole_does (by first | assumption | exact Nums.get (by assumption) (by k_mem)) | exact made_does.weaken (fun _ _ => OF.toN)) (by ktr_room) (by ktr_units) ?_; intro k9 h9 tk9 F9 N9) | (refine callB (by exact ⟨by k_asm, (by first | exact Nums.pick (by assumption) (by assumption) (by first | exact fun _ h => h | exact fun _ h => .tail _ h | exact fun _ h => .tail _ (.tail _ h)) | k_asm), by k_asm, by k_asm, by k_asm, by first | exact rfl | assumption⟩) (by first | exact addQ (by first | assumption | exact Nums.get (by assumption) (by k_mem)) (by first | assumption | exact Nums.get (by assumption) (by k_mem)) (by assumption) (by assumption) | exact mulQ (by first | assumption | exact Nums.get (by assumption) (by k_mem)) (by first | assumption | exact Nums.get (by assumption) (by k_mem)) (by assumption) (by assumption) | exact negQ (by first | assumption | exact Nums.get (by assumption) (by k_mem)) | exact invQ (by first | assumption | exact Nums.get (by assumption) (by k_mem)) (by assumption) | exact floor_does (by first | assumption | exact Nums.get (by assumption) (by k_mem)) (by assumption) | exact ceiling_does (by first | assumption | exact Nums.get (by assumption) (by k_mem)) (by assumption) | exact gcd_of_does | exact top_of_does (by first | assumption | exact Nums.get (by assumption) (by k_mem)) | exact bottom_of_does (by first | assumption | exact Nums.get (by assumption) (by k_mem)) | exact is_whole_does (by first | assumption | exact Nums.get (by assumption) (by k_mem)) | exact made_does.weaken (fun _ _ => OF.toN)) (by ktr_room) (by ktr_units) ?_; intro h9 tk9 F9 N9) | (refine callN (by exact ⟨by k_asm, (by first | exact Nums.pick (by assumption) (by assumption) (by first | exact fun _ h => h | exact fun _ h => .tail _ h | exact fun _ h => .tail _ (.tail _ h)) | k_asm), by k_asm, by k_asm, by k_asm, by first | exact rfl | assumption⟩) (by first | exact addQ (by first | assumption | exact Nums.get (by assumption) (by k_mem)) (by first | assumption | exact Nums.get (by assumption) (by k_mem)) (by assumption) (by assumption) | exact mulQ (by first | assumption | exact Nums.get (by assumption) (by k_mem)) (by first | assumption | exact Nums.get (by assumption) (by k_mem)) (by assumption) (by assumption) | exact negQ (by first | assumption | exact Nums.get (by assumption) (by k_mem)) | exact invQ (by first | assumption | exact Nums.get (by assumption) (by k_mem)) (by assumption) | exact floor_does (by first | assumption | exact Nums.get (by assumption) (by k_mem)) (by assumption) | exact ceiling_does (by first | assumption | exact Nums.get (by assumption) (by k_mem)) (by assumption) | exact gcd_of_does | exact top_of_does (by first | assumption | exact Nums.get (by assumption) (by k_mem)) | exact bottom_of_does (by first | assumption | exact Nums.get (by assumption) (by k_mem)) | exact is_whole_does (by first | assumption | exact Nums.get (by assumption) (by k_mem)) | exact made_does.weaken (fun _ _ => OF.toN)) (by first | assumption | exact Nums.nil) (by ktr_room) (by ktr_units) ?_; intro r9 n9 h9 tk9 F9 N9 H9))); (try dsimp only); (try k_fold))
  intro mean mg mb dp un gd cn cs ad ccd cl outer A₀ base h₀ L m s Q E B F X N T hk hd hu hret
  have H0 : Nums news news [(v1, p.num, ((p.den : Nat) : Int)), (v2, q.num, ((q.den : Nat) : Int))] := Nums.cons h1 (Nums.cons h2 Nums.nil)
  have s3 : Sz 1000 (-q) := s2.neg
  rw [Rat.sub_eq_add_neg] at hret
  refine wpAny_call ?_
  k_dflt ktr_enter
  k_steps
  all_goals exact hret _ _ _ _ (by k_asm) (by k_asm) (Nums.out (by assumption) (by k_mem))
set_option maxRecDepth 100000 in
set_option maxHeartbeats 8000000 in
theorem divQ {w : World} {news : Led} {v1 v2 : Value} {p q : Rat} (h1 : NumIn news v1 p.num p.den) (h2 : NumIn news v2 q.num q.den) (s1 : Sz 1000 p) (s2 : Sz 1000 q) (h0 : q.num ≠ 0) : Does w 147 30 [v1, v2] news (ON news (p * q⁻¹).num (p * q⁻¹).den) := by
  unfold Does
  k_fill
  w_top off
  k_with_none
  k_with "binaryOp FloorDiv int int" => (with_reducible refine floordiv_dv (by assumption) ?_)
  k_with "call builtin:divmod" => (k_here; (with_reducible show wpAny _ _ (call (Value.builtin _) [Value.int _ _, Value.int _ _]) _ _ _); refine divmod_dv (by assumption) (by assumption) (by assumption) ?_; intro _ _ _)
  k_with "call builtin:isinstance" => (k_here; k_dflt (refine is_ratio (by k_asm) (by k_asm) (by first | exact Nums.pick (by assumption) (by assumption) (by first | exact fun _ h => h | exact fun _ h => .tail _ h | exact fun _ h => .tail _ (.tail _ h)) | k_asm) (by k_asm) (by first | assumption | exact Nums.get (by assumption) (by k_mem)) ?_); intro tk9)
  k_with "call ref" => (k_here; (k_dflt (first | (refine callI (by exact ⟨by k_asm, (by first | exact Nums.pick (by assumption) (by assumption) (by first | exact fun _ h => h | exact fun _ h => .tail _ h | exact fun _ h => .tail _ (.tail _ h)) | k_asm), by k_asm, by k_asm, by k_asm, by first | exact rfl | assumption⟩) (by first | exact addQ (by first | assumption | exact Nums.get (by assumption) (by k_mem)) (by first | assumption | exact Nums.get (by assumption) (by k_mem)) (by assumption) (by assumption) | exact mulQ (by first | assumption | exact Nums.get (by assumption) (by k_mem)) (by first | assumption | exact Nums.get (by assumption) (by k_mem)) (by assumption) (by assumption) | exact negQ (by first | assumption | exact Nums.get (by assumption) (by k_mem)) | exact invQ (by first | assumption | exact Nums.get (by assumption) (by k_mem)) (by assumption) | exact floor_does (by first | assumption | exact Nums.get (by assumption) (by k_mem)) (by assumption) | exact ceiling_does (by first | assumption | exact Nums.get (by assumption) (by k_mem)) (by assumption) | exact gcd_of_does | exact top_of_does (by first | assumption | exact Nums.get (by assumption) (by k_mem)) | exact bottom_of_does (by first | assumption | exact Nums.get (by assumption) (by k_mem)) | exact is_whole_does (by first | assumption | exact Nums.get (by assumption) (by k_mem)) | exact made_does.weaken (fun _ _ => OF.toN)) (by ktr_room) (by ktr_units) ?_; intro k9 h9 tk9 F9 N9) | (refine callB (by exact ⟨by k_asm, (by first | exact Nums.pick (by assumption) (by assumption) (by first | exact fun _ h => h | exact fun _ h => .tail _ h | exact fun _ h => .tail _ (.tail _ h)) | k_asm), by k_asm, by k_asm, by k_asm, by first | exact rfl | assumption⟩) (by first | exact addQ (by first | assumption | exact Nums.get (by assumption) (by k_mem)) (by first | assumption | exact Nums.get (by assumption) (by k_mem)) (by assumption) (by assumption) | exact mulQ (by first | assumption | exact Nums.get (by assumption) (by k_mem)) (by first | assumption | exact Nums.get (by assumption) (by k_mem)) (by assumption) (by assumption) | exact negQ (by first | assumption | exact Nums.get (by assumption) (by k_mem)) | exact invQ (by first | assumption | exact Nums.get (by assumption) (by k_mem)) (by assumption) | exact floor_does (by first | assumption | exact Nums.get (by assumption) (by k_mem)) (by assumption) | exact ceiling_does (by first | assumption | exact Nums.get (by assumption) (by k_mem)) (by assumption) | exact gcd_of_does | exact top_of_does (by first | assumption | exact Nums.get (by assumption) (by k_mem)) | exact bottom_of_does (by first | assumption | exact Nums.get (by assumption) (by k_mem)) | exact is_whole_does (by first | assumption | exact Nums.get (by assumption) (by k_mem)) | exact made_does.weaken (fun _ _ => OF.toN)) (by ktr_room) (by ktr_units) ?_; intro h9 tk9 F9 N9) | (refine callN (by exact ⟨by k_asm, (by first | exact Nums.pick (by assumption) (by assumption) (by first | exact fun _ h => h | exact fun _ h => .tail _ h | exact fun _ h => .tail _ (.tail _ h)) | k_asm), by k_asm, by k_asm, by k_asm, by first | exact rfl | assumption⟩) (by first | exact addQ (by first | assumption | exact Nums.get (by assumption) (by k_mem)) (by first | assumption | exact Nums.get (by assumption) (by k_mem)) (by assumption) (by assumption) | exact mulQ (by first | assumption | exact Nums.get (by assumption) (by k_mem)) (by first | assumption | exact Nums.get (by assumption) (by k_mem)) (by assumption) (by assumption) | exact negQ (by first | assumption | exact Nums.get (by assumption) (by k_mem)) | exact invQ (by first | assumption | exact Nums.get (by assumption) (by k_mem)) (by assumption) | exact floor_does (by first | assumption | exact Nums.get (by assumption) (by k_mem)) (by assumption) | exact ceiling_does (by first | assumption | exact Nums.get (by assumption) (by k_mem)) (by assumption) | exact gcd_of_does | exact top_of_does (by first | assumption | exact Nums.get (by assumption) (by k_mem)) | exact bottom_of_does (by first | assumption | exact Nums.get (by assumption) (by k_mem)) | exact is_whole_does (by first | assumption | exact Nums.get (by assumption) (by k_mem)) | exact made_does.weaken (fun _ _ => OF.toN)) (by first | assumption | exact Nums.nil) (by ktr_room) (by ktr_units) ?_; intro r9 n9 h9 tk9 F9 N9 H9))); (try dsimp only); (try k_fold))
  intro mean mg mb dp un gd cn cs ad ccd cl outer A₀ base h₀ L m s Q E B F X N T hk hd hu hret
  have H0 : Nums news news [(v1, p.num, ((p.den : Nat) : Int)), (v2, q.num, ((q.den : Nat) : Int))] := Nums.cons h1 (Nums.cons h2 Nums.nil)
  have s3 : Sz 1000 (q⁻¹) := s2.inv h0
  refine wpAny_call ?_
  k_dflt ktr_enter
  k_steps
  all_goals exact hret _ _ _ _ (by k_asm) (by k_asm) (Nums.out (by assumption) (by k_mem))
theorem floordiv_eq {prog : Program} {w : World} {A : Around} {E : Value → Shared → Prop} {s : Shared} {a b c : Int} {t u : Tok} {Q : Value → Shared → Prop} (hd : Dv b) (e : a.fdiv b = c) (h : Q (.int c s.toks) { s with toks := s.toks + 1 }) :
    wpAny (model prog w) A (binaryOp .FloorDiv (.int a t) (.int b u)) Q E s := floordiv_dv hd (e ▸ h)
theorem lowest {t b T B : Int} (lo : Lo t b) (hB : 0 < B) (e : t * B = T * b) : T.fdiv (Int.gcd (if T < 0 then -T else T) B) = t ∧ B.fdiv (Int.gcd (if T < 0 then -T else T) B) = b := by
  have e1 : Int.gcd (if T < 0 then -T else T) B = Int.gcd T B := by split <;> simp only [Int.neg_gcd]
  rw [e1]
  obtain ⟨g, a', b', eg, hg, h1, h2, f1, f2, hc⟩ := gcd_split (a := T) (b := B) (.inr (by omega))
  rw [eg, f1, f2]
  have hb' : 0 < b' := pos_of_mul hg (h2 ▸ hB)
  obtain ⟨n, rfl⟩ := Int.eq_ofNat_of_zero_le (Int.le_of_lt hb')
  have r := lo.eq (q := ⟨a', n, by omega, hc⟩) (by
    show t * (n : Int) = a' * b
    refine Int.eq_of_mul_eq_mul_left (a := g) (by omega) ?_
    have e2 : g * (t * (n : Int)) = t * (g * (n : Int)) := by grind
    have e3 : g * (a' * b) = (g * a') * b := by grind
    rw [e2, e3, ← h1, ← h2, e])
  exact ⟨r.1.symm, r.2.symm⟩
set_option maxRecDepth 100000 in
set_option maxHeartbeats 8000000 in
theorem law_is0 {w : World} {news : Led} {v : Value} {t b y z : Int} {k1 k2 : Tok} (hv : NumIn news v t b) (lo : Lo t b) (hB : z ≠ 0) (e : t * z = y * b) (s1 : Sm 4000 y) (s2 : Sm 4000 z) (hpos : 0 < z) : Does w 222 30 [v, .int y k1, .int z k2] news (OB news true) := by
  unfold Does
  k_fill
  w_top off
  k_with_none
  k_with "binaryOp FloorDiv int int" => (with_reducible refine floordiv_dv (by assumption) ?_)
  k_with "binaryOp FloorDiv int int" => (with_reducible refine floordiv_eq (by assumption) (by assumption) ?_)
  k_with "call builtin:divmod" => (k_here; (with_reducible show wpAny _ _ (call (Value.builtin _) [Value.int _ _, Value.int _ _]) _ _ _); refine divmod_dv (by assumption) (by assumption) (by assumption) ?_; intro _ _ _)
  k_with "call builtin:isinstance" => (k_here; k_dflt (refine is_ratio (by k_asm) (by k_asm) (by first | exact Nums.pick (by assumption) (by assumption) (by first | exact fun _ h => h | exact fun _ h => .tail _ h | exact fun _ h => .tail _ (.tail _ h)) | k_asm) (by k_asm) (by first | assumption | exact Nums.get (by assumption) (by k_mem)) ?_); intro tk9)
  k_with "call ref" => (k_here; (k_dflt (first | (refine callI (by exact ⟨by k_asm, (by first | exact Nums.pick (by assumption) (by assumption) (by first | exact fun _ h => h | exact fun _ h => .tail _ h | exact fun _ h => .tail _ (.tail _ h)) | k_asm), by k_asm, by k_asm, by k_asm, by first | exact rfl | assumption⟩) (by first | exact law_divisor_does (by first | assumption | omega) (by first | assumption | omega) | exact is_exact_does (by first | assumption | exact Nums.get (by assumption) (by k_mem)) | exact addQ (by first | assumption | exact Nums.get (by assumption) (by k_mem)) (by first | assumption | exact Nums.get (by assumption) (by k_mem)) (by assumption) (by assumption) | exact mulQ (by first | assumption | exact Nums.get (by assumption) (by k_mem)) (by first | assumption | exact Nums.get (by assumption) (by k_mem)) (by assumption) (by assumption) | exact negQ (by first | assumption | exact Nums.get (by assumption) (by k_mem)) | exact invQ (by first | assumption | exact Nums.get (by assumption) (by k_mem)) (by assumption) | exact floor_does (by first | assumption | exact Nums.get (by assumption) (by k_mem)) (by assumption) | exact ceiling_does (by first | assumption | exact Nums.get (by assumption) (by k_mem)) (by assumption) | exact gcd_of_does | exact top_of_does (by first | assumption | exact Nums.get (by assumption) (by k_mem)) | exact bottom_of_does (by first | assumption | exact Nums.get (by assumption) (by k_mem)) | exact is_whole_does (by first | assumption | exact Nums.get (by assumption) (by k_mem)) | exact made_does.weaken (fun _ _ => OF.toN)) (by ktr_room) (by ktr_units) ?_; intro k9 h9 tk9 F9 N9) | (refine callB (by exact ⟨by k_asm, (by first | exact Nums.pick (by assumption) (by assumption) (by first | exact fun _ h => h | exact fun _ h => .tail _ h | exact fun _ h => .tail _ (.tail _ h)) | k_asm), by k_asm, by k_asm, by k_asm, by first | exact rfl | assumption⟩) (by first | exact law_divisor_does (by first | assumption | omega) (by first | assumption | omega) | exact is_exact_does (by first | assumption | exact Nums.get (by assumption) (by k_mem)) | exact addQ (by first | assumption | exact Nums.get (by assumption) (by k_mem)) (by first | assumption | exact Nums.get (by assumption) (by k_mem)) (by assumption) (by assumption) | exact mulQ (by first | assumption | exact Nums.get (by assumption) (by k_mem)) (by first | assumption | exact Nums.get (by assumption) (by k_mem)) (by assumption) (by assumption) | exact negQ (by first | assumption | exact Nums.get (by assumption) (by k_mem)) | exact invQ (by first | assumption | exact Nums.get (by assumption) (by k_mem)) (by assumption) | exact floor_does (by first | assumption | exact Nums.get (by assumption) (by k_mem)) (by assumption) | exact ceiling_does (by first | assumption | exact Nums.get (by assumption) (by k_mem)) (by assumption) | exact gcd_of_does | exact top_of_does (by first | assumption | exact Nums.get (by assumption) (by k_mem)) | exact bottom_of_does (by first | assumption | exact Nums.get (by assumption) (by k_mem)) | exact is_whole_does (by first | assumption | exact Nums.get (by assumption) (by k_mem)) | exact made_does.weaken (fun _ _ => OF.toN)) (by ktr_room) (by ktr_units) ?_; intro h9 tk9 F9 N9) | (refine callN (by exact ⟨by k_asm, (by first | exact Nums.pick (by assumption) (by assumption) (by first | exact fun _ h => h | exact fun _ h => .tail _ h | exact fun _ h => .tail _ (.tail _ h)) | k_asm), by k_asm, by k_asm, by k_asm, by first | exact rfl | assumption⟩) (by first | exact law_divisor_does (by first | assumption | omega) (by first | assumption | omega) | exact is_exact_does (by first | assumption | exact Nums.get (by assumption) (by k_mem)) | exact addQ (by first | assumption | exact Nums.get (by assumption) (by k_mem)) (by first | assumption | exact Nums.get (by assumption) (by k_mem)) (by assumption) (by assumption) | exact mulQ (by first | assumption | exact Nums.get (by assumption) (by k_mem)) (by first | assumption | exact Nums.get (by assumption) (by k_mem)) (by assumption) (by assumption) | exact negQ (by first | assumption | exact Nums.get (by assumption) (by k_mem)) | exact invQ (by first | assumption | exact Nums.get (by assumption) (by k_mem)) (by assumption) | exact floor_does (by first | assumption | exact Nums.get (by assumption) (by k_mem)) (by assumption) | exact ceiling_does (by first | assumption | exact Nums.get (by assumption) (by k_mem)) (by assumption) | exact gcd_of_does | exact top_of_does (by first | assumption | exact Nums.get (by assumption) (by k_mem)) | exact bottom_of_does (by first | assumption | exact Nums.get (by assumption) (by k_mem)) | exact is_whole_does (by first | assumption | exact Nums.get (by assumption) (by k_mem)) | exact made_does.weaken (fun _ _ => OF.toN)) (by first | assumption | exact Nums.nil) (by ktr_room) (by ktr_units) ?_; intro r9 n9 h9 tk9 F9 N9 H9))); (try dsimp only); (try k_fold))
  intro mean mg mb dp un gd cn cs ad ccd cl outer A₀ base h₀ L m s Q E B F X N T hk hd hu hret
  have H0 : Nums news news [(v, t, b)] := Nums.cons hv Nums.nil
  have hab : 0 ≤ (if y < 0 then -y else y) := by split <;> omega
  have hB0 : 0 ≤ z := by omega
  have hd1 : Dv ((Int.gcd (if y < 0 then -y else y) z : Nat) : Int) := Dv.of (Sm.gcd s1.abs s2) (by decide) (gcd_cast_ne (.inr hB))
  have f1 := (lowest lo hpos e).1
  have f2 := (lowest lo hpos e).2
  refine wpAny_call ?_
  k_dflt ktr_enter
  k_steps
  · exfalso
    have hh : (decide (b = 1) != (b == 1)) = true := by assumption
    by_cases hb : b = 1 <;> simp [hb] at hh
  · exfalso
    have hh : (decide (b ≠ 1) != (b != 1)) = true := by assumption
    by_cases hb : b = 1 <;> simp [hb] at hh
  · exact hret _ _ _ _ (by k_asm) (led_drop (by assumption) (fun _ h => .tail _ (.tail _ h))) ⟨rfl, rfl⟩
theorem Sm.neg0 {k : Nat} {x : Int} (h : Sm k x) : Sm k (0 - x) := by unfold Sm at *; omega
set_option maxRecDepth 100000 in
set_option maxHeartbeats 8000000 in
theorem law_is1 {w : World} {news : Led} {v : Value} {t b y z : Int} {k1 k2 : Tok} (hv : NumIn news v t b) (lo : Lo t b) (hB : z ≠ 0) (e : t * z = y * b) (s1 : Sm 4000 y) (s2 : Sm 4000 z) (hpos : ¬ 0 < z) : Does w 222 30 [v, .int y k1, .int z k2] news (OB news true) := by
  unfold Does
  k_fill
  w_top off
  k_with_none
  k_with "binaryOp FloorDiv int int" => (with_reducible refine floordiv_dv (by assumption) ?_)
  k_with "binaryOp FloorDiv int int" => (with_reducible refine floordiv_eq (by assumption) (by assumption) ?_)
  k_with "call builtin:divmod" => (k_here; (with_reducible show wpAny _ _ (call (Value.builtin _) [Value.int _ _, Value.int _ _]) _ _ _); refine divmod_dv (by assumption) (by assumption) (by assumption) ?_; intro _ _ _)
  k_with "call builtin:isinstance" => (k_here; k_dflt (refine is_ratio (by k_asm) (by k_asm) (by first | exact Nums.pick (by assumption) (by assumption) (by first | exact fun _ h => h | exact fun _ h => .tail _ h | exact fun _ h => .tail _ (.tail _ h)) | k_asm) (by k_asm) (by first | assumption | exact Nums.get (by assumption) (by k_mem)) ?_); intro tk9)
  k_with "call ref" => (k_here; (k_dflt (first | (refine callI (by exact ⟨by k_asm, (by first | exact Nums.pick (by assumption) (by assumption) (by first | exact fun _ h => h | exact fun _ h => .tail _ h | exact fun _ h => .tail _ (.tail _ h)) | k_asm), by k_asm, by k_asm, by k_asm, by first | exact rfl | assumption⟩) (by first | exact law_divisor_does (by first | assumption | omega) (by first | assumption | omega) | exact is_exact_does (by first | assumption | exact Nums.get (by assumption) (by k_mem)) | exact addQ (by first | assumption | exact Nums.get (by assumption) (by k_mem)) (by first | assumption | exact Nums.get (by assumption) (by k_mem)) (by assumption) (by assumption) | exact mulQ (by first | assumption | exact Nums.get (by assumption) (by k_mem)) (by first | assumption | exact Nums.get (by assumption) (by k_mem)) (by assumption) (by assumption) | exact negQ (by first | assumption | exact Nums.get (by assumption) (by k_mem)) | exact invQ (by first | assumption | exact Nums.get (by assumption) (by k_mem)) (by assumption) | exact floor_does (by first | assumption | exact Nums.get (by assumption) (by k_mem)) (by assumption) | exact ceiling_does (by first | assumption | exact Nums.get (by assumption) (by k_mem)) (by assumption) | exact gcd_of_does | exact top_of_does (by first | assumption | exact Nums.get (by assumption) (by k_mem)) | exact bottom_of_does (by first | assumption | exact Nums.get (by assumption) (by k_mem)) | exact is_whole_does (by first | assumption | exact Nums.get (by assumption) (by k_mem)) | exact made_does.weaken (fun _ _ => OF.toN)) (by ktr_room) (by ktr_units) ?_; intro k9 h9 tk9 F9 N9) | (refine callB (by exact ⟨by k_asm, (by first | exact Nums.pick (by assumption) (by assumption) (by first | exact fun _ h => h | exact fun _ h => .tail _ h | exact fun _ h => .tail _ (.tail _ h)) | k_asm), by k_asm, by k_asm, by k_asm, by first | exact rfl | assumption⟩) (by first | exact law_divisor_does (by first | assumption | omega) (by first | assumption | omega) | exact is_exact_does (by first | assumption | exact Nums.get (by assumption) (by k_mem)) | exact addQ (by first | assumption | exact Nums.get (by assumption) (by k_mem)) (by first | assumption | exact Nums.get (by assumption) (by k_mem)) (by assumption) (by assumption) | exact mulQ (by first | assumption | exact Nums.get (by assumption) (by k_mem)) (by first | assumption | exact Nums.get (by assumption) (by k_mem)) (by assumption) (by assumption) | exact negQ (by first | assumption | exact Nums.get (by assumption) (by k_mem)) | exact invQ (by first | assumption | exact Nums.get (by assumption) (by k_mem)) (by assumption) | exact floor_does (by first | assumption | exact Nums.get (by assumption) (by k_mem)) (by assumption) | exact ceiling_does (by first | assumption | exact Nums.get (by assumption) (by k_mem)) (by assumption) | exact gcd_of_does | exact top_of_does (by first | assumption | exact Nums.get (by assumption) (by k_mem)) | exact bottom_of_does (by first | assumption | exact Nums.get (by assumption) (by k_mem)) | exact is_whole_does (by first | assumption | exact Nums.get (by assumption) (by k_mem)) | exact made_does.weaken (fun _ _ => OF.toN)) (by ktr_room) (by ktr_units) ?_; intro h9 tk9 F9 N9) | (refine callN (by exact ⟨by k_asm, (by first | exact Nums.pick (by assumption) (by assumption) (by first | exact fun _ h => h | exact fun _ h => .tail _ h | exact fun _ h => .tail _ (.tail _ h)) | k_asm), by k_asm, by k_asm, by k_asm, by first | exact rfl | assumption⟩) (by first | exact law_divisor_does (by first | assumption | omega) (by first | assumption | omega) | exact is_exact_does (by first | assumption | exact Nums.get (by assumption) (by k_mem)) | exact addQ (by first | assumption | exact Nums.get (by assumption) (by k_mem)) (by first | assumption | exact Nums.get (by assumption) (by k_mem)) (by assumption) (by assumption) | exact mulQ (by first | assumption | exact Nums.get (by assumption) (by k_mem)) (by first | assumption | exact Nums.get (by assumption) (by k_mem)) (by assumption) (by assumption) | exact negQ (by first | assumption | exact Nums.get (by assumption) (by k_mem)) | exact invQ (by first | assumption | exact Nums.get (by assumption) (by k_mem)) (by assumption) | exact floor_does (by first | assumption | exact Nums.get (by assumption) (by k_mem)) (by assumption) | exact ceiling_does (by first | assumption | exact Nums.get (by assumption) (by k_mem)) (by assumption) | exact gcd_of_does | exact top_of_does (by first | assumption | exact Nums.get (by assumption) (by k_mem)) | exact bottom_of_does (by first | assumption | exact Nums.get (by assumption) (by k_mem)) | exact is_whole_does (by first | assumption | exact Nums.get (by assumption) (by k_mem)) | exact made_does.weaken (fun _ _ => OF.toN)) (by first | assumption | exact Nums.nil) (by ktr_room) (by ktr_units) ?_; intro r9 n9 h9 tk9 F9 N9 H9))); (try dsimp only); (try k_fold))
  intro mean mg mb dp un gd cn cs ad ccd cl outer A₀ base h₀ L m s Q E B F X N T hk hd hu hret
  have H0 : Nums news news [(v, t, b)] := Nums.cons hv Nums.nil
  have hpos' : 0 < 0 - z := by omega
  have e' : t * (0 - z) = (0 - y) * b := by grind
  have hab : 0 ≤ (if 0 - y < 0 then -(0 - y) else 0 - y) := by split <;> omega
  have hB0 : 0 ≤ 0 - z := by omega
  have hd1 : Dv ((Int.gcd (if 0 - y < 0 then -(0 - y) else 0 - y) (0 - z) : Nat) : Int) := Dv.of (Sm.gcd s1.neg0.abs s2.neg0) (by decide) (gcd_cast_ne (.inr (by omega)))
  have f1 := (lowest lo hpos' e').1
  have f2 := (lowest lo hpos' e').2
  refine wpAny_call ?_
  k_dflt ktr_enter
  k_steps
  · exfalso
    have hh : (decide (b = 1) != (b == 1)) = true := by assumption
    by_cases hb : b = 1 <;> simp [hb] at hh
  · exfalso
    have hh : (decide (b ≠ 1) != (b != 1)) = true := by assumption
    by_cases hb : b = 1 <;> simp [hb] at hh
  · exact hret _ _ _ _ (by k_asm) (led_drop (by assumption) (fun _ h => .tail _ (.tail _ h))) ⟨rfl, rfl⟩
theorem law_is_does {w : World} {news : Led} {v : Value} {t b y z : Int} {k1 k2 : Tok} (hv : NumIn news v t b) (lo : Lo t b) (hB : z ≠ 0) (e : t * z = y * b) (s1 : Sm 4000 y) (s2 : Sm 4000 z) : Does w 222 30 [v, .int y k1, .int z k2] news (OB news true) :=
  if h : 0 < z then law_is0 hv lo hB e s1 s2 h else law_is1 hv lo hB e s1 s2 h
theorem eq_due (p q : Rat) : (decide (p.num = q.num ∧ ((p.den : Nat) : Int) = ((q.den : Nat) : Int)) == (b2i (decide (q.num * p.den < p.num * q.den)) - b2i (decide (p.num * q.den < q.num * p.den)) == 0)) = true := by
  have e : (p.num = q.num ∧ ((p.den : Nat) : Int) = ((q.den : Nat) : Int)) ↔ p.num * q.den = q.num * p.den := by
    constructor
    · rintro ⟨h1, h2⟩; rw [h1, h2]
    · intro h
      have := Rat.eq_iff_mul_eq_mul.mpr h
      subst this
      exact ⟨rfl, rfl⟩
  by_cases h : p.num * q.den = q.num * p.den
  · have h1 : ¬ (q.num * p.den < p.num * q.den) := by omega
    have h2 : ¬ (p.num * q.den < q.num * p.den) := by omega
    simp only [decide_eq_true (e.mpr h), decide_eq_false h1, decide_eq_false h2]
    rfl
  · rw [decide_eq_false (fun x => h (e.mp x))]
    by_cases h1 : q.num * p.den < p.num * q.den
    · have h2 : ¬ (p.num * q.den < q.num * p.den) := by omega
      simp only [decide_eq_true h1, decide_eq_false h2]; rfl
    · have h2 : (p.num * q.den < q.num * p.den) := by omega
      simp only [decide_eq_false h1, decide_eq_true h2]; rfl
set_option maxRecDepth 100000 in
set_option maxHeartbeats 8000000 in
theorem pair_right {w : World} {news : Led} {v1 v2 : Value} {p q : Rat} (h1 : NumIn news v1 p.num p.den) (h2 : NumIn news v2 q.num q.den) (s1 : Sz 1000 p) (s2 : Sz 1000 q) : Does w 229 60 [v1, v2] news (OB news true) := by
  unfold Does
  k_fill
  w_top off
  k_with_none
  k_with "binaryOp FloorDiv int int" => (with_reducible refine floordiv_dv (by assumption) ?_)
  k_with "binaryOp FloorDiv int int" => (with_reducible refine floordiv_eq (by assumption) (by assumption) ?_)
  k_with "call builtin:divmod" => (k_here; (with_reducible show wpAny _ _ (call (Value.builtin _) [Value.int _ _, Value.int _ _]) _ _ _); refine divmod_dv (by assumption) (by assumption) (by assumption) ?_; intro _ _ _)
  k_with "call builtin:isinstance" => (k_here; k_dflt (refine is_ratio (by k_asm) (by k_asm) (by first | exact Nums.pick (by assumption) (by assumption) (by first | exact fun _ h => h | exact fun _ h => .tail _ h | exact fun _ h => .tail _ (.tail _ h)) | k_asm) (by k_asm) (by first | assumption | exact Nums.get (by assumption) (by k_mem)) ?_); intro tk9)
  k_with "call ref" => (k_here; (k_dflt (first | (refine callI (by exact ⟨by k_asm, (by first | exact Nums.pick (by assumption) (by assumption) (by first | exact fun _ h => h | exact fun _ h => .tail _ h | exact fun _ h => .tail _ (.tail _ h)) | k_asm), by k_asm, by k_asm, by k_asm, by first | exact rfl | assumption⟩) (by first | exact law_is_does (by first | assumption | exact Nums.get (by assumption) (by k_mem)) (Lo.of _) (Int.mul_ne_zero (den_ne _) (by assumption)) (div_cross _ _ (by assumption)) (by assumption) (by assumption) | exact law_is_does (by first | assumption | exact Nums.get (by assumption) (by k_mem)) (Lo.of _) (by assumption) (by assumption) (by assumption) (by assumption) | exact subQ (by first | assumption | exact Nums.get (by assumption) (by k_mem)) (by first | assumption | exact Nums.get (by assumption) (by k_mem)) (by assumption) (by assumption) | exact divQ (by first | assumption | exact Nums.get (by assumption) (by k_mem)) (by first | assumption | exact Nums.get (by assumption) (by k_mem)) (by assumption) (by assumption) (by assumption) | exact compare_does (by first | assumption | exact Nums.get (by assumption) (by k_mem)) (by first | assumption | exact Nums.get (by assumption) (by k_mem)) (by assumption) (by assumption) | exact is_equal_does (by first | assumption | exact Nums.get (by assumption) (by k_mem)) (by first | assumption | exact Nums.get (by assumption) (by k_mem)) | exact law_divisor_does (by first | assumption | omega) (by first | assumption | omega) | exact is_exact_does (by first | assumption | exact Nums.get (by assumption) (by k_mem)) | exact addQ (by first | assumption | exact Nums.get (by assumption) (by k_mem)) (by first | assumption | exact Nums.get (by assumption) (by k_mem)) (by assumption) (by assumption) | exact mulQ (by first | assumption | exact Nums.get (by assumption) (by k_mem)) (by first | assumption | exact Nums.get (by assumption) (by k_mem)) (by assumption) (by assumption) | exact negQ (by first | assumption | exact Nums.get (by assumption) (by k_mem)) | exact invQ (by first | assumption | exact Nums.get (by assumption) (by k_mem)) (by assumption) | exact floor_does (by first | assumption | exact Nums.get (by assumption) (by k_mem)) (by assumption) | exact ceiling_does (by first | assumption | exact Nums.get (by assumption) (by k_mem)) (by assumption) | exact gcd_of_does | exact top_of_does (by first | assumption | exact Nums.get (by assumption) (by k_mem)) | exact bottom_of_does (by first | assumption | exact Nums.get (by assumption) (by k_mem)) | exact is_whole_does (by first | assumption | exact Nums.get (by assumption) (by k_mem)) | exact made_does.weaken (fun _ _ => OF.toN)) (by ktr_room) (by ktr_units) ?_; intro k9 h9 tk9 F9 N9) | (refine callB (by exact ⟨by k_asm, (by first | exact Nums.pick (by assumption) (by assumption) (by first | exact fun _ h => h | exact fun _ h => .tail _ h | exact fun _ h => .tail _ (.tail _ h)) | k_asm), by k_asm, by k_asm, by k_asm, by first | exact rfl | assumption⟩) (by first | exact law_is_does (by first | assumption | exact Nums.get (by assumption) (by k_mem)) (Lo.of _) (Int.mul_ne_zero (den_ne _) (by assumption)) (div_cross _ _ (by assumption)) (by assumption) (by assumption) | exact law_is_does (by first | assumption | exact Nums.get (by assumption) (by k_mem)) (Lo.of _) (by assumption) (by assumption) (by assumption) (by assumption) | exact subQ (by first | assumption | exact Nums.get (by assumption) (by k_mem)) (by first | assumption | exact Nums.get (by assumption) (by k_mem)) (by assumption) (by assumption) | exact divQ (by first | assumption | exact Nums.get (by assumption) (by k_mem)) (by first | assumption | exact Nums.get (by assumption) (by k_mem)) (by assumption) (by assumption) (by assumption) | exact compare_does (by first | assumption | exact Nums.get (by assumption) (by k_mem)) (by first | assumption | exact Nums.get (by assumption) (by k_mem)) (by assumption) (by assumption) | exact is_equal_does (by first | assumption | exact Nums.get (by assumption) (by k_mem)) (by first | assumption | exact Nums.get (by assumption) (by k_mem)) | exact law_divisor_does (by first | assumption | omega) (by first | assumption | omega) | exact is_exact_does (by first | assumption | exact Nums.get (by assumption) (by k_mem)) | exact addQ (by first | assumption | exact Nums.get (by assumption) (by k_mem)) (by first | assumption | exact Nums.get (by assumption) (by k_mem)) (by assumption) (by assumption) | exact mulQ (by first | assumption | exact Nums.get (by assumption) (by k_mem)) (by first | assumption | exact Nums.get (by assumption) (by k_mem)) (by assumption) (by assumption) | exact negQ (by first | assumption | exact Nums.get (by assumption) (by k_mem)) | exact invQ (by first | assumption | exact Nums.get (by assumption) (by k_mem)) (by assumption) | exact floor_does (by first | assumption | exact Nums.get (by assumption) (by k_mem)) (by assumption) | exact ceiling_does (by first | assumption | exact Nums.get (by assumption) (by k_mem)) (by assumption) | exact gcd_of_does | exact top_of_does (by first | assumption | exact Nums.get (by assumption) (by k_mem)) | exact bottom_of_does (by first | assumption | exact Nums.get (by assumption) (by k_mem)) | exact is_whole_does (by first | assumption | exact Nums.get (by assumption) (by k_mem)) | exact made_does.weaken (fun _ _ => OF.toN)) (by ktr_room) (by ktr_units) ?_; intro h9 tk9 F9 N9) | (refine callN (by exact ⟨by k_asm, (by first | exact Nums.pick (by assumption) (by assumption) (by first | exact fun _ h => h | exact fun _ h => .tail _ h | exact fun _ h => .tail _ (.tail _ h)) | k_asm), by k_asm, by k_asm, by k_asm, by first | exact rfl | assumption⟩) (by first | exact law_is_does (by first | assumption | exact Nums.get (by assumption) (by k_mem)) (Lo.of _) (Int.mul_ne_zero (den_ne _) (by assumption)) (div_cross _ _ (by assumption)) (by assumption) (by assumption) | exact law_is_does (by first | assumption | exact Nums.get (by assumption) (by k_mem)) (Lo.of _) (by assumption) (by assumption) (by assumption) (by assumption) | exact subQ (by first | assumption | exact Nums.get (by assumption) (by k_mem)) (by first | assumption | exact Nums.get (by assumption) (by k_mem)) (by assumption) (by assumption) | exact divQ (by first | assumption | exact Nums.get (by assumption) (by k_mem)) (by first | assumption | exact Nums.get (by assumption) (by k_mem)) (by assumption) (by assumption) (by assumption) | exact compare_does (by first | assumption | exact Nums.get (by assumption) (by k_mem)) (by first | assumption | exact Nums.get (by assumption) (by k_mem)) (by assumption) (by assumption) | exact is_equal_does (by first | assumption | exact Nums.get (by assumption) (by k_mem)) (by first | assumption | exact Nums.get (by assumption) (by k_mem)) | exact law_divisor_does (by first | assumption | omega) (by first | assumption | omega) | exact is_exact_does (by first | assumption | exact Nums.get (by assumption) (by k_mem)) | exact addQ (by first | assumption | exact Nums.get (by assumption) (by k_mem)) (by first | assumption | exact Nums.get (by assumption) (by k_mem)) (by assumption) (by assumption) | exact mulQ (by first | assumption | exact Nums.get (by assumption) (by k_mem)) (by first | assumption | exact Nums.get (by assumption) (by k_mem)) (by assumption) (by assumption) | exact negQ (by first | assumption | exact Nums.get (by assumption) (by k_mem)) | exact invQ (by first | assumption | exact Nums.get (by assumption) (by k_mem)) (by assumption) | exact floor_does (by first | assumption | exact Nums.get (by assumption) (by k_mem)) (by assumption) | exact ceiling_does (by first | assumption | exact Nums.get (by assumption) (by k_mem)) (by assumption) | exact gcd_of_does | exact top_of_does (by first | assumption | exact Nums.get (by assumption) (by k_mem)) | exact bottom_of_does (by first | assumption | exact Nums.get (by assumption) (by k_mem)) | exact is_whole_does (by first | assumption | exact Nums.get (by assumption) (by k_mem)) | exact made_does.weaken (fun _ _ => OF.toN)) (by first | assumption | exact Nums.nil) (by ktr_room) (by ktr_units) ?_; intro r9 n9 h9 tk9 F9 N9 H9))); (try dsimp only); (try k_fold))
  intro mean mg mb dp un gd cn cs ad ccd cl outer A₀ base h₀ L m s Q E B F X N T hk hd hu hret
  have H0 : Nums news news [(v1, p.num, ((p.den : Nat) : Int)), (v2, q.num, ((q.den : Nat) : Int))] := Nums.cons h1 (Nums.cons h2 Nums.nil)
  have c1 := add_cross p q
  have c2 := mul_cross p q
  have c3 := sub_cross p q
  have c5 := Int.mul_ne_zero (den_ne p) (den_ne q)
  have m1 : IntMulOk p.num q.den := Sm.ok s1.1 s2.2 (by decide) (by decide)
  have m2 : IntMulOk q.num p.den := Sm.ok s2.1 s1.2 (by decide) (by decide)
  have m3 : IntMulOk p.den q.den := Sm.ok s1.2 s2.2 (by decide) (by decide)
  have m4 : IntMulOk p.num q.num := Sm.ok s1.1 s2.1 (by decide) (by decide)
  have m5 : IntMulOk p.den q.num := Sm.ok s1.2 s2.1 (by decide) (by decide)
  have z1 : Sm 4000 (p.num * q.den + q.num * p.den) := (Sm.add (s1.1.mul s2.2) (s2.1.mul s1.2)).le (by decide)
  have z2 : Sm 4000 (p.num * q.den - q.num * p.den) := (Sm.sub (s1.1.mul s2.2) (s2.1.mul s1.2)).le (by decide)
  have z3 : Sm 4000 (((p.den : Nat) : Int) * q.den) := (s1.2.mul s2.2).le (by decide)
  have z4 : Sm 4000 (p.num * q.num) := (s1.1.mul s2.1).le (by decide)
  have z5 : Sm 4000 (p.num * q.den) := (s1.1.mul s2.2).le (by decide)
  have z6 : Sm 4000 (((p.den : Nat) : Int) * q.num) := (s1.2.mul s2.1).le (by decide)
  refine wpAny_call ?_
  k_dflt ktr_enter
  k_steps
  all_goals exact hret _ _ _ _ (by k_asm) (led_drop (by assumption) (Nums.sub (by assumption))) ⟨rfl, congrArg Value.bool (by first | exact eq_due p q | exact beq_self_eq_true _)⟩
theorem inv_cross (q : Rat) (h : q.num ≠ 0) : (q⁻¹).num * q.num = ((q.den : Nat) : Int) * ((q⁻¹).den : Nat) := by
  have e := inv_rat q h
  rw [← e.1, ← e.2]
  split <;> grind
def rnd (t b : Int) : Int := if b < 2 * t.fmod b ∨ (2 * t.fmod b = b ∧ (t.fdiv b).fmod 2 = 1) then t.fdiv b + 1 else t.fdiv b
theorem round_does' {w : World} {news : Led} {v : Value} {t b : Int} (hv : NumIn news v t b) (hb : Dv b) : Does w 189 10 [v] news (OI news (rnd t b)) := round_does hv hb
theorem fdiv_facts (a : Int) {b : Int} (hb : 0 < b) : a.fdiv b * b ≤ a ∧ a < (a.fdiv b + 1) * b := by
  rw [Int.fdiv_eq_ediv_of_nonneg _ (Int.le_of_lt hb)]
  exact ⟨Int.ediv_mul_le a (by omega), Int.lt_ediv_add_one_mul_self a hb⟩
theorem ceil_facts (a : Int) {b : Int} (hb : 0 < b) : (0 - (0 - a).fdiv b - 1) * b < a ∧ a ≤ (0 - (0 - a).fdiv b) * b := by
  have h := fdiv_facts (0 - a) hb
  generalize (0 - a).fdiv b = x at *
  have e1 : (0 - x - 1) * b = - ((x + 1) * b) := by grind
  have e2 : (0 - x) * b = - (x * b) := by grind
  rw [e1, e2]; omega
theorem rnd_facts (a : Int) {b : Int} (hb : 0 < b) : ¬ (b < 2 * (if a - rnd a b * b < 0 then -(a - rnd a b * b) else a - rnd a b * b)) ∧ (2 * (if a - rnd a b * b < 0 then -(a - rnd a b * b) else a - rnd a b * b) = b → (rnd a b).fmod 2 ≠ 1) := by
  have h := fdiv_facts a hb
  have e : a.fmod b = a - a.fdiv b * b := by have := Int.mul_fdiv_add_fmod a b; grind
  have e1 : (a.fdiv b + 1) * b = a.fdiv b * b + b := by grind
  have e2 : ∀ x : Int, x.fmod 2 = x % 2 := fun x => Int.fmod_eq_emod_of_nonneg x (by omega)
  rw [e1] at h
  unfold rnd
  rw [e, e2, e2]
  split
  · rw [e1]
    generalize a.fdiv b * b = y at *
    generalize a.fdiv b = x at *
    constructor
    · split <;> omega
    · split <;> omega
  · generalize a.fdiv b * b = y at *
    generalize a.fdiv b = x at *
    constructor
    · split <;> omega
    · split <;> omega
theorem Sm.rnd {k : Nat} {a b : Int} (ha : Sm k a) (hb : 0 ≤ b) : Sm (k + 1) (rnd a b) := by
  have h := Sm.fdiv ha hb
  unfold Nt.rnd Sm at *
  rw [Nat.pow_succ]
  have : 0 < 2 ^ k := Nat.two_pow_pos k
  split <;> omega
set_option maxRecDepth 100000 in
set_option maxHeartbeats 8000000 in
theorem alone_right {w : World} {news : Led} {v : Value} {q : Rat} (h1 : NumIn news v q.num q.den) (s1 : Sz 1000 q) : Does w 236 60 [v] news (OB news true) := by
  unfold Does
  k_fill
  w_top off
  k_with_none
  k_with "binaryOp FloorDiv int int" => (with_reducible refine floordiv_dv (by assumption) ?_)
  k_with "binaryOp FloorDiv int int" => (with_reducible refine floordiv_eq (by assumption) (by assumption) ?_)
  k_with "call builtin:divmod" => (k_here; (with_reducible show wpAny _ _ (call (Value.builtin _) [Value.int _ _, Value.int _ _]) _ _ _); refine divmod_dv (by assumption) (by assumption) (by assumption) ?_; intro _ _ _)
  k_with "call builtin:isinstance" => (k_here; k_dflt (refine is_ratio (by k_asm) (by k_asm) (by first | exact Nums.pick (by assumption) (by assumption) (by first | exact fun _ h => h | exact fun _ h => .tail _ h | exact fun _ h => .tail _ (.tail _ h)) | k_asm) (by k_asm) (by first | assumption | exact Nums.get (by assumption) (by k_mem)) ?_); intro tk9)
  k_with "call ref" => (k_here; (k_dflt (first | (refine callI (by exact ⟨by k_asm, (by first | exact Nums.pick (by assumption) (by assumption) (by first | exact fun _ h => h | exact fun _ h => .tail _ h | exact fun _ h => .tail _ (.tail _ h)) | k_asm), by k_asm, by k_asm, by k_asm, by first | exact rfl | assumption⟩) (by first | exact law_is_does (by first | assumption | exact Nums.get (by assumption) (by k_mem)) (Lo.of _) (by assumption) (inv_cross _ (by assumption)) (by assumption) (by assumption) | exact law_is_does (by first | assumption | exact Nums.get (by assumption) (by k_mem)) (by assumption) (by assumption) rfl (by assumption) (by assumption) | exact law_is_does (by first | assumption | exact Nums.get (by assumption) (by k_mem)) (Lo.of _) (by assumption) (by assumption) (by assumption) (by assumption) | exact round_does' (by first | assumption | exact Nums.get (by assumption) (by k_mem)) (by assumption) | exact truncate_does (by first | assumption | exact Nums.get (by assumption) (by k_mem)) (by assumption) | exact sign_does (by first | assumption | exact Nums.get (by assumption) (by k_mem)) | exact magnitude_does (by first | assumption | exact Nums.get (by assumption) (by k_mem)) | exact law_is_does (by first | assumption | exact Nums.get (by assumption) (by k_mem)) (Lo.of _) (Int.mul_ne_zero (den_ne _) (by assumption)) (div_cross _ _ (by assumption)) (by assumption) (by assumption) | exact law_is_does (by first | assumption | exact Nums.get (by assumption) (by k_mem)) (Lo.of _) (by assumption) (by assumption) (by assumption) (by assumption) | exact subQ (by first | assumption | exact Nums.get (by assumption) (by k_mem)) (by first | assumption | exact Nums.get (by assumption) (by k_mem)) (by assumption) (by assumption) | exact divQ (by first | assumption | exact Nums.get (by assumption) (by k_mem)) (by first | assumption | exact Nums.get (by assumption) (by k_mem)) (by assumption) (by assumption) (by assumption) | exact compare_does (by first | assumption | exact Nums.get (by assumption) (by k_mem)) (by first | assumption | exact Nums.get (by assumption) (by k_mem)) (by assumption) (by assumption) | exact is_equal_does (by first | assumption | exact Nums.get (by assumption) (by k_mem)) (by first | assumption | exact Nums.get (by assumption) (by k_mem)) | exact law_divisor_does (by first | assumption | omega) (by first | assumption | omega) | exact is_exact_does (by first | assumption | exact Nums.get (by assumption) (by k_mem)) | exact addQ (by first | assumption | exact Nums.get (by assumption) (by k_mem)) (by first | assumption | exact Nums.get (by assumption) (by k_mem)) (by assumption) (by assumption) | exact mulQ (by first | assumption | exact Nums.get (by assumption) (by k_mem)) (by first | assumption | exact Nums.get (by assumption) (by k_mem)) (by assumption) (by assumption) | exact negQ (by first | assumption | exact Nums.get (by assumption) (by k_mem)) | exact invQ (by first | assumption | exact Nums.get (by assumption) (by k_mem)) (by assumption) | exact floor_does (by first | assumption | exact Nums.get (by assumption) (by k_mem)) (by assumption) | exact ceiling_does (by first | assumption | exact Nums.get (by assumption) (by k_mem)) (by assumption) | exact gcd_of_does | exact top_of_does (by first | assumption | exact Nums.get (by assumption) (by k_mem)) | exact bottom_of_does (by first | assumption | exact Nums.get (by assumption) (by k_mem)) | exact is_whole_does (by first | assumption | exact Nums.get (by assumption) (by k_mem)) | exact made_does.weaken (fun _ _ => OF.toN)) (by ktr_room) (by ktr_units) ?_; intro k9 h9 tk9 F9 N9) | (refine callB (by exact ⟨by k_asm, (by first | exact Nums.pick (by assumption) (by assumption) (by first | exact fun _ h => h | exact fun _ h => .tail _ h | exact fun _ h => .tail _ (.tail _ h)) | k_asm), by k_asm, by k_asm, by k_asm, by first | exact rfl | assumption⟩) (by first | exact law_is_does (by first | assumption | exact Nums.get (by assumption) (by k_mem)) (Lo.of _) (by assumption) (inv_cross _ (by assumption)) (by assumption) (by assumption) | exact law_is_does (by first | assumption | exact Nums.get (by assumption) (by k_mem)) (by assumption) (by assumption) rfl (by assumption) (by assumption) | exact law_is_does (by first | assumption | exact Nums.get (by assumption) (by k_mem)) (Lo.of _) (by assumption) (by assumption) (by assumption) (by assumption) | exact round_does' (by first | assumption | exact Nums.get (by assumption) (by k_mem)) (by assumption) | exact truncate_does (by first | assumption | exact Nums.get (by assumption) (by k_mem)) (by assumption) | exact sign_does (by first | assumption | exact Nums.get (by assumption) (by k_mem)) | exact magnitude_does (by first | assumption | exact Nums.get (by assumption) (by k_mem)) | exact law_is_does (by first | assumption | exact Nums.get (by assumption) (by k_mem)) (Lo.of _) (Int.mul_ne_zero (den_ne _) (by assumption)) (div_cross _ _ (by assumption)) (by assumption) (by assumption) | exact law_is_does (by first | assumption | exact Nums.get (by assumption) (by k_mem)) (Lo.of _) (by assumption) (by assumption) (by assumption) (by assumption) | exact subQ (by first | assumption | exact Nums.get (by assumption) (by k_mem)) (by first | assumption | exact Nums.get (by assumption) (by k_mem)) (by assumption) (by assumption) | exact divQ (by first | assumption | exact Nums.get (by assumption) (by k_mem)) (by first | assumption | exact Nums.get (by assumption) (by k_mem)) (by assumption) (by assumption) (by assumption) | exact compare_does (by first | assumption | exact Nums.get (by assumption) (by k_mem)) (by first | assumption | exact Nums.get (by assumption) (by k_mem)) (by assumption) (by assumption) | exact is_equal_does (by first | assumption | exact Nums.get (by assumption) (by k_mem)) (by first | assumption | exact Nums.get (by assumption) (by k_mem)) | exact law_divisor_does (by first | assumption | omega) (by first | assumption | omega) | exact is_exact_does (by first | assumption | exact Nums.get (by assumption) (by k_mem)) | exact addQ (by first | assumption | exact Nums.get (by assumption) (by k_mem)) (by first | assumption | exact Nums.get (by assumption) (by k_mem)) (by assumption) (by assumption) | exact mulQ (by first | assumption | exact Nums.get (by assumption) (by k_mem)) (by first | assumption | exact Nums.get (by assumption) (by k_mem)) (by assumption) (by assumption) | exact negQ (by first | assumption | exact Nums.get (by assumption) (by k_mem)) | exact invQ (by first | assumption | exact Nums.get (by assumption) (by k_mem)) (by assumption) | exact floor_does (by first | assumption | exact Nums.get (by assumption) (by k_mem)) (by assumption) | exact ceiling_does (by first | assumption | exact Nums.get (by assumption) (by k_mem)) (by assumption) | exact gcd_of_does | exact top_of_does (by first | assumption | exact Nums.get (by assumption) (by k_mem)) | exact bottom_of_does (by first | assumption | exact Nums.get (by assumption) (by k_mem)) | exact is_whole_does (by first | assumption | exact Nums.get (by assumption) (by k_mem)) | exact made_does.weaken (fun _ _ => OF.toN)) (by ktr_room) (by ktr_units) ?_; intro h9 tk9 F9 N9) | (refine callN (by exact ⟨by k_asm, (by first | exact Nums.pick (by assumption) (by assumption) (by first | exact fun _ h => h | exact fun _ h => .tail _ h | exact fun _ h => .tail _ (.tail _ h)) | k_asm), by k_asm, by k_asm, by k_asm, by first | exact rfl | assumption⟩) (by first | exact law_is_does (by first | assumption | exact Nums.get (by assumption) (by k_mem)) (Lo.of _) (by assumption) (inv_cross _ (by assumption)) (by assumption) (by assumption) | exact law_is_does (by first | assumption | exact Nums.get (by assumption) (by k_mem)) (by assumption) (by assumption) rfl (by assumption) (by assumption) | exact law_is_does (by first | assumption | exact Nums.get (by assumption) (by k_mem)) (Lo.of _) (by assumption) (by assumption) (by assumption) (by assumption) | exact round_does' (by first | assumption | exact Nums.get (by assumption) (by k_mem)) (by assumption) | exact truncate_does (by first | assumption | exact Nums.get (by assumption) (by k_mem)) (by assumption) | exact sign_does (by first | assumption | exact Nums.get (by assumption) (by k_mem)) | exact magnitude_does (by first | assumption | exact Nums.get (by assumption) (by k_mem)) | exact law_is_does (by first | assumption | exact Nums.get (by assumption) (by k_mem)) (Lo.of _) (Int.mul_ne_zero (den_ne _) (by assumption)) (div_cross _ _ (by assumption)) (by assumption) (by assumption) | exact law_is_does (by first | assumption | exact Nums.get (by assumption) (by k_mem)) (Lo.of _) (by assumption) (by assumption) (by assumption) (by assumption) | exact subQ (by first | assumption | exact Nums.get (by assumption) (by k_mem)) (by first | assumption | exact Nums.get (by assumption) (by k_mem)) (by assumption) (by assumption) | exact divQ (by first | assumption | exact Nums.get (by assumption) (by k_mem)) (by first | assumption | exact Nums.get (by assumption) (by k_mem)) (by assumption) (by assumption) (by assumption) | exact compare_does (by first | assumption | exact Nums.get (by assumption) (by k_mem)) (by first | assumption | exact Nums.get (by assumption) (by k_mem)) (by assumption) (by assumption) | exact is_equal_does (by first | assumption | exact Nums.get (by assumption) (by k_mem)) (by first | assumption | exact Nums.get (by assumption) (by k_mem)) | exact law_divisor_does (by first | assumption | omega) (by first | assumption | omega) | exact is_exact_does (by first | assumption | exact Nums.get (by assumption) (by k_mem)) | exact addQ (by first | assumption | exact Nums.get (by assumption) (by k_mem)) (by first | assumption | exact Nums.get (by assumption) (by k_mem)) (by assumption) (by assumption) | exact mulQ (by first | assumption | exact Nums.get (by assumption) (by k_mem)) (by first | assumption | exact Nums.get (by assumption) (by k_mem)) (by assumption) (by assumption) | exact negQ (by first | assumption | exact Nums.get (by assumption) (by k_mem)) | exact invQ (by first | assumption | exact Nums.get (by assumption) (by k_mem)) (by assumption) | exact floor_does (by first | assumption | exact Nums.get (by assumption) (by k_mem)) (by assumption) | exact ceiling_does (by first | assumption | exact Nums.get (by assumption) (by k_mem)) (by assumption) | exact gcd_of_does | exact top_of_does (by first | assumption | exact Nums.get (by assumption) (by k_mem)) | exact bottom_of_does (by first | assumption | exact Nums.get (by assumption) (by k_mem)) | exact is_whole_does (by first | assumption | exact Nums.get (by assumption) (by k_mem)) | exact made_does.weaken (fun _ _ => OF.toN)) (by first | assumption | exact Nums.nil) (by ktr_room) (by ktr_units) ?_; intro r9 n9 h9 tk9 F9 N9 H9))); (try dsimp only); (try k_fold))
  intro mean mg mb dp un gd cn cs ad ccd cl outer A₀ base h₀ L m s Q E B F X N T hk hd hu hret
  have H0 : Nums news news [(v, q.num, ((q.den : Nat) : Int))] := Nums.cons h1 Nums.nil
  have hp := den_pos' q
  have hdn := den_ne q
  have hdv : Dv ((q.den : Nat) : Int) := Dv.of s1.2 (by decide) hdn
  have c1 : (-q).num * (q.den : Nat) = (0 - q.num) * ((-q).den : Nat) := by rw [Rat.neg_num, Rat.neg_den, Int.zero_sub]
  have lm : Lo (if q.num < 0 then -q.num else q.num) (q.den : Nat) := ⟨hp, by have e := (Lo.of q).2; split <;> simp only [Int.neg_gcd, e]⟩
  have z1 : Sm 4000 (0 - q.num) := s1.1.neg0.le (by decide)
  have z2 : Sm 4000 ((q.den : Nat) : Int) := s1.2.le (by decide)
  have z3 : Sm 4000 (if q.num < 0 then -q.num else q.num) := s1.1.abs.le (by decide)
  have z4 : Sm 4000 q.num := s1.1.le (by decide)
  have f1 := fdiv_facts q.num hp
  have f2 := ceil_facts q.num hp
  have f3 := rnd_facts q.num hp
  have m1 : IntMulOk (q.num.fdiv (q.den : Nat)) (q.den : Nat) := Sm.ok (Sm.fdiv s1.1 (Int.le_of_lt hp)) s1.2 (by decide) (by decide)
  have m2 : IntMulOk (q.num.fdiv (q.den : Nat) + 1) (q.den : Nat) := Sm.ok (Sm.add (Sm.fdiv s1.1 (Int.le_of_lt hp)) (Sm.le (j := 1) (by unfold Sm; decide) (by decide))) s1.2 (by decide) (by decide)
  have s5 : Sm 1001 (0 - (0 - q.num).fdiv (q.den : Nat)) := (Sm.fdiv s1.1.neg0 (Int.le_of_lt hp)).neg0.le (by decide)
  have m3 : IntMulOk (0 - (0 - q.num).fdiv (q.den : Nat)) (q.den : Nat) := Sm.ok s5 s1.2 (by decide) (by decide)
  have m4 : IntMulOk (0 - (0 - q.num).fdiv (q.den : Nat) - 1) (q.den : Nat) := Sm.ok (Sm.sub s5 (Sm.le (j := 1) (by unfold Sm; decide) (by decide))) s1.2 (by decide) (by decide)
  have m5 : IntMulOk (rnd q.num (q.den : Nat)) (q.den : Nat) := Sm.ok (Sm.rnd s1.1 (Int.le_of_lt hp)) s1.2 (by decide) (by decide)
  obtain ⟨f1a, f1b⟩ := f1
  obtain ⟨f2a, f2b⟩ := f2
  obtain ⟨f3a, f3b⟩ := f3
  refine wpAny_call ?_
  k_dflt ktr_enter
  k_steps
  all_goals first
    | (exfalso; omega)
    | (exfalso; exact f3b (by assumption) (by assumption))
    | exact hret _ _ _ _ (by k_asm) (led_drop (by assumption) (Nums.sub (by assumption))) ⟨rfl, congrArg Value.bool (by first | (rw [if_pos (by omega)]; exact beq_self_eq_true _) | (rw [if_neg (by omega)]; exact beq_self_eq_true _))⟩
theorem law_divisor_abs {w : World} {news : Led} {x y : Int} {k1 k2 : Tok} : Does w 208 5 [.int (if x < 0 then -x else x) k1, .int (if y < 0 then -y else y) k2] news (OI news (Int.gcd x y)) := by
  have h := @law_divisor_does w news (if x < 0 then -x else x) (if y < 0 then -y else y) k1 k2 (by split <;> omega) (by split <;> omega)
  rwa [gcd_abs_abs] at h
theorem lcm_two {x y : Int} (h : ¬ (x = 0 ∨ y = 0)) : (if x < 0 then -x else x).fdiv (Int.gcd x y) * (if y < 0 then -y else y) = (if x * y < 0 then -(x * y) else x * y).fdiv (Int.gcd x y) := by
  have e0 : ∀ z : Int, (if z < 0 then -z else z) = (z.natAbs : Int) := fun z => by split <;> omega
  rw [e0, e0, e0]
  obtain ⟨g, a, b, eg, hg, h1, h2, f1, f2, hc⟩ := gcd_split (a := x) (b := y) (by omega)
  rw [eg]
  have e1 : (x.natAbs : Int) = g * (a.natAbs : Int) := by rw [h1, Int.natAbs_mul, Int.natCast_mul]; congr 1; omega
  have e2 : ((x * y).natAbs : Int) = g * ((a.natAbs : Int) * (y.natAbs : Int)) := by rw [Int.natAbs_mul, Int.natCast_mul, e1]; grind
  rw [fdiv_of_mul (by omega) e1, fdiv_of_mul (by omega) e2]
set_option maxRecDepth 100000 in
set_option maxHeartbeats 8000000 in
theorem common_right0 {w : World} {news : Led} {x y : Int} {k1 k2 : Tok} (s1 : Sm 1000 x) (s2 : Sm 1000 y) (h0 : x = 0 ∨ y = 0) : Does w 243 30 [.int x k1, .int y k2] news (OB news true) := by
  unfold Does
  k_fill
  w_top off
  k_with_none
  k_with "binaryOp FloorDiv int int" => (with_reducible refine floordiv_dv (by assumption) ?_)
  k_with "binaryOp FloorDiv int int" => (with_reducible refine floordiv_eq (by assumption) (by assumption) ?_)
  k_with "call builtin:divmod" => (k_here; (with_reducible show wpAny _ _ (call (Value.builtin _) [Value.int _ _, Value.int _ _]) _ _ _); refine divmod_dv (by assumption) (by assumption) (by assumption) ?_; intro _ _ _)
  k_with "call builtin:isinstance" => (k_here; k_dflt (refine is_ratio (by k_asm) (by k_asm) (by first | exact Nums.pick (by assumption) (by assumption) (by first | exact fun _ h => h | exact fun _ h => .tail _ h | exact fun _ h => .tail _ (.tail _ h)) | k_asm) (by k_asm) (by first | assumption | exact Nums.get (by assumption) (by k_mem)) ?_); intro tk9)
  k_with "call ref" => (k_here; (k_dflt (first | (refine callI (by exact ⟨by k_asm, (by first | exact Nums.pick (by assumption) (by assumption) (by first | exact fun _ h => h | exact fun _ h => .tail _ h | exact fun _ h => .tail _ (.tail _ h)) | k_asm), by k_asm, by k_asm, by k_asm, by first | exact rfl | assumption⟩) (by first | exact law_divisor_abs | exact lcm_of_does (by assumption) (by assumption) | exact law_is_does (by first | assumption | exact Nums.get (by assumption) (by k_mem)) (Lo.of _) (by assumption) (inv_cross _ (by assumption)) (by assumption) (by assumption) | exact law_is_does (by first | assumption | exact Nums.get (by assumption) (by k_mem)) (by assumption) (by assumption) rfl (by assumption) (by assumption) | exact law_is_does (by first | assumption | exact Nums.get (by assumption) (by k_mem)) (Lo.of _) (by assumption) (by assumption) (by assumption) (by assumption) | exact round_does' (by first | assumption | exact Nums.get (by assumption) (by k_mem)) (by assumption) | exact truncate_does (by first | assumption | exact Nums.get (by assumption) (by k_mem)) (by assumption) | exact sign_does (by first | assumption | exact Nums.get (by assumption) (by k_mem)) | exact magnitude_does (by first | assumption | exact Nums.get (by assumption) (by k_mem)) | exact law_is_does (by first | assumption | exact Nums.get (by assumption) (by k_mem)) (Lo.of _) (Int.mul_ne_zero (den_ne _) (by assumption)) (div_cross _ _ (by assumption)) (by assumption) (by assumption) | exact law_is_does (by first | assumption | exact Nums.get (by assumption) (by k_mem)) (Lo.of _) (by assumption) (by assumption) (by assumption) (by assumption) | exact subQ (by first | assumption | exact Nums.get (by assumption) (by k_mem)) (by first | assumption | exact Nums.get (by assumption) (by k_mem)) (by assumption) (by assumption) | exact divQ (by first | assumption | exact Nums.get (by assumption) (by k_mem)) (by first | assumption | exact Nums.get (by assumption) (by k_mem)) (by assumption) (by assumption) (by assumption) | exact compare_does (by first | assumption | exact Nums.get (by assumption) (by k_mem)) (by first | assumption | exact Nums.get (by assumption) (by k_mem)) (by assumption) (by assumption) | exact is_equal_does (by first | assumption | exact Nums.get (by assumption) (by k_mem)) (by first | assumption | exact Nums.get (by assumption) (by k_mem)) | exact law_divisor_does (by first | assumption | omega) (by first | assumption | omega) | exact is_exact_does (by first | assumption | exact Nums.get (by assumption) (by k_mem)) | exact addQ (by first | assumption | exact Nums.get (by assumption) (by k_mem)) (by first | assumption | exact Nums.get (by assumption) (by k_mem)) (by assumption) (by assumption) | exact mulQ (by first | assumption | exact Nums.get (by assumption) (by k_mem)) (by first | assumption | exact Nums.get (by assumption) (by k_mem)) (by assumption) (by assumption) | exact negQ (by first | assumption | exact Nums.get (by assumption) (by k_mem)) | exact invQ (by first | assumption | exact Nums.get (by assumption) (by k_mem)) (by assumption) | exact floor_does (by first | assumption | exact Nums.get (by assumption) (by k_mem)) (by assumption) | exact ceiling_does (by first | assumption | exact Nums.get (by assumption) (by k_mem)) (by assumption) | exact gcd_of_does | exact top_of_does (by first | assumption | exact Nums.get (by assumption) (by k_mem)) | exact bottom_of_does (by first | assumption | exact Nums.get (by assumption) (by k_mem)) | exact is_whole_does (by first | assumption | exact Nums.get (by assumption) (by k_mem)) | exact made_does.weaken (fun _ _ => OF.toN)) (by ktr_room) (by ktr_units) ?_; intro k9 h9 tk9 F9 N9) | (refine callB (by exact ⟨by k_asm, (by first | exact Nums.pick (by assumption) (by assumption) (by first | exact fun _ h => h | exact fun _ h => .tail _ h | exact fun _ h => .tail _ (.tail _ h)) | k_asm), by k_asm, by k_asm, by k_asm, by first | exact rfl | assumption⟩) (by first | exact law_divisor_abs | exact lcm_of_does (by assumption) (by assumption) | exact law_is_does (by first | assumption | exact Nums.get (by assumption) (by k_mem)) (Lo.of _) (by assumption) (inv_cross _ (by assumption)) (by assumption) (by assumption) | exact law_is_does (by first | assumption | exact Nums.get (by assumption) (by k_mem)) (by assumption) (by assumption) rfl (by assumption) (by assumption) | exact law_is_does (by first | assumption | exact Nums.get (by assumption) (by k_mem)) (Lo.of _) (by assumption) (by assumption) (by assumption) (by assumption) | exact round_does' (by first | assumption | exact Nums.get (by assumption) (by k_mem)) (by assumption) | exact truncate_does (by first | assumption | exact Nums.get (by assumption) (by k_mem)) (by assumption) | exact sign_does (by first | assumption | exact Nums.get (by assumption) (by k_mem)) | exact magnitude_does (by first | assumption | exact Nums.get (by assumption) (by k_mem)) | exact law_is_does (by first | assumption | exact Nums.get (by assumption) (by k_mem)) (Lo.of _) (Int.mul_ne_zero (den_ne _) (by assumption)) (div_cross _ _ (by assumption)) (by assumption) (by assumption) | exact law_is_does (by first | assumption | exact Nums.get (by assumption) (by k_mem)) (Lo.of _) (by assumption) (by assumption) (by assumption) (by assumption) | exact subQ (by first | assumption | exact Nums.get (by assumption) (by k_mem)) (by first | assumption | exact Nums.get (by assumption) (by k_mem)) (by assumption) (by assumption) | exact divQ (by first | assumption | exact Nums.get (by assumption) (by k_mem)) (by first | assumption | exact Nums.get (by assumption) (by k_mem)) (by assumption) (by assumption) (by assumption) | exact compare_does (by first | assumption | exact Nums.get (by assumption) (by k_mem)) (by first | assumption | exact Nums.get (by assumption) (by k_mem)) (by assumption) (by assumption) | exact is_equal_does (by first | assumption | exact Nums.get (by assumption) (by k_mem)) (by first | assumption | exact Nums.get (by assumption) (by k_mem)) | exact law_divisor_does (by first | assumption | omega) (by first | assumption | omega) | exact is_exact_does (by first | assumption | exact Nums.get (by assumption) (by k_mem)) | exact addQ (by first | assumption | exact Nums.get (by assumption) (by k_mem)) (by first | assumption | exact Nums.get (by assumption) (by k_mem)) (by assumption) (by assumption) | exact mulQ (by first | assumption | exact Nums.get (by assumption) (by k_mem)) (by first | assumption | exact Nums.get (by assumption) (by k_mem)) (by assumption) (by assumption) | exact negQ (by first | assumption | exact Nums.get (by assumption) (by k_mem)) | exact invQ (by first | assumption | exact Nums.get (by assumption) (by k_mem)) (by assumption) | exact floor_does (by first | assumption | exact Nums.get (by assumption) (by k_mem)) (by assumption) | exact ceiling_does (by first | assumption | exact Nums.get (by assumption) (by k_mem)) (by assumption) | exact gcd_of_does | exact top_of_does (by first | assumption | exact Nums.get (by assumption) (by k_mem)) | exact bottom_of_does (by first | assumption | exact Nums.get (by assumption) (by k_mem)) | exact is_whole_does (by first | assumption | exact Nums.get (by assumption) (by k_mem)) | exact made_does.weaken (fun _ _ => OF.toN)) (by ktr_room) (by ktr_units) ?_; intro h9 tk9 F9 N9) | (refine callN (by exact ⟨by k_asm, (by first | exact Nums.pick (by assumption) (by assumption) (by first | exact fun _ h => h | exact fun _ h => .tail _ h | exact fun _ h => .tail _ (.tail _ h)) | k_asm), by k_asm, by k_asm, by k_asm, by first | exact rfl | assumption⟩) (by first | exact law_divisor_abs | exact lcm_of_does (by assumption) (by assumption) | exact law_is_does (by first | assumption | exact Nums.get (by assumption) (by k_mem)) (Lo.of _) (by assumption) (inv_cross _ (by assumption)) (by assumption) (by assumption) | exact law_is_does (by first | assumption | exact Nums.get (by assumption) (by k_mem)) (by assumption) (by assumption) rfl (by assumption) (by assumption) | exact law_is_does (by first | assumption | exact Nums.get (by assumption) (by k_mem)) (Lo.of _) (by assumption) (by assumption) (by assumption) (by assumption) | exact round_does' (by first | assumption | exact Nums.get (by assumption) (by k_mem)) (by assumption) | exact truncate_does (by first | assumption | exact Nums.get (by assumption) (by k_mem)) (by assumption) | exact sign_does (by first | assumption | exact Nums.get (by assumption) (by k_mem)) | exact magnitude_does (by first | assumption | exact Nums.get (by assumption) (by k_mem)) | exact law_is_does (by first | assumption | exact Nums.get (by assumption) (by k_mem)) (Lo.of _) (Int.mul_ne_zero (den_ne _) (by assumption)) (div_cross _ _ (by assumption)) (by assumption) (by assumption) | exact law_is_does (by first | assumption | exact Nums.get (by assumption) (by k_mem)) (Lo.of _) (by assumption) (by assumption) (by assumption) (by assumption) | exact subQ (by first | assumption | exact Nums.get (by assumption) (by k_mem)) (by first | assumption | exact Nums.get (by assumption) (by k_mem)) (by assumption) (by assumption) | exact divQ (by first | assumption | exact Nums.get (by assumption) (by k_mem)) (by first | assumption | exact Nums.get (by assumption) (by k_mem)) (by assumption) (by assumption) (by assumption) | exact compare_does (by first | assumption | exact Nums.get (by assumption) (by k_mem)) (by first | assumption | exact Nums.get (by assumption) (by k_mem)) (by assumption) (by assumption) | exact is_equal_does (by first | assumption | exact Nums.get (by assumption) (by k_mem)) (by first | assumption | exact Nums.get (by assumption) (by k_mem)) | exact law_divisor_does (by first | assumption | omega) (by first | assumption | omega) | exact is_exact_does (by first | assumption | exact Nums.get (by assumption) (by k_mem)) | exact addQ (by first | assumption | exact Nums.get (by assumption) (by k_mem)) (by first | assumption | exact Nums.get (by assumption) (by k_mem)) (by assumption) (by assumption) | exact mulQ (by first | assumption | exact Nums.get (by assumption) (by k_mem)) (by first | assumption | exact Nums.get (by assumption) (by k_mem)) (by assumption) (by assumption) | exact negQ (by first | assumption | exact Nums.get (by assumption) (by k_mem)) | exact invQ (by first | assumption | exact Nums.get (by assumption) (by k_mem)) (by assumption) | exact floor_does (by first | assumption | exact Nums.get (by assumption) (by k_mem)) (by assumption) | exact ceiling_does (by first | assumption | exact Nums.get (by assumption) (by k_mem)) (by assumption) | exact gcd_of_does | exact top_of_does (by first | assumption | exact Nums.get (by assumption) (by k_mem)) | exact bottom_of_does (by first | assumption | exact Nums.get (by assumption) (by k_mem)) | exact is_whole_does (by first | assumption | exact Nums.get (by assumption) (by k_mem)) | exact made_does.weaken (fun _ _ => OF.toN)) (by first | assumption | exact Nums.nil) (by ktr_room) (by ktr_units) ?_; intro r9 n9 h9 tk9 F9 N9 H9))); (try dsimp only); (try k_fold))
  intro mean mg mb dp un gd cn cs ad ccd cl outer A₀ base h₀ L m s Q E B F X N T hk hd hu hret
  have z1 : Sm 4000 x := s1.le (by decide)
  have z2 : Sm 4000 y := s2.le (by decide)
  have m1 : IntMulOk x y := Sm.ok s1 s2 (by decide) (by decide)
  refine wpAny_call ?_
  k_dflt ktr_enter
  k_steps
  all_goals first
    | (exfalso; omega)
    | exact hret _ _ _ _ (by k_asm) (by k_asm) ⟨rfl, congrArg Value.bool (by rw [if_pos h0]; exact beq_self_eq_true _)⟩
set_option maxRecDepth 100000 in
set_option maxHeartbeats 8000000 in
theorem common_right1 {w : World} {news : Led} {x y : Int} {k1 k2 : Tok} (s1 : Sm 1000 x) (s2 : Sm 1000 y) (h0 : ¬ (x = 0 ∨ y = 0)) : Does w 243 30 [.int x k1, .int y k2] news (OB news true) := by
  unfold Does
  k_fill
  w_top off
  k_with_none
  k_with "binaryOp FloorDiv int int" => (with_reducible refine floordiv_dv (by assumption) ?_)
  k_with "binaryOp FloorDiv int int" => (with_reducible refine floordiv_eq (by assumption) (by assumption) ?_)
  k_with "call builtin:divmod" => (k_here; (with_reducible show wpAny _ _ (call (Value.builtin _) [Value.int _ _, Value.int _ _]) _ _ _); refine divmod_dv (by assumption) (by assumption) (by assumption) ?_; intro _ _ _)
  k_with "call builtin:isinstance" => (k_here; k_dflt (refine is_ratio (by k_asm) (by k_asm) (by first | exact Nums.pick (by assumption) (by assumption) (by first | exact fun _ h => h | exact fun _ h => .tail _ h | exact fun _ h => .tail _ (.tail _ h)) | k_asm) (by k_asm) (by first | assumption | exact Nums.get (by assumption) (by k_mem)) ?_); intro tk9)
  k_with "call ref" => (k_here; (k_dflt (first | (refine callI (by exact ⟨by k_asm, (by first | exact Nums.pick (by assumption) (by assumption) (by first | exact fun _ h => h | exact fun _ h => .tail _ h | exact fun _ h => .tail _ (.tail _ h)) | k_asm), by k_asm, by k_asm, by k_asm, by first | exact rfl | assumption⟩) (by first | exact law_divisor_abs | exact lcm_of_does (by assumption) (by assumption) | exact law_is_does (by first | assumption | exact Nums.get (by assumption) (by k_mem)) (Lo.of _) (by assumption) (inv_cross _ (by assumption)) (by assumption) (by assumption) | exact law_is_does (by first | assumption | exact Nums.get (by assumption) (by k_mem)) (by assumption) (by assumption) rfl (by assumption) (by assumption) | exact law_is_does (by first | assumption | exact Nums.get (by assumption) (by k_mem)) (Lo.of _) (by assumption) (by assumption) (by assumption) (by assumption) | exact round_does' (by first | assumption | exact Nums.get (by assumption) (by k_mem)) (by assumption) | exact truncate_does (by first | assumption | exact Nums.get (by assumption) (by k_mem)) (by assumption) | exact sign_does (by first | assumption | exact Nums.get (by assumption) (by k_mem)) | exact magnitude_does (by first | assumption | exact Nums.get (by assumption) (by k_mem)) | exact law_is_does (by first | assumption | exact Nums.get (by assumption) (by k_mem)) (Lo.of _) (Int.mul_ne_zero (den_ne _) (by assumption)) (div_cross _ _ (by assumption)) (by assumption) (by assumption) | exact law_is_does (by first | assumption | exact Nums.get (by assumption) (by k_mem)) (Lo.of _) (by assumption) (by assumption) (by assumption) (by assumption) | exact subQ (by first | assumption | exact Nums.get (by assumption) (by k_mem)) (by first | assumption | exact Nums.get (by assumption) (by k_mem)) (by assumption) (by assumption) | exact divQ (by first | assumption | exact Nums.get (by assumption) (by k_mem)) (by first | assumption | exact Nums.get (by assumption) (by k_mem)) (by assumption) (by assumption) (by assumption) | exact compare_does (by first | assumption | exact Nums.get (by assumption) (by k_mem)) (by first | assumption | exact Nums.get (by assumption) (by k_mem)) (by assumption) (by assumption) | exact is_equal_does (by first | assumption | exact Nums.get (by assumption) (by k_mem)) (by first | assumption | exact Nums.get (by assumption) (by k_mem)) | exact law_divisor_does (by first | assumption | omega) (by first | assumption | omega) | exact is_exact_does (by first | assumption | exact Nums.get (by assumption) (by k_mem)) | exact addQ (by first | assumption | exact Nums.get (by assumption) (by k_mem)) (by first | assumption | exact Nums.get (by assumption) (by k_mem)) (by assumption) (by assumption) | exact mulQ (by first | assumption | exact Nums.get (by assumption) (by k_mem)) (by first | assumption | exact Nums.get (by assumption) (by k_mem)) (by assumption) (by assumption) | exact negQ (by first | assumption | exact Nums.get (by assumption) (by k_mem)) | exact invQ (by first | assumption | exact Nums.get (by assumption) (by k_mem)) (by assumption) | exact floor_does (by first | assumption | exact Nums.get (by assumption) (by k_mem)) (by assumption) | exact ceiling_does (by first | assumption | exact Nums.get (by assumption) (by k_mem)) (by assumption) | exact gcd_of_does | exact top_of_does (by first | assumption | exact Nums.get (by assumption) (by k_mem)) | exact bottom_of_does (by first | assumption | exact Nums.get (by assumption) (by k_mem)) | exact is_whole_does (by first | assumption | exact Nums.get (by assumption) (by k_mem)) | exact made_does.weaken (fun _ _ => OF.toN)) (by ktr_room) (by ktr_units) ?_; intro k9 h9 tk9 F9 N9) | (refine callB (by exact ⟨by k_asm, (by first | exact Nums.pick (by assumption) (by assumption) (by first | exact fun _ h => h | exact fun _ h => .tail _ h | exact fun _ h => .tail _ (.tail _ h)) | k_asm), by k_asm, by k_asm, by k_asm, by first | exact rfl | assumption⟩) (by first | exact law_divisor_abs | exact lcm_of_does (by assumption) (by assumption) | exact law_is_does (by first | assumption | exact Nums.get (by assumption) (by k_mem)) (Lo.of _) (by assumption) (inv_cross _ (by assumption)) (by assumption) (by assumption) | exact law_is_does (by first | assumption | exact Nums.get (by assumption) (by k_mem)) (by assumption) (by assumption) rfl (by assumption) (by assumption) | exact law_is_does (by first | assumption | exact Nums.get (by assumption) (by k_mem)) (Lo.of _) (by assumption) (by assumption) (by assumption) (by assumption) | exact round_does' (by first | assumption | exact Nums.get (by assumption) (by k_mem)) (by assumption) | exact truncate_does (by first | assumption | exact Nums.get (by assumption) (by k_mem)) (by assumption) | exact sign_does (by first | assumption | exact Nums.get (by assumption) (by k_mem)) | exact magnitude_does (by first | assumption | exact Nums.get (by assumption) (by k_mem)) | exact law_is_does (by first | assumption | exact Nums.get (by assumption) (by k_mem)) (Lo.of _) (Int.mul_ne_zero (den_ne _) (by assumption)) (div_cross _ _ (by assumption)) (by assumption) (by assumption) | exact law_is_does (by first | assumption | exact Nums.get (by assumption) (by k_mem)) (Lo.of _) (by assumption) (by assumption) (by assumption) (by assumption) | exact subQ (by first | assumption | exact Nums.get (by assumption) (by k_mem)) (by first | assumption | exact Nums.get (by assumption) (by k_mem)) (by assumption) (by assumption) | exact divQ (by first | assumption | exact Nums.get (by assumption) (by k_mem)) (by first | assumption | exact Nums.get (by assumption) (by k_mem)) (by assumption) (by assumption) (by assumption) | exact compare_does (by first | assumption | exact Nums.get (by assumption) (by k_mem)) (by first | assumption | exact Nums.get (by assumption) (by k_mem)) (by assumption) (by assumption) | exact is_equal_does (by first | assumption | exact Nums.get (by assumption) (by k_mem)) (by first | assumption | exact Nums.get (by assumption) (by k_mem)) | exact law_divisor_does (by first | assumption | omega) (by first | assumption | omega) | exact is_exact_does (by first | assumption | exact Nums.get (by assumption) (by k_mem)) | exact addQ (by first | assumption | exact Nums.get (by assumption) (by k_mem)) (by first | assumption | exact Nums.get (by assumption) (by k_mem)) (by assumption) (by assumption) | exact mulQ (by first | assumption | exact Nums.get (by assumption) (by k_mem)) (by first | assumption | exact Nums.get (by assumption) (by k_mem)) (by assumption) (by assumption) | exact negQ (by first | assumption | exact Nums.get (by assumption) (by k_mem)) | exact invQ (by first | assumption | exact Nums.get (by assumption) (by k_mem)) (by assumption) | exact floor_does (by first | assumption | exact Nums.get (by assumption) (by k_mem)) (by assumption) | exact ceiling_does (by first | assumption | exact Nums.get (by assumption) (by k_mem)) (by assumption) | exact gcd_of_does | exact top_of_does (by first | assumption | exact Nums.get (by assumption) (by k_mem)) | exact bottom_of_does (by first | assumption | exact Nums.get (by assumption) (by k_mem)) | exact is_whole_does (by first | assumption | exact Nums.get (by assumption) (by k_mem)) | exact made_does.weaken (fun _ _ => OF.toN)) (by ktr_room) (by ktr_units) ?_; intro h9 tk9 F9 N9) | (refine callN (by exact ⟨by k_asm, (by first | exact Nums.pick (by assumption) (by assumption) (by first | exact fun _ h => h | exact fun _ h => .tail _ h | exact fun _ h => .tail _ (.tail _ h)) | k_asm), by k_asm, by k_asm, by k_asm, by first | exact rfl | assumption⟩) (by first | exact law_divisor_abs | exact lcm_of_does (by assumption) (by assumption) | exact law_is_does (by first | assumption | exact Nums.get (by assumption) (by k_mem)) (Lo.of _) (by assumption) (inv_cross _ (by assumption)) (by assumption) (by assumption) | exact law_is_does (by first | assumption | exact Nums.get (by assumption) (by k_mem)) (by assumption) (by assumption) rfl (by assumption) (by assumption) | exact law_is_does (by first | assumption | exact Nums.get (by assumption) (by k_mem)) (Lo.of _) (by assumption) (by assumption) (by assumption) (by assumption) | exact round_does' (by first | assumption | exact Nums.get (by assumption) (by k_mem)) (by assumption) | exact truncate_does (by first | assumption | exact Nums.get (by assumption) (by k_mem)) (by assumption) | exact sign_does (by first | assumption | exact Nums.get (by assumption) (by k_mem)) | exact magnitude_does (by first | assumption | exact Nums.get (by assumption) (by k_mem)) | exact law_is_does (by first | assumption | exact Nums.get (by assumption) (by k_mem)) (Lo.of _) (Int.mul_ne_zero (den_ne _) (by assumption)) (div_cross _ _ (by assumption)) (by assumption) (by assumption) | exact law_is_does (by first | assumption | exact Nums.get (by assumption) (by k_mem)) (Lo.of _) (by assumption) (by assumption) (by assumption) (by assumption) | exact subQ (by first | assumption | exact Nums.get (by assumption) (by k_mem)) (by first | assumption | exact Nums.get (by assumption) (by k_mem)) (by assumption) (by assumption) | exact divQ (by first | assumption | exact Nums.get (by assumption) (by k_mem)) (by first | assumption | exact Nums.get (by assumption) (by k_mem)) (by assumption) (by assumption) (by assumption) | exact compare_does (by first | assumption | exact Nums.get (by assumption) (by k_mem)) (by first | assumption | exact Nums.get (by assumption) (by k_mem)) (by assumption) (by assumption) | exact is_equal_does (by first | assumption | exact Nums.get (by assumption) (by k_mem)) (by first | assumption | exact Nums.get (by assumption) (by k_mem)) | exact law_divisor_does (by first | assumption | omega) (by first | assumption | omega) | exact is_exact_does (by first | assumption | exact Nums.get (by assumption) (by k_mem)) | exact addQ (by first | assumption | exact Nums.get (by assumption) (by k_mem)) (by first | assumption | exact Nums.get (by assumption) (by k_mem)) (by assumption) (by assumption) | exact mulQ (by first | assumption | exact Nums.get (by assumption) (by k_mem)) (by first | assumption | exact Nums.get (by assumption) (by k_mem)) (by assumption) (by assumption) | exact negQ (by first | assumption | exact Nums.get (by assumption) (by k_mem)) | exact invQ (by first | assumption | exact Nums.get (by assumption) (by k_mem)) (by assumption) | exact floor_does (by first | assumption | exact Nums.get (by assumption) (by k_mem)) (by assumption) | exact ceiling_does (by first | assumption | exact Nums.get (by assumption) (by k_mem)) (by assumption) | exact gcd_of_does | exact top_of_does (by first | assumption | exact Nums.get (by assumption) (by k_mem)) | exact bottom_of_does (by first | assumption | exact Nums.get (by assumption) (by k_mem)) | exact is_whole_does (by first | assumption | exact Nums.get (by assumption) (by k_mem)) | exact made_does.weaken (fun _ _ => OF.toN)) (by first | assumption | exact Nums.nil) (by ktr_room) (by ktr_units) ?_; intro r9 n9 h9 tk9 F9 N9 H9))); (try dsimp only); (try k_fold))
  intro mean mg mb dp un gd cn cs ad ccd cl outer A₀ base h₀ L m s Q E B F X N T hk hd hu hret
  have z1 : Sm 4000 x := s1.le (by decide)
  have z2 : Sm 4000 y := s2.le (by decide)
  have m1 : IntMulOk x y := Sm.ok s1 s2 (by decide) (by decide)
  have hd1 : Dv ((Int.gcd x y : Nat) : Int) := Dv.of (Sm.gcd z1 z2) (by decide) (gcd_cast_ne (.inl (by omega)))
  refine wpAny_call ?_
  k_dflt ktr_enter
  k_steps
  all_goals first
    | (exfalso; omega)
    | exact hret _ _ _ _ (by k_asm) (by k_asm) ⟨rfl, congrArg Value.bool (by rw [if_neg h0, lcm_two h0]; exact beq_self_eq_true _)⟩
theorem common_right {w : World} {news : Led} {x y : Int} {k1 k2 : Tok} (s1 : Sm 1000 x) (s2 : Sm 1000 y) : Does w 243 30 [.int x k1, .int y k2] news (OB news true) :=
  if h : x = 0 ∨ y = 0 then common_right0 s1 s2 h else common_right1 s1 s2 h
theorem pop_first {prog : Program} {w : World} {A : Around} {E : Value → Shared → Prop} {s : Shared} {h₀ : Heap} {L D : Addr} {m : Str → Option Value} {news news' : Led} {x : Value} {vs : List Value} {n : Nat} {u : Tok} {Q : Value → Shared → Prop} (F : Fr h₀ L s.heap m) (N : News h₀ L s.heap news)
    (U : Upd D (listOf (x :: vs).toArray n) (listOf vs.toArray (n + 1)) news news') (hz : vs.length ≤ 1000) (h : ∀ h', Fr h₀ L h' m → News h₀ L h' news' → Q x { s with heap := h' }) :
    wpAny (model prog w) A (call (.builtin "list.pop") [.ref D, .int 0 u]) Q E s :=
  kl_popAt (p := []) (y := x) (q := vs) (k := 0) F N (by decide) (by
    unfold seqIndex?
    rw [List.size_toArray, List.length_cons]
    simp) rfl U (by rw [sizeLine_eq]; show vs.length + 1 ≤ _; omega) h
/-- the deck: the ledger's list of ints at dk, ahead of the rest; and a draw from it -/
abbrev OD (dk : Addr) (rest : Led) (many : Int) : Value → Led → Prop := fun r news' => ∃ (vs : List Value) (ns : List Int) (n : Nat) (x : Int) (k : Tok), r = .int x k ∧ news' = (dk, listOf vs.toArray n) :: rest ∧ IntsAre vs ns ∧ vs.length ≤ 100 ∧ 0 ≤ x ∧ x < many
set_option maxRecDepth 100000 in
set_option maxHeartbeats 8000000 in
theorem law_draw_does {w : World} {dk : Addr} {vs : List Value} {ns : List Int} {n : Nat} {rest : Led} {many : Int} {k : Tok} (hI : IntsAre vs ns) (hl : vs.length ≤ 100) (hr : ∀ p ∈ rest, p.1 ≠ dk) (h0 : 0 < many) (hdv : Dv many) : Does w 201 20 [.ref dk, .int many k] ((dk, listOf vs.toArray n) :: rest) (OD dk rest many) := by
  unfold Does
  k_fill
  w_top off
  k_with_none
  k_with "binaryOp FloorDiv int int" => (with_reducible refine floordiv_dv (by assumption) ?_)
  k_with "call builtin:list.pop" => (k_here; k_dflt (refine pop_first (by k_asm) (by k_asm) (by k_upd) (by omega) ?_); intro h9 F9 N9)
  intro mean mg mb dp un gd cn cs ad ccd cl outer A₀ base h₀ L m s Q E B F X N T hk hd hu hret
  refine wpAny_call ?_
  k_dflt ktr_enter
  repeat' (first | ((fail_if_success (with_reducible show wpAny _ _ (exec (Stmt.While _ _ _ _) _) _ _ _)); first | (k_unfold; (try dsimp only)) | walk1 | (dsimp only; walk1)))
  k_dflt (refine' nt_while (σ := List Value × List Int × Nat) (fun c => (dk, listOf c.1.toArray c.2.2) :: rest) (fun _ => [(Str.ofString "deck", .ref dk), (Str.ofString "many", .int many k)]) (fun c => IntsAre c.1 c.2.1 ∧ c.1.length ≤ 100) (fun c => c.1.length) (vs, ns, n) (by assumption) (by assumption) (fun _ h => h) (ps2 rfl rfl) ⟨hI, hl⟩ ?turn)
  case turn =>
    rintro ⟨vs, ns, n⟩ u h tk hP F1 N1
    dsimp only at hP F1 N1 ⊢
    obtain ⟨hP, hlen⟩ := hP
    cases hP with
    | nil =>
      k_steps
      exact hret _ ((dk, listOf ([] : List Value).toArray n) :: rest) _ _ (by k_asm) (led_drop (by assumption) (fun _ h => .tail _ (.tail _ h))) ⟨_, _, _, _, _, rfl, rfl, .nil, hlen, by omega, h0⟩
    | @cons x t vs' ns' hP =>
      try simp only [List.length_cons] at hlen
      k_steps
      · exfalso
        have hh : decide (x :: ns' = ([] : List Int)) = true := by assumption
        simp at hh
      · exact wEnd (_, _, _) (by assumption) (by assumption) (fun _ h => .tail _ h) (ps2 rfl rfl) ⟨hP, by dsimp only; omega⟩ (by simp)
      · have hx := fun y : Int => @fmod_range y many (by omega) (by omega)
        refine hret _ ((dk, listOf _ _) :: rest) _ _ (by k_asm) (led_drop (by assumption) (fun _ h => .tail _ (.tail _ h))) ⟨_, _, _, _, _, rfl, rfl, .cons _ _ hP, ?_, (hx _).1, (hx _).2⟩
        simp only [List.length_cons]; omega
theorem callD {w : World} {f : Addr} {d : Nat} {vs : List Value} {news : Led} {mean : ExcName → Option Value} {mg mb : Str → Option Value} {dp un : Nat} {gd : Option (List Code)} {cn : Str} {cs : Scope} {a : Addr} {ccd : Value} {cl : List (Str × Addr)} {outer : List Env} {A₀ : Around} {base h₀ : Heap} {L : Addr} {m : Str → Option Value} {s : Shared} {Q E : Value → Shared → Prop} {dk : Addr} {rest : Led} {many : Int}
    (K : Caller w mean mg mb cs outer A₀ base h₀ L m s news) (C : Does w f d vs news (OD dk rest many)) (hd : dp + d < recursionLimit) (hu : un + 8 * d < cLine)
    (ret : ∀ (vs : List Value) (ns : List Int) (n : Nat) (x : Int) (k : Tok) h' tk', Fr h₀ L h' m → News h₀ L h' ((dk, listOf vs.toArray n) :: rest) → IntsAre vs ns → vs.length ≤ 100 → 0 ≤ x → x < many → Q (.int x k) { s with heap := h', toks := tk' }) :
    wpAny (model PySem.Challenge.rw_nt0159_01.row.prog w) (ktrTop dp un gd cn cs L a ccd cl outer) (call (.ref f) vs) Q E s :=
  C _ _ _ _ _ _ _ _ _ _ _ _ _ _ _ _ _ _ _ _ K.B K.F K.X K.N K.T K.hk hd hu (by rintro r news' h' tk' F' N' ⟨vs, ns, n, x, k, rfl, rfl, h1, h2, h3, h4⟩; exact ret _ _ _ _ _ _ _ F' N' h1 h2 h3 h4)
/-- an exact number, the new objects above -/
abbrev OR (news : Led) (k : Nat) : Value → Led → Prop := fun r news' => ∃ (q : Rat) (tl : Led), news' = tl ++ news ∧ (∀ p ∈ tl, ∀ q ∈ news, q.1 < p.1) ∧ NumIn tl r q.num q.den ∧ Sz k q
theorem ratio_rat {t b : Int} (hb : 0 < b) : ∃ q : Rat, t.fdiv (Int.gcd t b) = q.num ∧ b.fdiv (Int.gcd t b) = ((q.den : Nat) : Int) := by
  obtain ⟨g, a', b', eg, hg, h1, h2, f1, f2, hc⟩ := gcd_split (a := t) (b := b) (.inr (by omega))
  have hb' : 0 < b' := pos_of_mul hg (h2 ▸ hb)
  obtain ⟨n, rfl⟩ := Int.eq_ofNat_of_zero_le (Int.le_of_lt hb')
  rw [eg]
  exact ⟨⟨a', n, by omega, hc⟩, f1, f2⟩
set_option maxRecDepth 100000 in
set_option maxHeartbeats 8000000 in
theorem ratio_of_does0 {w : World} {news : Led} {t b : Int} {k1 k2 : Tok} (hb : 0 < b) (hd : Dv ((Int.gcd t b : Nat) : Int)) : Does w 91 10 [.int t k1, .int b k2] news (OF news (t.fdiv (Int.gcd t b)) (b.fdiv (Int.gcd t b))) := by
  unfold Does
  k_fill
  w_top off
  k_with_none
  k_with "binaryOp FloorDiv int int" => (with_reducible refine floordiv_dv (by assumption) ?_)
  k_with "call ref" => (k_here; (k_dflt (first | (refine callI (by exact ⟨by k_asm, (by first | exact Nums.pick (by assumption) (by assumption) (by first | exact fun _ h => h | exact fun _ h => .tail _ h | exact fun _ h => .tail _ (.tail _ h)) | k_asm), by k_asm, by k_asm, by k_asm, by first | exact rfl | assumption⟩) (by first | exact gcd_of_does | exact made_does) (by ktr_room) (by ktr_units) ?_; intro k9 h9 tk9 F9 N9) | (refine callD (by exact ⟨by k_asm, (by first | exact Nums.pick (by assumption) (by assumption) (by first | exact fun _ h => h | exact fun _ h => .tail _ h | exact fun _ h => .tail _ (.tail _ h)) | k_asm), by k_asm, by k_asm, by k_asm, by first | exact rfl | assumption⟩) (by first | exact gcd_of_does | exact made_does) (by ktr_room) (by ktr_units) ?_; intro vs9 ns9 n9 x9 k9 h9 tk9 F9 N9 hI9 hl9 hx9 hy9; have hz9 := Int.lt_of_lt_of_le hy9 (show _ ≤ (1000000000000 : Int) by decide)) | (refine callF (by exact ⟨by k_asm, (by first | exact Nums.pick (by assumption) (by assumption) (by first | exact fun _ h => h | exact fun _ h => .tail _ h | exact fun _ h => .tail _ (.tail _ h)) | k_asm), by k_asm, by k_asm, by k_asm, by first | exact rfl | assumption⟩) (by first | exact gcd_of_does | exact made_does) (by ktr_room) (by ktr_units) ?_; intro r9 n9 h9 tk9 F9 N9 O9))); (try dsimp only); (try k_fold))
  intro mean mg mb dp un gd cn cs ad ccd cl outer A₀ base h₀ L m s Q E B F X N T hk hd hu hret
  refine wpAny_call ?_
  k_dflt ktr_enter
  k_steps
  all_goals exact hret _ _ _ _ (by k_asm) (by k_asm) (by assumption)
theorem ratio_of_does {w : World} {news : Led} {t b : Int} {k1 k2 : Tok} {k : Nat} (hb : 0 < b) (s1 : Sm k t) (s2 : Sm k b) (hk : k ≤ 9000) : Does w 91 10 [.int t k1, .int b k2] news (OR news k) := by
  refine (ratio_of_does0 hb (Dv.of (Sm.gcd s1 s2) hk (gcd_cast_ne (.inr (by omega))))).weaken fun r n h => ?_
  obtain ⟨tl, e, hf, hn⟩ := h
  obtain ⟨q, e1, e2⟩ := ratio_rat (t := t) hb
  have z1 : Sm k (t.fdiv (Int.gcd t b)) := Sm.fdiv s1 (Int.natCast_nonneg _)
  have z2 : Sm k (b.fdiv (Int.gcd t b)) := Sm.fdiv s2 (Int.natCast_nonneg _)
  rw [e1, e2] at hn
  rw [e1] at z1
  rw [e2] at z2
  exact ⟨q, tl, e, hf, hn, z1, z2⟩
/-- a number drawn from the deck -/
abbrev OE (dk : Addr) (rest : Led) : Value → Led → Prop := fun r news' => ∃ (vs : List Value) (ns : List Int) (n : Nat) (tl : Led) (q : Rat), news' = (dk, listOf vs.toArray n) :: (tl ++ rest) ∧ IntsAre vs ns ∧ vs.length ≤ 100 ∧ (∀ p ∈ tl, p.1 ≠ dk ∧ ∀ q ∈ rest, q.1 ≠ p.1) ∧ NumIn tl r q.num q.den ∧ Sz 50 q
theorem OE.of {dk : Addr} {rest news' : Led} {vs : List Value} {ns : List Int} {n : Nat} {h₀ h : Heap} {L : Addr} {r : Value} (h1 : OR ((dk, listOf vs.toArray n) :: rest) 50 r news') (N : News h₀ L h news') (hi : IntsAre vs ns) (hl : vs.length ≤ 100) : ∃ n'', News h₀ L h n'' ∧ OE dk rest r n'' := by
  obtain ⟨q, tl, rfl, hf, hn, hs⟩ := h1
  have hsub' : ∀ p ∈ (dk, listOf vs.toArray n) :: (tl ++ rest), p ∈ tl ++ (dk, listOf vs.toArray n) :: rest := by
    intro p hp
    cases hp with
    | head => exact List.mem_append.mpr (.inr (.head _))
    | tail _ hp =>
      rcases List.mem_append.mp hp with hp | hp
      · exact List.mem_append.mpr (.inl hp)
      · exact List.mem_append.mpr (.inr (.tail _ hp))
  exact ⟨_, led_drop N hsub', vs, ns, n, tl, q, rfl, hi, hl, fun p hp => ⟨Nat.ne_of_gt (hf p hp _ (.head _)), fun q hq => Nat.ne_of_lt (hf p hp q (.tail _ hq))⟩, hn, hs⟩
theorem Sm.of50 {x : Int} (h : x.natAbs < 1125899906842624) : Sm 50 x := h
set_option maxRecDepth 100000 in
set_option maxHeartbeats 8000000 in
theorem law_exact_does {w : World} {dk : Addr} {vs : List Value} {ns : List Int} {n : Nat} {rest : Led} (hI : IntsAre vs ns) (hl : vs.length ≤ 100) (hr : ∀ p ∈ rest, p.1 ≠ dk) : Does w 215 40 [.ref dk] ((dk, listOf vs.toArray n) :: rest) (OE dk rest) := by
  unfold Does
  k_fill
  w_top off
  k_with_none
  k_with "binaryOp FloorDiv int int" => (with_reducible refine floordiv_dv (by assumption) ?_)
  k_with "call ref" => (k_here; (k_dflt (first | (refine callI (by exact ⟨by k_asm, (by first | exact Nums.pick (by assumption) (by assumption) (by first | exact fun _ h => h | exact fun _ h => .tail _ h | exact fun _ h => .tail _ (.tail _ h)) | k_asm), by k_asm, by k_asm, by k_asm, by first | exact rfl | assumption⟩) (by first | exact law_draw_does (by assumption) (by assumption) (by assumption) (by decide) (by exact ⟨by decide, by decide +kernel⟩) | exact ratio_of_does (by omega) (Sm.of50 (by omega)) (Sm.of50 (by omega)) (by decide) | exact gcd_of_does | exact made_does) (by ktr_room) (by ktr_units) ?_; intro k9 h9 tk9 F9 N9) | (refine callD (by exact ⟨by k_asm, (by first | exact Nums.pick (by assumption) (by assumption) (by first | exact fun _ h => h | exact fun _ h => .tail _ h | exact fun _ h => .tail _ (.tail _ h)) | k_asm), by k_asm, by k_asm, by k_asm, by first | exact rfl | assumption⟩) (by first | exact law_draw_does (by assumption) (by assumption) (by assumption) (by decide) (by exact ⟨by decide, by decide +kernel⟩) | exact ratio_of_does (by omega) (Sm.of50 (by omega)) (Sm.of50 (by omega)) (by decide) | exact gcd_of_does | exact made_does) (by ktr_room) (by ktr_units) ?_; intro vs9 ns9 n9 x9 k9 h9 tk9 F9 N9 hI9 hl9 hx9 hy9; have hz9 := Int.lt_of_lt_of_le hy9 (show _ ≤ (1000000000000 : Int) by decide)) | (refine callF (by exact ⟨by k_asm, (by first | exact Nums.pick (by assumption) (by assumption) (by first | exact fun _ h => h | exact fun _ h => .tail _ h | exact fun _ h => .tail _ (.tail _ h)) | k_asm), by k_asm, by k_asm, by k_asm, by first | exact rfl | assumption⟩) (by first | exact law_draw_does (by assumption) (by assumption) (by assumption) (by decide) (by exact ⟨by decide, by decide +kernel⟩) | exact ratio_of_does (by omega) (Sm.of50 (by omega)) (Sm.of50 (by omega)) (by decide) | exact gcd_of_does | exact made_does) (by ktr_room) (by ktr_units) ?_; intro r9 n9 h9 tk9 F9 N9 O9))); (try dsimp only); (try k_fold))
  intro mean mg mb dp un gd cn cs ad ccd cl outer A₀ base h₀ L m s Q E B F X N T hk hd hu hret
  refine wpAny_call ?_
  k_dflt ktr_enter
  k_steps
  all_goals (
    obtain ⟨n', N', o⟩ := OE.of (h₀ := h₀) (L := L) (by assumption) (by assumption) (by assumption) (by assumption)
    exact hret _ n' _ _ (by k_asm) N' o)
/-- as Does, the script standing in the caller's own base -/
def DoesL (w : World) (f : Addr) (d : Nat) (sc : Addr) (vs : List Value) (news : Led) (Out : Value → Led → Prop) : Prop :=
  ∀ (mean : ExcName → Option Value) (mg mb : Str → Option Value) (dp un : Nat) (gd : Option (List Code)) (cn : Str) (cs : Scope) (a : Addr) (ccd : Value) (cl : List (Str × Addr)) (outer : List Env) (A₀ : Around) (base h₀ : Heap) (L : Addr) (m : Str → Option Value) (s : Shared)
    (Q E : Value → Shared → Prop),
    Below A₀ base outer h₀ → base.IsList sc vs.toArray → Fr h₀ L s.heap m → (Nt.hd.heap_39 w.params).In h₀ → News h₀ L s.heap news → Top Nt.hd.view_39 (looseW Nt.hd.view_39 []) mean mg mb h₀ → cs.kind = .function → dp + d < recursionLimit → un + 8 * d < cLine →
    (∀ r news' h' tk', Fr h₀ L h' m → News h₀ L h' news' → Out r news' → Q r { s with heap := h', toks := tk' }) →
    wpAny (model PySem.Challenge.rw_nt0159_01.row.prog w) (ktrTop dp un gd cn cs L a ccd cl outer) (call (.ref f) [.ref sc]) Q E s
/-- the deck made -/
abbrev OK (news : Led) : Value → Led → Prop := fun r news' => ∃ (dk : Addr) (vs : List Value) (ns : List Int) (n : Nat), r = .ref dk ∧ news' = (dk, listOf vs.toArray n) :: news ∧ IntsAre vs ns ∧ vs.length ≤ 100 ∧ ∀ p ∈ news, p.1 ≠ dk
set_option maxRecDepth 100000 in
set_option maxHeartbeats 8000000 in
theorem law_deck_does {w : World} {sc : Addr} {vs : List Value} {ns : List Int} {c : Addr} {oc : Obj} (hI : IntsAre vs ns) (hlen : ns.length ≤ 63) : DoesL w 194 20 sc vs [(c, oc)] (OK [(c, oc)]) := by
  unfold DoesL
  k_fill
  w_top off
  k_with_none
  intro mean mg mb dp un gd cn cs ad ccd cl outer A₀ base h₀ L m s Q E B hL F X N T hk hd hu hret
  refine wpAny_call ?_
  k_dflt cell_enter
  k_steps
  all_goals (try k_data)
  have hlen' : ∀ {ys : List Value} {f : Int → Int}, ys.length = ((ns.take 12).map f).length → ys.length ≤ 100 := by
    intro ys f e
    rw [e, List.length_map, List.length_take]; omega
  have hsub : ∀ {a b d : Addr × Obj}, ∀ p ∈ [a, d], p ∈ [a, b, d] := by
    intro a b d p hp
    cases hp with
    | head => exact .head _
    | tail _ hp => exact .tail _ (.tail _ hp)
  exact hret _ _ _ _ (by k_asm) (led_drop (by assumption) hsub) ⟨_, _, _, _, rfl, rfl, by assumption, hlen' (by assumption), fun p hp => by
    rw [List.mem_singleton.mp hp]
    exact (by assumption : _ ∧ _).2⟩
theorem callL {w : World} {f : Addr} {d : Nat} {vs : List Value} {sc c : Addr} {oc : Obj} {mean : ExcName → Option Value} {mg mb : Str → Option Value} {dp un : Nat} {gd : Option (List Code)} {cn : Str} {cs : Scope} {a : Addr} {ccd : Value} {cl : List (Str × Addr)} {outer : List Env} {A₀ : Around} {base h₀ : Heap} {L : Addr} {m : Str → Option Value} {s : Shared} {Q E : Value → Shared → Prop}
    (K : Caller w mean mg mb cs outer A₀ base h₀ L m s [(c, oc)]) (hL : base.IsList sc vs.toArray) (C : DoesL w f d sc vs [(c, oc)] (OK [(c, oc)])) (hd : dp + d < recursionLimit) (hu : un + 8 * d < cLine)
    (ret : ∀ (dk : Addr) (vs : List Value) (ns : List Int) (n : Nat) h' tk', Fr h₀ L h' m → News h₀ L h' [(dk, listOf vs.toArray n), (c, oc)] → IntsAre vs ns → vs.length ≤ 100 → c ≠ dk → Q (.ref dk) { s with heap := h', toks := tk' }) :
    wpAny (model PySem.Challenge.rw_nt0159_01.row.prog w) (ktrTop dp un gd cn cs L a ccd cl outer) (call (.ref f) [.ref sc]) Q E s :=
  C _ _ _ _ _ _ _ _ _ _ _ _ _ _ _ _ _ _ _ _ K.B hL K.F K.X K.N K.T K.hk hd hu (by rintro r news' h' tk' F' N' ⟨dk, vs, ns, n, rfl, rfl, h1, h2, h3⟩; exact ret _ _ _ _ _ _ F' N' h1 h2 (h3 _ (.head _)))
section
variable {prog : Program} {w : World} {A : Around} {h₀ : Heap} {L : Addr} {m : Str → Option Value} {env : Env} {elt : Expr} {x : Str} {scope : Scope} {cl : List (Str × Addr)} {s : Shared} {P : Nat → Value → Prop} {Fin : List Value → Led → Prop} {dk c : Addr} {oc : Obj}
/-- one turn's walk of the law's comprehension: a number is drawn -/
def TurnW (prog : Program) (w : World) (A : Around) (h₀ : Heap) (L : Addr) (m : Str → Option Value) (env : Env) (elt : Expr) (scope : Scope) (cl : List (Str × Addr)) (s : Shared) (dk c : Addr) (oc : Obj) : Prop :=
  ∀ (I C D : Addr) (oI oC oD : Obj) (m₂ : Str → Option Value) (h : Heap) (tk : Nat) (E' : Value → Shared → Prop) (vs : List Value) (ns : List Int) (n : Nat) (rest : Led) (Q : Value → Shared → Prop), LCg.NsObj oC m₂ → Fr h₀ L h m → (c, oc) ∈ rest → IntsAre vs ns → vs.length ≤ 100 → (∀ p ∈ (I, oI) :: (C, oC) :: (D, oD) :: rest, p.1 ≠ dk) →
    News h₀ L h ((dk, listOf vs.toArray n) :: (I, oI) :: (C, oC) :: (D, oD) :: rest) → News h₀ L h ((I, oI) :: (C, oC) :: (D, oD) :: (dk, listOf vs.toArray n) :: rest) →
    (∀ r n9 h' tk', Fr h₀ L h' m → News h₀ L h' n9 → OE dk ((I, oI) :: (C, oC) :: (D, oD) :: rest) r n9 → Q r { s with heap := h', toks := tk' }) →
    wpAny (model prog w) A (eval elt (compEnvC scope cl C env)) Q E' { s with heap := h, toks := tk }
theorem turn_step (walk : TurnW prog w A h₀ L m env elt scope cl s dk c oc) {k i : Nat} {ys vs : List Value} {ns : List Int} {n : Nat} {rest : Led} (hI : IntsAre vs ns) (hl : vs.length ≤ 100) (hoff : ∀ p ∈ rest, p.1 ≠ dk) (hc : (c, oc) ∈ rest)
    (K : ∀ r vs' ns' n' tl q, IntsAre vs' ns' → vs'.length ≤ 100 → (∀ p ∈ tl ++ rest, p.1 ≠ dk) → NumIn (tl ++ rest) r q.num q.den → Sz 50 q → LCg.CompRest prog w A h₀ L m env elt x scope cl s (fun _ => True) P Fin k (i + 1) (ys ++ [r]) ((dk, listOf vs'.toArray n') :: (tl ++ rest))) :
    LCg.CompRest prog w A h₀ L m env elt x scope cl s (fun _ => True) P Fin (k + 1) i ys ((dk, listOf vs.toArray n) :: rest) := by
  refine LCg.CompRest.succ ?_
  intro v I oI C oC D m₂ h tk E' hv hC hx F N off ne
  have off' := off.mem
  refine walk I C D oI oC _ m₂ h tk E' vs ns n rest _ hC F hc hI hl ?_ ?_ N ?_
  · intro p hp
    have hdk := off' _ (.head _)
    rcases List.mem_cons.mp hp with rfl | hp
    · exact Ne.symm hdk.1
    · rcases List.mem_cons.mp hp with rfl | hp
      · exact Ne.symm hdk.2.1
      · rcases List.mem_cons.mp hp with rfl | hp
        · exact Ne.symm hdk.2.2
        · exact hoff p hp
  · refine led_drop N fun p hp => ?_
    rcases List.mem_cons.mp hp with rfl | hp
    · exact .tail _ (.tail _ (.tail _ (.head _)))
    · rcases List.mem_cons.mp hp with rfl | hp
      · exact .head _
      · rcases List.mem_cons.mp hp with rfl | hp
        · exact .tail _ (.head _)
        · rcases List.mem_cons.mp hp with rfl | hp
          · exact .tail _ (.tail _ (.head _))
          · exact .tail _ (.tail _ (.tail _ (.tail _ hp)))
  · intro r n9 h' tk' F' N' O
    obtain ⟨vs', ns', n', tl, q, rfl, hI', hl', hf, hn, hs⟩ := O
    refine LCg.CompEnd.intro F' N' ((dk, listOf vs'.toArray n') :: (tl ++ rest)) ?_ (LCg.Off3.of ?_) trivial (K r vs' ns' n' tl q hI' hl' ?_ (hn.mono fun p hp => List.mem_append.mpr (.inl hp)) hs)
    · intro p hp
      rcases List.mem_cons.mp hp with rfl | hp
      · exact .tail _ (List.mem_append.mpr (.inr (.head _)))
      · rcases List.mem_cons.mp hp with rfl | hp
        · exact .tail _ (List.mem_append.mpr (.inr (.tail _ (.head _))))
        · rcases List.mem_cons.mp hp with rfl | hp
          · exact .tail _ (List.mem_append.mpr (.inr (.tail _ (.tail _ (.head _)))))
          · rcases List.mem_cons.mp hp with rfl | hp
            · exact .head _
            · rcases List.mem_append.mp hp with hp | hp
              · exact .tail _ (List.mem_append.mpr (.inl hp))
              · exact .tail _ (List.mem_append.mpr (.inr (.tail _ (.tail _ (.tail _ hp)))))
    · intro p hp
      rcases List.mem_cons.mp hp with rfl | hp
      · exact (show dk ≠ I ∧ dk ≠ C ∧ dk ≠ D from off' (dk, _) (.head _))
      · rcases List.mem_append.mp hp with hp | hp
        · have := (hf p hp).2
          exact ⟨Ne.symm (this _ (.head _)), Ne.symm (this _ (.tail _ (.head _))), Ne.symm (this _ (.tail _ (.tail _ (.head _))))⟩
        · exact off' _ (.tail _ hp)
    · intro p hp
      rcases List.mem_append.mp hp with hp | hp
      · exact (hf p hp).1
      · exact hoff p hp
theorem turns_four (walk : TurnW prog w A h₀ L m env elt scope cl s dk c oc) {vs : List Value} {ns : List Int} {n : Nat} {rest : Led} (hI : IntsAre vs ns) (hl : vs.length ≤ 100) (hoff : ∀ p ∈ rest, p.1 ≠ dk) (hc : (c, oc) ∈ rest)
    (fin : ∀ (a b c d : Value) (qa qb qc qd : Rat) (news : Led), NumIn news a qa.num qa.den → NumIn news b qb.num qb.den → NumIn news c qc.num qc.den → NumIn news d qd.num qd.den → Sz 50 qa → Sz 50 qb → Sz 50 qc → Sz 50 qd → Fin [a, b, c, d] news) :
    LCg.CompRest prog w A h₀ L m env elt x scope cl s (fun _ => True) P Fin 4 0 [] ((dk, listOf vs.toArray n) :: rest) := by
  have up : ∀ {tl r : Led}, ∀ p ∈ r, p ∈ tl ++ r := fun p hp => List.mem_append.mpr (.inr hp)
  refine turn_step walk hI hl hoff hc fun a vs1 ns1 n1 t1 qa hI1 hl1 hoff1 ha sa => ?_
  refine turn_step walk hI1 hl1 hoff1 (up _ hc) fun b vs2 ns2 n2 t2 qb hI2 hl2 hoff2 hb sb => ?_
  refine turn_step walk hI2 hl2 hoff2 (up _ (up _ hc)) fun c vs3 ns3 n3 t3 qc hI3 hl3 hoff3 hc' sc => ?_
  refine turn_step walk hI3 hl3 hoff3 (up _ (up _ (up _ hc))) fun d vs4 ns4 n4 t4 qd hI4 hl4 hoff4 hd sd => ?_
  have cup : ∀ {o : Addr × Obj} {r : Led}, ∀ p ∈ r, p ∈ o :: r := fun p hp => .tail _ hp
  exact LCg.CompRest.zero (fin a b c d qa qb qc qd _ (((ha.mono up).mono up).mono up |>.mono cup) ((hb.mono up).mono up |>.mono cup) (hc'.mono up |>.mono cup) (hd.mono cup) sa sb sc sd)
end
theorem is_equal_true {w : World} {news : Led} {v1 v2 : Value} {p q : Rat} (h1 : NumIn news v1 p.num p.den) (h2 : NumIn news v2 q.num q.den) (e : p = q) : Does w 161 10 [v1, v2] news (OB news true) := by
  subst e
  have h := is_equal_does (w := w) h1 h2
  rwa [decide_eq_true ⟨rfl, rfl⟩] at h
theorem Sz.top {k : Nat} {q : Rat} (h : Sz k q) : Sm k q.num := h.1
theorem NumIn.two {news : Led} {v : Value} {t b : Int} (h : NumIn news v t b) {p : Addr × Obj} (hp : p ∈ news) : ∃ (x y : Addr) (o o' : Obj), (x, o) ∈ news ∧ (y, o') ∈ news ∧ NumIn [(x, o), (y, o')] v t b := by
  cases h with
  | int => exact ⟨p.1, p.1, p.2, p.2, hp, hp, .int⟩
  | ratio h0 h1 h2 => exact ⟨_, _, _, _, h1, h2, .ratio h0 (.head _) (.tail _ (.head _))⟩
theorem news_cons {h₀ h : Heap} {L : Addr} {news r : Led} {p : Addr × Obj} (N : News h₀ L h news) (hp : p ∈ news) (R : News h₀ L h r) : News h₀ L h (p :: r) := by
  intro q hq
  rcases List.mem_cons.mp hq with rfl | hq
  · exact N _ hp
  · exact R _ hq
theorem law_item {prog : Program} {w : World} {A : Around} {E : Value → Shared → Prop} {s : Shared} {value slice : PySem.Expr} {h₀ : Heap} {L D : Addr} {n : Led} {vs : List Value} {k : Int} {u : Tok} {v : Value} {Q : Value → Shared → Prop}
    (N : News h₀ L s.heap n) (hm : (D, LCg.lst vs) ∈ n) (h0 : 0 ≤ k) (hhi : k < 2 ^ 63) (hx : vs[k.toNat]? = some v) (h : Q v s)
    (hs : subscripted slice false (.ref D) (.int k u) = operate [.ref D, .int k u] (getItem (.ref D) (.int k u)) := by with_unfolding_all rfl) :
    wpAny (model prog w) A (subscriptTail value slice (.ref D) (.int k u)) Q E s :=
  have hl : s.heap.IsList D vs.toArray := ⟨_, (N _ hm).1, rfl, _, rfl⟩
  tail_any hl.typeIs slot_list_getitem.lookup (wpAny_getItem_list hl h0 hhi (by simpa using hx) h) hs
theorem Nums.four {e e1 e2 e3 e4 e5 e6 e7 e8 : Addr × Obj} {a b c d : Value} {ta ba tb bb tc bc td bd : Int} (ha : NumIn [e1, e2] a ta ba) (hb : NumIn [e3, e4] b tb bb) (hc : NumIn [e5, e6] c tc bc) (hd : NumIn [e7, e8] d td bd) :
    Nums [e, e1, e2, e3, e4, e5, e6, e7, e8] [e, e1, e2, e3, e4, e5, e6, e7, e8] [(a, ta, ba), (b, tb, bb), (c, tc, bc), (d, td, bd)] := by
  have up : ∀ {x : Addr × Obj} {r : Led}, ∀ p ∈ r, p ∈ x :: r := fun p hp => .tail _ hp
  have two : ∀ {x y : Addr × Obj} {r : Led}, ∀ p ∈ [x, y], p ∈ x :: y :: r := fun p hp => by
    rcases List.mem_cons.mp hp with rfl | hp
    · exact .head _
    · rw [List.mem_singleton.mp hp]; exact .tail _ (.head _)
  exact Nums.cons ((ha.mono two).mono up) (Nums.cons ((((hb.mono two).mono up).mono up).mono up) (Nums.cons ((((((hc.mono two).mono up).mono up).mono up).mono up).mono up) (Nums.cons ((((((((hd.mono two).mono up).mono up).mono up).mono up).mono up).mono up).mono up) Nums.nil)))
section
variable {prog : Program} {w : World} {A : Around} {E : Value → Shared → Prop} {h₀ : Heap} {env : Env} {target : Expr} {body : List Stmt} {Q : Flow → Shared → Prop} {s : Shared} {I : Addr} {news : Led} {keep : Led} {nm : Str} {v : Value}
/-- a turn's end: the ledger and the name nm stand as they stood -/
def TEnd (h₀ : Heap) (L : Addr) (s : Shared) (led : Led) (nm : Str) (v : Value) (s₂ : Shared) : Prop :=
  ∃ (h' : Heap) (tk : Nat) (m' : Str → Option Value), s₂ = { s with heap := h', toks := tk } ∧ Fr h₀ L h' m' ∧ News h₀ L h' led ∧ m' nm = some v
def TPost (h₀ : Heap) (L : Addr) (s : Shared) (led : Led) (nm : Str) (v : Value) (Q : Flow → Shared → Prop) (f : Flow) (s₂ : Shared) : Prop :=
  match f with
  | .next | .cont => TEnd h₀ L s led nm v s₂
  | .brk => Q .next s₂
  | .ret v => Q (.ret v) s₂
theorem tEnd {L : Addr} {led : Led} {h' : Heap} {tk : Nat} {m' : Str → Option Value} (F : Fr h₀ L h' m') (N : News h₀ L h' led) (hm : m' nm = some v) : TPost h₀ L s led nm v Q .next { s with heap := h', toks := tk } :=
  ⟨h', tk, m', rfl, F, N, hm⟩
/-- the turn of a for over enumerate that hands out (k, x), from any state that has nm -/
def Turn (prog : Program) (w : World) (A : Around) (E : Value → Shared → Prop) (h₀ : Heap) (env : Env) (target : Expr) (body : List Stmt) (Q : Flow → Shared → Prop) (s : Shared) (I : Addr) (news : Led) (nm : Str) (v : Value) (k : Int) (x : Value) : Prop :=
  ∀ (W : Addr) (t : Tok) (h : Heap) (tk : Nat) (oE oI : Obj) (u : Str → Option Value), IsTup h W #[.int k t, x] → Fr h₀ env.locals h (kstB u [(nm, v)]) → oE.cls = .type "enumerate" → oI.cls = .type "list_iterator" → News h₀ env.locals h ((I + 1, oE) :: (I, oI) :: news) →
    wpAny (model prog w) A (assign target env (.ref W)) (fun _ s₂ => wpAny (model prog w) A (execs body env) (TPost h₀ env.locals s ((I + 1, oE) :: (I, oI) :: news) nm v Q) E s₂) E { s with heap := h, toks := tk }
theorem turn_of {k : Int} {x : Value} {r : List Itm} {m : Str → Option Value} (walk : Turn prog w A E h₀ env target body Q s I news nm v k x) (hm : m nm = some v) (hI : ∀ p ∈ news, p.1 < I) (hk : SubL keep news)
    (rest : ∀ m' : Str → Option Value, m' nm = some v → ItemsRest prog w A E h₀ env target body Q s [(I + 1, "enumerate"), (I, "list_iterator")] keep r m' news) :
    ItemsRest prog w A E h₀ env target body Q s [(I + 1, "enumerate"), (I, "list_iterator")] keep (.pair (fun t => .int k t) x :: r) m news := by
  have off : ∀ (oE oI : Obj), ∀ p ∈ news, ∀ q ∈ [(I + 1, oE), (I, oI)], p.1 ≠ q.1 := by
    intro oE oI p hp q hq
    rcases List.mem_cons.mp hq with rfl | hq
    · exact Nat.ne_of_lt (Nat.lt_succ_of_lt (hI p hp))
    · rw [List.mem_singleton.mp hq]; exact Nat.ne_of_lt (hI p hp)
  refine ItemsRest.pair fun W t h tk hT F => AllObj.cons fun oE hE => AllObj.cons fun oI hI' => AllObj.nil fun N => ?_
  have e : kstB m [(nm, v)] = m := funext fun y => kstB_eq (ps1 hm) fun _ => rfl
  refine wpAny_mono (walk W t h tk oE oI m hT (e.symm ▸ F) hE hI' N) (fun _ s₂ q => wpAny_mono q (fun f s₃ p => ?_) fun _ _ x => x) fun _ _ x => x
  cases f with
  | ret v => exact p
  | brk => exact p
  | next =>
    obtain ⟨h', tk', m', rfl, F', N', hm'⟩ := p
    exact ⟨h', tk', m', news, rfl, F', N', off oE oI, hk, rest m' hm'⟩
  | cont =>
    obtain ⟨h', tk', m', rfl, F', N', hm'⟩ := p
    exact ⟨h', tk', m', news, rfl, F', N', off oE oI, hk, rest m' hm'⟩
theorem for_four {a b c d : Value} {m : Str → Option Value} (P : Int → Value → Prop) (pa : P 0 a) (pb : P 1 b) (pc : P 2 c) (pd : P 3 d) (hm : m nm = some v) (hI : ∀ p ∈ news, p.1 < I) (hk : SubL keep news)
    (walk : ∀ k x, P k x → Turn prog w A E h₀ env target body Q s I news nm v k x)
    (fin : ∀ (u : Str → Option Value) (h : Heap) (tk : Nat), Fr h₀ env.locals h (kstB u [(nm, v)]) → News h₀ env.locals h news → Q .next { s with heap := h, toks := tk }) :
    ItemsRest prog w A E h₀ env target body Q s [(I + 1, "enumerate"), (I, "list_iterator")] keep [.pair (fun t => .int 0 t) a, .pair (fun t => .int 1 t) b, .pair (fun t => .int 2 t) c, .pair (fun t => .int 3 t) d] m news := by
  refine turn_of (walk 0 a pa) hm hI hk fun m1 hm1 => turn_of (walk 1 b pb) hm1 hI hk fun m2 hm2 => turn_of (walk 2 c pc) hm2 hI hk fun m3 hm3 => turn_of (walk 3 d pd) hm3 hI hk fun m4 hm4 => ItemsRest.zero fun h tk F N => ?_
  have e : kstB m4 [(nm, v)] = m4 := funext fun y => kstB_eq (ps1 hm4) fun _ => rfl
  exact fin m4 h tk (e.symm ▸ F) N
end
/-- the number ahead of the k-th, round about -/
def Ahead (a b c d : Value) (k : Int) (y : Value) : Prop := (k = 0 ∧ y = d) ∨ (k = 1 ∧ y = a) ∨ (k = 2 ∧ y = b) ∨ (k = 3 ∧ y = c)
theorem law_other {prog : Program} {w : World} {A : Around} {E : Value → Shared → Prop} {s : Shared} {value slice : PySem.Expr} {h₀ : Heap} {L D : Addr} {n : Led} {a b c d : Value} {k : Int} {u : Tok} {y : Value} {Q : Value → Shared → Prop}
    (N : News h₀ L s.heap n) (hm : (D, LCg.lst [a, b, c, d]) ∈ n) (hk : Ahead a b c d k y) (h : Q y s)
    (hs : subscripted slice false (.ref D) (.int (k - 1) u) = operate [.ref D, .int (k - 1) u] (getItem (.ref D) (.int (k - 1) u)) := by with_unfolding_all rfl) :
    wpAny (model prog w) A (subscriptTail value slice (.ref D) (.int (k - 1) u)) Q E s := by
  have hl : s.heap.IsList D [a, b, c, d].toArray := ⟨_, (N _ hm).1, rfl, _, rfl⟩
  rcases hk with ⟨rfl, rfl⟩ | ⟨rfl, rfl⟩ | ⟨rfl, rfl⟩ | ⟨rfl, rfl⟩
  · exact tail_any hl.typeIs slot_list_getitem.lookup (wpAny_getItem_list_neg hl (by decide) (show -((4 : Nat) : Int) ≤ 0 - 1 by decide) (by decide) (by rfl) h) hs
  all_goals exact law_item N hm (by decide) (by decide) (by rfl) h hs
set_option maxRecDepth 100000 in
set_option maxHeartbeats 8000000 in
theorem law_holds : PySem.Challenge.rw_nt0159_01.Holds := by
  k_with_none
  k_with "call ref" => (k_here; (k_dflt (refine callL (by exact ⟨by k_asm, by k_asm, by k_asm, by k_asm, by k_asm, by first | exact rfl | assumption⟩) (by k_asm) (by exact law_deck_does (by assumption) (by omega)) (by decide) (by decide) ?_; intro dk9 vs9 ns9 n9 h9 tk9 F9 N9 hI9 hl9 hc9)); (try dsimp only); (try k_fold))
  k_with "call ref" => (k_here; (k_dflt (first | (refine callI (by exact ⟨by k_asm, by k_asm, by k_asm, by k_asm, by k_asm, by first | exact rfl | assumption⟩) (by first | exact common_right (Sz.top (by assumption)) (Sz.top (by assumption)) | exact pair_right (by exact NumIn.mono (Nums.get (by assumption) (by k_mem)) (by first | exact fun _ h => h | exact fun _ h => .tail _ h | exact fun _ h => .tail _ (.tail _ h) | exact fun _ h => .tail _ (.tail _ (.tail _ h)) | exact fun _ h => .tail _ (.tail _ (.tail _ (.tail _ h))))) (by exact NumIn.mono (Nums.get (by assumption) (by k_mem)) (by first | exact fun _ h => h | exact fun _ h => .tail _ h | exact fun _ h => .tail _ (.tail _ h) | exact fun _ h => .tail _ (.tail _ (.tail _ h)) | exact fun _ h => .tail _ (.tail _ (.tail _ (.tail _ h))))) (by assumption) (by assumption) | exact alone_right (by exact NumIn.mono (Nums.get (by assumption) (by k_mem)) (by first | exact fun _ h => h | exact fun _ h => .tail _ h | exact fun _ h => .tail _ (.tail _ h) | exact fun _ h => .tail _ (.tail _ (.tail _ h)) | exact fun _ h => .tail _ (.tail _ (.tail _ (.tail _ h))))) (by assumption) | exact top_of_does (by exact NumIn.mono (Nums.get (by assumption) (by k_mem)) (by first | exact fun _ h => h | exact fun _ h => .tail _ h | exact fun _ h => .tail _ (.tail _ h) | exact fun _ h => .tail _ (.tail _ (.tail _ h)) | exact fun _ h => .tail _ (.tail _ (.tail _ (.tail _ h))))) | exact is_equal_true (by exact NumIn.mono (Nums.get (by assumption) (by k_mem)) (by first | exact fun _ h => h | exact fun _ h => .tail _ h | exact fun _ h => .tail _ (.tail _ h) | exact fun _ h => .tail _ (.tail _ (.tail _ h)) | exact fun _ h => .tail _ (.tail _ (.tail _ (.tail _ h))))) (by exact NumIn.mono (Nums.get (by assumption) (by k_mem)) (by first | exact fun _ h => h | exact fun _ h => .tail _ h | exact fun _ h => .tail _ (.tail _ h) | exact fun _ h => .tail _ (.tail _ (.tail _ h)) | exact fun _ h => .tail _ (.tail _ (.tail _ (.tail _ h))))) (by assumption) | exact mulQ (by exact NumIn.mono (Nums.get (by assumption) (by k_mem)) (by first | exact fun _ h => h | exact fun _ h => .tail _ h | exact fun _ h => .tail _ (.tail _ h) | exact fun _ h => .tail _ (.tail _ (.tail _ h)) | exact fun _ h => .tail _ (.tail _ (.tail _ (.tail _ h))))) (by exact NumIn.mono (Nums.get (by assumption) (by k_mem)) (by first | exact fun _ h => h | exact fun _ h => .tail _ h | exact fun _ h => .tail _ (.tail _ h) | exact fun _ h => .tail _ (.tail _ (.tail _ h)) | exact fun _ h => .tail _ (.tail _ (.tail _ (.tail _ h))))) (by assumption) (by assumption) | exact addQ (by exact NumIn.mono (Nums.get (by assumption) (by k_mem)) (by first | exact fun _ h => h | exact fun _ h => .tail _ h | exact fun _ h => .tail _ (.tail _ h) | exact fun _ h => .tail _ (.tail _ (.tail _ h)) | exact fun _ h => .tail _ (.tail _ (.tail _ (.tail _ h))))) (by exact NumIn.mono (Nums.get (by assumption) (by k_mem)) (by first | exact fun _ h => h | exact fun _ h => .tail _ h | exact fun _ h => .tail _ (.tail _ h) | exact fun _ h => .tail _ (.tail _ (.tail _ h)) | exact fun _ h => .tail _ (.tail _ (.tail _ (.tail _ h))))) (by assumption) (by assumption)) (by ktr_room) (by ktr_units) ?_; intro k9 h9 tk9 F9 N9) | (refine callB (by exact ⟨by k_asm, by k_asm, by k_asm, by k_asm, by k_asm, by first | exact rfl | assumption⟩) (by first | exact common_right (Sz.top (by assumption)) (Sz.top (by assumption)) | exact pair_right (by exact NumIn.mono (Nums.get (by assumption) (by k_mem)) (by first | exact fun _ h => h | exact fun _ h => .tail _ h | exact fun _ h => .tail _ (.tail _ h) | exact fun _ h => .tail _ (.tail _ (.tail _ h)) | exact fun _ h => .tail _ (.tail _ (.tail _ (.tail _ h))))) (by exact NumIn.mono (Nums.get (by assumption) (by k_mem)) (by first | exact fun _ h => h | exact fun _ h => .tail _ h | exact fun _ h => .tail _ (.tail _ h) | exact fun _ h => .tail _ (.tail _ (.tail _ h)) | exact fun _ h => .tail _ (.tail _ (.tail _ (.tail _ h))))) (by assumption) (by assumption) | exact alone_right (by exact NumIn.mono (Nums.get (by assumption) (by k_mem)) (by first | exact fun _ h => h | exact fun _ h => .tail _ h | exact fun _ h => .tail _ (.tail _ h) | exact fun _ h => .tail _ (.tail _ (.tail _ h)) | exact fun _ h => .tail _ (.tail _ (.tail _ (.tail _ h))))) (by assumption) | exact top_of_does (by exact NumIn.mono (Nums.get (by assumption) (by k_mem)) (by first | exact fun _ h => h | exact fun _ h => .tail _ h | exact fun _ h => .tail _ (.tail _ h) | exact fun _ h => .tail _ (.tail _ (.tail _ h)) | exact fun _ h => .tail _ (.tail _ (.tail _ (.tail _ h))))) | exact is_equal_true (by exact NumIn.mono (Nums.get (by assumption) (by k_mem)) (by first | exact fun _ h => h | exact fun _ h => .tail _ h | exact fun _ h => .tail _ (.tail _ h) | exact fun _ h => .tail _ (.tail _ (.tail _ h)) | exact fun _ h => .tail _ (.tail _ (.tail _ (.tail _ h))))) (by exact NumIn.mono (Nums.get (by assumption) (by k_mem)) (by first | exact fun _ h => h | exact fun _ h => .tail _ h | exact fun _ h => .tail _ (.tail _ h) | exact fun _ h => .tail _ (.tail _ (.tail _ h)) | exact fun _ h => .tail _ (.tail _ (.tail _ (.tail _ h))))) (by assumption) | exact mulQ (by exact NumIn.mono (Nums.get (by assumption) (by k_mem)) (by first | exact fun _ h => h | exact fun _ h => .tail _ h | exact fun _ h => .tail _ (.tail _ h) | exact fun _ h => .tail _ (.tail _ (.tail _ h)) | exact fun _ h => .tail _ (.tail _ (.tail _ (.tail _ h))))) (by exact NumIn.mono (Nums.get (by assumption) (by k_mem)) (by first | exact fun _ h => h | exact fun _ h => .tail _ h | exact fun _ h => .tail _ (.tail _ h) | exact fun _ h => .tail _ (.tail _ (.tail _ h)) | exact fun _ h => .tail _ (.tail _ (.tail _ (.tail _ h))))) (by assumption) (by assumption) | exact addQ (by exact NumIn.mono (Nums.get (by assumption) (by k_mem)) (by first | exact fun _ h => h | exact fun _ h => .tail _ h | exact fun _ h => .tail _ (.tail _ h) | exact fun _ h => .tail _ (.tail _ (.tail _ h)) | exact fun _ h => .tail _ (.tail _ (.tail _ (.tail _ h))))) (by exact NumIn.mono (Nums.get (by assumption) (by k_mem)) (by first | exact fun _ h => h | exact fun _ h => .tail _ h | exact fun _ h => .tail _ (.tail _ h) | exact fun _ h => .tail _ (.tail _ (.tail _ h)) | exact fun _ h => .tail _ (.tail _ (.tail _ (.tail _ h))))) (by assumption) (by assumption)) (by ktr_room) (by ktr_units) ?_; intro h9 tk9 F9 N9) | (refine callN (by exact ⟨by k_asm, by k_asm, by k_asm, by k_asm, by k_asm, by first | exact rfl | assumption⟩) (by first | exact common_right (Sz.top (by assumption)) (Sz.top (by assumption)) | exact pair_right (by exact NumIn.mono (Nums.get (by assumption) (by k_mem)) (by first | exact fun _ h => h | exact fun _ h => .tail _ h | exact fun _ h => .tail _ (.tail _ h) | exact fun _ h => .tail _ (.tail _ (.tail _ h)) | exact fun _ h => .tail _ (.tail _ (.tail _ (.tail _ h))))) (by exact NumIn.mono (Nums.get (by assumption) (by k_mem)) (by first | exact fun _ h => h | exact fun _ h => .tail _ h | exact fun _ h => .tail _ (.tail _ h) | exact fun _ h => .tail _ (.tail _ (.tail _ h)) | exact fun _ h => .tail _ (.tail _ (.tail _ (.tail _ h))))) (by assumption) (by assumption) | exact alone_right (by exact NumIn.mono (Nums.get (by assumption) (by k_mem)) (by first | exact fun _ h => h | exact fun _ h => .tail _ h | exact fun _ h => .tail _ (.tail _ h) | exact fun _ h => .tail _ (.tail _ (.tail _ h)) | exact fun _ h => .tail _ (.tail _ (.tail _ (.tail _ h))))) (by assumption) | exact top_of_does (by exact NumIn.mono (Nums.get (by assumption) (by k_mem)) (by first | exact fun _ h => h | exact fun _ h => .tail _ h | exact fun _ h => .tail _ (.tail _ h) | exact fun _ h => .tail _ (.tail _ (.tail _ h)) | exact fun _ h => .tail _ (.tail _ (.tail _ (.tail _ h))))) | exact is_equal_true (by exact NumIn.mono (Nums.get (by assumption) (by k_mem)) (by first | exact fun _ h => h | exact fun _ h => .tail _ h | exact fun _ h => .tail _ (.tail _ h) | exact fun _ h => .tail _ (.tail _ (.tail _ h)) | exact fun _ h => .tail _ (.tail _ (.tail _ (.tail _ h))))) (by exact NumIn.mono (Nums.get (by assumption) (by k_mem)) (by first | exact fun _ h => h | exact fun _ h => .tail _ h | exact fun _ h => .tail _ (.tail _ h) | exact fun _ h => .tail _ (.tail _ (.tail _ h)) | exact fun _ h => .tail _ (.tail _ (.tail _ (.tail _ h))))) (by assumption) | exact mulQ (by exact NumIn.mono (Nums.get (by assumption) (by k_mem)) (by first | exact fun _ h => h | exact fun _ h => .tail _ h | exact fun _ h => .tail _ (.tail _ h) | exact fun _ h => .tail _ (.tail _ (.tail _ h)) | exact fun _ h => .tail _ (.tail _ (.tail _ (.tail _ h))))) (by exact NumIn.mono (Nums.get (by assumption) (by k_mem)) (by first | exact fun _ h => h | exact fun _ h => .tail _ h | exact fun _ h => .tail _ (.tail _ h) | exact fun _ h => .tail _ (.tail _ (.tail _ h)) | exact fun _ h => .tail _ (.tail _ (.tail _ (.tail _ h))))) (by assumption) (by assumption) | exact addQ (by exact NumIn.mono (Nums.get (by assumption) (by k_mem)) (by first | exact fun _ h => h | exact fun _ h => .tail _ h | exact fun _ h => .tail _ (.tail _ h) | exact fun _ h => .tail _ (.tail _ (.tail _ h)) | exact fun _ h => .tail _ (.tail _ (.tail _ (.tail _ h))))) (by exact NumIn.mono (Nums.get (by assumption) (by k_mem)) (by first | exact fun _ h => h | exact fun _ h => .tail _ h | exact fun _ h => .tail _ (.tail _ h) | exact fun _ h => .tail _ (.tail _ (.tail _ h)) | exact fun _ h => .tail _ (.tail _ (.tail _ (.tail _ h))))) (by assumption) (by assumption)) (by exact Nums.mono (by assumption) (by first | exact fun _ h => h | exact fun _ h => .tail _ h | exact fun _ h => .tail _ (.tail _ h) | exact fun _ h => .tail _ (.tail _ (.tail _ h)) | exact fun _ h => .tail _ (.tail _ (.tail _ (.tail _ h))))) (by ktr_room) (by ktr_units) ?_; intro r9 n9 h9 tk9 F9 N9 H9; have hM9 := Nums.sub H9 _ (List.Mem.head _)))); (try dsimp only); (try k_fold))
  k_with "subscriptTail" => (k_here; (with_reducible show wpAny _ _ (subscriptTail _ _ (Value.ref _) (Value.int _ _)) _ _ _); (with_unfolding_all refine law_item (by assumption) (by assumption) (by decide) (by decide) (by rfl) ?_ (by with_unfolding_all rfl)); k_whole)
  refine Nt.hd ?_
  k_go0
  all_goals try k_fold
  repeat' (first | ((fail_if_success (with_reducible show wpAny _ _ (exec (Stmt.Assign _ (Expr.ListComp _ _ _ _) _) _) _ _ _)); first | (k_unfold; (try dsimp only)) | walk1 | (dsimp only; walk1)))
  k_dflt (refine LCg.Assign_ListComp_U (F₀ := by k_asm) (by rfl) (by with_unfolding_all rfl) (by with_unfolding_all rfl) (by decide) (by rfl) (by decide) (by rfl) (by rfl) (by rfl) ?_)
  repeat' (first | ((fail_if_success (with_reducible show LCg.CompSrc _ _ _ _ _ _ _ _ _ _ _ _ _ _)); first | walk1 | (dsimp only; walk1)))
  k_dflt (refine LCg.CompSrc.range (by rfl) (by k_asm) (by k_asm) (by assumption) (by first | decide | rfl) (show _ = ((4 : Nat) : Int) by first | rfl | decide) (by first | size_fits | exact Nat.le_of_ble_eq_true rfl) ?_)
  intro g'
  k_dflt (refine' turns_four ?walk (by assumption) (by assumption) ?hoff (List.Mem.head _) ?fin)
  case hoff =>
    intro p hp
    rw [List.mem_singleton.mp hp]
    assumption
  case walk =>
    intro I C D oI oC oD m₂ h tk E' vs ns n rest Q hC F hc hI hl hr N2 N hret
    iterate 5 (first | (k_unfold; (try dsimp only)) | walk1 | (dsimp only; walk1))
    k_dflt (refine' kcf_cell N ?q1 ?q2 ?q3 ?_)
    case q1 => exact rfl
    case q2 => exact (.tail _ (.tail _ (.tail _ (.tail _ hc))))
    case q3 => assumption
    iterate 2 (first | (k_unfold; (try dsimp only)) | walk1 | (dsimp only; walk1))
    k_dflt (refine callF (by exact ⟨by k_asm, N2, by k_asm, by k_asm, by k_asm, rfl⟩) (law_exact_does hI hl hr) (by decide) (by decide) ?_)
    intro r9 n9 h9 tk9 F9 N9 O9
    exact hret r9 n9 h9 tk9 F9 N9 O9
  case fin =>
    intro a b c d qa qb qc qd news ha hb hc hd sa sb sc sd
    unfold LCg.FinA
    intro D h tk F N off
    dsimp only
    have up : ∀ p ∈ news, p ∈ (D, LCg.lst [a, b, c, d]) :: news := fun p hp => .tail _ hp
    have hD : (D, LCg.lst [a, b, c, d]) ∈ (D, LCg.lst [a, b, c, d]) :: news := .head _
    obtain ⟨x1, x2, o1, o2, m1, m2, ha⟩ := (ha.mono up).two hD
    obtain ⟨x3, x4, o3, o4, m3, m4, hb⟩ := (hb.mono up).two hD
    obtain ⟨x5, x6, o5, o6, m5, m6, hc⟩ := (hc.mono up).two hD
    obtain ⟨x7, x8, o7, o8, m7, m8, hd⟩ := (hd.mono up).two hD
    replace N := news_cons N hD (news_cons N m1 (news_cons N m2 (news_cons N m3 (news_cons N m4 (news_cons N m5 (news_cons N m6 (news_cons N m7 (news_cons N m8 News.nil))))))))
    clear m1 m2 m3 m4 m5 m6 m7 m8 up hD off
    have H0 : Nums [(D, LCg.lst [a, b, c, d]), (x1, o1), (x2, o2), (x3, o3), (x4, o4), (x5, o5), (x6, o6), (x7, o7), (x8, o8)] [(D, LCg.lst [a, b, c, d]), (x1, o1), (x2, o2), (x3, o3), (x4, o4), (x5, o5), (x6, o6), (x7, o7), (x8, o8)]
        [(a, qa.num, ((qa.den : Nat) : Int)), (b, qb.num, ((qb.den : Nat) : Int)), (c, qc.num, ((qc.den : Nat) : Int)), (d, qd.num, ((qd.den : Nat) : Int))] :=
      Nums.four ha hb hc hd
    have ta := sa.le (k := 1000) (by decide)
    have tb := sb.le (k := 1000) (by decide)
    have tc := sc.le (k := 1000) (by decide)
    have td := sd.le (k := 1000) (by decide)
    clear ha hb hc hd
    have t1 : Sz 1000 (qa + qb) := (sa.add sb).le (by decide)
    have t2 : Sz 1000 (qc + qd) := (sc.add sd).le (by decide)
    have t3 : Sz 1000 (qa + qc) := (sa.add sc).le (by decide)
    have t4 : Sz 1000 (qb + (qa + qc)) := (sb.add (sa.add sc)).le (by decide)
    have t5 : Sz 1000 (qa * qb) := (sa.mul sb).le (by decide)
    have t6 : Sz 1000 (qc * qb) := (sc.mul sb).le (by decide)
    have t7 : Sz 1000 (qa * (qc * qb)) := (sa.mul (sc.mul sb)).le (by decide)
    have t8 : Sz 1000 (qb * qa) := (sb.mul sa).le (by decide)
    have t9 : Sz 1000 (qd * (qb * qa)) := (sd.mul (sb.mul sa)).le (by decide)
    have e1 : qa + qb + (qc + qd) = qd + (qb + (qa + qc)) := by grind
    have e2 : qa * qb * (qc + qd) = qa * (qc * qb) + qd * (qb * qa) := by grind
    clear sa sb sc sd
    try k_fold
    repeat' (first | ((fail_if_success (with_reducible show ItemsRest _ _ _ _ _ _ _ _ _ _ _ _ _ _ _)); first | (k_unfold; (try dsimp only)) | walk1 | (dsimp only; walk1)))
    rename_i i9 l9
    k_dflt (refine' for_four (nm := Str.ofString "some") (v := .ref D) (fun k x => ∃ (y : Value) (p q : Rat), Ahead a b c d k y ∧ NumIn [(D, LCg.lst [a, b, c, d]), (x1, o1), (x2, o2), (x3, o3), (x4, o4), (x5, o5), (x6, o6), (x7, o7), (x8, o8)] x p.num p.den ∧ NumIn [(D, LCg.lst [a, b, c, d]), (x1, o1), (x2, o2), (x3, o3), (x4, o4), (x5, o5), (x6, o6), (x7, o7), (x8, o8)] y q.num q.den ∧ Sz 1000 p ∧ Sz 1000 q) ⟨d, qa, qd, .inl ⟨rfl, rfl⟩, H0.num _ _ _ (.head _), H0.num _ _ _ (.tail _ (.tail _ (.tail _ (.head _)))), ta, td⟩ ⟨a, qb, qa, .inr (.inl ⟨rfl, rfl⟩), H0.num _ _ _ (.tail _ (.head _)), H0.num _ _ _ (.head _), tb, ta⟩ ⟨b, qc, qb, .inr (.inr (.inl ⟨rfl, rfl⟩)), H0.num _ _ _ (.tail _ (.tail _ (.head _))), H0.num _ _ _ (.tail _ (.head _)), tc, tb⟩ ⟨c, qd, qc, .inr (.inr (.inr ⟨rfl, rfl⟩)), H0.num _ _ _ (.tail _ (.tail _ (.tail _ (.head _)))), H0.num _ _ _ (.tail _ (.tail _ (.head _))), td, tc⟩ (by rfl) ?hI (by k_subL) ?walk ?fin)
    case hI => exact List.forall_mem_cons.mpr ⟨l9.1, List.forall_mem_cons.mpr ⟨l9.2.1, List.forall_mem_cons.mpr ⟨l9.2.2.1, List.forall_mem_cons.mpr ⟨l9.2.2.2.1, List.forall_mem_cons.mpr ⟨l9.2.2.2.2.1, List.forall_mem_cons.mpr ⟨l9.2.2.2.2.2.1, List.forall_mem_cons.mpr ⟨l9.2.2.2.2.2.2.1, List.forall_mem_cons.mpr ⟨l9.2.2.2.2.2.2.2.1, List.forall_mem_cons.mpr ⟨l9.2.2.2.2.2.2.2.2, List.forall_mem_nil _⟩⟩⟩⟩⟩⟩⟩⟩⟩
    case walk =>
      clear t1 t2 t3 t4 t5 t6 t7 t8 t9 e1 e2 H0 ta tb tc td l9
      rintro k x ⟨y, p, q, hy, hx, hy', sp, sq⟩
      have H0 : Nums [(D, LCg.lst [a, b, c, d]), (x1, o1), (x2, o2), (x3, o3), (x4, o4), (x5, o5), (x6, o6), (x7, o7), (x8, o8)] [(D, LCg.lst [a, b, c, d]), (x1, o1), (x2, o2), (x3, o3), (x4, o4), (x5, o5), (x6, o6), (x7, o7), (x8, o8)] [(x, p.num, ((p.den : Nat) : Int)), (y, q.num, ((q.den : Nat) : Int))] := Nums.cons hx (Nums.cons hy' Nums.nil)
      clear hx hy'
      intro W t h tk oE oI u hT F hE hI N
      k_with "subscriptTail" => (k_here; (with_reducible show wpAny _ _ (subscriptTail _ _ (Value.ref _) (Value.int (_ - 1) _)) _ _ _); (with_unfolding_all refine law_other (by assumption) (by k_mem) (by assumption) ?_ (by with_unfolding_all rfl)); k_whole)
      k_steps
      all_goals exact tEnd (by assumption) (by assumption) rfl
    case fin =>
      intro u h tk F N
      k_steps
end Nt
theorem PySem.Challenge.cw_nt0159_01_holds : PySem.Challenge.rw_nt0159_01.Holds :=
  Nt.law_holds
