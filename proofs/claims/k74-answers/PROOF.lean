import PyProof.Rows.All
import Wide.All
import OpenK.AllK
import Wide.FinOn
import HandS.ForMost
import HandS.IsInst
import HandS.TupAny
import HandS.Deep
import HandS.TupMul
import HandS.Style
import HandS.Gcd
import HandS.SetFor
import KE.DataEq
import KE.DataCmp
import KE.SortData
import KE.DataMinMax
import KE.DataAny
import KE.DataFind
import PySem.Challenge.RW_featurehold_k74_whole_answers_and_causes
set_option Elab.async false
set_option linter.all false
set_option maxRecDepth 100000
set_option maxHeartbeats 4000000
namespace PL
open PySem PySem.Spec L2
open PyProof.Rows hiding St

abbrev D := PyData
abbrev Fg := PySem.W.Frag

/-! ### plain data held by a (frozen) abstract heap -/
mutual
inductive Rp (K : Fg) (F : Hp) : D → V → Prop
  | non : Rp K F .none .non
  | bl (b : Bool) : Rp K F (.bool b) (.bl b)
  | int (i : Int) : Rp K F (.int i) (.int i)
  | str (x : Str) : Rp K F (.str x) (.str x)
  | lst {a : Addr} {vs : List V} {ds : List D} : F a = some (.lst vs) → vs.length ≤ sizeLine → Rps K F ds vs → Rp K F (.list ds) (.ref a)
  | tup {a : Addr} {vs : List V} {ds : List D} : SqT K F a vs → vs.length ≤ sizeLine → Rps K F ds vs → Rp K F (.tuple ds) (.ref a)
inductive Rps (K : Fg) (F : Hp) : List D → List V → Prop
  | nil : Rps K F [] []
  | cons {d : D} {ds : List D} {v : V} {vs : List V} : Rp K F d v → Rps K F ds vs → Rps K F (d :: ds) (v :: vs)
end

theorem Same.seqT {K : Fg} {H H' : Hp} {a : Addr} {xs : List V} (e : Same H H') (h : SqT K H a xs) : SqT K H' a xs := by
  rcases h with (h | ⟨o, h⟩) | h
  · exact .inl (.inl (e _ _ h))
  · exact .inl (.inr ⟨o, e _ _ h⟩)
  · exact .inr h

section
variable {K : Fg} {F F' H H' : Hp}
mutual
theorem Rp.mono (e : Same F F') : ∀ {d : D} {v : V}, Rp K F d v → Rp K F' d v
  | _, _, .non => .non
  | _, _, .bl b => .bl b
  | _, _, .int i => .int i
  | _, _, .str x => .str x
  | _, _, .lst h1 h2 h3 => .lst (e _ _ h1) h2 (Rps.mono e h3)
  | _, _, .tup h1 h2 h3 => .tup (Same.seqT e h1) h2 (Rps.mono e h3)
theorem Rps.mono (e : Same F F') : ∀ {ds : List D} {vs : List V}, Rps K F ds vs → Rps K F' ds vs
  | _, _, .nil => .nil
  | _, _, .cons h1 h2 => .cons (Rp.mono e h1) (Rps.mono e h2)
end
mutual
theorem Rp.dp : ∀ {d : D} {v : V}, Rp K F d v → Dp K F v d
  | _, _, .non => .non
  | _, _, .bl b => .bl b
  | _, _, .int i => .int i
  | _, _, .str x => .str x
  | _, _, .lst h1 _ h3 => .lst (SqL.of h1) (Rps.dp h3)
  | _, _, .tup h1 _ h3 => .tup h1 (Rps.dp h3)
theorem Rps.dp : ∀ {ds : List D} {vs : List V}, Rps K F ds vs → DpAll K F vs ds
  | _, _, .nil => .nil
  | _, _, .cons h1 h2 => .cons (Rp.dp h1) (Rps.dp h2)
end
theorem Rps.length : ∀ {ds : List D} {vs : List V}, Rps K F ds vs → ds.length = vs.length
  | _, _, .nil => rfl
  | _, _, .cons _ h => congrArg (· + 1) (Rps.length h)
theorem Rps.get : ∀ {ds : List D} {vs : List V} {i : Nat} {d : D}, Rps K F ds vs → ds[i]? = some d → ∃ v, vs[i]? = some v ∧ Rp K F d v
  | _, _, _, _, .nil, e => by simp at e
  | _, _, 0, _, .cons h _, e => by simp at e; subst e; exact ⟨_, rfl, h⟩
  | _, _, i + 1, d, .cons _ t, e => by
    obtain ⟨u, h1, h2⟩ := Rps.get (i := i) (d := d) t (by simpa using e)
    exact ⟨u, by simpa using h1, h2⟩
theorem Rps.getV : ∀ {ds : List D} {vs : List V} {i : Nat} {v : V}, Rps K F ds vs → vs[i]? = some v → ∃ d, ds[i]? = some d ∧ Rp K F d v
  | _, _, _, _, .nil, e => by simp at e
  | _, _, 0, _, .cons h _, e => by simp at e; subst e; exact ⟨_, rfl, h⟩
  | _, _, i + 1, d, .cons _ t, e => by
    obtain ⟨u, h1, h2⟩ := Rps.getV (i := i) (v := d) t (by simpa using e)
    exact ⟨u, by simpa using h1, h2⟩
theorem Rps.append : ∀ {xs ys : List D} {us ws : List V}, Rps K F xs us → Rps K F ys ws → Rps K F (xs ++ ys) (us ++ ws)
  | _, _, _, _, .nil, s => s
  | _, _, _, _, .cons r t, s => .cons r (Rps.append t s)
theorem Rps.one {d : D} {v : V} (h : Rp K F d v) : Rps K F [d] [v] := .cons h .nil
theorem Rps.take : ∀ {xs : List D} {us : List V} (n : Nat), Rps K F xs us → Rps K F (xs.take n) (us.take n)
  | _, _, 0, _ => .nil
  | _, _, _ + 1, .nil => .nil
  | _, _, n + 1, .cons r t => .cons r (Rps.take n t)
theorem Rps.drop : ∀ {xs : List D} {us : List V} (n : Nat), Rps K F xs us → Rps K F (xs.drop n) (us.drop n)
  | _, _, 0, r => r
  | _, _, _ + 1, .nil => .nil
  | _, _, n + 1, .cons _ t => Rps.drop n t
theorem Rps.set {d : D} {v : V} (r : Rp K F d v) : ∀ {xs : List D} {us : List V} (i : Nat), Rps K F xs us → Rps K F (xs.set i d) (us.set i v)
  | _, _, _, .nil => .nil
  | _, _, 0, .cons _ t => .cons r t
  | _, _, i + 1, .cons q t => .cons q (Rps.set r i t)
theorem Rps.eraseIdx : ∀ {xs : List D} {us : List V} (i : Nat), Rps K F xs us → Rps K F (xs.eraseIdx i) (us.eraseIdx i)
  | _, _, _, .nil => .nil
  | _, _, 0, .cons _ t => t
  | _, _, i + 1, .cons q t => .cons q (Rps.eraseIdx i t)
theorem Rps.dropLast {xs : List D} {us : List V} (h : Rps K F xs us) : Rps K F xs.dropLast us.dropLast := by
  rw [List.dropLast_eq_take, List.dropLast_eq_take, h.length]
  exact h.take _
theorem Rps.reverse : ∀ {xs : List D} {us : List V}, Rps K F xs us → Rps K F xs.reverse us.reverse
  | _, _, .nil => .nil
  | _, _, .cons q t => by rw [List.reverse_cons, List.reverse_cons]; exact Rps.append (Rps.reverse t) (.one q)
theorem Rps.rep {xs : List D} {us : List V} (h : Rps K F xs us) : ∀ k : Nat, Rps K F (List.replicate k xs).flatten (List.replicate k us).flatten
  | 0 => .nil
  | k + 1 => by rw [List.replicate_succ, List.replicate_succ, List.flatten_cons, List.flatten_cons]; exact h.append (h.rep k)
theorem Rps.ints : ∀ {ns : List Int} {vs : List V}, Rps K F (ns.map .int) vs → vs = ns.map V.int
  | [], _, .nil => rfl
  | n :: ns, _, .cons h t => by cases h; rw [Rps.ints t]; rfl
theorem Rps.of_ints : ∀ (ns : List Int), Rps K F (ns.map .int) (ns.map V.int)
  | [] => .nil
  | n :: ns => .cons (.int n) (Rps.of_ints ns)
theorem Rps.bls : ∀ {ns : List Bool} {vs : List V}, Rps K F (ns.map .bool) vs → vs = ns.map V.bl
  | [], _, .nil => rfl
  | n :: ns, _, .cons h t => by cases h; rw [Rps.bls t]; rfl

/-! ### growth -/
/-- from (F, H) to (F', H'): all stands as it stood; what is new in F' was new in H' -/
structure Ext (F H F' H' : Hp) : Prop where
  hp : Same H H'
  fr : Same F F'
  sub : Same F' H'
  new : ∀ a o, H a = some o → F a = none → F' a = none
theorem Ext.refl (s : Same F H) : Ext F H F H := ⟨fun _ _ h => h, fun _ _ h => h, s, fun _ _ _ h => h⟩
theorem Ext.trans {F1 H1 F2 H2 : Hp} (a : Ext F H F1 H1) (b : Ext F1 H1 F2 H2) : Ext F H F2 H2 :=
  ⟨fun c o h => b.hp c o (a.hp c o h), fun c o h => b.fr c o (a.fr c o h), b.sub, fun c o h h' => b.new c o (a.hp c o h) (a.new c o h h')⟩
/-- a new object, frozen at once -/
theorem Ext.lay {p : Addr} {o : HO} (s : Same F H) (n : H p = none) : Ext F H (upd F p o) (upd H p o) := by
  have nF : F p = none := by
    cases q : F p with
    | none => rfl
    | some u => have := s _ _ q; rw [n] at this; cases this
  refine ⟨fun b u h => ?_, fun b u h => ?_, fun b u h => ?_, fun b u h h' => ?_⟩
  · rw [upd_ne (ne_of_none h n)]; exact h
  · rw [upd_ne (ne_of_none h nF)]; exact h
  · by_cases e : b = p
    · subst e; rw [upd_same] at h ⊢; exact h
    · rw [upd_ne e] at h ⊢; exact s _ _ h
  · rw [upd_ne (ne_of_none h n)]; exact h'
/-- a new object, not frozen -/
theorem Ext.own {p : Addr} {o : HO} (s : Same F H) (n : H p = none) : Ext F H F (upd H p o) := by
  refine ⟨fun b u h => ?_, fun b u h => h, fun b u h => ?_, fun b u h h' => h'⟩
  · rw [upd_ne (ne_of_none h n)]; exact h
  · rw [upd_ne (ne_of_none (s _ _ h) n)]; exact s _ _ h
/-- a new object that stands already, frozen -/
theorem Ext.freeze {p : Addr} {o : HO} {F1 H1 : Hp} (e : Ext F H F1 H1) (n : H p = none) (h1 : H1 p = some o) (f1 : F1 p = none) : Ext F H (upd F1 p o) H1 := by
  refine ⟨e.hp, fun b u h => ?_, fun b u h => ?_, fun b u h h' => ?_⟩
  · rw [upd_ne (ne_of_none (e.fr _ _ h) f1)]; exact e.fr _ _ h
  · by_cases q : b = p
    · subst q; rw [upd_same] at h; cases h; exact h1
    · rw [upd_ne q] at h; exact e.sub _ _ h
  · rw [upd_ne (ne_of_none h n)]; exact e.new _ _ h h'

theorem same_upd {F : Hp} {p : Addr} {o : HO} (n : F p = none) : Same F (upd F p o) := fun b u h => by
  rw [upd_ne (ne_of_none h n)]; exact h
theorem free_of {F H : Hp} {p : Addr} (s : Same F H) (n : H p = none) : F p = none := by
  cases q : F p with
  | none => rfl
  | some u => have := s _ _ q; rw [n] at this; cases this

/-! ### slots -/
inductive SV where
  | sh (d : D)
  | ow (d : D)
  | scr (ns : List Int)
def SV.val : SV → Option D
  | .sh d => some d
  | .ow d => some d
  | .scr _ => none
abbrev PEnv := List (Option SV)
/-- an owned object: its own content in H, its items frozen -/
def OwnAt (K : Fg) (F H : Hp) (a : Addr) : D → Prop
  | .list ds => ∃ vs, H a = some (.lst vs) ∧ vs.length ≤ sizeLine ∧ Rps K F ds vs
  | _ => False
theorem OwnAt.ex {a : Addr} {d : D} (h : OwnAt K F H a d) : ∃ o, H a = some o := by
  cases d <;> first | exact False.elim h | (obtain ⟨vs, e, _⟩ := h; exact ⟨_, e⟩)
theorem OwnAt.mono {a : Addr} {d : D} (hf : Same F F') (hh : ∀ o, H a = some o → H' a = some o) (h : OwnAt K F H a d) : OwnAt K F' H' a d := by
  cases d <;> first | exact False.elim h | (obtain ⟨vs, e, z, r⟩ := h; exact ⟨vs, hh _ e, z, r.mono hf⟩)

structure GoodE (K : Fg) (H0 : Hp) (ρ : PEnv) (σ : St) (F H : Hp) : Prop where
  sub : Same F H
  len : ρ.length = σ.length
  sh : ∀ (i : Nat) (d : D), ρ[i]? = some (some (.sh d)) → ∃ v, σ[i]? = some (some v) ∧ Rp K F d v
  ow : ∀ (i : Nat) (d : D), ρ[i]? = some (some (.ow d)) → ∃ a, σ[i]? = some (some (V.ref a)) ∧ F a = none ∧ H0 a = none ∧ OwnAt K F H a d
  scr : ∀ (i : Nat) (ns : List Int), ρ[i]? = some (some (.scr ns)) → ∃ a, σ[i]? = some (some (V.ref a)) ∧ SqL K F a (ns.map V.int)
  inj : ∀ (i j : Nat) (d e : D) (a : Addr), ρ[i]? = some (some (.ow d)) → ρ[j]? = some (some (.ow e)) → σ[i]? = some (some (V.ref a)) → σ[j]? = some (some (V.ref a)) → i = j
theorem GoodE.ext {H0 : Hp} {ρ : PEnv} {σ : St} (G : GoodE K H0 ρ σ F H) (e : Ext F H F' H') : GoodE K H0 ρ σ F' H' := by
  refine ⟨e.sub, G.len, fun i d h => ?_, fun i d h => ?_, fun i ns h => ?_, G.inj⟩
  · obtain ⟨v, h1, h2⟩ := G.sh i d h
    exact ⟨v, h1, h2.mono e.fr⟩
  · obtain ⟨a, h1, h2, h3, h4⟩ := G.ow i d h
    obtain ⟨o, ho⟩ := h4.ex
    exact ⟨a, h1, e.new a o ho h2, h3, h4.mono e.fr fun o q => e.hp _ _ q⟩
  · obtain ⟨a, h1, h2⟩ := G.scr i ns h
    exact ⟨a, h1, L2.Same.seq e.fr h2⟩
end
end PL
namespace PL
open PySem PySem.Spec L2
open PyProof.Rows hiding St

/-! ### results -/
/-- readable: frozen, or an owned object -/
def Rb (K : Fg) (F H : Hp) (d : D) (v : V) : Prop := Rp K F d v ∨ ∃ a, v = .ref a ∧ F a = none ∧ OwnAt K F H a d
/-- new since Hb, not frozen yet -/
def Rn (K : Fg) (Hb F H : Hp) (d : D) (v : V) : Prop := ∃ a, v = .ref a ∧ Hb a = none ∧ F a = none ∧ OwnAt K F H a d

section
variable {K : Fg} {F H F' H' : Hp} {d : D} {v : V}
theorem Rb.ext (r : Rb K F H d v) (e : Ext F H F' H') : Rb K F' H' d v := by
  rcases r with r | ⟨a, rfl, f, o⟩
  · exact .inl (r.mono e.fr)
  · obtain ⟨u, hu⟩ := o.ex
    exact .inr ⟨a, rfl, e.new a u hu f, o.mono e.fr fun o q => e.hp _ _ q⟩
theorem Rn.b {Hb : Hp} (r : Rn K Hb F H d v) : Rb K F H d v := let ⟨a, e, _, f, o⟩ := r; .inr ⟨a, e, f, o⟩
theorem Rb.int {i : Int} (r : Rb K F H (.int i) v) : v = .int i := by
  rcases r with r | ⟨a, _, _, o⟩
  · cases r; rfl
  · exact o.elim
theorem Rb.bool {i : Bool} (r : Rb K F H (.bool i) v) : v = .bl i := by
  rcases r with r | ⟨a, _, _, o⟩
  · cases r; rfl
  · exact o.elim
theorem Rb.str {i : Str} (r : Rb K F H (.str i) v) : v = .str i := by
  rcases r with r | ⟨a, _, _, o⟩
  · cases r; rfl
  · exact o.elim
theorem Rb.none (r : Rb K F H .none v) : v = .non := by
  rcases r with r | ⟨a, _, _, o⟩
  · cases r; rfl
  · exact o.elim
theorem Rb.list {ds : List D} (s : Same F H) (r : Rb K F H (.list ds) v) : ∃ a vs, v = .ref a ∧ H a = some (.lst vs) ∧ vs.length ≤ sizeLine ∧ Rps K F ds vs := by
  rcases r with r | ⟨a, e, _, o⟩
  · cases r with
    | lst h1 h2 h3 => exact ⟨_, _, rfl, s _ _ h1, h2, h3⟩
  · obtain ⟨vs, h1, h2, h3⟩ := o
    exact ⟨a, vs, e, h1, h2, h3⟩
theorem Rb.tup {ds : List D} (r : Rb K F H (.tuple ds) v) : ∃ a vs, v = .ref a ∧ SqT K F a vs ∧ vs.length ≤ sizeLine ∧ Rps K F ds vs := by
  rcases r with r | ⟨a, _, _, o⟩
  · cases r with
    | tup h1 h2 h3 => exact ⟨_, _, rfl, h1, h2, h3⟩
  · exact o.elim
theorem Rb.dict {kvs : List (D × D)} (r : Rb K F H (.dict kvs) v) : False := by
  rcases r with r | ⟨a, _, _, o⟩
  · cases r
  · exact o
theorem Rb.dp (s : Same F H) (r : Rb K F H d v) : Dp K H v d := by
  rcases r with r | ⟨a, rfl, f, o⟩
  · exact (r.mono s).dp
  · cases d <;> first | exact o.elim | skip
    obtain ⟨vs, h1, h2, h3⟩ := o
    exact .lst (SqL.of h1) (h3.mono s).dp
/-- a new object frozen -/
theorem Rn.p {Hb Fb : Hp} (e : Ext Fb Hb F H) (r : Rn K Hb F H d v) : ∃ F', Ext Fb Hb F' H ∧ Rp K F' d v := by
  obtain ⟨a, rfl, n, f, o⟩ := r
  cases d <;> first | exact o.elim | skip
  obtain ⟨vs, h1, h2, h3⟩ := o
  exact ⟨upd F a (.lst vs), e.freeze n h1 f, .lst upd_same h2 (h3.mono (same_upd f))⟩
end

/-! ### canonical readings -/
def tP (K : Fg) (f : PEnv → Option D) : TE := fun σ H Q => ∃ (H0 : Hp) (ρ : PEnv) (F : Hp) (d : D), GoodE K H0 ρ σ F H ∧ f ρ = some d ∧ ∀ v F' H', Ext F H F' H' → Rp K F' d v → Q v H'
def tBr (K : Fg) (f : PEnv → Option D) : TE := fun σ H Q => ∃ (H0 : Hp) (ρ : PEnv) (F : Hp) (d : D), GoodE K H0 ρ σ F H ∧ f ρ = some d ∧ ∀ v F' H', Ext F H F' H' → Rb K F' H' d v → Q v H'
def tN (K : Fg) (f : PEnv → Option D) : TE := fun σ H Q => ∃ (H0 : Hp) (ρ : PEnv) (F : Hp) (d : D), GoodE K H0 ρ σ F H ∧ f ρ = some d ∧ ∀ v F' H', Ext F H F' H' → Rn K H F' H' d v → Q v H'
def tT (K : Fg) (f : PEnv → Option Bool) : TT := fun σ H Q => ∃ (H0 : Hp) (ρ : PEnv) (F : Hp) (d : Bool), GoodE K H0 ρ σ F H ∧ f ρ = some d ∧ ∀ F' H', Ext F H F' H' → Q d H'
/-- arguments, frozen -/
def tPs (K : Fg) (f : PEnv → Option (List D)) : TA := fun σ H Q => ∃ (H0 : Hp) (ρ : PEnv) (F : Hp) (ds : List D), GoodE K H0 ρ σ F H ∧ f ρ = some ds ∧ ∀ vs F' H', Ext F H F' H' → Rps K F' ds vs → Q vs H'
/-- one argument, readable -/
abbrev XP (X : Cx) (e : Expr) (f : PEnv → Option D) : Prop := PE X e (tP X.K f)
abbrev XB (X : Cx) (e : Expr) (f : PEnv → Option D) : Prop := PE X e (tBr X.K f)
abbrev XN (X : Cx) (e : Expr) (f : PEnv → Option D) : Prop := PE X e (tN X.K f)
abbrev XT (X : Cx) (e : Expr) (f : PEnv → Option Bool) : Prop := PT X e (tT X.K f)
abbrev XPs (X : Cx) (es : List Expr) (f : PEnv → Option (List D)) : Prop := PA X es (tPs X.K f)

section
variable {X : Cx} {e : Expr} {pos : Pos}
theorem PEw {t t' : TE} (h : PE X e t) (w : ∀ σ H Q, t' σ H Q → t σ H Q) : PE X e t' := ⟨fun pins s σ H Q I q => h.run pins s σ H Q I (w σ H Q q)⟩
theorem PTw {t t' : TT} (h : PT X e t) (w : ∀ σ H Q, t' σ H Q → t σ H Q) : PT X e t' := ⟨fun pins s σ H Q I q => h.run pins s σ H Q I (w σ H Q q)⟩
theorem PAw {es : List Expr} {t t' : TA} (h : PA X es t) (w : ∀ σ H Q, t' σ H Q → t σ H Q) : PA X es t' := ⟨fun pos pins s σ H Q I q => h.run pos pins s σ H Q I (w σ H Q q)⟩
variable {f g h : PEnv → Option D}
theorem XP.b (x : XP X e f) : XB X e f := PEw x fun σ H Q ⟨H0, ρ, F, d, G, q, k⟩ => ⟨H0, ρ, F, d, G, q, fun v F' H' E R => k v F' H' E (.inl R)⟩
theorem XN.b (x : XN X e f) : XB X e f := PEw x fun σ H Q ⟨H0, ρ, F, d, G, q, k⟩ => ⟨H0, ρ, F, d, G, q, fun v F' H' E R => k v F' H' E R.b⟩
theorem XN.p (x : XN X e f) : XP X e f := PEw x fun σ H Q ⟨H0, ρ, F, d, G, q, k⟩ => ⟨H0, ρ, F, d, G, q, fun v F' H' E R => let ⟨F2, E2, R2⟩ := R.p E; k v F2 H' E2 R2⟩

variable {a b c : Expr}
/-! ### names, constants -/
def dV (i : Nat) : PEnv → Option D := fun ρ => match ρ[i]? with
  | some (some (.sh d)) => some d
  | _ => none
def dB (i : Nat) : PEnv → Option D := fun ρ => match ρ[i]? with
  | some (some (.sh d)) => some d
  | some (some (.ow d)) => some d
  | _ => none
def dC (d : D) : PEnv → Option D := fun _ => some d
theorem dV_eq {i : Nat} {ρ : PEnv} {d : D} (h : dV i ρ = some d) : ρ[i]? = some (some (.sh d)) := by
  unfold dV at h
  split at h
  · cases h; assumption
  · cases h
theorem dB_eq {i : Nat} {ρ : PEnv} {d : D} (h : dB i ρ = some d) : ρ[i]? = some (some (.sh d)) ∨ ρ[i]? = some (some (.ow d)) := by
  unfold dB at h
  split at h
  · cases h; exact .inl (by assumption)
  · cases h; exact .inr (by assumption)
  · cases h
theorem x_var (i : Nat) (h : PE X e (tVar i)) : XP X e (dV i) := PEw h fun σ H Q ⟨H0, ρ, F, d, G, q, k⟩ => by
  obtain ⟨v, h1, h2⟩ := G.sh i d (dV_eq q)
  exact ⟨v, h1, k v F H (.refl G.sub) h2⟩
theorem b_var (i : Nat) (h : PE X e (tVar i)) : XB X e (dB i) := PEw h fun σ H Q ⟨H0, ρ, F, d, G, q, k⟩ => by
  rcases dB_eq q with q | q
  · obtain ⟨v, h1, h2⟩ := G.sh i d q
    exact ⟨v, h1, k v F H (.refl G.sub) (.inl h2)⟩
  · obtain ⟨a, h1, h2, _, h4⟩ := G.ow i d q
    exact ⟨_, h1, k _ F H (.refl G.sub) (.inr ⟨a, rfl, h2, h4⟩)⟩
theorem x_con {v : V} {d : D} (h : PE X e (tC v)) (r : ∀ F, Rp X.K F d v) : XP X e (dC d) := PEw h fun σ H Q ⟨H0, ρ, F, d', G, q, k⟩ => by
  cases q
  exact k v F H (.refl G.sub) (r F)
theorem x_int {i : Int} {j : Nat} : XP X (.Constant (.int i) j pos) (dC (.int i)) := x_con pe_int fun _ => .int i
theorem x_bl {i : Bool} {j : Nat} : XP X (.Constant (.bool i) j pos) (dC (.bool i)) := x_con pe_bl fun _ => .bl i
theorem x_str {i : Str} {j : Nat} : XP X (.Constant (.str i) j pos) (dC (.str i)) := x_con pe_str fun _ => .str i
theorem x_non {j : Nat} : XP X (.Constant .none j pos) (dC .none) := x_con pe_non fun _ => .non

/-! ### operators -/
def rD (K : Fg) (o : D → D → Option D) : R2 := fun x y H Q => ∃ F a b d, Same F H ∧ Rb K F H a x ∧ Rb K F H b y ∧ o a b = some d ∧ ∀ v F' H', Ext F H F' H' → Rp K F' d v → Q v H'
def rDN (K : Fg) (o : D → D → Option D) : R2 := fun x y H Q => ∃ F a b d, Same F H ∧ Rb K F H a x ∧ Rb K F H b y ∧ o a b = some d ∧ ∀ v F' H', Ext F H F' H' → Rn K H F' H' d v → Q v H'
def rU1 (K : Fg) (o : D → Option D) : V → Hp → VK → Prop := fun x H Q => ∃ F a d, Same F H ∧ Rb K F H a x ∧ o a = some d ∧ ∀ v F' H', Ext F H F' H' → Rp K F' d v → Q v H'
def d2 (o : D → D → Option D) (f g : PEnv → Option D) : PEnv → Option D := fun ρ => (f ρ).bind fun x => (g ρ).bind fun y => o x y
def d1 (o : D → Option D) (f : PEnv → Option D) : PEnv → Option D := fun ρ => (f ρ).bind o
theorem d2_eq {o : D → D → Option D} {ρ : PEnv} {d : D} (q : d2 o f g ρ = some d) : ∃ x y, f ρ = some x ∧ g ρ = some y ∧ o x y = some d := by
  obtain ⟨x, h1, q⟩ := Option.bind_eq_some_iff.mp q
  obtain ⟨y, h2, q⟩ := Option.bind_eq_some_iff.mp q
  exact ⟨x, y, h1, h2, q⟩
theorem d1_eq {o : D → Option D} {ρ : PEnv} {d : D} (q : d1 o f ρ = some d) : ∃ x, f ρ = some x ∧ o x = some d := Option.bind_eq_some_iff.mp q
/-- two operands, then the rule r by values -/
theorem two {r : R2} {o : D → D → Option D} {σ : St} {H : Hp} {Q : VK} (hr : ∀ x y H Q, rD X.K o x y H Q → r x y H Q) (q : tP X.K (d2 o f g) σ H Q) : tOp r (tBr X.K f) (tBr X.K g) σ H Q := by
  obtain ⟨H0, ρ, F, d, G, q, k⟩ := q
  obtain ⟨x, y, h1, h2, q⟩ := d2_eq q
  refine ⟨H0, ρ, F, x, G, h1, fun v F1 H1 E1 R1 => ⟨H0, ρ, F1, y, G.ext E1, h2, fun u F2 H2 E2 R2 => hr _ _ _ _ ⟨F2, x, y, d, E2.sub, R1.ext E2, R2, q, fun v' F' H' E R => k v' F' H' (E1.trans (E2.trans E)) R⟩⟩⟩
theorem twoN {r : R2} {o : D → D → Option D} {σ : St} {H : Hp} {Q : VK} (hr : ∀ x y H Q, rDN X.K o x y H Q → r x y H Q) (q : tN X.K (d2 o f g) σ H Q) : tOp r (tBr X.K f) (tBr X.K g) σ H Q := by
  obtain ⟨H0, ρ, F, d, G, q, k⟩ := q
  obtain ⟨x, y, h1, h2, q⟩ := d2_eq q
  refine ⟨H0, ρ, F, x, G, h1, fun v F1 H1 E1 R1 => ⟨H0, ρ, F1, y, G.ext E1, h2, fun u F2 H2 E2 R2 => hr _ _ _ _ ⟨F2, x, y, d, E2.sub, R1.ext E2, R2, q, fun v' F' H' E R => k v' F' H' (E1.trans (E2.trans E)) ?_⟩⟩⟩
  obtain ⟨a, ha, hn, hf, ho⟩ := R
  exact ⟨a, ha, free_of (fun b o z => E2.hp _ _ (E1.hp _ _ z)) hn, hf, ho⟩
theorem x_bin {op : Operator} {o : D → D → Option D} (ho : OpR X (binaryOp op) (rD X.K o)) (ha : XB X a f) (hb : XB X b g) : XP X (.BinOp a op b pos) (d2 o f g) :=
  PEw (pe_op ho ha hb) fun σ H Q q => two (fun _ _ _ _ z => z) q
theorem n_bin {op : Operator} {o : D → D → Option D} (ho : OpR X (binaryOp op) (rDN X.K o)) (ha : XB X a f) (hb : XB X b g) : XN X (.BinOp a op b pos) (d2 o f g) :=
  PEw (pe_op ho ha hb) fun σ H Q q => twoN (fun _ _ _ _ z => z) q
theorem x_cmp {op : CmpOp} {o : D → D → Option D} (ho : OpR X (compareOp op) (rD X.K o)) (ha : XB X a f) (hb : XB X b g) (hm : behindInMarks op b = false) : XP X (.Compare a [op] [b] pos) (d2 o f g) :=
  PEw (pe_cmpR ho ha hb hm) fun σ H Q q => two (fun _ _ _ _ z => z) q
theorem x_un {op : UnaryOp} {o : D → Option D} (ho : UnR X (unaryOp op) (rU1 X.K o)) (ha : XB X a f) : XP X (.UnaryOp op a pos) (d1 o f) :=
  PEw (pe_un ho ha) fun σ H Q ⟨H0, ρ, F, d, G, q, k⟩ => by
    obtain ⟨x, h1, q⟩ := d1_eq q
    exact ⟨H0, ρ, F, x, G, h1, fun v F1 H1 E1 R1 => ⟨F1, x, d, E1.sub, R1, q, fun v' F' H' E R => k v' F' H' (E1.trans E) R⟩⟩

/-! ### tests -/
def asB : D → Option Bool
  | .bool b => some b
  | _ => none
theorem asB_eq {d : D} {b : Bool} (h : asB d = some b) : d = .bool b := by
  cases d <;> first | cases h | skip
  rfl
def fB (f : PEnv → Option D) : PEnv → Option Bool := fun ρ => (f ρ).bind asB
theorem t_of {te : TE} {σ : St} {H : Hp} {Q : Bool → Hp → Prop} (h : ∀ Q, tP X.K f σ H Q → te σ H Q) (q : tT X.K (fB f) σ H Q) : te σ H fun x H' => ∃ k, x = .bl k ∧ Q k H' := by
  obtain ⟨H0, ρ, F, d, G, q, k⟩ := q
  obtain ⟨x, h1, q⟩ := Option.bind_eq_some_iff.mp q
  have e := asB_eq q
  subst e
  exact h _ ⟨H0, ρ, F, _, G, h1, fun v F1 H1 E1 R1 => ⟨d, (Rb.bool (F := F1) (H := H1) (.inl R1)), k F1 H1 E1⟩⟩
theorem t_cmp {op : CmpOp} {o : D → D → Option D} (ho : OpR X (compareOp op) (rD X.K o)) (ha : XB X a f) (hb : XB X b g) (hm : behindInMarks op b = false) : XT X (.Compare a [op] [b] pos) (fB (d2 o f g)) :=
  PTw (pt_cmpR ho ha hb hm) fun σ H Q q => t_of (fun Q z => two (fun _ _ _ _ z => z) z) q
theorem t_val (h : XP X e f) (he : ∀ whole, isTrue e X.env whole = (do let v ← whole; standAt e.pos; holding [v] (truthy v)) := by intro _; rfl) : XT X e (fB f) :=
  PTw (pt_val h he) fun σ H Q q => t_of (fun Q z => z) q
/-- a value's truth -/
def oTru : D → Option Bool
  | .none => some false
  | .bool b => some b
  | .int i => some (i != 0)
  | .list xs => some (!xs.isEmpty)
  | .tuple xs => some (!xs.isEmpty)
  | _ => none
def fTru (f : PEnv → Option D) : PEnv → Option Bool := fun ρ => (f ρ).bind oTru
theorem isEmpty_rps {K : Fg} {F : Hp} {ds : List D} {vs : List V} (r : Rps K F ds vs) : ds.isEmpty = vs.isEmpty := by
  cases r <;> rfl
theorem t_tru (h : XB X e f) (he : ∀ whole, isTrue e X.env whole = (do let v ← whole; standAt e.pos; holding [v] (truthy v)) := by intro _; rfl) : XT X e (fTru f) :=
  PTw (pt_truth h he) fun σ H Q ⟨H0, ρ, F, d, G, q, k⟩ => by
    obtain ⟨x, h1, q⟩ := Option.bind_eq_some_iff.mp q
    refine ⟨H0, ρ, F, x, G, h1, fun v F1 H1 E1 R1 => ⟨d, ?_, k F1 H1 E1⟩⟩
    cases x with
    | none => cases q; cases R1.none; rfl
    | bool b => cases q; cases R1.bool; rfl
    | int i => cases q; cases R1.int; rfl
    | str _ => cases q
    | dict _ => cases q
    | list xs =>
      cases q
      obtain ⟨a, vs, rfl, h2, h3, h4⟩ := R1.list E1.sub
      exact .inl ⟨vs, SqL.of h2, by rw [isEmpty_rps h4]⟩
    | tuple xs =>
      cases q
      obtain ⟨a, vs, rfl, h2, h3, h4⟩ := R1.tup
      exact .inr (.inl ⟨vs, Same.seqT E1.sub h2, by rw [isEmpty_rps h4]⟩)
variable {u v : PEnv → Option Bool}
def fNot (u : PEnv → Option Bool) : PEnv → Option Bool := fun ρ => (u ρ).bind fun b => some (!b)
def fAnd (u v : PEnv → Option Bool) : PEnv → Option Bool := fun ρ => (u ρ).bind fun b => if b then v ρ else some false
def fOr (u v : PEnv → Option Bool) : PEnv → Option Bool := fun ρ => (u ρ).bind fun b => if b then some true else v ρ
theorem t_not (h : XT X a u) : XT X (.UnaryOp .Not a pos) (fNot u) := PTw (pt_not h) fun σ H Q ⟨H0, ρ, F, d, G, q, k⟩ => by
  obtain ⟨x, h1, q⟩ := Option.bind_eq_some_iff.mp q
  cases q
  exact ⟨H0, ρ, F, x, G, h1, k⟩
abbrev XW (X : Cx) (e : Expr) (f : PEnv → Option Bool) : Prop := PW X e (tT X.K f)
theorem PWw {t t' : TT} (h : PW X e t) (w : ∀ σ H Q, t' σ H Q → t σ H Q) : PW X e t' := ⟨fun wh pins s σ H Q I q => h.run wh pins s σ H Q I (w σ H Q q)⟩
theorem w_and1 (h : XT X a u) : XW X (.BoolOp .And [a] pos) u := pw_and1 h
theorem w_or1 (h : XT X a u) : XW X (.BoolOp .Or [a] pos) u := pw_or1 h
variable {rest : List Expr}
theorem w_and (h : XT X a u) (h2 : XW X (.BoolOp .And (b :: rest) pos) v) : XW X (.BoolOp .And (a :: b :: rest) pos) (fAnd u v) := PWw (pw_and h h2) fun σ H Q ⟨H0, ρ, F, d, G, q, k⟩ => by
  obtain ⟨x, h1, q⟩ := Option.bind_eq_some_iff.mp q
  refine ⟨H0, ρ, F, x, G, h1, fun F1 H1 E1 => ?_⟩
  cases x with
  | true => exact iteT ⟨H0, ρ, F1, d, G.ext E1, q, fun F' H' E => k F' H' (E1.trans E)⟩
  | false => cases q; exact iteF (k F1 H1 E1)
theorem w_or (h : XT X a u) (h2 : XW X (.BoolOp .Or (b :: rest) pos) v) : XW X (.BoolOp .Or (a :: b :: rest) pos) (fOr u v) := PWw (pw_or h h2) fun σ H Q ⟨H0, ρ, F, d, G, q, k⟩ => by
  obtain ⟨x, h1, q⟩ := Option.bind_eq_some_iff.mp q
  refine ⟨H0, ρ, F, x, G, h1, fun F1 H1 E1 => ?_⟩
  cases x with
  | false => exact iteF ⟨H0, ρ, F1, d, G.ext E1, q, fun F' H' E => k F' H' (E1.trans E)⟩
  | true => cases q; exact iteT (k F1 H1 E1)
/-- as values -/
def dAnd (f g : PEnv → Option D) : PEnv → Option D := fun ρ => (f ρ).bind fun x => (asB x).bind fun b => if b then g ρ else some (.bool false)
def dOr (f g : PEnv → Option D) : PEnv → Option D := fun ρ => (f ρ).bind fun x => (asB x).bind fun b => if b then some (.bool true) else g ρ
def dNot (f : PEnv → Option D) : PEnv → Option D := fun ρ => (f ρ).bind fun x => (asB x).bind fun b => some (.bool (!b))
theorem x_one {op : BoolOp} (h : XP X a f) : XP X (.BoolOp op [a] pos) f := pe_one h
theorem x_and (h : XP X a f) (h2 : XP X (.BoolOp .And (b :: rest) pos) g) : XP X (.BoolOp .And (a :: b :: rest) pos) (dAnd f g) := PEw (pe_and h h2) fun σ H Q ⟨H0, ρ, F, d, G, q, k⟩ => by
  obtain ⟨x, h1, q⟩ := Option.bind_eq_some_iff.mp q
  obtain ⟨c, h2, q⟩ := Option.bind_eq_some_iff.mp q
  have e := asB_eq h2
  subst e
  refine ⟨H0, ρ, F, _, G, h1, fun v F1 H1 E1 R1 => ⟨c, Rb.bool (F := F1) (H := H1) (.inl R1), ?_⟩⟩
  cases c with
  | true => exact iteT ⟨H0, ρ, F1, d, G.ext E1, q, fun v' F' H' E R => k v' F' H' (E1.trans E) R⟩
  | false => cases q; exact iteF (k _ F1 H1 E1 (.bl false))
theorem x_or (h : XP X a f) (h2 : XP X (.BoolOp .Or (b :: rest) pos) g) : XP X (.BoolOp .Or (a :: b :: rest) pos) (dOr f g) := PEw (pe_or h h2) fun σ H Q ⟨H0, ρ, F, d, G, q, k⟩ => by
  obtain ⟨x, h1, q⟩ := Option.bind_eq_some_iff.mp q
  obtain ⟨c, h2, q⟩ := Option.bind_eq_some_iff.mp q
  have e := asB_eq h2
  subst e
  refine ⟨H0, ρ, F, _, G, h1, fun v F1 H1 E1 R1 => ⟨c, Rb.bool (F := F1) (H := H1) (.inl R1), ?_⟩⟩
  cases c with
  | false => exact iteF ⟨H0, ρ, F1, d, G.ext E1, q, fun v' F' H' E R => k v' F' H' (E1.trans E) R⟩
  | true => cases q; exact iteT (k _ F1 H1 E1 (.bl true))
theorem x_not (h : XP X a f) : XP X (.UnaryOp .Not a pos) (dNot f) := PEw (pe_not h) fun σ H Q ⟨H0, ρ, F, d, G, q, k⟩ => by
  obtain ⟨x, h1, q⟩ := Option.bind_eq_some_iff.mp q
  obtain ⟨c, h2, q⟩ := Option.bind_eq_some_iff.mp q
  have e := asB_eq h2
  subst e
  cases q
  exact ⟨H0, ρ, F, _, G, h1, fun v F1 H1 E1 R1 => ⟨c, Rb.bool (F := F1) (H := H1) (.inl R1), k _ F1 H1 E1 (.bl _)⟩⟩
def dIf (u : PEnv → Option Bool) (f g : PEnv → Option D) : PEnv → Option D := fun ρ => (u ρ).bind fun b => if b then f ρ else g ρ
theorem x_if (hc : XT X c u) (ha : XP X a f) (hb : XP X b g) : XP X (.IfExp c a b pos) (dIf u f g) := PEw (pe_ifExp hc ha hb) fun σ H Q ⟨H0, ρ, F, d, G, q, k⟩ => by
  obtain ⟨x, h1, q⟩ := Option.bind_eq_some_iff.mp q
  refine ⟨H0, ρ, F, x, G, h1, fun F1 H1 E1 => ?_⟩
  cases x with
  | true => exact iteT ⟨H0, ρ, F1, d, G.ext E1, q, fun v' F' H' E R => k v' F' H' (E1.trans E) R⟩
  | false => exact iteF ⟨H0, ρ, F1, d, G.ext E1, q, fun v' F' H' E R => k v' F' H' (E1.trans E) R⟩
theorem b_if (hc : XT X c u) (ha : XB X a f) (hb : XB X b g) : XB X (.IfExp c a b pos) (dIf u f g) := PEw (pe_ifExp hc ha hb) fun σ H Q ⟨H0, ρ, F, d, G, q, k⟩ => by
  obtain ⟨x, h1, q⟩ := Option.bind_eq_some_iff.mp q
  refine ⟨H0, ρ, F, x, G, h1, fun F1 H1 E1 => ?_⟩
  cases x with
  | true => exact iteT ⟨H0, ρ, F1, d, G.ext E1, q, fun v' F' H' E R => k v' F' H' (E1.trans E) R⟩
  | false => exact iteF ⟨H0, ρ, F1, d, G.ext E1, q, fun v' F' H' E R => k v' F' H' (E1.trans E) R⟩

/-! ### argument lists, displays -/
def dNil : PEnv → Option (List D) := fun _ => some []
def dCons (f : PEnv → Option D) (fs : PEnv → Option (List D)) : PEnv → Option (List D) := fun ρ => (f ρ).bind fun x => (fs ρ).bind fun xs => some (x :: xs)
variable {es : List Expr} {fs : PEnv → Option (List D)}
theorem xs_nil : XPs X [] dNil := PAw pa_nil fun σ H Q ⟨H0, ρ, F, d, G, q, k⟩ => by
  cases q
  exact k [] F H (.refl G.sub) .nil
theorem xs_cons (ha : XP X e f) (hr : XPs X es fs) (hs : starEach (e :: es) X.env = (false, eval e X.env) :: starEach es X.env := by rfl) : XPs X (e :: es) (dCons f fs) :=
  PAw (pa_cons ha hr hs) fun σ H Q ⟨H0, ρ, F, d, G, q, k⟩ => by
    obtain ⟨x, h1, q⟩ := Option.bind_eq_some_iff.mp q
    obtain ⟨xs, h2, q⟩ := Option.bind_eq_some_iff.mp q
    cases q
    exact ⟨H0, ρ, F, x, G, h1, fun v F1 H1 E1 R1 => ⟨H0, ρ, F1, xs, G.ext E1, h2, fun vs F2 H2 E2 R2 => k _ F2 H2 (E1.trans E2) (.cons (R1.mono E2.fr) R2)⟩⟩
def lim : Nat := 1000000
theorem lim_le : lim ≤ sizeLine := by rw [sizeLine_eq]; decide
def dTup (fs : PEnv → Option (List D)) : PEnv → Option D := fun ρ => (fs ρ).bind fun xs => if xs.length ≤ lim then some (.tuple xs) else none
def dLst (fs : PEnv → Option (List D)) : PEnv → Option D := fun ρ => (fs ρ).bind fun xs => if xs.length ≤ lim then some (.list xs) else none
theorem x_tup {x1 : Nat} (h : XPs X es fs) : XP X (.Tuple es x1 pos) (dTup fs) := PEw (pe_tup h) fun σ H Q ⟨H0, ρ, F, d, G, q, k⟩ => by
  obtain ⟨xs, h1, q⟩ := Option.bind_eq_some_iff.mp q
  split at q
  · cases q
    rename_i hl
    refine ⟨H0, ρ, F, xs, G, h1, fun vs F1 H1 E1 R1 => ?_⟩
    have hz : vs.length ≤ sizeLine := by rw [← R1.length]; exact Nat.le_trans hl lim_le
    refine ⟨hz, fun p hp => k _ _ _ (E1.trans (.lay E1.sub hp)) ?_⟩
    exact .tup (SqT.of upd_same) hz (R1.mono (same_upd (free_of E1.sub hp)))
  · cases q
theorem n_lst (h : XPs X es fs) : XN X (.List es pos) (dLst fs) := PEw (pe_lst h) fun σ H Q ⟨H0, ρ, F, d, G, q, k⟩ => by
  obtain ⟨xs, h1, q⟩ := Option.bind_eq_some_iff.mp q
  split at q
  · cases q
    rename_i hl
    refine ⟨H0, ρ, F, xs, G, h1, fun vs F1 H1 E1 R1 => ?_⟩
    have hz : vs.length ≤ sizeLine := by rw [← R1.length]; exact Nat.le_trans hl lim_le
    refine ⟨hz, fun p hp => k _ _ _ (E1.trans (.own E1.sub hp)) ⟨p, rfl, free_of (fun b o z => E1.hp _ _ z) hp, free_of E1.sub hp, vs, upd_same, hz, R1⟩⟩
  · cases q
end
end PL
namespace PL
open PySem PySem.Spec L2
open PyProof.Rows hiding St
open PySem.W (alike alikeAll dataLt)

/-! ### operators on data -/
def oAdd : D → D → Option D
  | .int i, .int j => some (.int (i + j))
  | .str x, .str y => if x.length + y.length ≤ lim then some (.str (x ++ y)) else none
  | .tuple xs, .tuple ys => if xs.length + ys.length ≤ lim then some (.tuple (xs ++ ys)) else none
  | .list xs, .list ys => if xs.length + ys.length ≤ lim then some (.list (xs ++ ys)) else none
  | _, _ => none
def oCat : D → D → Option D
  | .list xs, .list ys => if xs.length + ys.length ≤ lim then some (.list (xs ++ ys)) else none
  | _, _ => none
def oSub : D → D → Option D
  | .int i, .int j => some (.int (i - j))
  | _, _ => none
def oMul : D → D → Option D
  | .int i, .int j => if (-(2 ^ 64) < i ∧ i < 2 ^ 64) ∨ (-(2 ^ 64) < j ∧ j < 2 ^ 64) then some (.int (i * j)) else none
  | _, _ => none
def oRep : D → D → Option D
  | .list xs, .int k => if 0 ≤ k ∧ k < 1000000 ∧ xs.length * k.toNat ≤ lim then some (.list (List.replicate k.toNat xs).flatten) else none
  | _, _ => none
def oDiv : D → D → Option D
  | .int i, .int j => if 0 < j ∧ j < 1073741824 then some (.int (i / j)) else none
  | _, _ => none
def oMod : D → D → Option D
  | .int i, .int j => if 0 < j then some (.int (i % j)) else none
  | _, _ => none
def oPow : D → D → Option D
  | .int i, .int j => if 0 ≤ j ∧ j ≤ 1000000 ∧ i.natAbs < 2 ^ 64 then some (.int (i ^ j.toNat)) else none
  | _, _ => none
def shallow (a b : D) : Bool := decide (min a.depth b.depth ≤ 60)
def oEq (a b : D) : Option D := if a.plain && b.plain && shallow a b then some (.bool (PyData.eqv a b)) else none
def oNe (a b : D) : Option D := if a.plain && b.plain && shallow a b then some (.bool (!PyData.eqv a b)) else none
def notNone : D → Bool
  | .none => false
  | _ => true
def oLt (a b : D) : Option D := if alike a b && notNone a && shallow a b then some (.bool (dataLt a b)) else none
def oGt (a b : D) : Option D := if alike a b && notNone a && shallow a b then some (.bool (dataLt b a)) else none
def oLe (a b : D) : Option D := if alike a b && notNone a && shallow a b then some (.bool (!dataLt b a)) else none
def oGe (a b : D) : Option D := if alike a b && notNone a && shallow a b then some (.bool (!dataLt a b)) else none
def isNone : D → Bool
  | .none => true
  | _ => false
def oIs : D → D → Option D
  | a, .none => some (.bool (isNone a))
  | _, _ => none
def oIsNot : D → D → Option D
  | a, .none => some (.bool (!isNone a))
  | _, _ => none
def oIn : D → D → Option D
  | x, .list ds => if PyData.plainAll ds && x.plain && decide (x.depth ≤ 50) then some (.bool (ds.any fun z => PyData.eqv z x)) else none
  | x, .tuple ds => if PyData.plainAll ds && x.plain && decide (x.depth ≤ 50) then some (.bool (ds.any fun z => PyData.eqv z x)) else none
  | _, _ => none
def oNotIn : D → D → Option D
  | x, .list ds => if PyData.plainAll ds && x.plain && decide (x.depth ≤ 50) then some (.bool (!ds.any fun z => PyData.eqv z x)) else none
  | x, .tuple ds => if PyData.plainAll ds && x.plain && decide (x.depth ≤ 50) then some (.bool (!ds.any fun z => PyData.eqv z x)) else none
  | _, _ => none
def oNeg : D → Option D
  | .int i => some (.int (-i))
  | _ => none

theorem notNone_ne {a : D} (h : notNone a = true) : a ≠ .none := by
  rintro rfl
  cases h

section
variable {X : Cx}
theorem op_addD : OpR X (binaryOp .Add) (rD X.K oAdd) := by
  rintro pins s σ H x y v u Q I rx ry ⟨F, a, b, d, hs, ra, rb, e, k⟩
  unfold oAdd at e
  split at e
  · cases e; cases ra.int; cases rb.int
    exact op_add pins s σ H _ _ v u Q I rx ry ⟨_, _, rfl, rfl, k _ F H (.refl hs) (.int _)⟩
  · split at e
    · cases e; cases ra.str; cases rb.str
      rename_i hl
      exact op_add_str pins s σ H _ _ v u Q I rx ry ⟨_, _, rfl, rfl, Nat.le_trans hl lim_le, k _ F H (.refl hs) (.str _)⟩
    · cases e
  · split at e
    · cases e
      rename_i xs ys hl
      obtain ⟨p, vs, rfl, h1, h2, h3⟩ := ra.tup
      obtain ⟨q, ws, rfl, g1, g2, g3⟩ := rb.tup
      have hz : vs.length + ws.length ≤ sizeLine := by rw [← h3.length, ← g3.length]; exact Nat.le_trans hl lim_le
      refine op_catA pins s σ H _ _ v u Q I rx ry ⟨p, q, vs, ws, rfl, rfl, Same.seqT hs h1, Same.seqT hs g1, hz, fun z => ?_, fun z1 z2 => ?_, fun _ _ r hr => ?_⟩
      · subst z
        cases h3
        exact k _ F H (.refl hs) (.tup g1 g2 g3)
      · subst z2
        cases g3
        rw [List.append_nil] at k
        exact k _ F H (.refl hs) (.tup h1 h2 h3)
      · exact k _ _ _ (.lay hs hr) (.tup (SqT.of upd_same) (by rw [List.length_append]; exact hz) ((h3.append g3).mono (same_upd (free_of hs hr))))
    · cases e
  · split at e
    · cases e
      rename_i xs ys hl
      obtain ⟨p, vs, rfl, h1, h2, h3⟩ := ra.list hs
      obtain ⟨q, ws, rfl, g1, g2, g3⟩ := rb.list hs
      have hz : vs.length + ws.length ≤ sizeLine := by rw [← h3.length, ← g3.length]; exact Nat.le_trans hl lim_le
      refine op_cat pins s σ H _ _ v u Q I rx ry ⟨p, q, vs, ws, rfl, rfl, h1, g1, hz, fun r hr => ?_⟩
      exact k _ _ _ (.lay hs hr) (.lst upd_same (by rw [List.length_append]; exact hz) ((h3.append g3).mono (same_upd (free_of hs hr))))
    · cases e
  · cases e
theorem op_catD : OpR X (binaryOp .Add) (rDN X.K oCat) := by
  rintro pins s σ H x y v u Q I rx ry ⟨F, a, b, d, hs, ra, rb, e, k⟩
  unfold oCat at e
  split at e
  · split at e
    · cases e
      rename_i xs ys hl
      obtain ⟨p, vs, rfl, h1, h2, h3⟩ := ra.list hs
      obtain ⟨q, ws, rfl, g1, g2, g3⟩ := rb.list hs
      have hz : vs.length + ws.length ≤ sizeLine := by rw [← h3.length, ← g3.length]; exact Nat.le_trans hl lim_le
      refine op_cat pins s σ H _ _ v u Q I rx ry ⟨p, q, vs, ws, rfl, rfl, h1, g1, hz, fun r hr => ?_⟩
      exact k _ _ _ (.own hs hr) ⟨r, rfl, hr, free_of hs hr, _, upd_same, by rw [List.length_append]; exact hz, h3.append g3⟩
    · cases e
  · cases e
theorem op_subD : OpR X (binaryOp .Sub) (rD X.K oSub) := by
  rintro pins s σ H x y v u Q I rx ry ⟨F, a, b, d, hs, ra, rb, e, k⟩
  unfold oSub at e
  split at e
  · cases e; cases ra.int; cases rb.int
    exact op_sub pins s σ H _ _ v u Q I rx ry ⟨_, _, rfl, rfl, k _ F H (.refl hs) (.int _)⟩
  · cases e
theorem op_mulD : OpR X (binaryOp .Mult) (rD X.K oMul) := by
  rintro pins s σ H x y v u Q I rx ry ⟨F, a, b, d, hs, ra, rb, e, k⟩
  unfold oMul at e
  split at e
  · split at e
    · cases e; cases ra.int; cases rb.int
      rename_i hg
      exact op_mul pins s σ H _ _ v u Q I rx ry ⟨_, _, rfl, rfl, hg, k _ F H (.refl hs) (.int _)⟩
    · cases e
  · cases e
theorem op_repD : OpR X (binaryOp .Mult) (rDN X.K oRep) := by
  rintro pins s σ H x y v u Q I rx ry ⟨F, a, b, d, hs, ra, rb, e, k⟩
  unfold oRep at e
  split at e
  · split at e
    · cases e
      rename_i xs n hg
      obtain ⟨g1, g2, g3⟩ := hg
      obtain ⟨p, vs, rfl, h1, h2, h3⟩ := ra.list hs
      cases rb.int
      have hz : vs.length * n.toNat ≤ sizeLine := by rw [← h3.length]; exact Nat.le_trans g3 lim_le
      have e63 : (2 : Int) ^ 63 = 9223372036854775808 := by decide
      refine op_rep pins s σ H _ _ v u Q I rx ry ⟨p, n, vs, rfl, rfl, h1, by rw [e63]; omega, by rw [e63]; omega, hz, fun r hr => ?_⟩
      refine k _ _ _ (.own hs hr) ⟨r, rfl, hr, free_of hs hr, _, upd_same, ?_, h3.rep _⟩
      rw [PyProof.Rows.lm_len_rep_flat, Nat.mul_comm]
      exact hz
    · cases e
  · cases e
theorem op_divD : OpR X (binaryOp .FloorDiv) (rD X.K oDiv) := by
  rintro pins s σ H x y v u Q I rx ry ⟨F, a, b, d, hs, ra, rb, e, k⟩
  unfold oDiv at e
  split at e
  · split at e
    · cases e; cases ra.int; cases rb.int
      rename_i hg
      exact op_fdiv pins s σ H _ _ v u Q I rx ry ⟨_, _, rfl, rfl, hg, k _ F H (.refl hs) (.int _)⟩
    · cases e
  · cases e
theorem op_modD : OpR X (binaryOp .Mod) (rD X.K oMod) := by
  rintro pins s σ H x y v u Q I rx ry ⟨F, a, b, d, hs, ra, rb, e, k⟩
  unfold oMod at e
  split at e
  · split at e
    · cases e; cases ra.int; cases rb.int
      rename_i hg
      exact op_mod pins s σ H _ _ v u Q I rx ry ⟨_, _, rfl, rfl, hg, k _ F H (.refl hs) (.int _)⟩
    · cases e
  · cases e
theorem op_powD : OpR X (binaryOp .Pow) (rD X.K oPow) := by
  rintro pins s σ H x y v u Q I rx ry ⟨F, a, b, d, hs, ra, rb, e, k⟩
  unfold oPow at e
  split at e
  · split at e
    · cases e; cases ra.int; cases rb.int
      rename_i hg
      exact op_pow pins s σ H _ _ v u Q I rx ry ⟨_, _, rfl, rfl, hg, k _ F H (.refl hs) (.int _)⟩
    · cases e
  · cases e
theorem un_negD : UnR X (unaryOp .USub) (rU1 X.K oNeg) := by
  rintro pins s σ H x v Q I rx ⟨F, a, d, hs, ra, e, k⟩
  unfold oNeg at e
  split at e
  · cases e; cases ra.int
    exact un_neg pins s σ H _ v Q I rx ⟨_, rfl, k _ F H (.refl hs) (.int _)⟩
  · cases e
theorem rd_reads {pins : List (Addr × Obj)} {s : Shared} {σ : St} {F H : Hp} {d : D} {x : V} {v : Value} (I : Inv X pins σ H s) (hs : Same F H) (r : Rb X.K F H d x) (rx : RelV x v) : ∃ as, Reads s.heap v d as :=
  Dp.reads I d x v (r.dp hs) rx
theorem room60 {A : Around} {a b : D} (hu : A.units + 64 < cLine) (h : shallow a b = true) : A.units + min a.depth b.depth < cLine := by
  have := of_decide_eq_true h
  omega
theorem op_eqP (hu : X.A.units + 64 < cLine) : OpR X (compareOp .Eq) (rD X.K oEq) := by
  rintro pins s σ H x y v u Q I rx ry ⟨F, a, b, d, hs, ra, rb, e, k⟩
  unfold oEq at e
  split at e
  · cases e
    rename_i hg
    simp only [Bool.and_eq_true] at hg
    obtain ⟨as, r1⟩ := rd_reads I hs ra rx
    obtain ⟨bs, r2⟩ := rd_reads I hs rb ry
    exact SeqAt.eq_plain r1 r2 hg.1.1 hg.1.2 (room60 hu hg.2) ⟨.bl _, H, I, rfl, k _ F H (.refl hs) (.bl _)⟩
  · cases e
theorem op_neP (hu : X.A.units + 64 < cLine) : OpR X (compareOp .NotEq) (rD X.K oNe) := by
  rintro pins s σ H x y v u Q I rx ry ⟨F, a, b, d, hs, ra, rb, e, k⟩
  unfold oNe at e
  split at e
  · cases e
    rename_i hg
    simp only [Bool.and_eq_true] at hg
    obtain ⟨as, r1⟩ := rd_reads I hs ra rx
    obtain ⟨bs, r2⟩ := rd_reads I hs rb ry
    exact SeqAt.ne_plain r1 r2 hg.1.1 hg.1.2 (room60 hu hg.2) ⟨.bl _, H, I, rfl, k _ F H (.refl hs) (.bl _)⟩
  · cases e
theorem op_ltP (hu : X.A.units + 64 < cLine) : OpR X (compareOp .Lt) (rD X.K oLt) := by
  rintro pins s σ H x y v u Q I rx ry ⟨F, a, b, d, hs, ra, rb, e, k⟩
  unfold oLt at e
  split at e
  · cases e
    rename_i hg
    simp only [Bool.and_eq_true] at hg
    obtain ⟨as, r1⟩ := rd_reads I hs ra rx
    obtain ⟨bs, r2⟩ := rd_reads I hs rb ry
    exact PySem.W.lt_data r1 r2 hg.1.1 (notNone_ne hg.1.2) (room60 hu hg.2) ⟨.bl _, H, I, rfl, k _ F H (.refl hs) (.bl _)⟩
  · cases e
theorem op_gtP (hu : X.A.units + 64 < cLine) : OpR X (compareOp .Gt) (rD X.K oGt) := by
  rintro pins s σ H x y v u Q I rx ry ⟨F, a, b, d, hs, ra, rb, e, k⟩
  unfold oGt at e
  split at e
  · cases e
    rename_i hg
    simp only [Bool.and_eq_true] at hg
    obtain ⟨as, r1⟩ := rd_reads I hs ra rx
    obtain ⟨bs, r2⟩ := rd_reads I hs rb ry
    exact PySem.W.gt_data r1 r2 hg.1.1 (notNone_ne hg.1.2) (room60 hu hg.2) ⟨.bl _, H, I, rfl, k _ F H (.refl hs) (.bl _)⟩
  · cases e
theorem op_leP (hu : X.A.units + 64 < cLine) : OpR X (compareOp .LtE) (rD X.K oLe) := by
  rintro pins s σ H x y v u Q I rx ry ⟨F, a, b, d, hs, ra, rb, e, k⟩
  unfold oLe at e
  split at e
  · cases e
    rename_i hg
    simp only [Bool.and_eq_true] at hg
    obtain ⟨as, r1⟩ := rd_reads I hs ra rx
    obtain ⟨bs, r2⟩ := rd_reads I hs rb ry
    exact PySem.W.le_data r1 r2 hg.1.1 (notNone_ne hg.1.2) (room60 hu hg.2) ⟨.bl _, H, I, rfl, k _ F H (.refl hs) (.bl _)⟩
  · cases e
theorem op_geP (hu : X.A.units + 64 < cLine) : OpR X (compareOp .GtE) (rD X.K oGe) := by
  rintro pins s σ H x y v u Q I rx ry ⟨F, a, b, d, hs, ra, rb, e, k⟩
  unfold oGe at e
  split at e
  · cases e
    rename_i hg
    simp only [Bool.and_eq_true] at hg
    obtain ⟨as, r1⟩ := rd_reads I hs ra rx
    obtain ⟨bs, r2⟩ := rd_reads I hs rb ry
    exact PySem.W.ge_data r1 r2 hg.1.1 (notNone_ne hg.1.2) (room60 hu hg.2) ⟨.bl _, H, I, rfl, k _ F H (.refl hs) (.bl _)⟩
  · cases e
theorem Rb.isNone {K : Fg} {F H : Hp} {d : D} {v : V} (r : Rb K F H d v) : decide (v = .non) = PL.isNone d := by
  rcases r with r | ⟨a, rfl, _, o⟩
  · cases r <;> rfl
  · cases d <;> first | exact o.elim | rfl
theorem op_isP : OpR X (compareOp .Is) (rD X.K oIs) := by
  rintro pins s σ H x y v u Q I rx ry ⟨F, a, b, d, hs, ra, rb, e, k⟩
  unfold oIs at e
  split at e
  · cases e; cases rb.none
    exact op_isN pins s σ H _ _ v u Q I rx ry ⟨rfl, k _ F H (.refl hs) (by rw [ra.isNone]; exact .bl _)⟩
  · cases e
theorem op_isNotP : OpR X (compareOp .IsNot) (rD X.K oIsNot) := by
  rintro pins s σ H x y v u Q I rx ry ⟨F, a, b, d, hs, ra, rb, e, k⟩
  unfold oIsNot at e
  split at e
  · cases e; cases rb.none
    exact op_notN pins s σ H _ _ v u Q I rx ry ⟨rfl, k _ F H (.refl hs) (by rw [ra.isNone]; exact .bl _)⟩
  · cases e
theorem room_in {A : Around} {d : D} {n : Nat} (hu : A.units + 64 < cLine) (h : d.depth ≤ 50) : A.units + 1 + min n d.depth < cLine := by omega
theorem op_inP (hu : X.A.units + 64 < cLine) : OpR X (compareOp .In) (rD X.K oIn) := by
  rintro pins s σ H x y v u Q I rx ry ⟨F, a, b, d, hs, ra, rb, e, k⟩
  unfold oIn at e
  obtain ⟨as, r1⟩ := rd_reads I hs ra rx
  obtain ⟨bs, r2⟩ := rd_reads I hs rb ry
  split at e
  · split at e
    · cases e
      rename_i hg
      simp only [Bool.and_eq_true, decide_eq_true_eq] at hg
      exact SeqAt.in_list_data r2 r1 hg.1.1 hg.1.2 (room_in hu hg.2) ⟨.bl _, H, I, rfl, k _ F H (.refl hs) (.bl _)⟩
    · cases e
  · split at e
    · cases e
      rename_i hg
      simp only [Bool.and_eq_true, decide_eq_true_eq] at hg
      exact SeqAt.in_tuple_data r2 r1 hg.1.1 hg.1.2 (room_in hu hg.2) ⟨.bl _, H, I, rfl, k _ F H (.refl hs) (.bl _)⟩
    · cases e
  · cases e
theorem op_notInP (hu : X.A.units + 64 < cLine) : OpR X (compareOp .NotIn) (rD X.K oNotIn) := by
  rintro pins s σ H x y v u Q I rx ry ⟨F, a, b, d, hs, ra, rb, e, k⟩
  unfold oNotIn at e
  obtain ⟨as, r1⟩ := rd_reads I hs ra rx
  obtain ⟨bs, r2⟩ := rd_reads I hs rb ry
  split at e
  · split at e
    · cases e
      rename_i hg
      simp only [Bool.and_eq_true, decide_eq_true_eq] at hg
      exact SeqAt.notIn_list_data r2 r1 hg.1.1 hg.1.2 (room_in hu hg.2) ⟨.bl _, H, I, rfl, k _ F H (.refl hs) (.bl _)⟩
    · cases e
  · split at e
    · cases e
      rename_i hg
      simp only [Bool.and_eq_true, decide_eq_true_eq] at hg
      exact SeqAt.notIn_tuple_data r2 r1 hg.1.1 hg.1.2 (room_in hu hg.2) ⟨.bl _, H, I, rfl, k _ F H (.refl hs) (.bl _)⟩
    · cases e
  · cases e

/-! ### chains of two comparisons -/
variable {a b c : Expr} {f g h : PEnv → Option D} {pos : Pos}
def dChain (o o' : D → D → Option D) (f g h : PEnv → Option D) : PEnv → Option D := fun ρ => (f ρ).bind fun x => (g ρ).bind fun y => (o x y).bind fun z => (asB z).bind fun k => if k then (h ρ).bind fun w => o' y w else some (.bool false)
theorem chain_sem {o o' : D → D → Option D} {σ : St} {H : Hp} {Q : VK} (q : tP X.K (dChain o o' f g h) σ H Q) :
    tBr X.K f σ H fun x H1 => tBr X.K g σ H1 fun y H2 => rD X.K o x y H2 fun z H3 => ∃ k, z = .bl k ∧ if k = true then tBr X.K h σ H3 fun w H4 => rD X.K o' y w H4 Q else Q (.bl false) H3 := by
  obtain ⟨H0, ρ, F, d, G, q, k⟩ := q
  obtain ⟨x, h1, q⟩ := Option.bind_eq_some_iff.mp q
  obtain ⟨y, h2, q⟩ := Option.bind_eq_some_iff.mp q
  obtain ⟨z, h3, q⟩ := Option.bind_eq_some_iff.mp q
  obtain ⟨c, h4, q⟩ := Option.bind_eq_some_iff.mp q
  have e := asB_eq h4
  subst e
  refine ⟨H0, ρ, F, x, G, h1, fun v F1 H1 E1 R1 => ⟨H0, ρ, F1, y, G.ext E1, h2, fun u F2 H2 E2 R2 => ⟨F2, x, y, _, E2.sub, R1.ext E2, R2, h3, fun v' F3 H3 E3 R3 => ⟨c, Rb.bool (F := F3) (H := H3) (.inl R3), ?_⟩⟩⟩⟩
  have E := E1.trans (E2.trans E3)
  cases c with
  | false => cases q; exact iteF (k _ F3 H3 E (.bl false))
  | true =>
    obtain ⟨w, h5, q⟩ := Option.bind_eq_some_iff.mp (show (h ρ).bind (fun w => o' y w) = some d from q)
    exact iteT ⟨H0, ρ, F3, _, G.ext E, h5, fun v4 F4 H4 E4 R4 => ⟨F4, y, _, d, E4.sub, (R2.ext E3).ext E4, R4, q, fun v' F' H' E' R => k v' F' H' (E.trans (E4.trans E')) R⟩⟩
theorem x_chain {op op' : CmpOp} {o o' : D → D → Option D} (ho : OpR X (compareOp op) (rD X.K o)) (ho' : OpR X (compareOp op') (rD X.K o')) (ha : XB X a f) (hb : XB X b g) (hc : XB X c h)
    (hm : lastMarks [op, op'] [b, c] = false := by with_unfolding_all rfl) : XP X (.Compare a [op, op'] [b, c] pos) (dChain o o' f g h) := PEw (pe_chain ho ho' ha hb hc hm) fun _ _ _ q => chain_sem q
theorem t_chain {op op' : CmpOp} {o o' : D → D → Option D} (ho : OpR X (compareOp op) (rD X.K o)) (ho' : OpR X (compareOp op') (rD X.K o')) (ha : XB X a f) (hb : XB X b g) (hc : XB X c h)
    (hm : lastMarks [op, op'] [b, c] = false := by with_unfolding_all rfl) : XT X (.Compare a [op, op'] [b, c] pos) (fB (dChain o o' f g h)) := PTw (pt_chain ho ho' ha hb hc hm) fun _ _ _ q => t_of (fun _ z => chain_sem z) q
end
end PL
namespace PL
open PySem PySem.Spec L2
open PyProof.Rows hiding St
open PySem.W (alike alikeAll dataLt)

/-! ### subscripts, slices -/
def oIx : D → D → Option D
  | .list xs, .int i => atI xs i
  | .tuple xs, .int i => atI xs i
  | _, _ => none
def asI : D → Option Int
  | .int i => some i
  | _ => none
theorem asI_eq {d : D} {i : Int} (h : asI d = some i) : d = .int i := by
  cases d <;> first | cases h | skip
  rfl
def cut {α : Type} (xs : List α) (lo hi : Option Int) : List α := (xs.drop (HT.sIx xs.length 0 lo)).take (HT.sIx xs.length xs.length hi - HT.sIx xs.length 0 lo)
def oSl : D → Option Int → Option Int → Option D
  | .list xs, lo, hi => some (.list (cut xs lo hi))
  | .tuple xs, lo, hi => some (.tuple (cut xs lo hi))
  | _, _, _ => none
def oSlL : D → Option Int → Option Int → Option D
  | .list xs, lo, hi => some (.list (cut xs lo hi))
  | _, _, _ => none
theorem cut_length {α : Type} (xs : List α) (lo hi : Option Int) : (cut xs lo hi).length ≤ xs.length := by
  unfold cut
  rw [List.length_take, List.length_drop]
  omega
section
variable {K : Fg} {F H : Hp}
theorem Rps.cut {ds : List D} {vs : List V} (r : Rps K F ds vs) (lo hi : Option Int) : Rps K F (cut ds lo hi) (cutV vs lo hi) := by
  unfold PL.cut cutV
  rw [r.length]
  exact (r.drop _).take _
theorem Rps.atI {ds : List D} {vs : List V} {i : Int} {d : D} (r : Rps K F ds vs) (h : atI ds i = some d) : ∃ v, L2.atI vs i = some v ∧ Rp K F d v := by
  unfold L2.atI at h ⊢
  rw [← r.length]
  obtain ⟨j, h1, h2⟩ := Option.bind_eq_some_iff.mp h
  obtain ⟨v, h3, h4⟩ := r.get h2
  exact ⟨v, by rw [h1]; exact h3, h4⟩
end
section
variable {X : Cx} {e a b c : Expr} {f g h : PEnv → Option D} {pos p2 : Pos}
theorem ixP : IxR X (rD X.K oIx) := by
  rintro value slice pins s σ H x y v u Q I rx ry ⟨F, a, b, d, hs, ra, rb, e, k⟩ hsub
  unfold oIx at e
  split at e
  · cases rb.int
    obtain ⟨p, vs, rfl, h1, h2, h3⟩ := ra.list hs
    obtain ⟨w, h4, h5⟩ := h3.atI e
    exact ix_list value slice pins s σ H _ _ v u Q I rx ry ⟨p, vs, _, w, rfl, rfl, SqL.of h1, h4, k _ F H (.refl hs) h5⟩ hsub
  · cases rb.int
    obtain ⟨p, vs, rfl, h1, h2, h3⟩ := ra.tup
    obtain ⟨w, h4, h5⟩ := h3.atI e
    exact ix_tup value slice pins s σ H _ _ v u Q I rx ry ⟨p, vs, _, w, rfl, rfl, Same.seqT hs h1, h4, k _ F H (.refl hs) h5⟩ hsub
  · cases e
theorem x_ix (ha : XB X a f) (hb : XB X b g) (hs : PlainIx b := by exact fun _ _ => rfl) : XP X (.Subscript a b pos) (d2 oIx f g) :=
  PEw (pe_ix ixP ha hb hs) fun σ H Q q => two (fun _ _ _ _ z => z) q

def tO (K : Fg) (f : PEnv → Option (Option Int)) : TO := fun σ H Q => ∃ (H0 : Hp) (ρ : PEnv) (F : Hp) (o : Option Int), GoodE K H0 ρ σ F H ∧ f ρ = some o ∧ ∀ F' H', Ext F H F' H' → Q o H'
abbrev XO (X : Cx) (e : Option Expr) (f : PEnv → Option (Option Int)) : Prop := PO X e (tO X.K f)
def dNo : PEnv → Option (Option Int) := fun _ => some none
def dPart (f : PEnv → Option D) : PEnv → Option (Option Int) := fun ρ => (f ρ).bind fun d => (asI d).bind fun i => some (some i)
theorem POw {oe : Option Expr} {t t' : TO} (h : PO X oe t) (w : ∀ σ H Q, t' σ H Q → t σ H Q) : PO X oe t' := ⟨fun pins s σ H Q I q => h.run pins s σ H Q I (w σ H Q q)⟩
theorem o_none : XO X none dNo := POw po_none fun σ H Q ⟨H0, ρ, F, o, G, q, k⟩ => by
  cases q
  exact k F H (.refl G.sub)
theorem o_some (h : XB X e f) : XO X (some e) (dPart f) := POw (po_some h) fun σ H Q ⟨H0, ρ, F, o, G, q, k⟩ => by
  obtain ⟨x, h1, q⟩ := Option.bind_eq_some_iff.mp q
  obtain ⟨i, h2, q⟩ := Option.bind_eq_some_iff.mp q
  cases q
  have e := asI_eq h2
  subst e
  exact ⟨H0, ρ, F, _, G, h1, fun v F1 H1 E1 R1 => ⟨i, R1.int, k F1 H1 E1⟩⟩
def dSl (o : D → Option Int → Option Int → Option D) (f : PEnv → Option D) (l u : PEnv → Option (Option Int)) : PEnv → Option D := fun ρ => (f ρ).bind fun x => (l ρ).bind fun i => (u ρ).bind fun j => o x i j
variable {lo hi : Option Expr} {l u : PEnv → Option (Option Int)}
theorem slP : SlR X (fun x lo hi H Q => ∃ F a d, Same F H ∧ Rb X.K F H a x ∧ oSl a lo hi = some d ∧ ∀ v F' H', Ext F H F' H' → Rp X.K F' d v → Q v H') := by
  rintro pins s σ H x v vl vu lo hi sl Q I rx hsl pl pu ⟨F, a, d, hs, ra, e, k⟩
  unfold oSl at e
  split at e
  · cases e
    obtain ⟨p, vs, rfl, h1, h2, h3⟩ := ra.list hs
    refine sl_list pins s σ H _ v vl vu _ _ sl Q I rx hsl pl pu ⟨p, vs, rfl, SqL.of h1, fun r hr => ?_⟩
    exact k _ _ _ (.lay hs hr) (.lst upd_same (Nat.le_trans (cutV_length _ _ _) h2) ((h3.cut _ _).mono (same_upd (free_of hs hr))))
  · cases e
    rename_i xs
    obtain ⟨p, vs, rfl, h1, h2, h3⟩ := ra.tup
    refine sl_tupA pins s σ H _ v vl vu _ _ sl Q I rx hsl pl pu ⟨p, vs, rfl, Same.seqT hs h1, fun hw => ?_, fun _ r hr => ?_⟩
    · refine k _ F H (.refl hs) ?_
      have e : PL.cut xs lo hi = xs := by
        unfold PL.cut
        have hl := h3.length
        rw [hl, hw.1, hw.2, List.drop_zero, Nat.sub_zero, ← hl, List.take_length]
      rw [e]
      exact .tup h1 h2 h3
    · exact k _ _ _ (.lay hs hr) (.tup (SqT.of upd_same) (Nat.le_trans (cutV_length _ _ _) h2) ((h3.cut _ _).mono (same_upd (free_of hs hr))))
  · cases e
theorem slN : SlR X (fun x lo hi H Q => ∃ F a d, Same F H ∧ Rb X.K F H a x ∧ oSlL a lo hi = some d ∧ ∀ v F' H', Ext F H F' H' → Rn X.K H F' H' d v → Q v H') := by
  rintro pins s σ H x v vl vu lo hi sl Q I rx hsl pl pu ⟨F, a, d, hs, ra, e, k⟩
  unfold oSlL at e
  split at e
  · cases e
    obtain ⟨p, vs, rfl, h1, h2, h3⟩ := ra.list hs
    refine sl_list pins s σ H _ v vl vu _ _ sl Q I rx hsl pl pu ⟨p, vs, rfl, SqL.of h1, fun r hr => ?_⟩
    exact k _ _ _ (.own hs hr) ⟨r, rfl, hr, free_of hs hr, _, upd_same, Nat.le_trans (cutV_length _ _ _) h2, h3.cut _ _⟩
  · cases e
theorem x_slice (ha : XB X a f) (hl : XO X lo l) (hh : XO X hi u) : XP X (.Subscript a (.Slice lo hi none p2) pos) (dSl oSl f l u) := PEw (pe_slice slP ha hl hh) fun σ H Q ⟨H0, ρ, F, d, G, q, k⟩ => by
  obtain ⟨x, h1, q⟩ := Option.bind_eq_some_iff.mp q
  obtain ⟨i, h2, q⟩ := Option.bind_eq_some_iff.mp q
  obtain ⟨j, h3, q⟩ := Option.bind_eq_some_iff.mp q
  exact ⟨H0, ρ, F, x, G, h1, fun v F1 H1 E1 R1 => ⟨H0, ρ, F1, i, G.ext E1, h2, fun F2 H2 E2 => ⟨H0, ρ, F2, j, (G.ext E1).ext E2, h3, fun F3 H3 E3 =>
    ⟨F3, x, d, E3.sub, (R1.ext E2).ext E3, q, fun v' F' H' E R => k v' F' H' (E1.trans (E2.trans (E3.trans E))) R⟩⟩⟩⟩
theorem Rn.of {K : Fg} {Hb H F' H' : Hp} {d : D} {v : V} (s : Same Hb H) (r : Rn K H F' H' d v) : Rn K Hb F' H' d v := let ⟨a, h1, h2, h3, h4⟩ := r; ⟨a, h1, free_of s h2, h3, h4⟩
theorem n_slice (ha : XB X a f) (hl : XO X lo l) (hh : XO X hi u) : XN X (.Subscript a (.Slice lo hi none p2) pos) (dSl oSlL f l u) := PEw (pe_slice slN ha hl hh) fun σ H Q ⟨H0, ρ, F, d, G, q, k⟩ => by
  obtain ⟨x, h1, q⟩ := Option.bind_eq_some_iff.mp q
  obtain ⟨i, h2, q⟩ := Option.bind_eq_some_iff.mp q
  obtain ⟨j, h3, q⟩ := Option.bind_eq_some_iff.mp q
  exact ⟨H0, ρ, F, x, G, h1, fun v F1 H1 E1 R1 => ⟨H0, ρ, F1, i, G.ext E1, h2, fun F2 H2 E2 => ⟨H0, ρ, F2, j, (G.ext E1).ext E2, h3, fun F3 H3 E3 =>
    ⟨F3, x, d, E3.sub, (R1.ext E2).ext E3, q, fun v' F' H' E R => k v' F' H' (E1.trans (E2.trans (E3.trans E))) (R.of (E1.trans (E2.trans E3)).hp)⟩⟩⟩⟩

/-! ### calls of built-ins -/
def rC1 (K : Fg) (o : D → Option D) : List V → Hp → VK → Prop := fun xs H Q => ∃ x, xs = [x] ∧ rU1 K o x H Q
def rC1N (K : Fg) (o : D → Option D) : List V → Hp → VK → Prop := fun xs H Q => ∃ x, xs = [x] ∧ ∃ F a d, Same F H ∧ Rb K F H a x ∧ o a = some d ∧ ∀ v F' H', Ext F H F' H' → Rn K H F' H' d v → Q v H'
def rC2 (K : Fg) (o : D → D → Option D) : List V → Hp → VK → Prop := fun xs H Q => ∃ x y, xs = [x, y] ∧ rD K o x y H Q
variable {x : Str} {p : Pos}
theorem one_arg {o : D → Option D} {σ : St} {H : Hp} {Q : VK} (q : tP X.K (d1 o f) σ H Q) : tCB (rC1 X.K o) (tCons (tBr X.K f) tNil) σ H Q := by
  obtain ⟨H0, ρ, F, d, G, q, k⟩ := q
  obtain ⟨y, h1, q⟩ := d1_eq q
  exact ⟨H0, ρ, F, y, G, h1, fun v F1 H1 E1 R1 => ⟨v, rfl, F1, y, d, E1.sub, R1, q, fun v' F' H' E R => k v' F' H' (E1.trans E) R⟩⟩
theorem one_argN {o : D → Option D} {σ : St} {H : Hp} {Q : VK} (q : tN X.K (d1 o f) σ H Q) : tCB (rC1N X.K o) (tCons (tBr X.K f) tNil) σ H Q := by
  obtain ⟨H0, ρ, F, d, G, q, k⟩ := q
  obtain ⟨y, h1, q⟩ := d1_eq q
  exact ⟨H0, ρ, F, y, G, h1, fun v F1 H1 E1 R1 => ⟨v, rfl, F1, y, d, E1.sub, R1, q, fun v' F' H' E R => k v' F' H' (E1.trans E) (R.of E1.hp)⟩⟩
theorem two_arg {o : D → D → Option D} {σ : St} {H : Hp} {Q : VK} (q : tP X.K (d2 o f g) σ H Q) : tCB (rC2 X.K o) (tCons (tBr X.K f) (tCons (tBr X.K g) tNil)) σ H Q := by
  obtain ⟨H0, ρ, F, d, G, q, k⟩ := q
  obtain ⟨y, z, h1, h2, q⟩ := d2_eq q
  exact ⟨H0, ρ, F, y, G, h1, fun v F1 H1 E1 R1 => ⟨H0, ρ, F1, z, G.ext E1, h2, fun w F2 H2 E2 R2 => ⟨v, w, rfl, F2, y, z, d, E2.sub, R1.ext E2, R2, q, fun v' F' H' E R => k v' F' H' (E1.trans (E2.trans E)) R⟩⟩⟩
section
variable {id T : String} {o : D → Option D} {o2 : D → D → Option D}
theorem x_fn1 (hc : CallR X (.builtin id) (rC1 X.K o)) (hg : Gl X x) (hm : X.mg x = none) (hv : bootBuiltins x = some (.builtin id)) (ha : XB X e f) (hn : x ≠ "__name__" := by decide) (hdb : (x == ("__debug__" : Str)) = false := by decide)
    (he : starEach [e] X.env = (false, eval e X.env) :: starEach [] X.env := by rfl) : XP X (.Call (.Name x p) [e] [] pos) (d1 o f) := PEw (pe_callB hc hg hm hv (pa_cons ha pa_nil he) hn hdb he rfl) fun _ _ _ q => one_arg q
theorem x_ty1 (hc : CallR X (.type T) (rC1 X.K o)) (hg : Gl X x) (hm : X.mg x = none) (hv : bootBuiltins x = some (.type T)) (ha : XB X e f) (hn : x ≠ "__name__" := by decide) (hdb : (x == ("__debug__" : Str)) = false := by decide)
    (he : starEach [e] X.env = (false, eval e X.env) :: starEach [] X.env := by rfl) : XP X (.Call (.Name x p) [e] [] pos) (d1 o f) := PEw (pe_callTy hc hg hm hv (pa_cons ha pa_nil he) hn hdb he rfl) fun _ _ _ q => one_arg q
theorem n_fn1 (hc : CallR X (.builtin id) (rC1N X.K o)) (hg : Gl X x) (hm : X.mg x = none) (hv : bootBuiltins x = some (.builtin id)) (ha : XB X e f) (hn : x ≠ "__name__" := by decide) (hdb : (x == ("__debug__" : Str)) = false := by decide)
    (he : starEach [e] X.env = (false, eval e X.env) :: starEach [] X.env := by rfl) : XN X (.Call (.Name x p) [e] [] pos) (d1 o f) := PEw (pe_callB hc hg hm hv (pa_cons ha pa_nil he) hn hdb he rfl) fun _ _ _ q => one_argN q
theorem n_ty1 (hc : CallR X (.type T) (rC1N X.K o)) (hg : Gl X x) (hm : X.mg x = none) (hv : bootBuiltins x = some (.type T)) (ha : XB X e f) (hn : x ≠ "__name__" := by decide) (hdb : (x == ("__debug__" : Str)) = false := by decide)
    (he : starEach [e] X.env = (false, eval e X.env) :: starEach [] X.env := by rfl) : XN X (.Call (.Name x p) [e] [] pos) (d1 o f) := PEw (pe_callTy hc hg hm hv (pa_cons ha pa_nil he) hn hdb he rfl) fun _ _ _ q => one_argN q
theorem x_fn2 {e2 : Expr} (hc : CallR X (.builtin id) (rC2 X.K o2)) (hg : Gl X x) (hm : X.mg x = none) (hv : bootBuiltins x = some (.builtin id)) (ha : XB X e f) (hb : XB X e2 g) (hn : x ≠ "__name__" := by decide) (hdb : (x == ("__debug__" : Str)) = false := by decide)
    (he : starEach [e, e2] X.env = (false, eval e X.env) :: starEach [e2] X.env := by rfl) (he2 : starEach [e2] X.env = (false, eval e2 X.env) :: starEach [] X.env := by rfl) (hpl : (backTo pos (starEach [e2] X.env)).any (·.1) = false := by rfl) :
    XP X (.Call (.Name x p) [e, e2] [] pos) (d2 o2 f g) := PEw (pe_callB hc hg hm hv (pa_cons ha (pa_cons hb pa_nil he2) he) hn hdb he hpl) fun _ _ _ q => two_arg q
end

def oLen : D → Option D
  | .list xs => some (.int xs.length)
  | .tuple xs => some (.int xs.length)
  | _ => none
def oAbs : D → Option D
  | .int i => some (.int (if i < 0 then -i else i))
  | _ => none
def oInt : D → Option D
  | .int i => some (.int i)
  | .bool b => some (.int (if b then 1 else 0))
  | _ => none
def oMax2 : D → D → Option D
  | .int i, .int j => some (.int (if j > i then j else i))
  | _, _ => none
def oMin2 : D → D → Option D
  | .int i, .int j => some (.int (if j < i then j else i))
  | _, _ => none
def asInts : List D → Option (List Int)
  | [] => some []
  | d :: ds => (asI d).bind fun i => (asInts ds).bind fun r => some (i :: r)
theorem asInts_eq : ∀ {ds : List D} {ns : List Int}, asInts ds = some ns → ds = ns.map .int
  | [], _, h => by cases h; rfl
  | d :: ds, ns, h => by
    obtain ⟨i, h1, h⟩ := Option.bind_eq_some_iff.mp h
    obtain ⟨r, h2, h⟩ := Option.bind_eq_some_iff.mp h
    cases h
    rw [asI_eq h1, asInts_eq h2]
    rfl
theorem asInts_map : ∀ ns : List Int, asInts (ns.map .int) = some ns
  | [] => rfl
  | n :: ns => by
    show ((some n).bind fun i => (asInts (ns.map .int)).bind fun r => some (i :: r)) = _
    rw [asInts_map ns]
    rfl
def asBools : List D → Option (List Bool)
  | [] => some []
  | d :: ds => (asB d).bind fun i => (asBools ds).bind fun r => some (i :: r)
theorem asBools_eq : ∀ {ds : List D} {ns : List Bool}, asBools ds = some ns → ds = ns.map .bool
  | [], _, h => by cases h; rfl
  | d :: ds, ns, h => by
    obtain ⟨i, h1, h⟩ := Option.bind_eq_some_iff.mp h
    obtain ⟨r, h2, h⟩ := Option.bind_eq_some_iff.mp h
    cases h
    rw [asB_eq h1, asBools_eq h2]
    rfl
theorem asBools_map : ∀ ns : List Bool, asBools (ns.map .bool) = some ns
  | [] => rfl
  | n :: ns => by
    show ((some n).bind fun i => (asBools (ns.map .bool)).bind fun r => some (i :: r)) = _
    rw [asBools_map ns]
    rfl
def oSum : D → Option D
  | .list ds => (asInts ds).bind fun ns => some (.int ns.sum)
  | _ => none
def oAll : D → Option D
  | .list ds => (asBools ds).bind fun bs => some (.bool (bs.all id))
  | _ => none
def oAny : D → Option D
  | .list ds => (asBools ds).bind fun bs => some (.bool (bs.any id))
  | _ => none
def oTuple : D → Option D
  | .list xs => some (.tuple xs)
  | .tuple xs => some (.tuple xs)
  | _ => none
def oList : D → Option D
  | .list xs => some (.list xs)
  | .tuple xs => some (.list xs)
  | _ => none
theorem c_len : CallR X (.builtin "len") (rC1 X.K oLen) := by
  rintro pins s σ H xs us Q I r ⟨x, rfl, F, a, d, hs, ra, e, k⟩
  unfold oLen at e
  split at e
  · cases e
    obtain ⟨p, vs, rfl, h1, h2, h3⟩ := ra.list hs
    exact call_len_seq pins s σ H _ us Q I r ⟨p, vs, rfl, .inl (SqL.of h1), k _ F H (.refl hs) (by rw [h3.length]; exact .int _)⟩
  · cases e
    obtain ⟨p, vs, rfl, h1, h2, h3⟩ := ra.tup
    exact call_len_seq pins s σ H _ us Q I r ⟨p, vs, rfl, .inr (Same.seqT hs h1), k _ F H (.refl hs) (by rw [h3.length]; exact .int _)⟩
  · cases e
theorem c_abs : CallR X (.builtin "abs") (rC1 X.K oAbs) := by
  rintro pins s σ H xs us Q I r ⟨x, rfl, F, a, d, hs, ra, e, k⟩
  unfold oAbs at e
  split at e
  · cases e
    cases ra.int
    exact call_abs pins s σ H _ us Q I r ⟨_, rfl, k _ F H (.refl hs) (.int _)⟩
  · cases e
theorem c_int : CallR X (.type "int") (rC1 X.K oInt) := by
  rintro pins s σ H xs us Q I r ⟨x, rfl, F, a, d, hs, ra, e, k⟩
  unfold oInt at e
  split at e
  · cases e
    cases ra.int
    exact call_int1 pins s σ H _ us Q I r (.inl ⟨_, rfl, k _ F H (.refl hs) (.int _)⟩)
  · cases e
    cases ra.bool
    exact call_int1 pins s σ H _ us Q I r (.inr ⟨_, rfl, k _ F H (.refl hs) (.int _)⟩)
  · cases e
theorem c_max2 (hc : X.calm = true) : CallR X (.builtin "max") (rC2 X.K oMax2) := by
  rintro pins s σ H xs us Q I r ⟨x, y, rfl, F, a, b, d, hs, ra, rb, e, k⟩
  unfold oMax2 at e
  split at e
  · cases e
    cases ra.int; cases rb.int
    exact call_max2 hc pins s σ H _ us Q I r ⟨_, _, rfl, k _ F H (.refl hs) (.int _)⟩
  · cases e
theorem c_min2 (hc : X.calm = true) : CallR X (.builtin "min") (rC2 X.K oMin2) := by
  rintro pins s σ H xs us Q I r ⟨x, y, rfl, F, a, b, d, hs, ra, rb, e, k⟩
  unfold oMin2 at e
  split at e
  · cases e
    cases ra.int; cases rb.int
    exact call_min2 hc pins s σ H _ us Q I r ⟨_, _, rfl, k _ F H (.refl hs) (.int _)⟩
  · cases e
theorem c_sum (hc : X.calm = true) : CallR X (.builtin "sum") (rC1 X.K oSum) := by
  rintro pins s σ H xs us Q I r ⟨x, rfl, F, a, d, hs, ra, e, k⟩
  unfold oSum at e
  split at e
  · obtain ⟨ns, h1, e⟩ := Option.bind_eq_some_iff.mp e
    cases e
    rw [asInts_eq h1] at ra
    obtain ⟨p, vs, rfl, g1, g2, g3⟩ := ra.list hs
    rw [g3.ints] at g1
    exact cr_sum hc pins s σ H _ us Q I r ⟨p, ns, rfl, SqL.of g1, k _ F H (.refl hs) (.int _)⟩
  · cases e
theorem c_all (hc : X.calm = true) : CallR X (.builtin "all") (rC1 X.K oAll) := by
  rintro pins s σ H xs us Q I r ⟨x, rfl, F, a, d, hs, ra, e, k⟩
  unfold oAll at e
  split at e
  · obtain ⟨ns, h1, e⟩ := Option.bind_eq_some_iff.mp e
    cases e
    rw [asBools_eq h1] at ra
    obtain ⟨p, vs, rfl, g1, g2, g3⟩ := ra.list hs
    rw [g3.bls] at g1
    exact cr_all hc pins s σ H _ us Q I r ⟨p, ns, rfl, SqL.of g1, k _ F H (.refl hs) (.bl _)⟩
  · cases e
theorem c_any (hc : X.calm = true) : CallR X (.builtin "any") (rC1 X.K oAny) := by
  rintro pins s σ H xs us Q I r ⟨x, rfl, F, a, d, hs, ra, e, k⟩
  unfold oAny at e
  split at e
  · obtain ⟨ns, h1, e⟩ := Option.bind_eq_some_iff.mp e
    cases e
    rw [asBools_eq h1] at ra
    obtain ⟨p, vs, rfl, g1, g2, g3⟩ := ra.list hs
    rw [g3.bls] at g1
    exact cr_any hc pins s σ H _ us Q I r ⟨p, ns, rfl, SqL.of g1, k _ F H (.refl hs) (.bl _)⟩
  · cases e
theorem c_tuple : CallR X (.type "tuple") (rC1 X.K oTuple) := by
  rintro pins s σ H xs us Q I r ⟨x, rfl, F, a, d, hs, ra, e, k⟩
  unfold oTuple at e
  split at e
  · cases e
    obtain ⟨p, vs, rfl, h1, h2, h3⟩ := ra.list hs
    exact call_tuple_of pins s σ H _ us Q I r ⟨p, vs, rfl, .inl ⟨SqL.of h1, fun l hl => k _ _ _ (.lay hs hl) (.tup (SqT.of upd_same) h2 (h3.mono (same_upd (free_of hs hl))))⟩⟩
  · cases e
    obtain ⟨p, vs, rfl, h1, h2, h3⟩ := ra.tup
    exact call_tuple_of pins s σ H _ us Q I r ⟨p, vs, rfl, .inr ⟨Same.seqT hs h1, k _ F H (.refl hs) (.tup h1 h2 h3)⟩⟩
  · cases e
theorem c_list : CallR X (.type "list") (rC1N X.K oList) := by
  rintro pins s σ H xs us Q I r ⟨x, rfl, F, a, d, hs, ra, e, k⟩
  unfold oList at e
  split at e
  · cases e
    obtain ⟨p, vs, rfl, h1, h2, h3⟩ := ra.list hs
    exact call_list_of pins s σ H _ us Q I r ⟨p, vs, rfl, .inl (SqL.of h1), fun l hl => k _ _ _ (.own hs hl) ⟨l, rfl, hl, free_of hs hl, vs, upd_same, h2, h3⟩⟩
  · cases e
    obtain ⟨p, vs, rfl, h1, h2, h3⟩ := ra.tup
    exact call_list_of pins s σ H _ us Q I r ⟨p, vs, rfl, .inr (Same.seqT hs h1), fun l hl => k _ _ _ (.own hs hl) ⟨l, rfl, hl, free_of hs hl, vs, upd_same, h2, h3⟩⟩
  · cases e

/-! ### isinstance -/
inductive Ty where
  | int | bool | str | tuple | list
def Ty.name : Ty → String
  | .int => "int"
  | .bool => "bool"
  | .str => "str"
  | .tuple => "tuple"
  | .list => "list"
def isi : Ty → D → Bool
  | .int, .int _ => true
  | .int, .bool _ => true
  | .bool, .bool _ => true
  | .str, .str _ => true
  | .tuple, .tuple _ => true
  | .list, .list _ => true
  | _, _ => false
def tyN : D → String
  | .none => "NoneType"
  | .bool _ => "bool"
  | .int _ => "int"
  | .str _ => "str"
  | .list _ => "list"
  | .tuple _ => "tuple"
  | .dict _ => "dict"
def isNoDict : D → Bool
  | .dict _ => false
  | _ => true
theorem kit_all : (["NoneType", "bool", "int", "str", "list", "tuple"].all fun a => [Ty.int, .bool, .str, .tuple, .list].all fun t => kitB a t.name ==
    some (match t with | .int => a == "int" || a == "bool" | .bool => a == "bool" | .str => a == "str" | .tuple => a == "tuple" | .list => a == "list")) = true := by decide +kernel
theorem kit_isi (T : Ty) (d : D) (hd : isNoDict d = true) : kitB (tyN d) T.name = some (isi T d) := by
  have h := kit_all
  simp only [List.all_cons, List.all_nil, Bool.and_true, Bool.and_eq_true, beq_iff_eq] at h
  cases T <;> cases d <;> first | (cases hd; done) | (simp only [tyN, isi]; first | exact h.1.1 | exact h.1.2.1 | exact h.1.2.2.1 | exact h.1.2.2.2.1 | exact h.1.2.2.2.2 | exact h.2.1.1 | exact h.2.1.2.1 | exact h.2.1.2.2.1 | exact h.2.1.2.2.2.1 | exact h.2.1.2.2.2.2 | exact h.2.2.1.1 | exact h.2.2.1.2.1 | exact h.2.2.1.2.2.1 | exact h.2.2.1.2.2.2.1 | exact h.2.2.1.2.2.2.2 | exact h.2.2.2.1.1 | exact h.2.2.2.1.2.1 | exact h.2.2.2.1.2.2.1 | exact h.2.2.2.1.2.2.2.1 | exact h.2.2.2.1.2.2.2.2 | exact h.2.2.2.2.1.1 | exact h.2.2.2.2.1.2.1 | exact h.2.2.2.2.1.2.2.1 | exact h.2.2.2.2.1.2.2.2.1 | exact h.2.2.2.2.1.2.2.2.2 | exact h.2.2.2.2.2.1 | exact h.2.2.2.2.2.2.1 | exact h.2.2.2.2.2.2.2.1 | exact h.2.2.2.2.2.2.2.2.1 | exact h.2.2.2.2.2.2.2.2.2)
def oIsi (T : Ty) (d : D) : Option D := if isNoDict d then some (.bool (isi T d)) else none
theorem tyx {K : Fg} {F H : Hp} {d : D} {v : V} (hs : Same F H) (r : Rb K F H d v) (hd : isNoDict d = true) : TyX K H v (.type (tyN d)) := by
  cases d with
  | none => cases r.none; exact .base .non
  | bool b => cases r.bool; exact .base (.bl b)
  | int i => cases r.int; exact .base (.int i)
  | str x => cases r.str; exact .base (.str x)
  | list ds => obtain ⟨a, vs, rfl, h1, _⟩ := r.list hs; exact .base (.lst h1)
  | tuple ds =>
    obtain ⟨a, vs, rfl, h1, _⟩ := r.tup
    rcases Same.seqT hs h1 with (h | ⟨o, h⟩) | ⟨o, its, n, h2, h3, _⟩
    · exact .base (.tup h)
    · exact .fTuple h
    · exact .kTuple h2 h3
  | dict _ => cases hd
theorem x_isi {T : Ty} {q : Pos} (hg : Gl X "isinstance") (hm : X.mg "isinstance" = none) (ha : XB X a f) {tn : Str} (ht : PE X (.Name tn q) (tC (.ty T.name))) (he : starEach [a, .Name tn q] X.env = (false, eval a X.env) :: starEach [.Name tn q] X.env := by rfl) :
    XP X (.Call (.Name "isinstance" p) [a, .Name tn q] [] pos) (d1 (oIsi T) f) := by
  refine PEw (pe_callB (x := "isinstance") (id := "isinstance") call_isi hg hm (by decide +kernel) (pa_cons ha (pa_cons ht pa_nil rfl) he) (by decide) (by decide) he rfl) fun σ H Q ⟨H0, ρ, F, d, G, q, k⟩ => ?_
  obtain ⟨y, h1, q⟩ := d1_eq q
  unfold oIsi at q
  split at q
  · cases q
    rename_i hd
    exact ⟨H0, ρ, F, y, G, h1, fun v F1 H1 E1 R1 => ⟨v, .ty T.name, .type (tyN y), .type T.name, isi T y, rfl, .ty _, tyx E1.sub R1 hd, kit_ty (kit_isi T y hd), k _ F1 H1 E1 (.bl _)⟩⟩
  · cases q
end
end PL
namespace PL
open PySem PySem.Spec L2
open PyProof.Rows hiding St

/-! ### environments changed -/
section
variable {K : Fg} {H0 F H F' H' : Hp} {ρ : PEnv} {σ : St}
theorem GoodE.set_sh (G : GoodE K H0 ρ σ F H) (i : Nat) {d : D} {v : V} (r : Rp K F d v) : GoodE K H0 (ρ.set i (some (.sh d))) (σ.set i (some v)) F H := by
  have hl := G.len
  refine ⟨G.sub, by rw [List.length_set, List.length_set]; exact hl, fun j d' h => ?_, fun j d' h => ?_, fun j ns h => ?_, fun j j' d' e a h h' q q' => ?_⟩
  · by_cases e : i = j
    · subst e
      by_cases z : i < ρ.length
      · rw [List.getElem?_set_self z] at h
        cases h
        exact ⟨v, by rw [List.getElem?_set_self (by omega)], r⟩
      · rw [List.getElem?_eq_none (by rw [List.length_set]; omega)] at h
        cases h
    · rw [List.getElem?_set_ne e] at h ⊢
      exact G.sh j d' h
  · by_cases e : i = j
    · subst e
      by_cases z : i < ρ.length
      · rw [List.getElem?_set_self z] at h
        cases h
      · rw [List.getElem?_eq_none (by rw [List.length_set]; omega)] at h
        cases h
    · rw [List.getElem?_set_ne e] at h ⊢
      exact G.ow j d' h
  · by_cases e : i = j
    · subst e
      by_cases z : i < ρ.length
      · rw [List.getElem?_set_self z] at h
        cases h
      · rw [List.getElem?_eq_none (by rw [List.length_set]; omega)] at h
        cases h
    · rw [List.getElem?_set_ne e] at h ⊢
      exact G.scr j ns h
  · have ne : ∀ k d'', (ρ.set i (some (.sh d)))[k]? = some (some (.ow d'')) → i ≠ k := fun k d'' hk z => by
      subst z
      by_cases z : i < ρ.length
      · rw [List.getElem?_set_self z] at hk
        cases hk
      · rw [List.getElem?_eq_none (by rw [List.length_set]; omega)] at hk
        cases hk
    have n1 := ne _ _ h
    have n2 := ne _ _ h'
    rw [List.getElem?_set_ne n1] at h q
    rw [List.getElem?_set_ne n2] at h' q'
    exact G.inj j j' d' e a h h' q q'
/-- slot i holds an owned object at a; where slot j other than i holds an owned one, it lies elsewhere -/
theorem GoodE.set_ow (G : GoodE K H0 ρ σ F H) (i : Nat) {d : D} {a : Addr} (f : F a = none) (h0 : H0 a = none) (o : OwnAt K F H a d)
    (ne : ∀ j d', j ≠ i → ρ[j]? = some (some (.ow d')) → σ[j]? ≠ some (some (V.ref a))) : GoodE K H0 (ρ.set i (some (.ow d))) (σ.set i (some (.ref a))) F H := by
  have hl := G.len
  have self : ∀ {u : Option SV}, (ρ.set i (some (.ow d)))[i]? = some u → u = some (.ow d) ∧ (σ.set i (some (V.ref a)))[i]? = some (some (V.ref a)) := fun {u} h => by
    by_cases z : i < ρ.length
    · rw [List.getElem?_set_self z] at h
      cases h
      exact ⟨rfl, List.getElem?_set_self (by omega)⟩
    · rw [List.getElem?_eq_none (by rw [List.length_set]; omega)] at h
      cases h
  refine ⟨G.sub, by rw [List.length_set, List.length_set]; exact hl, fun j d' h => ?_, fun j d' h => ?_, fun j ns h => ?_, fun j j' d' e b h h' q q' => ?_⟩
  · by_cases e : i = j
    · subst e
      cases (self h).1
    · rw [List.getElem?_set_ne e] at h ⊢
      exact G.sh j d' h
  · by_cases e : i = j
    · subst e
      obtain ⟨h1, h2⟩ := self h
      cases h1
      exact ⟨a, h2, f, h0, o⟩
    · rw [List.getElem?_set_ne e] at h ⊢
      exact G.ow j d' h
  · by_cases e : i = j
    · subst e
      cases (self h).1
    · rw [List.getElem?_set_ne e] at h ⊢
      exact G.scr j ns h
  · by_cases e1 : i = j
    · subst e1
      rw [(self h).2] at q
      cases q
      by_cases e2 : i = j'
      · exact e2
      · rw [List.getElem?_set_ne e2] at h' q'
        exact absurd q' (ne j' _ (fun z => e2 z.symm) h')
    · rw [List.getElem?_set_ne e1] at h q
      by_cases e2 : i = j'
      · subst e2
        rw [(self h').2] at q'
        cases q'
        exact absurd q (ne j _ (fun z => e1 z.symm) h)
      · rw [List.getElem?_set_ne e2] at h' q'
        exact G.inj j j' d' e b h h' q q'
/-- the owned object of slot i is written -/
theorem GoodE.put (G : GoodE K H0 ρ σ F H) (i : Nat) {d d' : D} {a : Addr} {o : HO} (hi : ρ[i]? = some (some (.ow d))) (hs : σ[i]? = some (some (V.ref a))) (ho : OwnAt K F (upd H a o) a d') :
    GoodE K H0 (ρ.set i (some (.ow d'))) σ F (upd H a o) := by
  obtain ⟨a', h1, h2, h3, h4⟩ := G.ow i d hi
  rw [hs] at h1
  cases h1
  have hσ : σ.set i (some (V.ref a)) = σ := by
    apply List.ext_getElem?
    intro j
    by_cases e : i = j
    · subst e
      have := (List.getElem?_eq_some_iff.mp hs).1
      rw [List.getElem?_set_self this, hs]
    · rw [List.getElem?_set_ne e]
  have G' : GoodE K H0 (ρ.set i none) σ F (upd H a o) := by
    have ne : ∀ k u, (ρ.set i none)[k]? = some (some u) → i ≠ k ∧ ρ[k]? = some (some u) := fun k u hk => by
      by_cases e : i = k
      · subst e
        by_cases z : i < ρ.length
        · rw [List.getElem?_set_self z] at hk
          cases hk
        · rw [List.getElem?_eq_none (by rw [List.length_set]; omega)] at hk
          cases hk
      · rw [List.getElem?_set_ne e] at hk
        exact ⟨e, hk⟩
    refine ⟨fun b u q => ?_, by rw [List.length_set]; exact G.len, fun j d' h => G.sh j d' (ne _ _ h).2, fun j d' h => ?_, fun j ns h => G.scr j ns (ne _ _ h).2, fun j j' d1 e b h h' q q' => G.inj j j' d1 e b (ne _ _ h).2 (ne _ _ h').2 q q'⟩
    · rw [upd_ne (ne_of_none q h2)]
      exact G.sub b u q
    · obtain ⟨e1, e2⟩ := ne _ _ h
      obtain ⟨b, k1, k2, k3, k4⟩ := G.ow j d' e2
      have hb : b ≠ a := fun z => by
        subst z
        exact e1 (G.inj i j d d' b hi e2 hs k1)
      exact ⟨b, k1, k2, k3, k4.mono (fun _ _ z => z) fun u z => by rw [upd_ne hb]; exact z⟩
  have := G'.set_ow i (d := d') (a := a) h2 h3 ho (fun j d1 hj hj2 z => by
    by_cases e : i = j
    · exact hj e.symm
    · rw [List.getElem?_set_ne e] at hj2
      exact e (G.inj i j d d1 a hi hj2 hs z))
  rw [List.set_set, hσ] at this
  exact this
/-- .. and what is around -/
theorem Ext.put {F0 : Hp} {a : Addr} {o : HO} (E : Ext F0 H0 F H) (f : F a = none) (h0 : H0 a = none) : Ext F0 H0 F (upd H a o) := by
  refine ⟨fun b u q => ?_, E.fr, fun b u q => ?_, E.new⟩
  · rw [upd_ne (ne_of_none q h0)]
    exact E.hp b u q
  · rw [upd_ne (ne_of_none q f)]
    exact E.sub b u q
/-- slot i is frozen -/
def frz (i : Nat) (ρ : PEnv) : PEnv := match ρ[i]? with
  | some (some (.ow d)) => ρ.set i (some (.sh d))
  | _ => ρ
theorem frz_good {F0 : Hp} (E : Ext F0 H0 F H) (G : GoodE K H0 ρ σ F H) (i : Nat) : ∃ F', Ext F0 H0 F' H ∧ Same F F' ∧ GoodE K H0 (frz i ρ) σ F' H := by
  unfold frz
  split
  · rename_i d hi
    obtain ⟨a, h1, h2, h3, h4⟩ := G.ow i d hi
    cases d <;> first | exact h4.elim | skip
    rename_i ds
    obtain ⟨vs, g1, g2, g3⟩ := h4
    have hf : Same F (upd F a (.lst vs)) := same_upd h2
    refine ⟨upd F a (.lst vs), E.freeze h3 g1 h2, hf, ?_⟩
    have hσ : σ.set i (some (V.ref a)) = σ := by
      apply List.ext_getElem?
      intro j
      by_cases e : i = j
      · subst e
        have := (List.getElem?_eq_some_iff.mp h1).1
        rw [List.getElem?_set_self this, h1]
      · rw [List.getElem?_set_ne e]
    have G' : GoodE K H0 (ρ.set i none) σ (upd F a (.lst vs)) H := by
      have ne : ∀ k u, (ρ.set i none)[k]? = some (some u) → i ≠ k ∧ ρ[k]? = some (some u) := fun k u hk => by
        by_cases e : i = k
        · subst e
          by_cases z : i < ρ.length
          · rw [List.getElem?_set_self z] at hk
            cases hk
          · rw [List.getElem?_eq_none (by rw [List.length_set]; omega)] at hk
            cases hk
        · rw [List.getElem?_set_ne e] at hk
          exact ⟨e, hk⟩
      refine ⟨fun b u q => ?_, by rw [List.length_set]; exact G.len, fun j d' h => ?_, fun j d' h => ?_, fun j ns h => ?_, fun j j' d1 e b h h' q q' => G.inj j j' d1 e b (ne _ _ h).2 (ne _ _ h').2 q q'⟩
      · by_cases e : b = a
        · subst e
          rw [upd_same] at q
          cases q
          exact g1
        · rw [upd_ne e] at q
          exact G.sub b u q
      · obtain ⟨v, k1, k2⟩ := G.sh j d' (ne _ _ h).2
        exact ⟨v, k1, k2.mono hf⟩
      · obtain ⟨e1, e2⟩ := ne _ _ h
        obtain ⟨b, k1, k2, k3, k4⟩ := G.ow j d' e2
        have hb : b ≠ a := fun z => by
          subst z
          exact e1 (G.inj i j _ d' b hi e2 h1 k1)
        exact ⟨b, k1, by rw [upd_ne hb]; exact k2, k3, k4.mono hf fun _ z => z⟩
      · obtain ⟨b, k1, k2⟩ := G.scr j ns (ne _ _ h).2
        exact ⟨b, k1, L2.Same.seq hf k2⟩
    have := G'.set_sh i (d := .list ds) (v := .ref a) (.lst upd_same g2 (g3.mono hf))
    rw [List.set_set, hσ] at this
    exact this
  · exact ⟨F, E, fun _ _ z => z, G⟩
end

/-! ### statements -/
inductive Out where
  | nx (ρ : PEnv)
  | rt (d : D)
  | rn (d : D)
  | bk (ρ : PEnv)
  | ct (ρ : PEnv)
def OutOk (K : Fg) (F0 H0 F : Hp) (W : Ends) : Out → Prop
  | .nx ρ => ∀ σ' F' H', Ext F0 H0 F' H' → Same F F' → GoodE K H0 ρ σ' F' H' → W.nx σ' H'
  | .rt d => ∀ v F' H', Ext F0 H0 F' H' → Rp K F' d v → W.rt v H'
  | .rn d => ∀ v F' H', Ext F0 H0 F' H' → Rn K H0 F' H' d v → W.rt v H'
  | .bk ρ => ∀ σ' F' H', Ext F0 H0 F' H' → Same F F' → GoodE K H0 ρ σ' F' H' → W.bk σ' H'
  | .ct ρ => ∀ σ' F' H', Ext F0 H0 F' H' → Same F F' → GoodE K H0 ρ σ' F' H' → W.ct σ' H'
theorem OutOk.later {K : Fg} {F0 H0 F F1 : Hp} {W : Ends} {o : Out} (h : OutOk K F0 H0 F W o) (s : Same F F1) : OutOk K F0 H0 F1 W o := by
  cases o with
  | nx ρ => exact fun σ' F' H' E q G => h σ' F' H' E (fun b u z => q b u (s b u z)) G
  | rt d => exact h
  | rn d => exact h
  | bk ρ => exact fun σ' F' H' E q G => h σ' F' H' E (fun b u z => q b u (s b u z)) G
  | ct ρ => exact fun σ' F' H' E q G => h σ' F' H' E (fun b u z => q b u (s b u z)) G
def tS (K : Fg) (f : PEnv → Option Out) : TS := fun W σ H => ∃ (F0 H0 : Hp) (ρ : PEnv) (F : Hp) (o : Out), Ext F0 H0 F H ∧ GoodE K H0 ρ σ F H ∧ f ρ = some o ∧ OutOk K F0 H0 F W o
abbrev XS (X : Cx) (st : Stmt) (f : PEnv → Option Out) : Prop := PS X st (tS X.K f)
abbrev XSs (X : Cx) (sts : List Stmt) (f : PEnv → Option Out) : Prop := PSs X sts (tS X.K f)
section
variable {X : Cx} {st : Stmt} {sts : List Stmt} {e a b c : Expr} {pos pos' : Pos}
theorem PSw {t t' : TS} (h : PS X st t) (w : ∀ W σ H, t' W σ H → t W σ H) : PS X st t' := ⟨fun pins s σ H W I q => h.run pins s σ H W I (w W σ H q)⟩
theorem PSsw {t t' : TS} (h : PSs X sts t) (w : ∀ W σ H, t' W σ H → t W σ H) : PSs X sts t' := ⟨fun pins s σ H W I q => h.run pins s σ H W I (w W σ H q)⟩
variable {f g : PEnv → Option D} {u : PEnv → Option Bool} {s t : PEnv → Option Out}
def sNil : PEnv → Option Out := fun ρ => some (.nx ρ)
def sBk : PEnv → Option Out := fun ρ => some (.bk ρ)
def sCt : PEnv → Option Out := fun ρ => some (.ct ρ)
def sSeq (s t : PEnv → Option Out) : PEnv → Option Out := fun ρ => (s ρ).bind fun o => match o with
  | .nx ρ' => t ρ'
  | o => some o
def sIf (u : PEnv → Option Bool) (s t : PEnv → Option Out) : PEnv → Option Out := fun ρ => (u ρ).bind fun b => if b then s ρ else t ρ
def sRet (f : PEnv → Option D) : PEnv → Option Out := fun ρ => (f ρ).bind fun d => some (.rt d)
def sRetN (f : PEnv → Option D) : PEnv → Option Out := fun ρ => (f ρ).bind fun d => some (.rn d)
def sRetV (i : Nat) : PEnv → Option Out := fun ρ => match ρ[i]? with
  | some (some (.sh d)) => some (.rt d)
  | some (some (.ow d)) => some (.rn d)
  | _ => none
def sSet (i : Nat) (f : PEnv → Option D) : PEnv → Option Out := fun ρ => (f ρ).bind fun d => some (.nx (ρ.set i (some (.sh d))))
def sSetN (i : Nat) (f : PEnv → Option D) : PEnv → Option Out := fun ρ => (f ρ).bind fun d => some (.nx (ρ.set i (some (.ow d))))
def sFrz (i : Nat) (t : PEnv → Option Out) : PEnv → Option Out := fun ρ => t (frz i ρ)
def sDrop (f : PEnv → Option D) : PEnv → Option Out := fun ρ => (f ρ).bind fun _ => some (.nx ρ)
theorem ss_nil : XSs X [] sNil := PSsw pss_nil fun W σ H ⟨F0, H0, ρ, F, o, E, G, q, k⟩ => by
  cases q
  exact k σ F H E (fun _ _ z => z) G
theorem ss_cons (h1 : XS X st s) (h2 : XSs X sts t) : XSs X (st :: sts) (sSeq s t) := PSsw (pss_cons h1 h2) fun W σ H ⟨F0, H0, ρ, F, o, E, G, q, k⟩ => by
  obtain ⟨o1, h1, q⟩ := Option.bind_eq_some_iff.mp q
  refine ⟨F0, H0, ρ, F, o1, E, G, h1, ?_⟩
  cases o1 with
  | nx ρ' => exact fun σ' F' H' E' sm G' => ⟨F0, H0, ρ', F', o, E', G', q, k.later sm⟩
  | rt d => cases q; exact k
  | rn d => cases q; exact k
  | bk ρ' => cases q; exact k
  | ct ρ' => cases q; exact k
theorem ss_frz (i : Nat) (h : XSs X sts t) : XSs X sts (sFrz i t) := PSsw h fun W σ H ⟨F0, H0, ρ, F, o, E, G, q, k⟩ => by
  obtain ⟨F1, E1, sm, G1⟩ := frz_good E G i
  exact ⟨F0, H0, _, F1, o, E1, G1, q, k.later sm⟩
theorem s_pass : XS X (.Pass pos) sNil := PSw ps_pass fun W σ H ⟨F0, H0, ρ, F, o, E, G, q, k⟩ => by
  cases q
  exact k σ F H E (fun _ _ z => z) G
theorem s_bk : XS X (.Break pos) sBk := PSw ps_break fun W σ H ⟨F0, H0, ρ, F, o, E, G, q, k⟩ => by
  cases q
  exact k σ F H E (fun _ _ z => z) G
theorem s_ct : XS X (.Continue pos) sCt := PSw ps_continue fun W σ H ⟨F0, H0, ρ, F, o, E, G, q, k⟩ => by
  cases q
  exact k σ F H E (fun _ _ z => z) G
theorem s_doc {x : Str} {j : Nat} : XS X (.Expr (.Constant (.str x) j pos) pos') sNil := PSw ps_doc fun W σ H ⟨F0, H0, ρ, F, o, E, G, q, k⟩ => by
  cases q
  exact k σ F H E (fun _ _ z => z) G
theorem s_if {p q : List Stmt} (hc : XT X c u) (ha : XSs X p s) (hb : XSs X q t) : XS X (.If c p q pos) (sIf u s t) := PSw (ps_if hc ha hb) fun W σ H ⟨F0, H0, ρ, F, o, E, G, q, k⟩ => by
  obtain ⟨b, h1, q⟩ := Option.bind_eq_some_iff.mp q
  refine ⟨H0, ρ, F, b, G, h1, fun F1 H1 E1 => ?_⟩
  cases b with
  | true => exact iteT ⟨F0, H0, ρ, F1, o, E.trans E1, G.ext E1, q, k.later E1.fr⟩
  | false => exact iteF ⟨F0, H0, ρ, F1, o, E.trans E1, G.ext E1, q, k.later E1.fr⟩
theorem s_ret (h : XP X e f) : XS X (.Return (some e) pos) (sRet f) := PSw (ps_ret h) fun W σ H ⟨F0, H0, ρ, F, o, E, G, q, k⟩ => by
  obtain ⟨d, h1, q⟩ := Option.bind_eq_some_iff.mp q
  cases q
  exact ⟨H0, ρ, F, d, G, h1, fun v F1 H1 E1 R1 => k v F1 H1 (E.trans E1) R1⟩
theorem s_retN (h : XN X e f) : XS X (.Return (some e) pos) (sRetN f) := PSw (ps_ret h) fun W σ H ⟨F0, H0, ρ, F, o, E, G, q, k⟩ => by
  obtain ⟨d, h1, q⟩ := Option.bind_eq_some_iff.mp q
  cases q
  exact ⟨H0, ρ, F, d, G, h1, fun v F1 H1 E1 R1 => k v F1 H1 (E.trans E1) (R1.of E.hp)⟩
theorem s_retV (i : Nat) (h : PE X e (tVar i)) : XS X (.Return (some e) pos) (sRetV i) := PSw (ps_ret h) fun W σ H ⟨F0, H0, ρ, F, o, E, G, q, k⟩ => by
  unfold sRetV at q
  split at q
  · cases q
    obtain ⟨v, h1, h2⟩ := G.sh i _ (by assumption)
    exact ⟨v, h1, k v F H E h2⟩
  · cases q
    obtain ⟨a, h1, h2, h3, h4⟩ := G.ow i _ (by assumption)
    exact ⟨_, h1, k _ F H E ⟨a, rfl, h3, h2, h4⟩⟩
  · cases q
theorem s_ret0 : XS X (.Return none pos) (sRet (dC .none)) := PSw ps_retN fun W σ H ⟨F0, H0, ρ, F, o, E, G, q, k⟩ => by
  cases q
  exact k _ F H E .non
/-- a name's own slot stored -/
theorem s_set (i : Nat) {x : Str} (hN : X.N.Nodup) (hi : X.N[i]? = some x) (hx : Loc X.env.scope x) (he : XP X e f) (hs : swapsWith e (some (.Name x pos')) pos.line X.env = pure false := by rfl) (hf : X.fn x = true ∨ X.env.scope.names.lookup x = some .local := by first | exact .inl rfl | exact .inr rfl | assumption) :
    XS X (.Assign [.Name x pos'] e pos) (sSet i f) := PSw (ps_set hN hi hx he hs hf) fun W σ H ⟨F0, H0, ρ, F, o, E, G, q, k⟩ => by
  obtain ⟨d, h1, q⟩ := Option.bind_eq_some_iff.mp q
  cases q
  exact ⟨H0, ρ, F, d, G, h1, fun v F1 H1 E1 R1 => k _ F1 H1 (E.trans E1) E1.fr ((G.ext E1).set_sh i R1)⟩
theorem setN_core {F0 H0 F H F1 H1 : Hp} {ρ : PEnv} {σ : St} {d : D} {v : V} {K : Fg} (i : Nat) (E : Ext F0 H0 F H) (G : GoodE K H0 ρ σ F H) (E1 : Ext F H F1 H1) (R : Rn K H F1 H1 d v) : GoodE K H0 (ρ.set i (some (.ow d))) (σ.set i (some v)) F1 H1 := by
  obtain ⟨a, rfl, h1, h2, h3⟩ := R
  refine (G.ext E1).set_ow i h2 (free_of E.hp h1) h3 fun j d' hj hj2 z => ?_
  obtain ⟨b, k1, k2, k3, k4⟩ := G.ow j d' hj2
  rw [z] at k1
  cases k1
  obtain ⟨u, hu⟩ := k4.ex
  rw [h1] at hu
  cases hu
theorem s_setN (i : Nat) {x : Str} (hN : X.N.Nodup) (hi : X.N[i]? = some x) (hx : Loc X.env.scope x) (he : XN X e f) (hs : swapsWith e (some (.Name x pos')) pos.line X.env = pure false := by rfl) (hf : X.fn x = true ∨ X.env.scope.names.lookup x = some .local := by first | exact .inl rfl | exact .inr rfl | assumption) :
    XS X (.Assign [.Name x pos'] e pos) (sSetN i f) := PSw (ps_set hN hi hx he hs hf) fun W σ H ⟨F0, H0, ρ, F, o, E, G, q, k⟩ => by
  obtain ⟨d, h1, q⟩ := Option.bind_eq_some_iff.mp q
  cases q
  exact ⟨H0, ρ, F, d, G, h1, fun v F1 H1 E1 R1 => k _ F1 H1 (E.trans E1) E1.fr (setN_core i E G E1 R1)⟩

/-! ### targets -/
/-- a target's store: slots outside vs stay -/
def gS (K : Fg) (vs : List Nat) (t : D → PEnv → Option PEnv) : TG := fun v σ H Q => ∃ (H0 : Hp) (ρ : PEnv) (F : Hp) (d : D) (ρ' : PEnv), GoodE K H0 ρ σ F H ∧ Rp K F d v ∧ t d ρ = some ρ' ∧
  ∀ σ', GoodE K H0 ρ' σ' F H → σ'.length = σ.length → (∀ j, j ∉ vs → σ'[j]? = σ[j]?) → Q σ' H
def gSs (K : Fg) (vs : List Nat) (t : List D → PEnv → Option PEnv) : TGs := fun ws σ H Q => ∃ (H0 : Hp) (ρ : PEnv) (F : Hp) (ds : List D) (ρ' : PEnv), GoodE K H0 ρ σ F H ∧ Rps K F ds ws ∧ t ds ρ = some ρ' ∧
  ∀ σ', GoodE K H0 ρ' σ' F H → σ'.length = σ.length → (∀ j, j ∉ vs → σ'[j]? = σ[j]?) → Q σ' H
abbrev XG (X : Cx) (e : Expr) (vs : List Nat) (t : D → PEnv → Option PEnv) : Prop := PG X e (gS X.K vs t)
abbrev XGs (X : Cx) (es : List Expr) (vs : List Nat) (t : List D → PEnv → Option PEnv) : Prop := PGs X es (gSs X.K vs t)
theorem PGw {t t' : TG} (h : PG X e t) (w : ∀ v σ H Q, t' v σ H Q → t v σ H Q) : PG X e t' := ⟨fun pins s σ H v u Q I r q => h.run pins s σ H v u Q I r (w v σ H Q q)⟩
theorem PGsw {es : List Expr} {t t' : TGs} (h : PGs X es t) (w : ∀ v σ H Q, t' v σ H Q → t v σ H Q) : PGs X es t' := ⟨fun pins s σ H v u Q I r q => h.run pins s σ H v u Q I r (w v σ H Q q)⟩
def tgN (i : Nat) : D → PEnv → Option PEnv := fun d ρ => some (ρ.set i (some (.sh d)))
def tgNil : List D → PEnv → Option PEnv := fun ds ρ => match ds with
  | [] => some ρ
  | _ => none
def tgCons (t : D → PEnv → Option PEnv) (u : List D → PEnv → Option PEnv) : List D → PEnv → Option PEnv := fun ds ρ => match ds with
  | [] => none
  | d :: r => (t d ρ).bind fun ρ' => u r ρ'
def tgT (n : Nat) (u : List D → PEnv → Option PEnv) : D → PEnv → Option PEnv := fun d ρ => match d with
  | .tuple ds => if ds.length = n then u ds ρ else none
  | _ => none
theorem g_name (i : Nat) {x : Str} (hN : X.N.Nodup) (hi : X.N[i]? = some x) (hx : Loc X.env.scope x) (hf : X.fn x = true ∨ X.env.scope.names.lookup x = some .local := by first | exact .inl rfl | exact .inr rfl | assumption) : XG X (.Name x pos) [i] (tgN i) :=
  PGw (pg_name hN hi hx hf) fun v σ H Q ⟨H0, ρ, F, d, ρ', G, R, q, k⟩ => by
    cases q
    exact k _ (G.set_sh i R) (List.length_set ..) fun j hj => List.getElem?_set_ne fun z => hj (by rw [z]; exact List.mem_singleton.mpr rfl)
theorem gs_nil : XGs X [] [] tgNil := PGsw pgs_nil fun v σ H Q ⟨H0, ρ, F, d, ρ', G, R, q, k⟩ => by
  cases R with
  | nil => cases q; exact ⟨rfl, k σ G rfl fun _ _ => rfl⟩
  | cons _ _ => cases q
theorem gs_cons {es : List Expr} {vs ws : List Nat} {t1 : D → PEnv → Option PEnv} {t2 : List D → PEnv → Option PEnv} (h1 : XG X e vs t1) (h2 : XGs X es ws t2)
    (hs : (assignEach (e :: es) X.env).map (·.2) = assign e X.env :: (assignEach es X.env).map (·.2) := by rfl) : XGs X (e :: es) (vs ++ ws) (tgCons t1 t2) := PGsw (pgs_cons h1 h2 hs) fun v σ H Q ⟨H0, ρ, F, d, ρ', G, R, q, k⟩ => by
  cases R with
  | nil => cases q
  | cons r rs =>
    obtain ⟨ρ1, q1, q2⟩ := Option.bind_eq_some_iff.mp q
    refine ⟨_, _, rfl, H0, ρ, F, _, ρ1, G, r, q1, fun σ1 G1 l1 k1 => ⟨H0, ρ1, F, _, ρ', G1, rs, q2, fun σ2 G2 l2 k2 => k σ2 G2 (l2.trans l1) fun j hj => ?_⟩⟩
    exact (k2 j fun z => hj (List.mem_append_right _ z)).trans (k1 j fun z => hj (List.mem_append_left _ z))
theorem g_tup {es : List Expr} {k : Nat} {vs : List Nat} {t : List D → PEnv → Option PEnv} {n : Nat} (hc : X.calm = true) (h : XGs X es vs t)
    (hn : (assignEach es X.env).length = n := by rfl) (hst : (assignEach es X.env).findIdx? (·.1) = none := by rfl) : XG X (.Tuple es k pos) vs (tgT n t) := PGw (pg_tup hc h hn hst) fun v σ H Q ⟨H0, ρ, F, d, ρ', G, R, q, k⟩ => by
  unfold tgT at q
  split at q
  · split at q
    · rename_i hl
      obtain ⟨a, ws, rfl, h1, h2, h3⟩ := Rb.tup (F := F) (H := H) (.inl R)
      exact ⟨a, ws, rfl, Same.seqT G.sub h1, by rw [← h3.length]; exact hl, H0, ρ, F, _, ρ', G, h3, q, k⟩
    · cases q
  · cases q
def sAsg (t : D → PEnv → Option PEnv) (f : PEnv → Option D) : PEnv → Option Out := fun ρ => (f ρ).bind fun d => (t d ρ).bind fun ρ' => some (.nx ρ')
theorem s_asg {tg : Expr} {vs : List Nat} {t : D → PEnv → Option PEnv} (he : XP X e f) (hg : XG X tg vs t) (hs : swapsWithSole [tg] e pos.line X.env = pure false := by rfl) (hw : swappedStores [tg] e X.env = pure none := by rfl)
    (h1 : (assignEach [tg] X.env).map (·.2) = [assign tg X.env] := by rfl) : XS X (.Assign [tg] e pos) (sAsg t f) := PSw (ps_asg he hg hs hw h1) fun W σ H ⟨F0, H0, ρ, F, o, E, G, q, k⟩ => by
  obtain ⟨d, h1, q⟩ := Option.bind_eq_some_iff.mp q
  obtain ⟨ρ', h2, q⟩ := Option.bind_eq_some_iff.mp q
  cases q
  exact ⟨H0, ρ, F, d, G, h1, fun v F1 H1 E1 R1 => ⟨H0, ρ, F1, d, ρ', G.ext E1, R1, h2, fun σ' G' _ _ => k σ' F1 H1 (E.trans E1) E1.fr G'⟩⟩

/-! ### owned lists written -/
/-- x[i] = e -/
def sPut (i : Nat) (g f : PEnv → Option D) : PEnv → Option Out := fun ρ => (f ρ).bind fun d => match ρ[i]? with
  | some (some (.ow (.list xs))) => (g ρ).bind fun n => (asI n).bind fun n => (ixN xs.length n).bind fun j => some (.nx (ρ.set i (some (.ow (.list (xs.set j d))))))
  | _ => none
theorem s_put (i : Nat) {o ix : Expr} (ho : PE X o (tVar i)) (hi : XP X ix g) (he : XP X e f)
    (ha : ∀ v, assign (.Subscript o ix pos') X.env v = (do
      let ov ← holding [v] (eval o X.env)
      let iv ← holding [v, ov] (eval ix X.env)
      standAt pos'
      holding [v, ov, iv] (setItem ov iv v)
      release [v, ov, iv] []) := by intro _; rfl)
    (hs : swapsWithSole [.Subscript o ix pos'] e pos.line X.env = pure false := by rfl) (hw : swappedStores [.Subscript o ix pos'] e X.env = pure none := by rfl)
    (h1 : (assignEach [.Subscript o ix pos'] X.env).map (·.2) = [assign (.Subscript o ix pos') X.env] := by rfl) : XS X (.Assign [.Subscript o ix pos'] e pos) (sPut i g f) := PSw (ps_asg he (pg_sub ho hi set_list ha) hs hw h1) fun W σ H ⟨F0, H0, ρ, F, o, E, G, q, k⟩ => by
  obtain ⟨d, h1, q⟩ := Option.bind_eq_some_iff.mp q
  split at q
  · rename_i xs hsl
    obtain ⟨n, h2, q⟩ := Option.bind_eq_some_iff.mp q
    obtain ⟨n', h3, q⟩ := Option.bind_eq_some_iff.mp q
    obtain ⟨j, h4, q⟩ := Option.bind_eq_some_iff.mp q
    cases q
    have e3 := asI_eq h3
    subst e3
    refine ⟨H0, ρ, F, d, G, h1, fun v F1 H1 E1 R1 => ?_⟩
    obtain ⟨p, k1, k2, k3, vs, k4, k5, k6⟩ := (G.ext E1).ow i _ hsl
    refine ⟨_, k1, H0, ρ, F1, _, G.ext E1, h2, fun w F2 H2 E2 R2 => ?_⟩
    have G2 := (G.ext E1).ext E2
    have hl : xs.length = vs.length := k6.length
    refine ⟨p, vs, n', j, rfl, Rb.int (F := F2) (H := H2) (.inl R2), E2.hp _ _ k4, by rw [← hl]; exact h4, ?_⟩
    have f2 : F2 p = none := E2.new p _ k4 k2
    refine k σ F2 _ ((E.trans (E1.trans E2)).put f2 k3) (fun b u z => E2.fr _ _ (E1.fr _ _ z)) (G2.put i hsl k1 ⟨_, upd_same, by rw [List.length_set]; exact k5, ?_⟩)
    exact Rps.set (R1.mono E2.fr) j (k6.mono E2.fr)
  · cases q
/-- x.append(e) -/
def sApp (i : Nat) (f : PEnv → Option D) : PEnv → Option Out := fun ρ => (f ρ).bind fun d => match ρ[i]? with
  | some (some (.ow (.list xs))) => if xs.length < lim then some (.nx (ρ.set i (some (.ow (.list (xs ++ [d])))))) else none
  | _ => none
theorem s_app (i : Nat) {o : Expr} {apos cpos : Pos} (ho : PE X o (tVar i)) (he : XP X e f)
    (hbase : attributeBase o "append" X.env (eval o X.env) = eval o X.env := by rfl)
    (hfew : ((backTo cpos (starEach [e] X.env)).all (fun x => !x.1) && (backToKw cpos (keywordEach [] X.env)).all (fun x => x.1.isSome)
      && decide ([e].length + ([] : List Keyword).length + (if ([] : List Keyword).isEmpty then 0 else 1) < 30)) = true := by rfl)
    (hline : (apos.endLine == cpos.line) = true := by rfl) (hs : starEach [e] X.env = (false, eval e X.env) :: starEach [] X.env := by rfl)
    (hsw : swapsWith (.Call (.Attribute o "append" apos) [e] [] cpos) none pos.line X.env = pure false := by rfl) :
    XS X (.Expr (.Call (.Attribute o "append" apos) [e] [] cpos) pos) (sApp i f) :=
  PSw (ps_expr (pe_bm PySem.F.plainAttrs_list PySem.F.slot_list_append PySem.F.type_list_append mt_append ho (pa_cons he pa_nil hs) hbase hfew hline hs rfl) hsw) fun W σ H ⟨F0, H0, ρ, F, o, E, G, q, k⟩ => by
    obtain ⟨d, h1, q⟩ := Option.bind_eq_some_iff.mp q
    split at q
    · rename_i xs hsl
      split at q
      · rename_i hlen
        cases q
        obtain ⟨p, k1, k2, k3, vs, k4, k5, k6⟩ := G.ow i _ hsl
        refine ⟨_, k1, .inl ⟨rfl, vs, SqL.of k4⟩, H0, ρ, F, d, G, h1, fun v F1 H1 E1 R1 => ?_⟩
        have hl : xs.length = vs.length := k6.length
        have hz : vs.length < sizeLine := by have := lim_le; omega
        refine ⟨p, vs, v, rfl, rfl, E1.hp _ _ k4, hz, ?_⟩
        have f1 : F1 p = none := E1.new p _ k4 k2
        exact k σ F1 _ ((E.trans E1).put f1 k3) E1.fr ((G.ext E1).put i hsl k1 ⟨_, upd_same, by rw [List.length_append, List.length_singleton]; exact hz, (k6.mono E1.fr).append (.one R1)⟩)
      · cases q
    · cases q
end
end PL
namespace PL
open PySem PySem.Spec L2
open PyProof.Rows hiding St

/-! ### what is walked -/
/-- the walk J yields xs, as long as S stands and F does -/
structure ItS (K : Fg) (J : It) (xs : List D) (S F : Hp) : Prop where
  go : ∀ (i : Nat) (F1 H1 : Hp), i < xs.length → Same S H1 → Same F F1 → Same F1 H1 → J.go i H1
  yld : ∀ (i : Nat) (F1 H1 : Hp) (d : D) (x : V) (H2 : Hp), xs[i]? = some d → Same S H1 → Same F F1 → Same F1 H1 → J.yld i H1 x H2 → ∃ F2, Ext F1 H1 F2 H2 ∧ Rp K F2 d x
  stop : ∀ (F1 H1 : Hp), Same S H1 → Same F F1 → Same F1 H1 → J.stop xs.length H1
theorem ItS.weak {K : Fg} {J : It} {xs : List D} {S S' F : Hp} (s : Same S S') (I : ItS K J xs S F) : ItS K J xs S' F :=
  ⟨fun i F1 H1 h a => I.go i F1 H1 h (fun b u z => a b u (s b u z)), fun i F1 H1 d x H2 h a => I.yld i F1 H1 d x H2 h (fun b u z => a b u (s b u z)), fun F1 H1 a => I.stop F1 H1 (fun b u z => a b u (s b u z))⟩
def tI (K : Fg) (f : PEnv → Option (List D)) : TI := fun σ H R => ∃ (H0 : Hp) (ρ : PEnv) (F : Hp) (xs : List D), GoodE K H0 ρ σ F H ∧ f ρ = some xs ∧ ∀ J F' H', Ext F H F' H' → xs.length ≤ sizeLine → ItS K J xs F' F' → R J H'
def tIb (K : Fg) (f : PEnv → Option (List D)) : TI := fun σ H R => ∃ (H0 : Hp) (ρ : PEnv) (F : Hp) (xs : List D), GoodE K H0 ρ σ F H ∧ f ρ = some xs ∧ ∀ J F' H', Ext F H F' H' → xs.length ≤ sizeLine → ItS K J xs H' F' → R J H'
abbrev XI (X : Cx) (tg e : Expr) (f : PEnv → Option (List D)) : Prop := PI X tg e (tI X.K f)
abbrev XIb (X : Cx) (tg e : Expr) (f : PEnv → Option (List D)) : Prop := PI X tg e (tIb X.K f)
theorem ItS.list {K : Fg} {a : Addr} {vs : List V} {ds : List D} {S F : Hp} (h : S a = some (.lst vs)) (r : Rps K F ds vs) : ItS K (Itl K a) ds S F where
  go := fun i F1 H1 hi s1 s2 s3 => by
    obtain ⟨d, hd⟩ : ∃ d, ds[i]? = some d := ⟨ds[i], by simp [hi]⟩
    obtain ⟨v, hv, _⟩ := r.get hd
    exact ⟨vs, v, SqL.of (s1 _ _ h), hv⟩
  yld := fun i F1 H1 d x H2 hd s1 s2 s3 y => by
    obtain ⟨rfl, y⟩ := y
    obtain ⟨v, hv, rv⟩ := r.get hd
    have e := y vs (SqL.of (s1 _ _ h))
    rw [hv] at e
    cases e
    exact ⟨F1, .refl s3, rv.mono s2⟩
  stop := fun F1 H1 s1 s2 s3 => ⟨vs, SqL.of (s1 _ _ h), by rw [r.length]; exact Nat.le_refl _⟩
theorem ItS.tup {K : Fg} {a : Addr} {vs : List V} {ds : List D} {S F : Hp} (h : SqT K S a vs) (r : Rps K F ds vs) : ItS K (Itt K a) ds S F where
  go := fun i F1 H1 hi s1 s2 s3 => by
    obtain ⟨d, hd⟩ : ∃ d, ds[i]? = some d := ⟨ds[i], by simp [hi]⟩
    obtain ⟨v, hv, _⟩ := r.get hd
    exact ⟨vs, v, Same.seqT s1 h, hv⟩
  yld := fun i F1 H1 d x H2 hd s1 s2 s3 y => by
    obtain ⟨rfl, y⟩ := y
    obtain ⟨v, hv, rv⟩ := r.get hd
    have e := y vs (Same.seqT s1 h)
    rw [hv] at e
    cases e
    exact ⟨F1, .refl s3, rv.mono s2⟩
  stop := fun F1 H1 s1 s2 s3 => ⟨vs, Same.seqT s1 h, by rw [r.length]; exact Nat.le_refl _⟩
def rangeD (lo : Int) (n : Nat) : List D := (List.range n).map fun i => .int (lo + (i : Nat))
theorem rangeD_length (lo : Int) (n : Nat) : (rangeD lo n).length = n := by unfold rangeD; rw [List.length_map, List.length_range]
theorem rangeD_get {lo : Int} {n i : Nat} {d : D} (h : (rangeD lo n)[i]? = some d) : d = .int (lo + (i : Nat)) := by
  unfold rangeD at h
  rw [List.getElem?_map] at h
  obtain ⟨j, h1, h2⟩ := Option.map_eq_some_iff.mp h
  rw [List.getElem?_range] at h1
  · cases h1; exact h2.symm
  · rcases Nat.lt_or_ge i n with z | z
    · exact z
    · rw [List.getElem?_eq_none (by rw [List.length_range]; exact z)] at h1
      cases h1
theorem ItS.range {K : Fg} {S F : Hp} (lo : Int) (n : Nat) : ItS K (Itr lo n) (rangeD lo n) S F where
  go := fun i F1 H1 hi s1 s2 s3 => by rw [rangeD_length] at hi; exact hi
  yld := fun i F1 H1 d x H2 hd s1 s2 s3 y => by
    obtain ⟨rfl, rfl⟩ := y
    rw [rangeD_get hd]
    exact ⟨F1, .refl s3, .int _⟩
  stop := fun F1 H1 s1 s2 s3 => by show n ≤ _; rw [rangeD_length]; exact Nat.le_refl _
def asSeq : D → Option (List D)
  | .list xs => some xs
  | .tuple xs => some xs
  | _ => none
def fSeq (f : PEnv → Option D) : PEnv → Option (List D) := fun ρ => (f ρ).bind asSeq
def fRng1 (f : PEnv → Option D) : PEnv → Option (List D) := fun ρ => (f ρ).bind fun d => (asI d).bind fun n => if -1000000 ≤ n ∧ n ≤ 1000000 then some (rangeD 0 n.toNat) else none
def fRng2 (f g : PEnv → Option D) : PEnv → Option (List D) := fun ρ => (f ρ).bind fun d => (g ρ).bind fun e => (asI d).bind fun m => (asI e).bind fun n => if -1000000 ≤ m ∧ m ≤ 1000000 ∧ -1000000 ≤ n ∧ n ≤ 1000000 then some (rangeD m (n - m).toNat) else none
section
variable {X : Cx} {tg e : Expr} {pos p : Pos}
theorem PIw {t t' : TI} (h : PI X tg e t) (w : ∀ σ H R, t' σ H R → t σ H R) : PI X tg e t' := ⟨fun pins s σ H R I q => h.run pins s σ H R I (w σ H R q)⟩
theorem XI.b {f : PEnv → Option (List D)} (h : XI X tg e f) : XIb X tg e f := PIw h fun σ H R ⟨H0, ρ, F, xs, G, q, k⟩ => ⟨H0, ρ, F, xs, G, q, fun J F' H' E l S => k J F' H' E l (S.weak E.sub)⟩
variable {a b c : Expr} {f g : PEnv → Option D}
theorem it_list {pins : List (Addr × Obj)} {s1 : Shared} {σ : St} {H1 : Hp} {a : Addr} {vs : List V} {R : It → Hp → Prop} (I1 : Inv X pins σ H1 s1) (h : H1 a = some (.lst vs)) (k : R (Itl X.K a) H1) :
    wpAny (model X.prog X.w) X.A (pyIter (.ref a)) (PIE X pins σ tg R) X.xe s1 := by
  obtain ⟨its, rv, p, hz⟩ := I1.list (SqL.of h)
  refine wpAny_pyIter_list p.isList ?_
  refine ⟨s1.heap.objs.size, [s1.heap.objs.size], _, _, H1, rfl, I1.kept (t' := s1.toks) fun b o e => Heap.get?_push_of_some _ e, turn_list a _, ⟨_, Heap.get?_push_size _ rfl, rfl, rfl⟩, fun b hb => ?_, k⟩
  have e : b = s1.heap.objs.size := by simpa using hb
  subst e
  exact I1.fpOk (Nat.le_refl _) (I1.hok.fresh (Nat.le_refl _))
theorem it_tup {pins : List (Addr × Obj)} {s1 : Shared} {σ : St} {H1 : Hp} {a : Addr} {vs : List V} {R : It → Hp → Prop} (I1 : Inv X pins σ H1 s1) (h : SqT X.K H1 a vs) (k : R (Itt X.K a) H1) :
    wpAny (model X.prog X.w) X.A (pyIter (.ref a)) (PIE X pins σ tg R) X.xe s1 := by
  obtain ⟨its, rv, p, hz⟩ := I1.tuple h
  refine wpAny_pyIter_tuple (show s1.heap.IsTuple a its.toArray from p) ?_
  refine ⟨s1.heap.objs.size, [s1.heap.objs.size], _, _, H1, rfl, I1.kept (t' := s1.toks) fun b o e => Heap.get?_push_of_some _ e, turn_tuple a _, ⟨_, Heap.get?_push_size _ rfl, rfl, rfl⟩, fun b hb => ?_, k⟩
  have e : b = s1.heap.objs.size := by simpa using hb
  subst e
  exact I1.fpOk (Nat.le_refl _) (I1.hok.fresh (Nat.le_refl _))
theorem i_seq (h : XP X e f) : XI X tg e (fSeq f) := ⟨fun pins s σ H R I ⟨H0, ρ, F, xs, G, q, k⟩ => by
  obtain ⟨d, h1, q⟩ := Option.bind_eq_some_iff.mp q
  refine thn (h.run pins s σ H (fun v H' => ∃ F', Ext F H F' H' ∧ Rp X.K F' d v) I ⟨H0, ρ, F, d, G, h1, fun v F' H' E R => ⟨F', E, R⟩⟩) fun v s1 ⟨x, H1, I1, r1, F1, E1, R1⟩ => ?_
  cases R1 with
  | lst g1 g2 g3 =>
    cases q
    cases r1
    exact it_list I1 (E1.sub _ _ g1) (k _ F1 H1 E1 (by rw [g3.length]; exact g2) (.list g1 g3))
  | tup g1 g2 g3 =>
    cases q
    cases r1
    exact it_tup I1 (Same.seqT E1.sub g1) (k _ F1 H1 E1 (by rw [g3.length]; exact g2) (.tup g1 g3))
  | non => cases q
  | bl _ => cases q
  | int _ => cases q
  | str _ => cases q⟩
theorem i_seqB (h : XB X e f) : XIb X tg e (fSeq f) := ⟨fun pins s σ H R I ⟨H0, ρ, F, xs, G, q, k⟩ => by
  obtain ⟨d, h1, q⟩ := Option.bind_eq_some_iff.mp q
  refine thn (h.run pins s σ H (fun v H' => ∃ F', Ext F H F' H' ∧ Rb X.K F' H' d v) I ⟨H0, ρ, F, d, G, h1, fun v F' H' E R => ⟨F', E, R⟩⟩) fun v s1 ⟨x, H1, I1, r1, F1, E1, R1⟩ => ?_
  cases d with
  | list ds =>
    cases q
    obtain ⟨p, vs, rfl, g1, g2, g3⟩ := R1.list E1.sub
    cases r1
    exact it_list I1 g1 (k _ F1 H1 E1 (by rw [g3.length]; exact g2) (.list g1 g3))
  | tuple ds =>
    cases q
    obtain ⟨p, vs, rfl, g1, g2, g3⟩ := R1.tup
    cases r1
    exact it_tup I1 (Same.seqT E1.sub g1) (k _ F1 H1 E1 (by rw [g3.length]; exact g2) (.tup (Same.seqT E1.sub g1) g3))
  | none => cases q
  | bool _ => cases q
  | int _ => cases q
  | str _ => cases q
  | dict _ => cases q⟩
theorem le_line {n : Nat} (h : n ≤ 2000000) : n ≤ sizeLine := by rw [sizeLine_eq]; omega
theorem e62 : (2 : Int) ^ 62 = 4611686018427387904 := by decide
theorem i_rng1 (hg : Gl X "range") (hm : X.mg "range" = none) (ha : XB X a f) (hs : starEach [a] X.env = [(false, eval a X.env)] := by rfl) : XI X tg (.Call (.Name "range" p) [a] [] pos) (fRng1 f) :=
  PIw (pi_range1 hg hm (pa_cons ha pa_nil hs) hs) fun σ H R ⟨H0, ρ, F, xs, G, q, k⟩ => by
    obtain ⟨d, h1, q⟩ := Option.bind_eq_some_iff.mp q
    obtain ⟨n, h2, q⟩ := Option.bind_eq_some_iff.mp q
    split at q
    · rename_i hb
      cases q
      have e := asI_eq h2
      subst e
      exact ⟨H0, ρ, F, _, G, h1, fun v F1 H1 E1 R1 => ⟨n, by rw [R1.int], by rw [e62]; omega, by rw [e62]; omega, k _ F1 H1 E1 (by rw [rangeD_length]; exact le_line (by omega)) (.range 0 _)⟩⟩
    · cases q
theorem i_rng2 (hg : Gl X "range") (hm : X.mg "range" = none) (ha : XB X a f) (hb : XB X b g) (hs : starEach [a, b] X.env = [(false, eval a X.env), (false, eval b X.env)] := by rfl) (hs2 : starEach [b] X.env = [(false, eval b X.env)] := by rfl) :
    XI X tg (.Call (.Name "range" p) [a, b] [] pos) (fRng2 f g) :=
  PIw (pi_range2 hg hm (pa_cons ha (pa_cons hb pa_nil hs2) (by rw [hs, hs2])) hs hs2) fun σ H R ⟨H0, ρ, F, xs, G, q, k⟩ => by
    obtain ⟨d, h1, q⟩ := Option.bind_eq_some_iff.mp q
    obtain ⟨d', h1', q⟩ := Option.bind_eq_some_iff.mp q
    obtain ⟨n, h2, q⟩ := Option.bind_eq_some_iff.mp q
    obtain ⟨n', h2', q⟩ := Option.bind_eq_some_iff.mp q
    split at q
    · rename_i hb
      cases q
      have e := asI_eq h2
      subst e
      have e := asI_eq h2'
      subst e
      exact ⟨H0, ρ, F, _, G, h1, fun v F1 H1 E1 R1 => ⟨H0, ρ, F1, _, G.ext E1, h1', fun v2 F2 H2 E2 R2 => ⟨n, n', by rw [R1.int, R2.int], by rw [e62]; omega, k _ F2 H2 (E1.trans E2) (by rw [rangeD_length]; exact le_line (by omega)) (.range _ _)⟩⟩⟩
    · cases q

/-! ### for -/
def forL (t : D → PEnv → Option PEnv) (body : PEnv → Option Out) : List D → PEnv → Option Out
  | [], ρ => some (.nx ρ)
  | x :: xs, ρ => (t x ρ).bind fun ρ1 => (body ρ1).bind fun o => match o with
    | .nx ρ2 => forL t body xs ρ2
    | .ct ρ2 => forL t body xs ρ2
    | .bk ρ2 => some (.nx ρ2)
    | o => some o
def sFor (w : PEnv → Option (List D)) (t : D → PEnv → Option PEnv) (body : PEnv → Option Out) : PEnv → Option Out := fun ρ => (w ρ).bind fun xs => forL t body xs ρ
variable {body : List Stmt} {w : PEnv → Option (List D)} {t : D → PEnv → Option PEnv} {vs : List Nat} {s : PEnv → Option Out}
theorem s_for (hp : PassesOwn (model X.prog X.w) X.A X.env X.xe) (hc : X.calm = true) (hi : XI X tg e w) (hg : XG X tg vs t) (hb : XSs X body s)
    (hs : ∀ x, foldedSetIterable e X.env x = pure x := by intro _; rfl) : XS X (.For tg e body [] pos) (sFor w t s) := PSw (ps_for hp hc hi hg hb hs) fun W σ H ⟨F0, H0, ρ, F, o, E, G, q, k⟩ => by
  obtain ⟨xs, h1, q⟩ := Option.bind_eq_some_iff.mp q
  refine ⟨H0, ρ, F, xs, G, h1, fun J F1 H1 E1 hl S => ?_⟩
  have k1 := k.later E1.fr
  refine ⟨fun i m σ' H' => i ≤ xs.length ∧ m = xs.length - i ∧ ∃ ρ' F', Ext F0 H0 F' H' ∧ GoodE X.K H0 ρ' σ' F' H' ∧ Same F1 F' ∧ forL t s (xs.drop i) ρ' = some o,
    ⟨_, Nat.zero_le _, rfl, ρ, F1, E.trans E1, G.ext E1, fun _ _ z => z, q⟩, ?_⟩
  rintro i m σ' H' ⟨hi, rfl, ρ', F', E', G', sm, q'⟩
  by_cases hlt : i < xs.length
  · right
    refine ⟨S.go i F' H' hlt (fun b u z => E'.sub _ _ (sm b u z)) sm E'.sub, fun σ2 H2 => ∃ m', m' < xs.length - i ∧ (i + 1 ≤ xs.length ∧ m' = xs.length - (i + 1) ∧ ∃ ρ' F', Ext F0 H0 F' H2 ∧ GoodE X.K H0 ρ' σ2 F' H2 ∧ Same F1 F' ∧ forL t s (xs.drop (i + 1)) ρ' = some o), fun _ _ z => z, fun x H2 y => ?_⟩
    obtain ⟨F2, E2, R2⟩ := S.yld i F' H' xs[i] x H2 (by simp [hlt]) (fun b u z => E'.sub _ _ (sm b u z)) sm E'.sub y
    rw [List.drop_eq_getElem_cons hlt] at q'
    obtain ⟨ρ1, q1, q'⟩ := Option.bind_eq_some_iff.mp q'
    obtain ⟨o1, q2, q'⟩ := Option.bind_eq_some_iff.mp q'
    refine ⟨H0, ρ', F2, xs[i], ρ1, G'.ext E2, R2, q1, fun σ3 G3 _ _ => ?_⟩
    have sm2 : Same F1 F2 := fun b u z => E2.fr _ _ (sm b u z)
    refine ⟨F0, H0, ρ1, F2, o1, E'.trans E2, G3, q2, ?_⟩
    have nxt : ∀ (ρ2 : PEnv), forL t s (xs.drop (i + 1)) ρ2 = some o → ∀ σ4 F4 H4, Ext F0 H0 F4 H4 → Same F2 F4 → GoodE X.K H0 ρ2 σ4 F4 H4 → ∃ m', m' < xs.length - i ∧ (i + 1 ≤ xs.length ∧ m' = xs.length - (i + 1) ∧ ∃ ρ' F', Ext F0 H0 F' H4 ∧ GoodE X.K H0 ρ' σ4 F' H4 ∧ Same F1 F' ∧ forL t s (xs.drop (i + 1)) ρ' = some o) :=
      fun ρ2 q3 σ4 F4 H4 E4 s4 G4 => ⟨_, by omega, hlt, rfl, ρ2, F4, E4, G4, fun b u z => s4 _ _ (sm2 b u z), q3⟩
    cases o1 with
    | nx ρ2 => exact nxt ρ2 q'
    | ct ρ2 => exact nxt ρ2 q'
    | bk ρ2 => cases q'; exact fun σ4 F4 H4 E4 s4 G4 => k1 σ4 F4 H4 E4 (fun b u z => s4 _ _ (sm2 b u z)) G4
    | rt d => cases q'; exact k1
    | rn d => cases q'; exact k1
  · left
    have e : i = xs.length := by omega
    subst e
    rw [List.drop_length] at q'
    cases q'
    exact ⟨S.stop F' H' (fun b u z => E'.sub _ _ (sm b u z)) sm E'.sub, k1 σ' F' H' E' sm G'⟩

/-! ### while -/
def whL (u : PEnv → Option Bool) (body : PEnv → Option Out) : Nat → PEnv → Option Out
  | 0, _ => none
  | n + 1, ρ => (u ρ).bind fun b => if b then (body ρ).bind fun o => match o with
      | .nx ρ2 => whL u body n ρ2
      | .ct ρ2 => whL u body n ρ2
      | .bk ρ2 => some (.nx ρ2)
      | o => some o
    else some (.nx ρ)
def sWh (n : PEnv → Nat) (u : PEnv → Option Bool) (body : PEnv → Option Out) : PEnv → Option Out := fun ρ => whL u body (n ρ) ρ
theorem s_wh (n : PEnv → Nat) {u : PEnv → Option Bool} (hp : PassesOwn (model X.prog X.w) X.A X.env X.xe) (hc : XT X c u) (hb : XSs X body s) : XS X (.While c body [] pos) (sWh n u s) := PSw (ps_while hp hc hb) fun W σ H ⟨F0, H0, ρ, F, o, E, G, q, k⟩ => by
  refine ⟨fun m σ' H' => ∃ ρ' F', Ext F0 H0 F' H' ∧ GoodE X.K H0 ρ' σ' F' H' ∧ Same F F' ∧ whL u s m ρ' = some o, ⟨n ρ, ρ, F, E, G, fun _ _ z => z, q⟩, ?_⟩
  rintro m σ' H' ⟨ρ', F', E', G', sm, q'⟩
  cases m with
  | zero => cases q'
  | succ m =>
    obtain ⟨b, q1, q'⟩ := Option.bind_eq_some_iff.mp q'
    refine ⟨H0, ρ', F', b, G', q1, fun F1 H1 E1 => ?_⟩
    have sm1 : Same F F1 := fun b u z => E1.fr _ _ (sm b u z)
    cases b with
    | false => cases q'; exact iteF (k σ' F1 H1 (E'.trans E1) sm1 (G'.ext E1))
    | true =>
      obtain ⟨o1, q2, q'⟩ := Option.bind_eq_some_iff.mp (show (s ρ').bind _ = some o from q')
      refine iteT ⟨fun σ2 H2 => ∃ m', m' < m + 1 ∧ ∃ ρ' F', Ext F0 H0 F' H2 ∧ GoodE X.K H0 ρ' σ2 F' H2 ∧ Same F F' ∧ whL u s m' ρ' = some o, fun _ _ z => z, F0, H0, ρ', F1, o1, E'.trans E1, G'.ext E1, q2, ?_⟩
      cases o1 with
      | nx ρ2 => exact fun σ4 F4 H4 E4 s4 G4 => ⟨m, Nat.lt_succ_self _, ρ2, F4, E4, G4, fun b u z => s4 _ _ (sm1 b u z), q'⟩
      | ct ρ2 => exact fun σ4 F4 H4 E4 s4 G4 => ⟨m, Nat.lt_succ_self _, ρ2, F4, E4, G4, fun b u z => s4 _ _ (sm1 b u z), q'⟩
      | bk ρ2 => cases q'; exact fun σ4 F4 H4 E4 s4 G4 => k σ4 F4 H4 E4 (fun b u z => s4 _ _ (sm1 b u z)) G4
      | rt d => cases q'; exact k
      | rn d => cases q'; exact k

/-! ### list comprehensions -/
def wipeE (ρ : PEnv) : List Nat → PEnv
  | [] => ρ
  | v :: vs => (wipeE ρ vs).set v none
theorem wipe_get (σ : St) : ∀ (vs : List Nat) (j : Nat), (wipe σ vs)[j]? = if j ∈ vs then (if j < σ.length then some none else none) else σ[j]?
  | [], j => by simp [wipe]
  | v :: vs, j => by
    have ih := wipe_get σ vs j
    have hl := wipe_length σ vs
    unfold wipe
    by_cases e : v = j
    · subst e
      by_cases z : v < σ.length
      · rw [List.getElem?_set_self (by omega), if_pos List.mem_cons_self, if_pos z]
      · rw [List.getElem?_eq_none (by rw [List.length_set]; omega), if_pos List.mem_cons_self, if_neg z]
    · rw [List.getElem?_set_ne e, ih]
      by_cases m : j ∈ vs
      · rw [if_pos m, if_pos (List.mem_cons_of_mem _ m)]
      · rw [if_neg m, if_neg (by simp only [List.mem_cons, not_or]; exact ⟨fun z => e z.symm, m⟩)]
theorem wipe_same {σ σ' : St} {vs : List Nat} (hl : σ'.length = σ.length) (h : ∀ j, j ∉ vs → σ'[j]? = σ[j]?) : wipe σ' vs = wipe σ vs := by
  apply List.ext_getElem?
  intro j
  rw [wipe_get, wipe_get, hl]
  by_cases m : j ∈ vs
  · rw [if_pos m, if_pos m]
  · rw [if_neg m, if_neg m, h j m]
theorem wipeE_length (ρ : PEnv) : ∀ vs : List Nat, (wipeE ρ vs).length = ρ.length
  | [] => rfl
  | v :: vs => by unfold wipeE; rw [List.length_set, wipeE_length ρ vs]
theorem wipeE_some {ρ : PEnv} {i : Nat} {x : SV} : ∀ {vs : List Nat}, (wipeE ρ vs)[i]? = some (some x) → ρ[i]? = some (some x) ∧ i ∉ vs
  | [], h => ⟨h, by simp⟩
  | v :: vs, h => by
    unfold wipeE at h
    by_cases hi : v = i
    · subst hi
      by_cases hv : v < (wipeE ρ vs).length
      · rw [List.getElem?_set_self hv] at h; cases h
      · rw [List.getElem?_eq_none (by simpa using hv)] at h; cases h
    · rw [List.getElem?_set_ne hi] at h
      obtain ⟨h1, h2⟩ := wipeE_some h
      exact ⟨h1, by simp only [List.mem_cons, not_or]; exact ⟨fun e => hi e.symm, h2⟩⟩
theorem GoodE.wipe {K : Fg} {H0 F H : Hp} {ρ : PEnv} {σ : St} (G : GoodE K H0 ρ σ F H) (vs : List Nat) : GoodE K H0 (wipeE ρ vs) (L2.wipe σ vs) F H := by
  refine ⟨G.sub, by rw [wipeE_length, wipe_length]; exact G.len, fun i d h => ?_, fun i d h => ?_, fun i ns h => ?_, fun i j d e a h1 h2 q1 q2 => ?_⟩
  · obtain ⟨h1, h2⟩ := wipeE_some h
    rw [wipe_get, if_neg h2]
    exact G.sh i d h1
  · obtain ⟨h1, h2⟩ := wipeE_some h
    rw [wipe_get, if_neg h2]
    exact G.ow i d h1
  · obtain ⟨h1, h2⟩ := wipeE_some h
    rw [wipe_get, if_neg h2]
    exact G.scr i ns h1
  · obtain ⟨k1, k2⟩ := wipeE_some h1
    obtain ⟨k3, k4⟩ := wipeE_some h2
    rw [wipe_get, if_neg k2] at q1
    rw [wipe_get, if_neg k4] at q2
    exact G.inj i j d e a k1 k3 q1 q2
def tTs (K : Fg) (f : PEnv → Option Bool) : TT := tT K f
abbrev XTs (X : Cx) (ifs : List Expr) (f : PEnv → Option Bool) : Prop := PTs X ifs (tT X.K f)
def uYes : PEnv → Option Bool := fun _ => some true
theorem ts_nil : XTs X [] uYes := ⟨fun pins s σ H Q I ⟨H0, ρ, F, d, G, q, k⟩ => by
  cases q
  exact pts_nil.run pins s σ H Q I (k F H (.refl G.sub))⟩
theorem ts_one {u : PEnv → Option Bool} (h : XT X c u) : XTs X [c] u := pts_one h
def compL (t : D → PEnv → Option PEnv) (u : PEnv → Option Bool) (f : PEnv → Option D) (ρ : PEnv) : List D → Option (List D)
  | [] => some []
  | x :: xs => (t x ρ).bind fun ρ1 => (u ρ1).bind fun b => if b then (f ρ1).bind fun y => (compL t u f ρ xs).bind fun ys => some (y :: ys) else compL t u f ρ xs
theorem compL_length {t : D → PEnv → Option PEnv} {u : PEnv → Option Bool} {f : PEnv → Option D} {ρ : PEnv} : ∀ {xs ys : List D}, compL t u f ρ xs = some ys → ys.length ≤ xs.length
  | [], _, h => by cases h; exact Nat.le_refl _
  | x :: xs, ys, h => by
    obtain ⟨ρ1, h1, h⟩ := Option.bind_eq_some_iff.mp h
    obtain ⟨b, h2, h⟩ := Option.bind_eq_some_iff.mp h
    cases b with
    | false => exact Nat.le_succ_of_le (compL_length (show compL t u f ρ xs = some ys from h))
    | true =>
      obtain ⟨y, h3, h⟩ := Option.bind_eq_some_iff.mp (show (f ρ1).bind _ = some ys from h)
      obtain ⟨zs, h4, h⟩ := Option.bind_eq_some_iff.mp h
      cases h
      exact Nat.succ_le_succ (compL_length h4)
def dComp (vs : List Nat) (w : PEnv → Option (List D)) (t : D → PEnv → Option PEnv) (u : PEnv → Option Bool) (f : PEnv → Option D) : PEnv → Option D := fun ρ => (w ρ).bind fun xs => (compL t u f (wipeE ρ vs) xs).bind fun ys => some (.list ys)
theorem comp_sem {K : Fg} {vs ws : List Nat} {u : PEnv → Option Bool} {σ : St} {H : Hp} {Q : VK} (hw : ∀ j ∈ ws, j ∈ vs) (q : tN K (dComp vs w t u f) σ H Q) : tLc (tIb K w) (gS K ws t) (tT K u) (tP K f) vs σ H Q := by
  obtain ⟨H0, ρ, F, d, G, q, k⟩ := q
  obtain ⟨xs, h1, q⟩ := Option.bind_eq_some_iff.mp q
  obtain ⟨ys, h2, q⟩ := Option.bind_eq_some_iff.mp q
  cases q
  refine ⟨H0, ρ, F, xs, G, h1, fun J F1 H1 E1 hl S Dd hD => ?_⟩
  have fD : F1 Dd = none := free_of E1.sub hD
  have gr : Same H1 (upd H1 Dd (.lst [])) := same_upd hD
  refine ⟨fun i m H' => i ≤ xs.length ∧ m = xs.length - i ∧ ∃ F' acc vacc rest, Ext F1 H1 F' H' ∧ F' Dd = none ∧ H' Dd = some (.lst vacc) ∧ Rps K F' acc vacc ∧ acc.length ≤ i ∧ compL t u f (wipeE ρ vs) (xs.drop i) = some rest ∧ acc ++ rest = ys,
    ⟨_, Nat.zero_le _, rfl, F1, [], [], ys, .own E1.sub hD, fD, upd_same, .nil, Nat.le_refl _, h2, rfl⟩, ?_⟩
  rintro i m H' ⟨hi, rfl, F', acc, vacc, rest, E', fD', hD', R', la, q', ea⟩
  have smF : Same F1 F' := E'.fr
  have smS : Same H1 H' := E'.hp
  by_cases hlt : i < xs.length
  · right
    refine ⟨S.go i F' H' hlt smS smF E'.sub, fun H2 => ∃ m', m' < xs.length - i ∧ (i + 1 ≤ xs.length ∧ m' = xs.length - (i + 1) ∧ ∃ F' acc vacc rest, Ext F1 H1 F' H2 ∧ F' Dd = none ∧ H2 Dd = some (.lst vacc) ∧ Rps K F' acc vacc ∧ acc.length ≤ i + 1 ∧ compL t u f (wipeE ρ vs) (xs.drop (i + 1)) = some rest ∧ acc ++ rest = ys), fun _ z => z, fun x H2 y => ?_⟩
    obtain ⟨F2, E2, R2⟩ := S.yld i F' H' xs[i] x H2 (by simp [hlt]) smS smF E'.sub y
    rw [List.drop_eq_getElem_cons hlt] at q'
    obtain ⟨ρ1, q1, q'⟩ := Option.bind_eq_some_iff.mp q'
    obtain ⟨b, q2, q'⟩ := Option.bind_eq_some_iff.mp q'
    have GW : GoodE K H0 (wipeE ρ vs) (wipe σ vs) F2 H2 := (((G.ext E1).ext E').ext E2).wipe vs
    refine ⟨H0, wipeE ρ vs, F2, xs[i], ρ1, GW, R2, q1, fun σ3 G3 l3 k3 => ⟨?_, ?_⟩⟩
    · have e := wipe_same (vs := vs) l3 (fun j hj => k3 j fun z => hj (hw j z))
      rw [e]
      exact wipe_same (by rw [wipe_length]) fun j hj => by rw [wipe_get, if_neg hj]
    · refine ⟨H0, ρ1, F2, b, G3, q2, fun F3 H3 E3 => ?_⟩
      have E13 : Ext F1 H1 F3 H3 := E'.trans (E2.trans E3)
      have hD3 : H3 Dd = some (.lst vacc) := E3.hp _ _ (E2.hp _ _ hD')
      have fD3 : F3 Dd = none := (E2.trans E3).new Dd _ hD' fD'
      have R3 : Rps K F3 acc vacc := R'.mono (E2.trans E3).fr
      cases b with
      | false =>
        exact iteF ⟨_, by omega, hlt, rfl, F3, acc, vacc, rest, E13, fD3, hD3, R3, Nat.le_succ_of_le la, q', ea⟩
      | true =>
        obtain ⟨y1, q3, q'⟩ := Option.bind_eq_some_iff.mp (show (f ρ1).bind _ = some rest from q')
        obtain ⟨zs, q4, q'⟩ := Option.bind_eq_some_iff.mp q'
        cases q'
        refine iteT ⟨H0, ρ1, F3, y1, G3.ext E3, q3, fun v F4 H4 E4 R4 => ?_⟩
        have hD4 : H4 Dd = some (.lst vacc) := E4.hp _ _ hD3
        have fD4 : F4 Dd = none := E4.new Dd _ hD3 fD3
        have hlen : acc.length = vacc.length := R3.length
        refine ⟨vacc, hD4, by omega, _, by omega, hlt, rfl, F4, acc ++ [y1], vacc ++ [v], zs, (E13.trans E4).put fD4 hD, fD4, upd_same, (R3.mono E4.fr).append (.one R4), by rw [List.length_append, List.length_singleton]; omega, q4, by rw [List.append_assoc]; exact ea⟩
  · left
    have e : i = xs.length := by omega
    subst e
    rw [List.drop_length] at q'
    cases q'
    rw [List.append_nil] at ea
    subst ea
    have hlen : acc.length = vacc.length := R'.length
    exact ⟨S.stop F' H' smS smF E'.sub, k _ F' H' (E1.trans E') ⟨Dd, rfl, free_of E1.hp hD, fD', vacc, hD', by omega, R'⟩⟩
variable {elt iter : Expr} {ifs : List Expr} {scope : Scope} {own : List (Str × Nat)} {ws vs : List Nat} {u : PEnv → Option Bool}
/-- [elt for tg in iter if ..] -/
theorem n_comp (hc : X.calm = true) (hN : X.N.Nodup) (hi : XIb X tg iter w) (ok : BlkOk X.N X.env.scope scope own)
    (hg : ∀ (s : Shared) (H : Hp) (C : Addr) (cl : List (Str × Addr)) (fp : List Addr), XG (X.blk s H scope (compEnvC scope cl C X.env) fp) tg ws t) (ht : ∀ (s : Shared) (H : Hp) (C : Addr) (cl : List (Str × Addr)) (fp : List Addr), XTs (X.blk s H scope (compEnvC scope cl C X.env) fp) ifs u)
    (he : ∀ (s : Shared) (H : Hp) (C : Addr) (cl : List (Str × Addr)) (fp : List Addr), XP (X.blk s H scope (compEnvC scope cl C X.env) fp) elt f) (hv : own.map (·.2) = vs := by rfl) (hw : ∀ j ∈ ws, j ∈ vs := by decide) (hs : ∀ x, foldedSetIterable iter X.env x = pure x := by intro _; rfl) :
    XN X (.ListComp elt [⟨tg, iter, ifs, 0⟩] scope pos) (dComp vs w t u f) :=
  PEw (pe_lc hc hN hi ok hg ht he hs) fun σ H Q q => by rw [hv]; exact comp_sem hw q
/-- y = [elt for tg in iter if ..]: frozen at once, or owned -/
theorem s_setLcN (i : Nat) {y : Str} {py spos : Pos} (hc : X.calm = true) (hN : X.N.Nodup) (hy : X.N[i]? = some y) (hyl : X.env.scope.names.lookup y = some .local)
    (hsw : swapsWith (.ListComp elt [⟨tg, iter, ifs, 0⟩] scope pos) (some (.Name y py)) spos.line X.env = pure true) (hi : XIb X tg iter w) (ok : BlkOk X.N X.env.scope scope own)
    (hg : ∀ (s : Shared) (H : Hp) (C : Addr) (cl : List (Str × Addr)) (fp : List Addr), XG (X.blk s H scope (compEnvC scope cl C X.env) fp) tg ws t) (ht : ∀ (s : Shared) (H : Hp) (C : Addr) (cl : List (Str × Addr)) (fp : List Addr), XTs (X.blk s H scope (compEnvC scope cl C X.env) fp) ifs u)
    (he : ∀ (s : Shared) (H : Hp) (C : Addr) (cl : List (Str × Addr)) (fp : List Addr), XP (X.blk s H scope (compEnvC scope cl C X.env) fp) elt f) (hv : own.map (·.2) = vs := by rfl) (hw : ∀ j ∈ ws, j ∈ vs := by decide) (hs : ∀ x, foldedSetIterable iter X.env x = pure x := by intro _; rfl) :
    XS X (.Assign [.Name y py] (.ListComp elt [⟨tg, iter, ifs, 0⟩] scope pos) spos) (sSetN i (dComp vs w t u f)) :=
  PSw (ps_setLc hc hN hy hyl hsw hi ok hg ht he hs) fun W σ H ⟨F0, H0, ρ, F, o, E, G, q, k⟩ => by
    obtain ⟨d, h1, q⟩ := Option.bind_eq_some_iff.mp q
    cases q
    rw [hv]
    exact comp_sem hw ⟨H0, ρ, F, d, G, h1, fun v F1 H1 E1 R1 => k _ F1 H1 (E.trans E1) E1.fr (setN_core i E G E1 R1)⟩
theorem s_setLc (i : Nat) {y : Str} {py spos : Pos} (hc : X.calm = true) (hN : X.N.Nodup) (hy : X.N[i]? = some y) (hyl : X.env.scope.names.lookup y = some .local)
    (hsw : swapsWith (.ListComp elt [⟨tg, iter, ifs, 0⟩] scope pos) (some (.Name y py)) spos.line X.env = pure true) (hi : XIb X tg iter w) (ok : BlkOk X.N X.env.scope scope own)
    (hg : ∀ (s : Shared) (H : Hp) (C : Addr) (cl : List (Str × Addr)) (fp : List Addr), XG (X.blk s H scope (compEnvC scope cl C X.env) fp) tg ws t) (ht : ∀ (s : Shared) (H : Hp) (C : Addr) (cl : List (Str × Addr)) (fp : List Addr), XTs (X.blk s H scope (compEnvC scope cl C X.env) fp) ifs u)
    (he : ∀ (s : Shared) (H : Hp) (C : Addr) (cl : List (Str × Addr)) (fp : List Addr), XP (X.blk s H scope (compEnvC scope cl C X.env) fp) elt f) (hv : own.map (·.2) = vs := by rfl) (hw : ∀ j ∈ ws, j ∈ vs := by decide) (hs : ∀ x, foldedSetIterable iter X.env x = pure x := by intro _; rfl) :
    XS X (.Assign [.Name y py] (.ListComp elt [⟨tg, iter, ifs, 0⟩] scope pos) spos) (sSet i (dComp vs w t u f)) :=
  PSw (ps_setLc hc hN hy hyl hsw hi ok hg ht he hs) fun W σ H ⟨F0, H0, ρ, F, o, E, G, q, k⟩ => by
    obtain ⟨d, h1, q⟩ := Option.bind_eq_some_iff.mp q
    cases q
    rw [hv]
    refine comp_sem hw ⟨H0, ρ, F, d, G, h1, fun v F1 H1 E1 R1 => ?_⟩
    obtain ⟨F2, E2, R2⟩ := R1.p E1
    exact k _ F2 H1 (E.trans E2) E2.fr ((G.ext E2).set_sh i R2)
end

/-! ### defs -/
def startE (n : Nat) (ds : List D) : PEnv := ds.map (fun d => some (.sh d)) ++ List.replicate (n - ds.length) none
/-- a def's body, called: n slots, m parameters -/
def runFn (n m : Nat) (body : PEnv → Option Out) (ds : List D) : Option D := if ds.length = m then (body (startE n ds)).bind fun o => match o with
  | .rt d => some d
  | .rn d => some d
  | .nx _ => some .none
  | _ => none else none
def runFnN (n m : Nat) (body : PEnv → Option Out) (ds : List D) : Option D := if ds.length = m then (body (startE n ds)).bind fun o => match o with
  | .rn d => some d
  | _ => none else none
theorem runFn_len {n m : Nat} {body : PEnv → Option Out} {ds : List D} {d : D} (h : runFn n m body ds = some d) : ds.length = m := by
  unfold runFn at h
  split at h
  · assumption
  · cases h
theorem runFnN_len {n m : Nat} {body : PEnv → Option Out} {ds : List D} {d : D} (h : runFnN n m body ds = some d) : ds.length = m := by
  unfold runFnN at h
  split at h
  · assumption
  · cases h
/-- the promise: the value of fn -/
def spD (K : Fg) (fn : List D → Option D) : Sp := fun vs H Q _ => ∃ F ds d, Same F H ∧ Rps K F ds vs ∧ fn ds = some d ∧ ∀ v F' H', Ext F H F' H' → Rp K F' d v → Q v H'
/-- .. a new list -/
def spN (K : Fg) (fn : List D → Option D) : Sp := fun vs H Q _ => ∃ F ds d, Same F H ∧ Rps K F ds vs ∧ fn ds = some d ∧ ∀ v F' H', Ext F H F' H' → Rn K H F' H' d v → Q v H'
theorem good_start {K : Fg} {F H : Hp} {ds : List D} {vs : List V} {N : List Str} (s : Same F H) (r : Rps K F ds vs) : GoodE K H (startE N.length ds) (L2.start N vs) F H := by
  have hl := r.length
  have sh : ∀ (i : Nat) (u : SV), (startE N.length ds)[i]? = some (some u) → ∃ d, u = .sh d ∧ ds[i]? = some d := fun i u h => by
    unfold startE at h
    by_cases hi : i < ds.length
    · rw [List.getElem?_append_left (by simpa using hi), List.getElem?_map] at h
      cases e : ds[i]? with
      | none => rw [e] at h; cases h
      | some d => rw [e] at h; cases h; exact ⟨d, rfl, rfl⟩
    · rw [List.getElem?_append_right (by simpa using hi), List.getElem?_replicate] at h
      split at h <;> cases h
  refine ⟨s, ?_, fun i d h => ?_, fun i d h => ?_, fun i ns h => ?_, fun i j d e a h1 h2 _ _ => ?_⟩
  · unfold startE L2.start
    simp only [List.length_append, List.length_map, List.length_replicate]
    omega
  · obtain ⟨d', e, h1⟩ := sh i _ h
    cases e
    obtain ⟨v, h2, h3⟩ := r.get h1
    refine ⟨v, ?_, h3⟩
    unfold L2.start
    have hi : i < vs.length := (List.getElem?_eq_some_iff.mp h2).1
    rw [List.getElem?_append_left (by simpa using hi), List.getElem?_map, h2]
    rfl
  · obtain ⟨d', e, h1⟩ := sh i _ h
    cases e
  · obtain ⟨d', e, h1⟩ := sh i _ h
    cases e
  · obtain ⟨d', e, _⟩ := sh i _ h1
    cases e
section
variable {P : Program} {w : World} {K : Fg} {mg : Str → Option Value} {base : Heap}
/-- the def named x stands, and it computes fn, with k calls' room -/
structure Cal (P : Program) (w : World) (K : Fg) (mg : Str → Option Value) (base : Heap) (x : Str) (k : Nat) (fn : List D → Option D) : Prop where
  ex : ∃ f fd ps, mg x = some (.ref f) ∧ FnOk P w K mg base CX0 k f fd ps (spD K fn) ∧ PySem.W.keepIn K (.ref f) = true ∧ Binds K fd ps []
structure CalN (P : Program) (w : World) (K : Fg) (mg : Str → Option Value) (base : Heap) (x : Str) (k : Nat) (fn : List D → Option D) : Prop where
  ex : ∃ f fd ps, mg x = some (.ref f) ∧ FnOk P w K mg base CX0 k f fd ps (spN K fn) ∧ PySem.W.keepIn K (.ref f) = true ∧ Binds K fd ps []
/-- a def of the text: where it stands -/
structure Def (K : Fg) (mg : Str → Option Value) (x : Str) (st : Stmt) (f : Addr) (fd : FuncData) : Prop where
  fn : Fun K x x st f fd
  mg : mg x = some (.ref f)
theorem Cal.mono {x : Str} {j k : Nat} {fn : List D → Option D} (C : Cal P w K mg base x j fn) (h : j ≤ k) : Cal P w K mg base x k fn := let ⟨f, fd, ps, h1, h2, h3, h4⟩ := C.ex; ⟨⟨f, fd, ps, h1, h2.mono h, h3, h4⟩⟩
/-- nothing is promised of any call -/
theorem Cal.zero {x : Str} {st : Stmt} {f : Addr} {fd : FuncData} {ps : List Str} (F : Def K mg x st f fd) (b : Binds K fd ps []) : Cal P w K mg base x 0 (fun _ => none) :=
  ⟨⟨f, fd, ps, F.mg, ⟨fun vs H Q E ⟨_, _, _, _, _, q, _⟩ => (nomatch q), fun A outer s H args us vs Q E _ _ _ _ ⟨_, _, _, _, _, q, _⟩ => (nomatch q)⟩, F.fn.kp, b⟩⟩
theorem cal_of {x : Str} {st : Stmt} {f : Addr} {fd : FuncData} {N ps : List Str} {k n m : Nat} {body : PEnv → Option Out} (F : Def K mg x st f fd) (b : Binds K fd ps []) (S : FnScope N ps (defScope st)) (hn : N.length = n) (hm : ps.length = m)
    (hb : ∀ (cdv : Value) (A : Around) (outer : List Env) (s : Shared) (H : Hp) (E : XK), Room k (A.deeper (envOfC x (defScope st) s.heap.objs.size f cdv)) → XSs (cxOf CX0 P w K mg base N x (defScope st) f cdv A outer s H E).nox (defBody st) body) :
    Cal P w K mg base x (k + 1) (runFn n m body) := by
  refine ⟨⟨f, fd, ps, F.mg, F.fn.ok S (fun vs H Q E ⟨F', ds, d, _, r, q, _⟩ => by rw [← r.length, runFn_len q, hm]) fun cdv A outer s H vs Q E hr ⟨F', ds, d, sm, r, q, k⟩ => ⟨tS K body, hb cdv A outer s H E hr, ?_⟩, F.fn.kp, b⟩⟩
  unfold runFn at q
  split at q
  · obtain ⟨o, h1, q⟩ := Option.bind_eq_some_iff.mp q
    subst hn
    refine ⟨F', H, _, F', o, .refl sm, good_start sm r, h1, ?_⟩
    cases o with
    | rt d' => cases q; exact fun v F2 H2 E2 R2 => k v F2 H2 E2 R2
    | rn d' =>
      cases q
      intro v F2 H2 E2 R2
      obtain ⟨F3, E3, R3⟩ := R2.p E2
      exact k v F3 H2 E3 R3
    | nx ρ => cases q; exact fun σ' F2 H2 E2 _ _ => k _ F2 H2 E2 .non
    | bk ρ => cases q
    | ct ρ => cases q
  · cases q
theorem calN_of {x : Str} {st : Stmt} {f : Addr} {fd : FuncData} {N ps : List Str} {k n m : Nat} {body : PEnv → Option Out} (F : Def K mg x st f fd) (b : Binds K fd ps []) (S : FnScope N ps (defScope st)) (hn : N.length = n) (hm : ps.length = m)
    (hb : ∀ (cdv : Value) (A : Around) (outer : List Env) (s : Shared) (H : Hp) (E : XK), Room k (A.deeper (envOfC x (defScope st) s.heap.objs.size f cdv)) → XSs (cxOf CX0 P w K mg base N x (defScope st) f cdv A outer s H E).nox (defBody st) body) :
    CalN P w K mg base x (k + 1) (runFnN n m body) := by
  refine ⟨⟨f, fd, ps, F.mg, F.fn.ok S (fun vs H Q E ⟨F', ds, d, _, r, q, _⟩ => by rw [← r.length, runFnN_len q, hm]) fun cdv A outer s H vs Q E hr ⟨F', ds, d, sm, r, q, k⟩ => ⟨tS K body, hb cdv A outer s H E hr, ?_⟩, F.fn.kp, b⟩⟩
  unfold runFnN at q
  split at q
  · obtain ⟨o, h1, q⟩ := Option.bind_eq_some_iff.mp q
    subst hn
    refine ⟨F', H, _, F', o, .refl sm, good_start sm r, h1, ?_⟩
    cases o with
    | rt d' => cases q
    | rn d' => cases q; exact fun v F2 H2 E2 R2 => k v F2 H2 E2 R2
    | nx ρ => cases q
    | bk ρ => cases q
    | ct ρ => cases q
  · cases q
end
section
variable {X : Cx} {e : Expr} {es : List Expr} {fs : PEnv → Option (List D)} {x : Str} {k : Nat} {fn : List D → Option D} {p pos : Pos}
def dCall (fn : List D → Option D) (fs : PEnv → Option (List D)) : PEnv → Option D := fun ρ => (fs ρ).bind fn
theorem x_call (C : Cal X.prog X.w X.K X.mg X.base x k fn) (hr : Room k X.A) (hg : Gl X x) (ha : XPs X (e :: es) fs) (hdb : (x == ("__debug__" : Str)) = false := by decide)
    (he : starEach (e :: es) X.env = (false, eval e X.env) :: starEach es X.env := by rfl) (hpl : (backTo pos (starEach es X.env)).any (·.1) = false := by rfl) : XP X (.Call (.Name x p) (e :: es) [] pos) (dCall fn fs) := by
  obtain ⟨f, fd, ps, h1, h2, h3, h4⟩ := C.ex
  refine PEw (pe_call h2 hr hg h1 h3 h4 .nil pass0 ha hdb he hpl) fun σ H Q ⟨H0, ρ, F, d, G, q, k⟩ => ?_
  obtain ⟨ds, q1, q⟩ := Option.bind_eq_some_iff.mp q
  exact ⟨H0, ρ, F, ds, G, q1, fun vs F1 H1 E1 R1 => ⟨F1, ds, d, E1.sub, by rw [List.append_nil]; exact R1, q, fun v F' H' E' R => k v F' H' (E1.trans E') R⟩⟩
theorem n_call (C : CalN X.prog X.w X.K X.mg X.base x k fn) (hr : Room k X.A) (hg : Gl X x) (ha : XPs X (e :: es) fs) (hdb : (x == ("__debug__" : Str)) = false := by decide)
    (he : starEach (e :: es) X.env = (false, eval e X.env) :: starEach es X.env := by rfl) (hpl : (backTo pos (starEach es X.env)).any (·.1) = false := by rfl) : XN X (.Call (.Name x p) (e :: es) [] pos) (dCall fn fs) := by
  obtain ⟨f, fd, ps, h1, h2, h3, h4⟩ := C.ex
  refine PEw (pe_call h2 hr hg h1 h3 h4 .nil pass0 ha hdb he hpl) fun σ H Q ⟨H0, ρ, F, d, G, q, k⟩ => ?_
  obtain ⟨ds, q1, q⟩ := Option.bind_eq_some_iff.mp q
  exact ⟨H0, ρ, F, ds, G, q1, fun vs F1 H1 E1 R1 => ⟨F1, ds, d, E1.sub, by rw [List.append_nil]; exact R1, q, fun v F' H' E' R => k v F' H' (E1.trans E') (R.of E1.hp)⟩⟩
end
end PL
namespace PL
open PySem PySem.Spec L2
open PyProof.Rows hiding St

/-! ### set(list of ints), at the library's level (the twin of L2.call_set_tupI for a list) -/
section
variable {P : Program} {w : World} {A : Around} {E : Value → Shared → Prop} {s : Shared}
abbrev freshSet (w : World) : Obj := { cls := .type "set", dict := none, data := .set #[] 0 (.fresh 0 0 (!w.params.followText "set-order")) }
theorem set_of_list {l : Addr} {items : Array Value} (ns : List Int) {Q : Value → Shared → Prop} (hh : A.handled = none) (hl : s.heap.IsList l items) (hit : IntsAre items.toList ns) (hb : ns.length + 1 < scanBound)
    (h : ∀ (h' : Heap) (tk c : Nat), SetR w h' s.heap.objs.size (fun j => decide (j ∈ ns)) c → c ≤ ns.length → (∀ b o, s.heap.get? b = some o → h'.get? b = some o) → Q (.ref s.heap.objs.size) { s with heap := h', toks := tk }) :
    wpAny (model P w) A (call (.type "set") [.ref l]) Q E s := by
  have hsize : items.size = ns.length := by
    have q := IntsAre.length hit
    rw [Array.length_toList] at q
    exact q
  obtain ⟨_, _, hmro⟩ := F.called_set.mro
  have hmade := F.called_set.made
  have hsub := F.called_set.sub
  refine wpAny_call (codeAny_of_tree ?_)
  show wpAny _ _ (callAny (.type "set") _) _ _ _
  refine wpAny_pure ⟨Code.quiet_builtin _ (by decide +kernel), codeAny_builtin F.entry_type_call ?_⟩
  rw [Around.under_plain (weight_type_call_type "set" [.ref l] []) rfl]
  have h1 := F.called_set.notType
  have h2 := F.called_set.canCreate
  have hct := F.typeCall_set_1 (.ref l)
  repeat (any_goals (first | assumption | wp_step))
  refine codeAny_mono (code_set_led1 (.ref l) (E := E) (Q₁ := fun obj s₁ => obj = .ref s.heap.objs.size ∧ s₁ = { s with heap := s.heap.push (freshSet w) }) ⟨rfl, rfl⟩) fun r s₁ hr => ?_
  cases r with
  | error e => exact hr
  | ok fl =>
    cases fl with
    | ret obj =>
      obtain ⟨rfl, rfl⟩ := hr
      have hS : (s.heap.push (freshSet w)).get? s.heap.objs.size = some (freshSet w) := Heap.get?_push_size _ rfl
      have hT : Shared.TypeIs { s with heap := s.heap.push (freshSet w) } (.ref s.heap.objs.size) "set" := ⟨_, hS, rfl⟩
      have hli := F.called_set.init.lookup
      have hbi := F.called_set.init.bind (.ref s.heap.objs.size)
      repeat (any_goals (first | assumption | wp_step))
      refine codeAny_mono (codeAny_call_builtin (R := wants (fun r s₂ => r = .none ∧ ∃ h' tk c, s₂ = { s with heap := h', toks := tk } ∧ SetR w h' s.heap.objs.size (fun j => decide (j ∈ ns)) c ∧ c ≤ ns.length ∧
          (∀ b o, s.heap.get? b = some o → h'.get? b = some o)) E) F.called_set.init.plain F.entry_set_init (check_set_init_1 hT ?_)) fun r₂ s₂ hr₂ => ?_
      · obtain ⟨⟨ocls, odict, odata, oslots⟩, hol, hcl, nl, hdl⟩ := hl
        simp only at hcl hdl
        subst hcl; subst hdl
        have hol' : (s.heap.push (freshSet w)).get? l = some { cls := .type "list", dict := odict, data := .seq items nl, slots := oslots } := Heap.get?_push_of_some _ hol
        have hsls := F.sub_list_set
        have hslf := F.sub_list_frozenset
        have hne : (Value.type "list" == Value.type "dict") = false := by decide
        have hl1 : (s.heap.push (freshSet w)).IsList l items := ⟨_, hol', rfl, nl, rfl⟩
        unfold Builtin.«set.__init__» noKeywords Builtin.Frozenset.updateFrom
        generalize hPI : pyIter = PI
        wp_walk
        subst hPI
        refine wpAny_pyIter_list hl1 ?_
        refine wpAny_bind (wpAny_runValue ?_)
        have hlS : l < s.heap.objs.size := Heap.lt_size hol
        have hh3 : A.in1.in1.in1.handled = none := by simp [hh]
        have hz1 : (s.heap.push (freshSet w)).objs.size = s.heap.objs.size + 1 := Heap.size_push ..
        have hneI : l ≠ (s.heap.push (freshSet w)).objs.size := by
          rw [hz1]; exact Nat.ne_of_lt (Nat.lt_succ_of_lt hlS)
        have hSf : s.heap.objs.size ∉ [(s.heap.push (freshSet w)).objs.size, l] := by
          rw [hz1]; simp only [List.mem_cons, List.mem_singleton, List.not_mem_nil, or_false, not_or]
          exact ⟨Nat.ne_of_lt (Nat.lt_succ_self _), Nat.ne_of_gt hlS⟩
        have hval : ∀ (i : Nat) (v : Value), items[i]? = some v → ∃ k t, ns[i]? = some k ∧ v = .int k t := fun i v hv => by
          have hi : i < ns.length := by rw [← hsize]; exact (Array.getElem?_eq_some_iff.mp hv).1
          obtain ⟨t, e⟩ := PyProof.Rows.IntsAre.int_at hit i v (by rw [Array.getElem?_toList]; exact hv)
          refine ⟨ns[i], t, List.getElem?_eq_getElem hi, ?_⟩
          rw [e, List.getD_eq_getElem?_getD, List.getElem?_eq_getElem hi] <;> rfl
        refine set_update_ints ((Walks.list hh3 _ l hneI items).toS) s.heap.objs.size hSf ns hsize hb hval (items.size - 0) 0 _ (by omega) (Nat.zero_le _) ⟨⟨_, Heap.get?_push_size _ rfl, rfl, rfl⟩, (hl1.push _)⟩ ?hS0 ?hR
        case hS0 =>
          have hget : ((s.heap.push (freshSet w)).push { cls := .type "list_iterator", data := .fields #[.ref l, .int 0 0] }).get? s.heap.objs.size = some (freshSet w) := Heap.get?_push_of_some _ hS
          exact ⟨0, Nat.le_refl 0, setR_new_at hget⟩
        case hR =>
          intro s' c' hm hc' hS'
          obtain ⟨h', g2, d', tk', os'⟩ := s'
          have eg : g2 = s.gens := hm.gens
          have ed : d' = s.drawn := hm.drawn
          have eo : os' = s.os := hm.os
          subst eg; subst ed; subst eo
          show wpAny _ _ _ _ _ _
          refine wpAny_pure ?_
          show wpAny _ _ (ret Value.none) _ _ _
          rw [hsize] at hc'
          refine wpAny_pure ⟨rfl, h', tk', c', rfl, hS', hc', fun b o e => ?_⟩
          have hb0 : b < s.heap.objs.size := Heap.lt_size e
          refine hm.heap b o ?_ (Heap.get?_push_of_some _ (Heap.get?_push_of_some _ e))
          rw [hz1]
          simp only [List.mem_cons, List.mem_singleton, List.not_mem_nil, or_false, not_or]
          exact ⟨Nat.ne_of_lt hb0, Nat.ne_of_lt (Nat.lt_succ_of_lt hb0)⟩
      · cases r₂ with
        | error e => exact hr₂
        | ok fl₂ =>
          cases fl₂ with
          | ret r =>
            obtain ⟨rfl, h', tk, c', rfl, hS', hc', hk'⟩ := hr₂
            repeat (any_goals (first | assumption | wp_step))
            exact h _ _ _ hS' hc' hk'
          | _ => exact hr₂.elim
    | _ => exact hr.elim
end

/-! ### sorted(set(..)) of ints -/
def insU (x : Int) : List Int → List Int
  | [] => [x]
  | y :: r => if x < y then x :: y :: r else if x = y then y :: r else y :: insU x r
def sdd : List Int → List Int
  | [] => []
  | x :: r => insU x (sdd r)
theorem mem_insU {x k : Int} : ∀ {l : List Int}, k ∈ insU x l ↔ k = x ∨ k ∈ l
  | [] => by simp [insU]
  | y :: r => by
    unfold insU
    split
    · simp
    · split
      · subst x; simp
      · rw [List.mem_cons, mem_insU, List.mem_cons]
        constructor
        · rintro (h | h | h) <;> simp [h]
        · rintro (h | h | h) <;> simp [h]
theorem insU_pw {x : Int} : ∀ {l : List Int}, l.Pairwise (· < ·) → (insU x l).Pairwise (· < ·)
  | [], _ => by simp [insU]
  | y :: r, h => by
    unfold insU
    have hy := List.pairwise_cons.mp h
    split
    · rename_i hx
      refine List.pairwise_cons.mpr ⟨fun z hz => ?_, h⟩
      rcases List.mem_cons.mp hz with rfl | hz
      · exact hx
      · exact Int.lt_trans hx (hy.1 z hz)
    · split
      · exact h
      · rename_i h1 h2
        refine List.pairwise_cons.mpr ⟨fun z hz => ?_, insU_pw hy.2⟩
        rcases mem_insU.mp hz with rfl | hz
        · omega
        · exact hy.1 z hz
theorem sdd_pw : ∀ l : List Int, (sdd l).Pairwise (· < ·)
  | [] => .nil
  | x :: r => insU_pw (sdd_pw r)
theorem mem_sdd {k : Int} : ∀ {l : List Int}, k ∈ sdd l ↔ k ∈ l
  | [] => Iff.rfl
  | x :: r => by
    show k ∈ insU x (sdd r) ↔ _
    rw [mem_insU, mem_sdd, List.mem_cons]
theorem pw_unique : ∀ {l m : List Int}, l.Pairwise (· < ·) → m.Pairwise (· < ·) → (∀ k, k ∈ l ↔ k ∈ m) → l = m
  | [], [], _, _, _ => rfl
  | [], y :: m, _, _, h => absurd ((h y).mpr List.mem_cons_self) (by simp)
  | x :: l, [], _, _, h => absurd ((h x).mp List.mem_cons_self) (by simp)
  | x :: l, y :: m, hl, hm, h => by
    have a := List.pairwise_cons.mp hl
    have b := List.pairwise_cons.mp hm
    have e : x = y := by
      rcases List.mem_cons.mp ((h x).mp List.mem_cons_self) with e | e
      · exact e
      · rcases List.mem_cons.mp ((h y).mpr List.mem_cons_self) with e2 | e2
        · exact e2.symm
        · have := b.1 x e; have := a.1 y e2; omega
    subst e
    refine congrArg (x :: ·) (pw_unique a.2 b.2 fun k => ⟨fun hk => ?_, fun hk => ?_⟩)
    · rcases List.mem_cons.mp ((h k).mp (List.mem_cons_of_mem _ hk)) with e | e
      · have := a.1 k hk; omega
      · exact e
    · rcases List.mem_cons.mp ((h k).mpr (List.mem_cons_of_mem _ hk)) with e | e
      · have := b.1 k hk; omega
      · exact e
def oSortSet : D → Option D
  | .list ds => (asInts ds).bind fun ns => if ns.length < 64 then some (.list ((sdd ns).map .int)) else none
  | .tuple ds => (asInts ds).bind fun ns => if ns.length < 64 then some (.list ((sdd ns).map .int)) else none
  | _ => none
section
variable {X : Cx} {a : Expr} {f : PEnv → Option D} {p1 p2 pos2 pos : Pos}
theorem scan64 {n : Nat} (h : n < 64) : n + 1 < scanBound := by unfold scanBound; omega
theorem sset_tail {pins : List (Addr × Obj)} {σ : St} {F H : Hp} {s1 : Shared} {ns : List Int} {Q : VK} {h' : Heap} {tk c : Nat} (hc : X.calm = true) (I1 : Inv X pins σ H s1) (hs : Same F H) (hl : ns.length < 64)
    (R1 : SetR X.w h' s1.heap.objs.size (fun j => decide (j ∈ ns)) c) (hcn : c ≤ ns.length) (k : ∀ b o, s1.heap.get? b = some o → h'.get? b = some o)
    (q : ∀ v F' H', Ext F H F' H' → Rn X.K H F' H' (.list ((sdd ns).map .int)) v → Q v H') :
    wpAny (model X.prog X.w) X.A (call (.builtin "sorted") [.ref s1.heap.objs.size]) (EP X pins σ Q) X.xe { s1 with heap := h', toks := tk } := by
  have hd := I1.ok.hd hc
  refine sorted_set (s := { s1 with heap := h', toks := tk }) R1 hd (by omega) fun s' p out c' ms kk g o hp hg hi hpw hm hlen => ?_
  have em : ms = sdd ns := pw_unique hpw (sdd_pw ns) fun j => by rw [hm j, mem_sdd, decide_eq_true_eq]
  have kall : ∀ b u, s1.heap.get? b = some u → s'.heap.get? b = some u := fun b u e => kk b u (k b u e)
  have hlt : s1.heap.objs.size ≤ p := by
    have h2 : s1.heap.objs.size < h'.objs.size := by obtain ⟨o, _, _, _, ho, _⟩ := R1; exact Heap.lt_size ho
    exact Nat.le_trans (Nat.le_of_lt h2) hp
  have hn : H p = none := I1.hok.fresh hlt
  have hlen2 : (ms.map V.int).length ≤ sizeLine := by rw [List.length_map, hlen, sizeLine_eq]; omega
  have J : Inv X pins σ (upd H p (.lst (ms.map V.int))) s' :=
    I1.call' (ch := []) o (Un.laid kall hlt hn) (I1.hok.laid kall hlt ⟨hlen2, out.toList, c', vals_of_ints hi, hg⟩) (by rw [g]; exact I1.bare) (fun _ z => nomatch z)
  refine ⟨.ref p, _, J, rfl, q _ F _ (.own hs hn) ⟨p, rfl, hn, free_of hs hn, ms.map V.int, upd_same, hlen2, ?_⟩⟩
  rw [em]
  exact Rps.of_ints _
/-- sorted(set(x)), x a list or tuple of ints -/
theorem n_sortset (hc : X.calm = true) (hg : Gl X "sorted") (hm : X.mg "sorted" = none) (hg2 : Gl X "set") (hm2 : X.mg "set" = none) (ha : XB X a f)
    (he : starEach [a] X.env = [(false, eval a X.env)] := by rfl) (he2 : starEach [.Call (.Name "set" p2) [a] [] pos2] X.env = [(false, eval (.Call (.Name "set" p2) [a] [] pos2) X.env)] := by rfl) :
    XN X (.Call (.Name "sorted" p1) [.Call (.Name "set" p2) [a] [] pos2] [] pos) (d1 oSortSet f) := by
  refine ⟨fun pins s σ H Q I ⟨H0, ρ, F, d, G, q, k⟩ => ?_⟩
  obtain ⟨y, h1, q⟩ := d1_eq q
  refine Call_ (ld_blt I hg hm (by decide +kernel : bootBuiltins "sorted" = some (.builtin "sorted")) ?_)
  refine PyProof.Rows.callWith_builtin1 (PyProof.Rows.args_cons ?_ he2) he2 rfl
  refine Call_ (ld_blt I hg2 hm2 PyProof.Rows.boot_set ?_)
  refine PyProof.Rows.callWith_type1 (PyProof.Rows.args_cons (thn (ha.run pins s σ H (fun v H' => ∃ F', Ext F H F' H' ∧ Rb X.K F' H' y v) I ⟨H0, ρ, F, y, G, h1, fun v F' H' E R => ⟨F', E, R⟩⟩) fun v s1 ⟨x, H1, I1, r1, F1, E1, R1⟩ => PyProof.Rows.args_nil ?_) he) he rfl
  have done : ∀ {ns : List Int}, d = .list ((sdd ns).map .int) → ns.length < 64 → ∀ (h' : Heap) (tk c : Nat), SetR X.w h' s1.heap.objs.size (fun j => decide (j ∈ ns)) c → c ≤ ns.length → (∀ b o, s1.heap.get? b = some o → h'.get? b = some o) →
      wpAny (model X.prog X.w) X.A (spliced (backTo pos (starEach [] X.env))) (fun vs s₂ => wpAny (model X.prog X.w) X.A (call (.builtin "sorted") (Value.ref s1.heap.objs.size :: vs)) (EP X pins σ Q) X.xe s₂) X.xe { s1 with heap := h', toks := tk } := fun {ns} ed hl h' tk c hS hc' hk => by
    subst ed
    exact PyProof.Rows.args_nil (sset_tail hc I1 E1.sub hl hS hc' hk fun v F' H' E R => k v F' H' (E1.trans E) (R.of E1.hp))
  cases y with
  | list ds =>
    obtain ⟨ns, h2, q⟩ := Option.bind_eq_some_iff.mp (show (asInts ds).bind _ = some d from q)
    split at q
    · rename_i hl
      cases q
      rw [asInts_eq h2] at R1
      obtain ⟨p, vs, rfl, g1, g2, g3⟩ := R1.list E1.sub
      rw [g3.ints] at g1
      cases r1
      obtain ⟨its, r, pl, hz⟩ := I1.list (SqL.of g1)
      exact set_of_list ns (I1.ok.hd hc) pl.isList (by simpa using r.ints) (scan64 hl) fun h' tk c hS hc' hk => done rfl hl h' tk c hS hc' hk
    · cases q
  | tuple ds =>
    obtain ⟨ns, h2, q⟩ := Option.bind_eq_some_iff.mp (show (asInts ds).bind _ = some d from q)
    split at q
    · rename_i hl
      cases q
      rw [asInts_eq h2] at R1
      obtain ⟨p, vs, rfl, g1, g2, g3⟩ := R1.tup
      rw [g3.ints] at g1
      cases r1
      obtain ⟨its, r, pl, hz⟩ := I1.tuple (Same.seqT E1.sub g1)
      exact call_set_tupI ns (I1.ok.hd hc) (show s1.heap.IsTuple p its.toArray from pl) (by simpa using r.ints) (scan64 hl) fun h' tk c hS hc' hk => done rfl hl h' tk c hS hc' hk
    · cases q
  | none => cases q
  | bool _ => cases q
  | int _ => cases q
  | str _ => cases q
  | dict _ => cases q
end
end PL
namespace PL
open PySem PySem.Spec L2
open PyProof.Rows hiding St
open PySem.W (alike alikeAll dataLt)

/-! ### the built-ins' names -/
theorem bo_len : bootBuiltins "len" = some (.builtin "len") := by decide +kernel
theorem bo_abs : bootBuiltins "abs" = some (.builtin "abs") := by decide +kernel
theorem bo_max : bootBuiltins "max" = some (.builtin "max") := by decide +kernel
theorem bo_min : bootBuiltins "min" = some (.builtin "min") := by decide +kernel
theorem bo_sum : bootBuiltins "sum" = some (.builtin "sum") := by decide +kernel
theorem bo_all : bootBuiltins "all" = some (.builtin "all") := by decide +kernel
theorem bo_any : bootBuiltins "any" = some (.builtin "any") := by decide +kernel
theorem bo_sorted : bootBuiltins "sorted" = some (.builtin "sorted") := by decide +kernel
theorem bo_int : bootBuiltins "int" = some (.type "int") := by decide +kernel
theorem bo_bool : bootBuiltins "bool" = some (.type "bool") := by decide +kernel
theorem bo_str : bootBuiltins "str" = some (.type "str") := by decide +kernel
theorem bo_tuple : bootBuiltins "tuple" = some (.type "tuple") := by decide +kernel
theorem bo_list : bootBuiltins "list" = some (.type "list") := by decide +kernel

/-! ### max, min of a list -/
def alikeL (ds : List D) : Bool := ds.all fun d => notNone d && ds.all fun e => alike d e
theorem alikeL_ok {ds : List D} (h : alikeL ds = true) : PySem.W.AlikeAll ds := by
  unfold alikeL at h
  simp only [List.all_eq_true, Bool.and_eq_true] at h
  exact ⟨fun x hx y hy => (h x hx).2 y hy, fun x hx => notNone_ne (h x hx).1⟩
def oMaxL : D → Option D
  | .list (x :: xs) => if alikeL (x :: xs) && decide (PyData.depthAll (x :: xs) ≤ 50) then some (PySem.W.maxD x xs) else none
  | .tuple (x :: xs) => if alikeL (x :: xs) && decide (PyData.depthAll (x :: xs) ≤ 50) then some (PySem.W.maxD x xs) else none
  | _ => none
def oMinL : D → Option D
  | .list (x :: xs) => if alikeL (x :: xs) && decide (PyData.depthAll (x :: xs) ≤ 50) then some (PySem.W.minD x xs) else none
  | .tuple (x :: xs) => if alikeL (x :: xs) && decide (PyData.depthAll (x :: xs) ≤ 50) then some (PySem.W.minD x xs) else none
  | _ => none
section
variable {X : Cx}
/-- an item that reads as d is d -/
theorem item_is {pins : List (Addr × Obj)} {σ : St} {F H : Hp} {s : Shared} {h' : Heap} {ds : List D} {vs : List V} {its : List Value} {i : Nat} {v : Value} {d : D} {bs : List Addr} (I : Inv X pins σ H s) (hs : Same F H) (r : Rps X.K F ds vs) (rv : Vals vs its)
    (hv : its.toArray[i]? = some v) (hr : Reads h' v d bs) (k : ∀ b o, s.heap.get? b = some o → h'.get? b = some o) (hd : d ∈ ds) (al : PySem.W.AlikeAll ds) : ∃ x, Rp X.K F d x ∧ RelV x v := by
  have hv : its[i]? = some v := by simpa using hv
  have hi : i < vs.length := by rw [rv.length]; exact (List.getElem?_eq_some_iff.mp hv).1
  obtain ⟨u, hu, ru⟩ := rv.get (i := i) (x := vs[i]) (by simp [hi])
  rw [hv] at hu
  cases hu
  obtain ⟨e, he, re⟩ := r.getV (i := i) (v := vs[i]) (by simp [hi])
  obtain ⟨cs, hr2⟩ := Dp.reads I e _ v ((re.mono hs).dp) ru
  have hem : e ∈ ds := List.mem_of_getElem? he
  have eq : e = d := PySem.W.alike_unique e d v cs bs (al.1 e hem d hd) (PyProof.Rows.Reads.keeps k hr2) hr
  subst eq
  exact ⟨_, re, ru⟩
theorem minD_mem (x : D) : ∀ xs : List D, PySem.W.minD x xs ∈ x :: xs := by
  intro xs
  unfold PySem.W.minD
  induction xs generalizing x with
  | nil => simp
  | cons y r ih =>
    rw [List.foldl_cons]
    split
    · have := ih y; rcases List.mem_cons.mp this with h | h
      · rw [h]; simp
      · exact List.mem_cons_of_mem _ (List.mem_cons_of_mem _ h)
    · have := ih x; rcases List.mem_cons.mp this with h | h
      · rw [h]; simp
      · exact List.mem_cons_of_mem _ (List.mem_cons_of_mem _ h)
theorem maxD_mem (x : D) : ∀ xs : List D, PySem.W.maxD x xs ∈ x :: xs := by
  intro xs
  unfold PySem.W.maxD
  induction xs generalizing x with
  | nil => simp
  | cons y r ih =>
    rw [List.foldl_cons]
    split
    · have := ih y; rcases List.mem_cons.mp this with h | h
      · rw [h]; simp
      · exact List.mem_cons_of_mem _ (List.mem_cons_of_mem _ h)
    · have := ih x; rcases List.mem_cons.mp this with h | h
      · rw [h]; simp
      · exact List.mem_cons_of_mem _ (List.mem_cons_of_mem _ h)
theorem c_maxL (hc : X.calm = true) (hu : X.A.units + 64 < cLine) : CallR X (.builtin "max") (rC1 X.K oMaxL) := by
  rintro pins s σ H xs us Q I r ⟨x, rfl, F, a, d, hs, ra, e, k⟩
  unfold oMaxL at e
  split at e
  · split at e
    · cases e
      rename_i y ys hg
      simp only [Bool.and_eq_true, decide_eq_true_eq] at hg
      obtain ⟨p, vs, rfl, g1, g2, g3⟩ := ra.list hs
      rw [Vals.ref1 r]
      obtain ⟨its, rv, pl, hz⟩ := I.list (SqL.of g1)
      obtain ⟨as, h4⟩ := Dp.readsAll I (y :: ys) vs its ((g3.mono hs).dp) rv
      refine PySem.W.max_list_data (I.ok.hd hc) pl.isList h4 (alikeL_ok hg.1) (by omega) fun i v h' tk bs hv hr kk => ?_
      obtain ⟨w, rw1, rw2⟩ := item_is I hs g3 rv hv hr kk (maxD_mem y ys) (alikeL_ok hg.1)
      exact ⟨w, H, I.kept kk, rw2, k w F H (.refl hs) rw1⟩
    · cases e
  · split at e
    · cases e
      rename_i y ys hg
      simp only [Bool.and_eq_true, decide_eq_true_eq] at hg
      obtain ⟨p, vs, rfl, g1, g2, g3⟩ := ra.tup
      rw [Vals.ref1 r]
      obtain ⟨its, rv, pl, hz⟩ := I.tuple (Same.seqT hs g1)
      obtain ⟨as, h4⟩ := Dp.readsAll I (y :: ys) vs its ((g3.mono hs).dp) rv
      refine PySem.W.max_tuple_data (I.ok.hd hc) (show s.heap.IsTuple p its.toArray from pl) h4 (alikeL_ok hg.1) (by omega) fun i v h' tk bs hv hr kk => ?_
      obtain ⟨w, rw1, rw2⟩ := item_is I hs g3 rv hv hr kk (maxD_mem y ys) (alikeL_ok hg.1)
      exact ⟨w, H, I.kept kk, rw2, k w F H (.refl hs) rw1⟩
    · cases e
  · cases e
theorem c_minL (hc : X.calm = true) (hu : X.A.units + 64 < cLine) : CallR X (.builtin "min") (rC1 X.K oMinL) := by
  rintro pins s σ H xs us Q I r ⟨x, rfl, F, a, d, hs, ra, e, k⟩
  unfold oMinL at e
  split at e
  · split at e
    · cases e
      rename_i y ys hg
      simp only [Bool.and_eq_true, decide_eq_true_eq] at hg
      obtain ⟨p, vs, rfl, g1, g2, g3⟩ := ra.list hs
      rw [Vals.ref1 r]
      obtain ⟨its, rv, pl, hz⟩ := I.list (SqL.of g1)
      obtain ⟨as, h4⟩ := Dp.readsAll I (y :: ys) vs its ((g3.mono hs).dp) rv
      refine PySem.W.min_list_data (I.ok.hd hc) pl.isList h4 (alikeL_ok hg.1) (by omega) fun i v h' tk bs hv hr kk => ?_
      obtain ⟨w, rw1, rw2⟩ := item_is I hs g3 rv hv hr kk (minD_mem y ys) (alikeL_ok hg.1)
      exact ⟨w, H, I.kept kk, rw2, k w F H (.refl hs) rw1⟩
    · cases e
  · split at e
    · cases e
      rename_i y ys hg
      simp only [Bool.and_eq_true, decide_eq_true_eq] at hg
      obtain ⟨p, vs, rfl, g1, g2, g3⟩ := ra.tup
      rw [Vals.ref1 r]
      obtain ⟨its, rv, pl, hz⟩ := I.tuple (Same.seqT hs g1)
      obtain ⟨as, h4⟩ := Dp.readsAll I (y :: ys) vs its ((g3.mono hs).dp) rv
      refine PySem.W.min_tuple_data (I.ok.hd hc) (show s.heap.IsTuple p its.toArray from pl) h4 (alikeL_ok hg.1) (by omega) fun i v h' tk bs hv hr kk => ?_
      obtain ⟨w, rw1, rw2⟩ := item_is I hs g3 rv hv hr kk (minD_mem y ys) (alikeL_ok hg.1)
      exact ⟨w, H, I.kept kk, rw2, k w F H (.refl hs) rw1⟩
    · cases e
  · cases e
end

/-! ### the law's script -/
def cellF (ns : List Int) (k : Nat) : Int := match ns[k]? with
  | some v => v
  | none => 5 * (k : Int) + 3
def spCellF (K : Fg) : Sp := fun vs H Q _ => ∃ (a : Addr) (ns : List Int) (k : Nat), vs = [.ref a, .int k] ∧ SqL K H a (ns.map V.int) ∧ Q (.int (cellF ns k)) H
structure CalC (P : Program) (w : World) (K : Fg) (mg : Str → Option Value) (base : Heap) (k : Nat) : Prop where
  ex : ∃ f fd ps, mg "_law_cell" = some (.ref f) ∧ FnOk P w K mg base CX0 k f fd ps (spCellF K) ∧ PySem.W.keepIn K (.ref f) = true ∧ Binds K fd ps []
def dCell (i : Nat) (g : PEnv → Option D) : PEnv → Option D := fun ρ => match ρ[i]? with
  | some (some (.scr ns)) => (g ρ).bind fun d => (asI d).bind fun k => if 0 ≤ k then some (.int (cellF ns k.toNat)) else none
  | _ => none
section
variable {X : Cx} {a b : Expr} {k : Nat} {g : PEnv → Option D} {p pos : Pos}
theorem x_cell (i : Nat) (C : CalC X.prog X.w X.K X.mg X.base k) (hr : Room k X.A) (hg : Gl X "_law_cell") (ha : PE X a (tVar i)) (hb : XB X b g)
    (he : starEach [a, b] X.env = (false, eval a X.env) :: starEach [b] X.env := by rfl) (he2 : starEach [b] X.env = (false, eval b X.env) :: starEach [] X.env := by rfl) (hpl : (backTo pos (starEach [b] X.env)).any (·.1) = false := by rfl) :
    XP X (.Call (.Name "_law_cell" p) [a, b] [] pos) (dCell i g) := by
  obtain ⟨f, fd, ps, h1, h2, h3, h4⟩ := C.ex
  refine PEw (pe_call h2 hr hg h1 h3 h4 .nil pass0 (pa_cons ha (pa_cons hb pa_nil he2) he) (by decide) he hpl) fun σ H Q ⟨H0, ρ, F, d, G, q, k⟩ => ?_
  unfold dCell at q
  split at q
  · rename_i ns hi
    obtain ⟨y, q1, q⟩ := Option.bind_eq_some_iff.mp q
    obtain ⟨n, q2, q⟩ := Option.bind_eq_some_iff.mp q
    split at q
    · rename_i hn
      cases q
      have e := asI_eq q2
      subst e
      obtain ⟨c, k1, k2⟩ := G.scr i ns hi
      refine ⟨_, k1, H0, ρ, F, _, G, q1, fun v F1 H1 E1 R1 => ⟨c, ns, n.toNat, ?_, L2.Same.seq E1.hp (L2.Same.seq G.sub k2), k _ F1 H1 E1 (.int _)⟩⟩
      rw [R1.int]
      have : ((n.toNat : Nat) : Int) = n := Int.toNat_of_nonneg hn
      rw [this]
      rfl
    · cases q
  · cases q
end
section
variable {P : Program} {w : World} {K : Fg} {mg : Str → Option Value} {base : Heap}
theorem cell_at {ns : List Int} {k : Nat} (h : k < ns.length) : L2.atI (ns.map V.int) (k : Int) = some (.int (cellF ns k)) := by
  refine L2.atI_nat ?_
  rw [List.getElem?_map, List.getElem?_eq_getElem h]
  unfold cellF
  rw [List.getElem?_eq_getElem h]
  rfl
theorem cell_out {ns : List Int} {k : Nat} (h : ¬ k < ns.length) : cellF ns k = 5 * (k : Int) + 3 := by
  unfold cellF
  rw [List.getElem?_eq_none (by omega)]
/-- what law(script) promises -/
def spLawF (K : Fg) : Sp := fun vs H Q _ => ∃ (a : Addr) (ns : List Int), vs = [.ref a] ∧ SqL K H a (ns.map V.int) ∧ ns.length ≤ 63 ∧ ∀ H', Q (.bl true) H'
def startL (n : Nat) (ns : List Int) : PEnv := some (.scr ns) :: List.replicate (n - 1) none
theorem law_of {st : Stmt} {f : Addr} {fd : FuncData} {N : List Str} {k n : Nat} {body : PEnv → Option Out} (F : Fun K "law" "law" st f fd) (S : FnScope N ["script"] (defScope st)) (hn : N.length = n)
    (hb : ∀ (cdv : Value) (A : Around) (outer : List Env) (s : Shared) (H : Hp) (E : XK), Room k (A.deeper (envOfC "law" (defScope st) s.heap.objs.size f cdv)) → XSs (cxOf CX0 P w K mg base N "law" (defScope st) f cdv A outer s H E).nox (defBody st) body)
    (hall : ∀ ns : List Int, ns.length ≤ 63 → body (startL n ns) = some (.rt (.bool true))) : FnOk P w K mg base CX0 (k + 1) f fd ["script"] (spLawF K) := by
  refine F.ok S (fun vs H Q E ⟨a, ns, h, _⟩ => by rw [h]; rfl) fun cdv A outer s H vs Q E hr ⟨a, ns, h, hS, hl, q⟩ => ⟨tS K body, hb cdv A outer s H E hr, ?_⟩
  subst h
  subst hn
  refine ⟨H, H, startL N.length ns, H, _, .refl fun _ _ z => z, ?_, hall ns hl, fun v F' H' E R => ?_⟩
  · have one : ∀ (i : Nat) (u : SV), (startL N.length ns)[i]? = some (some u) → i = 0 ∧ u = .scr ns := fun i u h => by
      cases i with
      | zero => cases h; exact ⟨rfl, rfl⟩
      | succ i =>
        have h : (List.replicate (N.length - 1) (none : Option SV))[i]? = some (some u) := h
        rw [List.getElem?_replicate] at h
        split at h <;> cases h
    have hpos : 0 < N.length := by
      have := congrArg List.length S.pre
      rw [List.length_take] at this
      have e : (["script"] : List Str).length = 1 := rfl
      omega
    refine ⟨fun _ _ z => z, ?_, fun i d h => ?_, fun i d h => ?_, fun i ms h => ?_, fun i j d e a h1 h2 _ _ => ?_⟩
    · unfold startL L2.start
      simp only [List.length_append, List.length_map, List.length_replicate, List.length_cons, List.length_nil]
      omega
    · cases (one i _ h).2
    · cases (one i _ h).2
    · obtain ⟨rfl, e⟩ := one i _ h
      cases e
      exact ⟨a, rfl, hS⟩
    · cases (one i _ h1).2
  · cases R
    exact q H'
end
end PL
namespace PL
open PySem PySem.Spec L2
open PyProof.Rows hiding St
open PySem.W (alike alikeAll dataLt)

/-! ### the operators at plain values -/
@[simp] theorem oEq_int (a b : Int) : oEq (.int a) (.int b) = some (.bool (a == b)) := by simp [oEq, PyData.plain, shallow, PyData.depth, PyData.eqv]
@[simp] theorem oNe_int (a b : Int) : oNe (.int a) (.int b) = some (.bool (!(a == b))) := by simp [oNe, PyData.plain, shallow, PyData.depth, PyData.eqv]
@[simp] theorem oEq_str (a b : Str) : oEq (.str a) (.str b) = some (.bool (a == b)) := by simp [oEq, PyData.plain, shallow, PyData.depth, PyData.eqv]
@[simp] theorem oEq_bool (a b : Bool) : oEq (.bool a) (.bool b) = some (.bool (a == b)) := by simp [oEq, PyData.plain, shallow, PyData.depth, PyData.eqv]
@[simp] theorem oLt_int (a b : Int) : oLt (.int a) (.int b) = some (.bool (decide (a < b))) := by simp [oLt, alike, notNone, shallow, PyData.depth, PySem.W.dataLt_int]
@[simp] theorem oGt_int (a b : Int) : oGt (.int a) (.int b) = some (.bool (decide (b < a))) := by simp [oGt, alike, notNone, shallow, PyData.depth, PySem.W.dataLt_int]
@[simp] theorem oLe_int (a b : Int) : oLe (.int a) (.int b) = some (.bool (decide (a ≤ b))) := by simp [oLe, alike, notNone, shallow, PyData.depth, PySem.W.dataLt_int, ← decide_not]
@[simp] theorem oGe_int (a b : Int) : oGe (.int a) (.int b) = some (.bool (decide (b ≤ a))) := by simp [oGe, alike, notNone, shallow, PyData.depth, PySem.W.dataLt_int, ← decide_not]
@[simp] theorem oAdd_int (a b : Int) : oAdd (.int a) (.int b) = some (.int (a + b)) := rfl
@[simp] theorem oSub_int (a b : Int) : oSub (.int a) (.int b) = some (.int (a - b)) := rfl
theorem oAdd_tup {xs ys : List D} (h : xs.length + ys.length ≤ lim) : oAdd (.tuple xs) (.tuple ys) = some (.tuple (xs ++ ys)) := by simp [oAdd, h]
theorem oAdd_list {xs ys : List D} (h : xs.length + ys.length ≤ lim) : oAdd (.list xs) (.list ys) = some (.list (xs ++ ys)) := by simp [oAdd, h]
@[simp] theorem oMod_int {a b : Int} (h : 0 < b) : oMod (.int a) (.int b) = some (.int (a % b)) := by simp [oMod, h]
@[simp] theorem oDiv_int {a b : Int} (h : 0 < b ∧ b < 1073741824) : oDiv (.int a) (.int b) = some (.int (a / b)) := by simp [oDiv, h]
@[simp] theorem oMul_left {a b : Int} (h : -(2 ^ 64) < a ∧ a < 2 ^ 64) : oMul (.int a) (.int b) = some (.int (a * b)) := by
  show (if _ then _ else _) = _
  rw [if_pos (.inl h)]
@[simp] theorem oMul_right {a b : Int} (h : -(2 ^ 64) < b ∧ b < 2 ^ 64) : oMul (.int a) (.int b) = some (.int (a * b)) := by
  show (if _ then _ else _) = _
  rw [if_pos (.inr h)]
theorem atI_getD {xs : List D} {i : Int} (h0 : 0 ≤ i) (h : i < xs.length) : L2.atI xs i = some (xs.getD i.toNat .none) := by
  have e : i = ((i.toNat : Nat) : Int) := by omega
  have hl : i.toNat < xs.length := by omega
  rw [e, L2.atI_nat (v := xs.getD i.toNat .none)]
  · rfl
  · rw [List.getD_eq_getElem?_getD, List.getElem?_eq_getElem hl]
    rfl
theorem oIx_list {xs : List D} {i : Int} (h0 : 0 ≤ i) (h : i < xs.length) : oIx (.list xs) (.int i) = some (xs.getD i.toNat .none) := atI_getD h0 h
theorem oIx_tup {xs : List D} {i : Int} (h0 : 0 ≤ i) (h : i < xs.length) : oIx (.tuple xs) (.int i) = some (xs.getD i.toNat .none) := atI_getD h0 h
theorem getD_ints {ns : List Int} {k : Nat} (h : k < ns.length) : (ns.map PyData.int).getD k .none = .int (ns.getD k 0) := by
  rw [List.getD_eq_getElem?_getD, List.getElem?_map, List.getElem?_eq_getElem h, List.getD_eq_getElem?_getD, List.getElem?_eq_getElem h]
  rfl
theorem oIx_listI {ns : List Int} {i : Int} (h0 : 0 ≤ i) (h : i < ns.length) : oIx (.list (ns.map .int)) (.int i) = some (.int (ns.getD i.toNat 0)) := by
  rw [oIx_list h0 (by rw [List.length_map]; exact h), getD_ints (by omega)]
theorem oIx_tupI {ns : List Int} {i : Int} (h0 : 0 ≤ i) (h : i < ns.length) : oIx (.tuple (ns.map .int)) (.int i) = some (.int (ns.getD i.toNat 0)) := by
  rw [oIx_tup h0 (by rw [List.length_map]; exact h), getD_ints (by omega)]
theorem oSortSet_list {ns : List Int} (h : ns.length < 64) : oSortSet (.list (ns.map .int)) = some (.list ((sdd ns).map .int)) := by
  simp [oSortSet, asInts_map, h]
theorem oSortSet_tup {ns : List Int} (h : ns.length < 64) : oSortSet (.tuple (ns.map .int)) = some (.list ((sdd ns).map .int)) := by
  simp [oSortSet, asInts_map, h]
theorem sdd_eq {a b : List Int} (h : ∀ k, k ∈ a ↔ k ∈ b) : sdd a = sdd b := pw_unique (sdd_pw a) (sdd_pw b) fun k => by rw [mem_sdd, mem_sdd, h k]

/-! ### running -/
/-- s ends from ρ, and its end is as Q wants -/
def R (s : PEnv → Option Out) (ρ : PEnv) (Q : Out → Prop) : Prop := ∃ o, s ρ = some o ∧ Q o
section
variable {s t : PEnv → Option Out} {ρ : PEnv} {Q Q' : Out → Prop} {f g : PEnv → Option D} {u : PEnv → Option Bool} {i : Nat} {d : D}
theorem R.mono (h : R s ρ Q) (k : ∀ o, Q o → Q' o) : R s ρ Q' := let ⟨o, a, b⟩ := h; ⟨o, a, k o b⟩
theorem R_seq (h : R s ρ fun o => match o with
    | .nx ρ' => R t ρ' Q
    | o => Q o) : R (sSeq s t) ρ Q := by
  obtain ⟨o, h1, h2⟩ := h
  cases o with
  | nx ρ' =>
    obtain ⟨o', h3, h4⟩ := h2
    exact ⟨o', by show (s ρ).bind _ = _; rw [h1]; exact h3, h4⟩
  | rt d => exact ⟨_, by show (s ρ).bind _ = _; rw [h1]; rfl, h2⟩
  | rn d => exact ⟨_, by show (s ρ).bind _ = _; rw [h1]; rfl, h2⟩
  | bk ρ' => exact ⟨_, by show (s ρ).bind _ = _; rw [h1]; rfl, h2⟩
  | ct ρ' => exact ⟨_, by show (s ρ).bind _ = _; rw [h1]; rfl, h2⟩
theorem R_nil (h : Q (.nx ρ)) : R sNil ρ Q := ⟨_, rfl, h⟩
theorem R_set (h : f ρ = some d) (q : Q (.nx (ρ.set i (some (.sh d))))) : R (sSet i f) ρ Q := ⟨_, by unfold sSet; rw [h]; rfl, q⟩
theorem R_setN (h : f ρ = some d) (q : Q (.nx (ρ.set i (some (.ow d))))) : R (sSetN i f) ρ Q := ⟨_, by unfold sSetN; rw [h]; rfl, q⟩
theorem R_if {b : Bool} (h : u ρ = some b) (q1 : b = true → R s ρ Q) (q2 : b = false → R t ρ Q) : R (sIf u s t) ρ Q := by
  unfold R sIf
  rw [h]
  cases b with
  | true => exact q1 rfl
  | false => exact q2 rfl
theorem R_ifT (h : u ρ = some true) (q : R s ρ Q) : R (sIf u s t) ρ Q := R_if h (fun _ => q) (fun e => nomatch e)
theorem R_ifF (h : u ρ = some false) (q : R t ρ Q) : R (sIf u s t) ρ Q := R_if h (fun e => nomatch e) (fun _ => q)
theorem R_ret (h : f ρ = some d) (q : Q (.rt d)) : R (sRet f) ρ Q := ⟨_, by unfold sRet; rw [h]; rfl, q⟩
theorem R_retN (h : f ρ = some d) (q : Q (.rn d)) : R (sRetN f) ρ Q := ⟨_, by unfold sRetN; rw [h]; rfl, q⟩
theorem R_app {xs : List D} (h : f ρ = some d) (hs : ρ[i]? = some (some (.ow (.list xs)))) (hl : xs.length < lim) (q : Q (.nx (ρ.set i (some (.ow (.list (xs ++ [d]))))))) : R (sApp i f) ρ Q :=
  ⟨_, by unfold sApp; rw [h]; simp only [Option.bind_some, hs]; rw [if_pos hl], q⟩
theorem R_put {xs : List D} {n : Int} {j : Nat} (h : f ρ = some d) (hs : ρ[i]? = some (some (.ow (.list xs)))) (hg : g ρ = some (.int n)) (hj : ixN xs.length n = some j) (q : Q (.nx (ρ.set i (some (.ow (.list (xs.set j d))))))) : R (sPut i g f) ρ Q :=
  ⟨_, by unfold sPut; rw [h]; simp only [Option.bind_some, hs, hg, asI, hj], q⟩
theorem R_frz (h : R t (frz i ρ) Q) : R (sFrz i t) ρ Q := h
theorem R_for {w : PEnv → Option (List D)} {t : D → PEnv → Option PEnv} {xs : List D} (h : w ρ = some xs) (I : Nat → PEnv → Prop) (h0 : I 0 ρ)
    (step : ∀ i x ρ, xs[i]? = some x → I i ρ → ∃ ρ1, t x ρ = some ρ1 ∧ R s ρ1 fun o => match o with
      | .nx ρ2 => I (i + 1) ρ2
      | .ct ρ2 => I (i + 1) ρ2
      | .bk ρ2 => Q (.nx ρ2)
      | o => Q o) (done : ∀ ρ, I xs.length ρ → Q (.nx ρ)) : R (sFor w t s) ρ Q := by
  have go : ∀ (k : Nat) (ρ : PEnv), k ≤ xs.length → I (xs.length - k) ρ → ∃ o, forL t s (xs.drop (xs.length - k)) ρ = some o ∧ Q o := by
    intro k
    induction k with
    | zero =>
      intro ρ _ hI
      rw [Nat.sub_zero, List.drop_length]
      exact ⟨_, rfl, done ρ hI⟩
    | succ k ih =>
      intro ρ hk hI
      have hlt : xs.length - (k + 1) < xs.length := by omega
      obtain ⟨ρ1, h1, o, h2, h3⟩ := step _ xs[xs.length - (k + 1)] ρ (by simp [hlt]) hI
      rw [List.drop_eq_getElem_cons hlt]
      have e : xs.length - (k + 1) + 1 = xs.length - k := by omega
      rw [e] at h3 ⊢
      unfold forL
      rw [h1, Option.bind_some, h2, Option.bind_some]
      cases o with
      | nx ρ2 => exact ih ρ2 (by omega) h3
      | ct ρ2 => exact ih ρ2 (by omega) h3
      | bk ρ2 => exact ⟨_, rfl, h3⟩
      | rt d => exact ⟨_, rfl, h3⟩
      | rn d => exact ⟨_, rfl, h3⟩
  obtain ⟨o, h1, h2⟩ := go xs.length ρ (Nat.le_refl _) (by rw [Nat.sub_self]; exact h0)
  rw [Nat.sub_self, List.drop_zero] at h1
  exact ⟨o, by unfold sFor; rw [h]; exact h1, h2⟩
theorem R_wh {n : PEnv → Nat} (I : Nat → PEnv → Prop) (h0 : I (n ρ) ρ)
    (step : ∀ m ρ, I m ρ → ∃ b, u ρ = some b ∧ (b = false → Q (.nx ρ)) ∧ (b = true → 0 < m ∧ R s ρ fun o => match o with
      | .nx ρ2 => ∃ m', m' < m ∧ I m' ρ2
      | .ct ρ2 => ∃ m', m' < m ∧ I m' ρ2
      | .bk ρ2 => Q (.nx ρ2)
      | o => Q o)) (hn : 0 < n ρ) (big : ∀ m ρ, I m ρ → I m ρ) : R (sWh (fun ρ => n ρ + 1) u s) ρ Q := by
  have go : ∀ (k m : Nat) (ρ : PEnv), m ≤ k → I m ρ → ∃ o, whL u s (k + 1) ρ = some o ∧ Q o := by
    intro k
    induction k with
    | zero =>
      intro m ρ hm hI
      obtain ⟨b, h1, h2, h3⟩ := step m ρ hI
      cases b with
      | false => exact ⟨_, by unfold whL; rw [h1]; rfl, h2 rfl⟩
      | true => have := (h3 rfl).1; omega
    | succ k ih =>
      intro m ρ hm hI
      obtain ⟨b, h1, h2, h3⟩ := step m ρ hI
      cases b with
      | false => exact ⟨_, by unfold whL; rw [h1]; rfl, h2 rfl⟩
      | true =>
        obtain ⟨_, o, h4, h5⟩ := h3 rfl
        have e : whL u s (k + 1 + 1) ρ = (s ρ).bind fun o => match o with
          | .nx ρ2 => whL u s (k + 1) ρ2
          | .ct ρ2 => whL u s (k + 1) ρ2
          | .bk ρ2 => some (.nx ρ2)
          | o => some o := by
          show (u ρ).bind _ = _
          rw [h1]
          rfl
        rw [e, h4, Option.bind_some]
        cases o with
        | nx ρ2 => obtain ⟨m', hm', hI'⟩ := h5; exact ih m' ρ2 (by omega) hI'
        | ct ρ2 => obtain ⟨m', hm', hI'⟩ := h5; exact ih m' ρ2 (by omega) hI'
        | bk ρ2 => exact ⟨_, rfl, h5⟩
        | rt d => exact ⟨_, rfl, h5⟩
        | rn d => exact ⟨_, rfl, h5⟩
  exact go (n ρ) (n ρ) ρ (Nat.le_refl _) h0
/-- a def's value -/
def isV (d : D) : Out → Prop
  | .rt e => e = d
  | .rn e => e = d
  | .nx _ => d = .none
  | _ => False
theorem runFn_of {n m : Nat} {b : PEnv → Option Out} {ds : List D} (hl : ds.length = m) (h : R b (startE n ds) (isV d)) : runFn n m b ds = some d := by
  obtain ⟨o, h1, h2⟩ := h
  unfold runFn
  rw [if_pos hl, h1, Option.bind_some]
  cases o with
  | rt e => exact congrArg some h2
  | rn e => exact congrArg some h2
  | nx ρ => exact congrArg some (show d = .none from h2).symm
  | bk ρ => exact h2.elim
  | ct ρ => exact h2.elim
end
/-! ### comprehensions -/
theorem compL_mapF {β : Type} {t : D → PEnv → Option PEnv} {u : PEnv → Option Bool} {f : PEnv → Option D} {ρ : PEnv} (en : β → D) (p : β → Bool) (g : β → D) :
    ∀ {bs : List β}, (∀ b ∈ bs, ∃ ρ1, t (en b) ρ = some ρ1 ∧ u ρ1 = some (p b) ∧ (p b = true → f ρ1 = some (g b))) → compL t u f ρ (bs.map en) = some ((bs.filter p).map g)
  | [], _ => rfl
  | b :: bs, h => by
    obtain ⟨ρ1, h1, h2, h3⟩ := h b List.mem_cons_self
    have ih := compL_mapF (t := t) (u := u) (f := f) (ρ := ρ) en p g (bs := bs) fun b' hb => h b' (List.mem_cons_of_mem _ hb)
    rw [List.map_cons]
    unfold compL
    rw [h1, Option.bind_some, h2, Option.bind_some]
    cases e : p b with
    | true => rw [if_pos rfl, h3 e, Option.bind_some, ih, List.filter_cons_of_pos e]; rfl
    | false => rw [if_neg (by simp), ih, List.filter_cons_of_neg (by simp [e])]
theorem compL_map {β : Type} {t : D → PEnv → Option PEnv} {f : PEnv → Option D} {ρ : PEnv} (en : β → D) (g : β → D) {bs : List β} (h : ∀ b ∈ bs, ∃ ρ1, t (en b) ρ = some ρ1 ∧ f ρ1 = some (g b)) : compL t uYes f ρ (bs.map en) = some (bs.map g) := by
  have := compL_mapF (t := t) (u := uYes) (f := f) (ρ := ρ) en (fun _ => true) g (bs := bs) fun b hb => let ⟨ρ1, h1, h2⟩ := h b hb; ⟨ρ1, h1, rfl, fun _ => h2⟩
  rw [this, List.filter_eq_self.mpr (fun _ _ => rfl)]
theorem dComp_of {vs : List Nat} {w : PEnv → Option (List D)} {t : D → PEnv → Option PEnv} {u : PEnv → Option Bool} {f : PEnv → Option D} {ρ : PEnv} {xs ys : List D} (h1 : w ρ = some xs) (h2 : compL t u f (wipeE ρ vs) xs = some ys) : dComp vs w t u f ρ = some (.list ys) := by
  unfold dComp
  rw [h1, Option.bind_some, h2]
  rfl
theorem fRng1_of {f : PEnv → Option D} {ρ : PEnv} {n : Int} (h : f ρ = some (.int n)) (h1 : -1000000 ≤ n ∧ n ≤ 1000000) : fRng1 f ρ = some (rangeD 0 n.toNat) := by
  unfold fRng1
  rw [h]
  show (if _ then _ else _) = _
  rw [if_pos h1]
theorem fSeq_list {f : PEnv → Option D} {ρ : PEnv} {xs : List D} (h : f ρ = some (.list xs)) : fSeq f ρ = some xs := by unfold fSeq; rw [h]; rfl
theorem fSeq_tup {f : PEnv → Option D} {ρ : PEnv} {xs : List D} (h : f ρ = some (.tuple xs)) : fSeq f ρ = some xs := by unfold fSeq; rw [h]; rfl
end PL
namespace PL
open PySem PySem.Spec L2
open PyProof.Rows hiding St
open PySem.W (alike alikeAll dataLt)

section
variable {ρ : PEnv} {f g h : PEnv → Option D} {u v : PEnv → Option Bool} {fs : PEnv → Option (List D)} {s t : PEnv → Option Out} {o o' : D → D → Option D} {p : D → Option D}
@[simp] theorem ev_dV (i : Nat) : dV i ρ = match ρ[i]? with
  | some (some (.sh d)) => some d
  | _ => none := rfl
@[simp] theorem ev_dB (i : Nat) : dB i ρ = match ρ[i]? with
  | some (some (.sh d)) => some d
  | some (some (.ow d)) => some d
  | _ => none := rfl
@[simp] theorem ev_dC (d : D) : dC d ρ = some d := rfl
@[simp] theorem ev_d1 : d1 p f ρ = (f ρ).bind p := rfl
@[simp] theorem ev_d2 : d2 o f g ρ = (f ρ).bind fun x => (g ρ).bind fun y => o x y := rfl
@[simp] theorem ev_fB : fB f ρ = (f ρ).bind asB := rfl
@[simp] theorem ev_fTru : fTru f ρ = (f ρ).bind oTru := rfl
@[simp] theorem ev_fNot : fNot u ρ = (u ρ).bind fun b => some (!b) := rfl
@[simp] theorem ev_fAnd : fAnd u v ρ = (u ρ).bind fun b => if b then v ρ else some false := rfl
@[simp] theorem ev_fOr : fOr u v ρ = (u ρ).bind fun b => if b then some true else v ρ := rfl
@[simp] theorem ev_dAnd : dAnd f g ρ = (f ρ).bind fun x => (asB x).bind fun b => if b then g ρ else some (.bool false) := rfl
@[simp] theorem ev_dOr : dOr f g ρ = (f ρ).bind fun x => (asB x).bind fun b => if b then some (.bool true) else g ρ := rfl
@[simp] theorem ev_dNot : dNot f ρ = (f ρ).bind fun x => (asB x).bind fun b => some (.bool (!b)) := rfl
@[simp] theorem ev_dIf : dIf u f g ρ = (u ρ).bind fun b => if b then f ρ else g ρ := rfl
@[simp] theorem ev_dNil : dNil ρ = some [] := rfl
@[simp] theorem ev_dCons : dCons f fs ρ = (f ρ).bind fun x => (fs ρ).bind fun xs => some (x :: xs) := rfl
@[simp] theorem ev_dTup : dTup fs ρ = (fs ρ).bind fun xs => if xs.length ≤ lim then some (.tuple xs) else none := rfl
@[simp] theorem ev_dLst : dLst fs ρ = (fs ρ).bind fun xs => if xs.length ≤ lim then some (.list xs) else none := rfl
@[simp] theorem ev_dCall (fn : List D → Option D) : dCall fn fs ρ = (fs ρ).bind fn := rfl
@[simp] theorem ev_dChain : dChain o o' f g h ρ = (f ρ).bind fun x => (g ρ).bind fun y => (o x y).bind fun z => (asB z).bind fun k => if k then (h ρ).bind fun w => o' y w else some (.bool false) := rfl
@[simp] theorem ev_sNil : sNil ρ = some (.nx ρ) := rfl
@[simp] theorem ev_sBk : sBk ρ = some (.bk ρ) := rfl
@[simp] theorem ev_sCt : sCt ρ = some (.ct ρ) := rfl
@[simp] theorem ev_sSeq : sSeq s t ρ = (s ρ).bind fun o => match o with
  | .nx ρ' => t ρ'
  | o => some o := rfl
@[simp] theorem ev_sIf : sIf u s t ρ = (u ρ).bind fun b => if b then s ρ else t ρ := rfl
@[simp] theorem ev_sRet : sRet f ρ = (f ρ).bind fun d => some (.rt d) := rfl
@[simp] theorem ev_sRetN : sRetN f ρ = (f ρ).bind fun d => some (.rn d) := rfl
@[simp] theorem ev_sRetV (i : Nat) : sRetV i ρ = match ρ[i]? with
  | some (some (.sh d)) => some (.rt d)
  | some (some (.ow d)) => some (.rn d)
  | _ => none := rfl
@[simp] theorem ev_sSet (i : Nat) : sSet i f ρ = (f ρ).bind fun d => some (.nx (ρ.set i (some (.sh d)))) := rfl
@[simp] theorem ev_sSetN (i : Nat) : sSetN i f ρ = (f ρ).bind fun d => some (.nx (ρ.set i (some (.ow d)))) := rfl
@[simp] theorem ev_sFrz (i : Nat) : sFrz i t ρ = t (frz i ρ) := rfl
@[simp] theorem ev_sApp (i : Nat) : sApp i f ρ = (f ρ).bind fun d => match ρ[i]? with
  | some (some (.ow (.list xs))) => if xs.length < lim then some (.nx (ρ.set i (some (.ow (.list (xs ++ [d])))))) else none
  | _ => none := rfl
@[simp] theorem ev_tgN (i : Nat) (d : D) : tgN i d ρ = some (ρ.set i (some (.sh d))) := rfl
@[simp] theorem ev_uYes : uYes ρ = some true := rfl
@[simp] theorem ev_dNo : dNo ρ = some none := rfl
@[simp] theorem ev_dPart : dPart f ρ = (f ρ).bind fun d => (asI d).bind fun i => some (some i) := rfl
end
@[simp] theorem ev_asB (b : Bool) : asB (.bool b) = some b := rfl
@[simp] theorem ev_asI (b : Int) : asI (.int b) = some b := rfl
@[simp] theorem ev_oTru_bool (b : Bool) : oTru (.bool b) = some b := rfl
@[simp] theorem ev_oTru_int (i : Int) : oTru (.int i) = some (i != 0) := rfl
@[simp] theorem ev_oTru_none : oTru .none = some false := rfl
@[simp] theorem ev_oTru_list (xs : List D) : oTru (.list xs) = some (!xs.isEmpty) := rfl
@[simp] theorem ev_oTru_tup (xs : List D) : oTru (.tuple xs) = some (!xs.isEmpty) := rfl
@[simp] theorem ev_oInt (i : Int) : oInt (.int i) = some (.int i) := rfl
@[simp] theorem ev_oAbs (i : Int) : oAbs (.int i) = some (.int (if i < 0 then -i else i)) := rfl
@[simp] theorem ev_oMax2 (i j : Int) : oMax2 (.int i) (.int j) = some (.int (if j > i then j else i)) := rfl
@[simp] theorem ev_oMin2 (i j : Int) : oMin2 (.int i) (.int j) = some (.int (if j < i then j else i)) := rfl
@[simp] theorem ev_oLen_list (xs : List D) : oLen (.list xs) = some (.int xs.length) := rfl
@[simp] theorem ev_oLen_tup (xs : List D) : oLen (.tuple xs) = some (.int xs.length) := rfl
@[simp] theorem ev_oTuple_list (xs : List D) : oTuple (.list xs) = some (.tuple xs) := rfl
@[simp] theorem ev_oTuple_tup (xs : List D) : oTuple (.tuple xs) = some (.tuple xs) := rfl
@[simp] theorem ev_oList_list (xs : List D) : oList (.list xs) = some (.list xs) := rfl
@[simp] theorem ev_oList_tup (xs : List D) : oList (.tuple xs) = some (.list xs) := rfl
@[simp] theorem ev_oNeg (i : Int) : oNeg (.int i) = some (.int (-i)) := rfl
@[simp] theorem ev_oIs (d : D) : oIs d .none = some (.bool (isNone d)) := rfl
@[simp] theorem ev_oIsNot (d : D) : oIsNot d .none = some (.bool (!isNone d)) := rfl
@[simp] theorem ev_isNone_none : isNone .none = true := rfl
@[simp] theorem ev_isNone_int (i : Int) : isNone (.int i) = false := rfl
@[simp] theorem ev_isNone_tup (i : List D) : isNone (.tuple i) = false := rfl
@[simp] theorem ev_isNone_list (i : List D) : isNone (.list i) = false := rfl
@[simp] theorem ev_isNone_str (i : Str) : isNone (.str i) = false := rfl
@[simp] theorem ev_isNone_bool (i : Bool) : isNone (.bool i) = false := rfl
@[simp] theorem ev_isi_int (T : Ty) (i : Int) : oIsi T (.int i) = some (.bool (isi T (.int i))) := rfl
@[simp] theorem ev_isi_bool (T : Ty) (i : Bool) : oIsi T (.bool i) = some (.bool (isi T (.bool i))) := rfl
@[simp] theorem ev_isi_str (T : Ty) (i : Str) : oIsi T (.str i) = some (.bool (isi T (.str i))) := rfl
@[simp] theorem ev_isi_tup (T : Ty) (i : List D) : oIsi T (.tuple i) = some (.bool (isi T (.tuple i))) := rfl
@[simp] theorem ev_isi_list (T : Ty) (i : List D) : oIsi T (.list i) = some (.bool (isi T (.list i))) := rfl
@[simp] theorem ev_isi_none (T : Ty) : oIsi T .none = some (.bool (isi T .none)) := rfl
@[simp] theorem ix_0 {a : D} {l : List D} : oIx (.tuple (a :: l)) (.int 0) = some a := by rw [oIx_tup (by decide) (by simp)]; rfl
@[simp] theorem ix_1 {a b : D} {l : List D} : oIx (.tuple (a :: b :: l)) (.int 1) = some b := by rw [oIx_tup (by decide) (by simp; omega)]; rfl
@[simp] theorem ix_2 {a b c : D} {l : List D} : oIx (.tuple (a :: b :: c :: l)) (.int 2) = some c := by rw [oIx_tup (by decide) (by simp; omega)]; rfl
@[simp] theorem ix_3 {a b c d : D} {l : List D} : oIx (.tuple (a :: b :: c :: d :: l)) (.int 3) = some d := by rw [oIx_tup (by decide) (by simp; omega)]; rfl
@[simp] theorem ix_4 {a b c d e : D} {l : List D} : oIx (.tuple (a :: b :: c :: d :: e :: l)) (.int 4) = some e := by rw [oIx_tup (by decide) (by simp; omega)]; rfl
@[simp] theorem ixl_0 {a : D} {l : List D} : oIx (.list (a :: l)) (.int 0) = some a := by rw [oIx_list (by decide) (by simp)]; rfl
@[simp] theorem ixl_1 {a b : D} {l : List D} : oIx (.list (a :: b :: l)) (.int 1) = some b := by rw [oIx_list (by decide) (by simp; omega)]; rfl
@[simp] theorem ixl_2 {a b c : D} {l : List D} : oIx (.list (a :: b :: c :: l)) (.int 2) = some c := by rw [oIx_list (by decide) (by simp; omega)]; rfl
theorem length_insU {x : Int} : ∀ {l : List Int}, (insU x l).length ≤ l.length + 1
  | [] => Nat.le_refl _
  | y :: r => by
    have := @length_insU x r
    unfold insU
    split
    · simp
    · split
      · simp
      · simp only [List.length_cons]; omega
theorem length_sdd : ∀ {l : List Int}, (sdd l).length ≤ l.length
  | [] => Nat.le_refl _
  | x :: r => by
    have := @length_sdd r
    have := @length_insU x (sdd r)
    unfold sdd
    simp only [List.length_cons]; omega
end PL
namespace Law
open PySem PySem.Spec L2 PL
open PyProof.Rows hiding St
def topS (i : Nat) : Stmt := PySem.Challenge.pw_featurehold_k74_whole_answers_and_causes.main.body.getD i (.Pass ⟨0, 0, 0, 0⟩)
abbrev s_taken_question : Stmt := topS 1
abbrev s_answer_at : Stmt := topS 2
abbrev s_pegs_read : Stmt := topS 3
abbrev s_told_cause : Stmt := topS 4
abbrev s_law_cell : Stmt := topS 6
abbrev s_law_draws : Stmt := topS 7
abbrev s_law_is_integer : Stmt := topS 8
abbrev s_law_is : Stmt := topS 9
abbrev s_law_answer : Stmt := topS 10
abbrev s_law_read : Stmt := topS 11
abbrev s_law_questions : Stmt := topS 12
abbrev s_law_judged : Stmt := topS 13
abbrev s_law : Stmt := topS 14
structure Bl (mg : Str → Option Value) : Prop where
  z_abs : mg "abs" = none
  z_all : mg "all" = none
  z_bool : mg "bool" = none
  z_int : mg "int" = none
  z_isinstance : mg "isinstance" = none
  z_len : mg "len" = none
  z_list : mg "list" = none
  z_max : mg "max" = none
  z_range : mg "range" = none
  z_set : mg "set" = none
  z_sorted : mg "sorted" = none
  z_str : mg "str" = none
  z_tuple : mg "tuple" = none
abbrev N_taken_question : List Str := ["board", "question"]
theorem sc_taken_question : FnScope N_taken_question ["board", "question"] (defScope s_taken_question) := ⟨rfl, rfl, rfl, by decide +kernel, rfl, by decide +kernel, by decide +kernel⟩
abbrev N_answer_at : List Str := ["board", "question", "one", "other"]
theorem sc_answer_at : FnScope N_answer_at ["board", "question"] (defScope s_answer_at) := ⟨rfl, rfl, rfl, by decide +kernel, rfl, by decide +kernel, by decide +kernel⟩
abbrev N_pegs_read : List Str := ["board", "question", "second"]
theorem sc_pegs_read : FnScope N_pegs_read ["board", "question"] (defScope s_pegs_read) := ⟨rfl, rfl, rfl, by decide +kernel, rfl, by decide +kernel, by decide +kernel⟩
abbrev N_told_cause : List Str := ["first", "second", "question", "peg"]
theorem sc_told_cause : FnScope N_told_cause ["first", "second", "question"] (defScope s_told_cause) := ⟨rfl, rfl, rfl, by decide +kernel, rfl, by decide +kernel, by decide +kernel⟩
abbrev N_law_cell : List Str := ["script", "k"]
theorem sc_law_cell : FnScope N_law_cell ["script", "k"] (defScope s_law_cell) := ⟨rfl, rfl, rfl, by decide +kernel, rfl, by decide +kernel, by decide +kernel⟩
abbrev N_law_draws : List Str := ["cell", "count", "rest", "digits", "seed", "draws", "k", "mixed"]
theorem sc_law_draws : FnScope N_law_draws ["cell", "count"] (defScope s_law_draws) := ⟨rfl, rfl, rfl, by decide +kernel, rfl, by decide +kernel, by decide +kernel⟩
abbrev N_law_is_integer : List Str := ["value"]
theorem sc_law_is_integer : FnScope N_law_is_integer ["value"] (defScope s_law_is_integer) := ⟨rfl, rfl, rfl, by decide +kernel, rfl, by decide +kernel, by decide +kernel⟩
abbrev N_law_is : List Str := ["value", "due", "at"]
theorem sc_law_is : FnScope N_law_is ["value", "due"] (defScope s_law_is) := ⟨rfl, rfl, rfl, by decide +kernel, rfl, by decide +kernel, by decide +kernel⟩
abbrev N_law_answer : List Str := ["board", "question", "one", "other"]
theorem sc_law_answer : FnScope N_law_answer ["board", "question"] (defScope s_law_answer) := ⟨rfl, rfl, rfl, by decide +kernel, rfl, by decide +kernel, by decide +kernel⟩
abbrev N_law_read : List Str := ["board", "question", "second"]
theorem sc_law_read : FnScope N_law_read ["board", "question"] (defScope s_law_read) := ⟨rfl, rfl, rfl, by decide +kernel, rfl, by decide +kernel, by decide +kernel⟩
abbrev N_law_questions : List Str := ["draws", "n", "size", "pool", "at", "draw", "parts", "depth", "way", "one", "by", "part"]
theorem sc_law_questions : FnScope N_law_questions ["draws", "n", "size"] (defScope s_law_questions) := ⟨rfl, rfl, rfl, by decide +kernel, rfl, by decide +kernel, by decide +kernel⟩
abbrev N_law_judged : List Str := ["first", "second", "question", "pegs", "answer", "causes", "told", "peg"]
theorem sc_law_judged : FnScope N_law_judged ["first", "second", "question"] (defScope s_law_judged) := ⟨rfl, rfl, rfl, by decide +kernel, rfl, by decide +kernel, by decide +kernel⟩
abbrev N_law : List Str := ["script", "k", "draws", "n", "worths", "first", "at", "draw", "boards", "turn", "second", "question"]
theorem sc_law : FnScope N_law ["script"] (defScope s_law) := ⟨rfl, rfl, rfl, by decide +kernel, rfl, by decide +kernel, by decide +kernel⟩
-- the denotations
def b_taken_question (r_taken_question r_answer_at : List D → Option D) : PEnv → Option Out := 
    (sSeq (sRet (dIf (fB (d2 oGt (dCall r_answer_at (dCons (dV 0) (dCons (d2 oIx (dB 1) (dC (.int 1))) dNil))) (dC (.int 0)))) (d2 oIx (dB 1) (dC (.int 2))) (d2 oIx (dB 1) (dC (.int 3))))) sNil)
def b_answer_at (r_taken_question r_answer_at : List D → Option D) : PEnv → Option Out := 
    (sSeq (sIf (fB (d2 oEq (d2 oIx (dB 1) (dC (.int 0))) (dC (.str (Str.ofString "peg"))))) 
      (sSeq (sRet (d2 oIx (dB 0) (d2 oIx (dB 1) (dC (.int 1))))) sNil) sNil) 
    (sSeq (sIf (fB (d2 oEq (d2 oIx (dB 1) (dC (.int 0))) (dC (.str (Str.ofString "pick"))))) 
      (sSeq (sRet (dCall r_answer_at (dCons (dV 0) (dCons (dCall r_taken_question (dCons (dV 0) (dCons (dV 1) dNil))) dNil)))) sNil) sNil) 
    (sSeq (sSet 2 (dCall r_answer_at (dCons (dV 0) (dCons (d2 oIx (dB 1) (dC (.int 1))) dNil)))) 
    (sSeq (sSet 3 (dCall r_answer_at (dCons (dV 0) (dCons (d2 oIx (dB 1) (dC (.int 2))) dNil)))) 
    (sSeq (sRet (dIf (fB (d2 oEq (d2 oIx (dB 1) (dC (.int 0))) (dC (.str (Str.ofString "sum"))))) (d2 oAdd (dB 2) (dB 3)) (d2 oMax2 (dB 2) (dB 3)))) sNil)))))
mutual
def D_taken_question : Nat → List D → Option D
  | 0 => fun _ => none
  | n + 1 => runFn 2 2 (b_taken_question (D_taken_question n) (D_answer_at n))
def D_answer_at : Nat → List D → Option D
  | 0 => fun _ => none
  | n + 1 => runFn 4 2 (b_answer_at (D_taken_question n) (D_answer_at n))
end
def b_pegs_read (r_pegs_read : List D → Option D) : PEnv → Option Out := 
    (sSeq (sIf (fB (d2 oEq (d2 oIx (dB 1) (dC (.int 0))) (dC (.str (Str.ofString "peg"))))) 
      (sSeq (sRet (dTup (dCons (d2 oIx (dB 1) (dC (.int 1))) dNil))) sNil) sNil) 
    (sSeq (sSet 2 (dIf (fB (d2 oEq (d2 oIx (dB 1) (dC (.int 0))) (dC (.str (Str.ofString "pick"))))) (dCall (D_taken_question 40) (dCons (dV 0) (dCons (dV 1) dNil))) (d2 oIx (dB 1) (dC (.int 2))))) 
    (sSeq (sRet (d1 oTuple (d1 oSortSet (d2 oAdd (dCall r_pegs_read (dCons (dV 0) (dCons (d2 oIx (dB 1) (dC (.int 1))) dNil))) (dCall r_pegs_read (dCons (dV 0) (dCons (dV 2) dNil))))))) sNil)))
def D_pegs_read : Nat → List D → Option D
  | 0 => fun _ => none
  | n + 1 => runFn 3 2 (b_pegs_read (D_pegs_read n))
def b_told_cause : PEnv → Option Out := 
    (sSeq (sFor (fSeq (dCall (D_pegs_read 40) (dCons (dV 0) (dCons (dV 2) dNil)))) (tgN 3) 
      (sSeq (sIf (fB (d2 oNe (d2 oIx (dB 0) (dB 3)) (d2 oIx (dB 1) (dB 3)))) 
        (sSeq (sRet (dV 3)) sNil) sNil) sNil)) 
    (sSeq (sRet (dC .none)) sNil))
def D_told_cause : List D → Option D := runFn 4 3 b_told_cause
def b_law_draws : PEnv → Option Out := 
    (sSeq (sSet 2 (d1 oAbs (d1 oInt (dB 0)))) 
    (sSeq (sSet 3 (d2 oGe (dB 2) (d2 oPow (dC (.int 10)) (dC (.int 18))))) 
    (sSeq (sSet 4 (dV 2)) 
    (sSeq (sSetN 5 (dLst dNil)) 
    (sSeq (sFor (fRng1 (dB 1)) (tgN 6) 
      (sSeq (sIf (fAnd (fTru (dB 3)) (fB (d2 oGt (dB 2) (dC (.int 0))))) 
        (sSeq (sApp 5 (d2 oMod (d1 oInt (dB 2)) (dC (.int 5040)))) 
        (sSeq (sSet 2 (d2 oDiv (dB 2) (dC (.int 5040)))) sNil)) 
        (sSeq (sSet 7 (d2 oMod (d1 oInt (d2 oAdd (d2 oAdd (d2 oMul (dB 4) (dC (.int 48271))) (d2 oMul (d2 oAdd (dB 6) (dC (.int 1))) (dC (.int 69621)))) (dC (.int 11)))) (dC (.int 2147483647)))) 
        (sSeq (sSet 7 (d2 oMod (d1 oInt (d2 oAdd (d2 oMul (dB 7) (dB 7)) (d2 oMul (dC (.int 40692)) (d2 oAdd (dB 6) (dC (.int 3)))))) (dC (.int 2147483399)))) 
        (sSeq (sApp 5 (d2 oMod (d1 oInt (d2 oDiv (dB 7) (dC (.int 64)))) (dC (.int 5040)))) sNil)))) sNil)) 
    (sSeq (sRetV 5) sNil))))))
def D_law_draws : List D → Option D := runFn 8 2 b_law_draws
def b_law_is_integer : PEnv → Option Out := 
    (sSeq (sRet (dAnd (d1 (oIsi .int) (dB 0)) (dNot (d1 (oIsi .bool) (dB 0))))) sNil)
def D_law_is_integer : List D → Option D := runFn 1 1 b_law_is_integer
def b_law_is (r_law_is : List D → Option D) : PEnv → Option Out := 
    (sSeq (sIf (fB (d2 oIs (dB 1) (dC .none))) 
      (sSeq (sRet (d2 oIs (dB 0) (dC .none))) sNil) sNil) 
    (sSeq (sIf (fTru (d1 (oIsi .bool) (dB 1))) 
      (sSeq (sRet (dAnd (d1 (oIsi .bool) (dB 0)) (d2 oEq (dB 0) (dB 1)))) sNil) sNil) 
    (sSeq (sIf (fTru (d1 (oIsi .int) (dB 1))) 
      (sSeq (sRet (dAnd (dCall D_law_is_integer (dCons (dV 0) dNil)) (d2 oEq (dB 0) (dB 1)))) sNil) sNil) 
    (sSeq (sIf (fTru (d1 (oIsi .str) (dB 1))) 
      (sSeq (sRet (dAnd (d1 (oIsi .str) (dB 0)) (d2 oEq (dB 0) (dB 1)))) sNil) sNil) 
    (sSeq (sIf (fOr (fNot (fTru (d1 (oIsi .tuple) (dB 0)))) (fB (d2 oNe (d1 oLen (dB 0)) (d1 oLen (dB 1))))) 
      (sSeq (sRet (dC (.bool false))) sNil) sNil) 
    (sSeq (sRet (d1 oAll (dComp [2] (fRng1 (d1 oLen (dB 1))) (tgN 2) uYes (dCall r_law_is (dCons (d2 oIx (dB 0) (dB 2)) (dCons (d2 oIx (dB 1) (dB 2)) dNil)))))) sNil))))))
def D_law_is : Nat → List D → Option D
  | 0 => fun _ => none
  | n + 1 => runFn 3 2 (b_law_is (D_law_is n))
def b_law_answer (r_law_answer : List D → Option D) : PEnv → Option Out := 
    (sSeq (sIf (fB (d2 oEq (d2 oIx (dB 1) (dC (.int 0))) (dC (.str (Str.ofString "peg"))))) 
      (sSeq (sRet (d2 oIx (dB 0) (d2 oIx (dB 1) (dC (.int 1))))) sNil) sNil) 
    (sSeq (sIf (fB (d2 oEq (d2 oIx (dB 1) (dC (.int 0))) (dC (.str (Str.ofString "pick"))))) 
      (sSeq (sRet (dCall r_law_answer (dCons (dV 0) (dCons (dIf (fB (d2 oGt (dCall r_law_answer (dCons (dV 0) (dCons (d2 oIx (dB 1) (dC (.int 1))) dNil))) (dC (.int 0)))) (d2 oIx (dB 1) (dC (.int 2))) (d2 oIx (dB 1) (dC (.int 3)))) dNil)))) sNil) sNil) 
    (sSeq (sSet 2 (dCall r_law_answer (dCons (dV 0) (dCons (d2 oIx (dB 1) (dC (.int 1))) dNil)))) 
    (sSeq (sSet 3 (dCall r_law_answer (dCons (dV 0) (dCons (d2 oIx (dB 1) (dC (.int 2))) dNil)))) 
    (sSeq (sRet (dIf (fB (d2 oEq (d2 oIx (dB 1) (dC (.int 0))) (dC (.str (Str.ofString "sum"))))) (d2 oAdd (dB 2) (dB 3)) (d2 oMax2 (dB 2) (dB 3)))) sNil)))))
def D_law_answer : Nat → List D → Option D
  | 0 => fun _ => none
  | n + 1 => runFn 4 2 (b_law_answer (D_law_answer n))
def b_law_read (r_law_read : List D → Option D) : PEnv → Option Out := 
    (sSeq (sIf (fB (d2 oEq (d2 oIx (dB 1) (dC (.int 0))) (dC (.str (Str.ofString "peg"))))) 
      (sSeq (sRetN (dLst (dCons (d2 oIx (dB 1) (dC (.int 1))) dNil))) sNil) sNil) 
    (sSeq (sIf (fB (d2 oEq (d2 oIx (dB 1) (dC (.int 0))) (dC (.str (Str.ofString "pick"))))) 
      (sSeq (sSet 2 (dIf (fB (d2 oGt (dCall (D_law_answer 40) (dCons (dV 0) (dCons (d2 oIx (dB 1) (dC (.int 1))) dNil))) (dC (.int 0)))) (d2 oIx (dB 1) (dC (.int 2))) (d2 oIx (dB 1) (dC (.int 3))))) 
      (sSeq (sRet (d2 oAdd (dCall r_law_read (dCons (dV 0) (dCons (d2 oIx (dB 1) (dC (.int 1))) dNil))) (dCall r_law_read (dCons (dV 0) (dCons (dV 2) dNil))))) sNil)) sNil) 
    (sSeq (sRet (d2 oAdd (dCall r_law_read (dCons (dV 0) (dCons (d2 oIx (dB 1) (dC (.int 1))) dNil))) (dCall r_law_read (dCons (dV 0) (dCons (d2 oIx (dB 1) (dC (.int 2))) dNil))))) sNil)))
def D_law_read : Nat → List D → Option D
  | 0 => fun _ => none
  | n + 1 => runFn 3 2 (b_law_read (D_law_read n))
def b_law_questions : PEnv → Option Out := 
    (sSeq (sSetN 3 (dLst (dCons (dTup (dCons (dTup (dCons (dC (.str (Str.ofString "peg"))) (dCons (d2 oMod (d1 oInt (d2 oIx (dB 0) (dC (.int 0)))) (dB 1)) dNil))) (dCons (dC (.int 0)) dNil))) (dCons (dTup (dCons (dTup (dCons (dC (.str (Str.ofString "peg"))) (dCons (d2 oMod (d1 oInt (d2 oIx (dB 0) (dC (.int 1)))) (dB 1)) dNil))) (dCons (dC (.int 0)) dNil))) (dCons (dTup (dCons (dTup (dCons (dC (.str (Str.ofString "peg"))) (dCons (d2 oMod (d1 oInt (d2 oIx (dB 0) (dC (.int 2)))) (dB 1)) dNil))) (dCons (dC (.int 0)) dNil))) dNil))))) 
    (sSeq (sFor (fRng1 (dB 2)) (tgN 4) 
      (sSeq (sSet 5 (d1 oInt (d2 oIx (dB 0) (d2 oAdd (dC (.int 3)) (dB 4))))) 
      (sSeq (sSet 6 (dComp [10] (fSeq (dTup (dCons (dC (.int 1)) (dCons (dC (.int 13)) (dCons (dC (.int 163)) dNil))))) (tgN 10) uYes (d2 oIx (dB 3) (d2 oMod (d2 oDiv (dB 5) (dB 10)) (d1 oLen (dB 3)))))) 
      (sSeq (sSet 7 (d2 oAdd (dC (.int 1)) (d1 oMaxL (dComp [11] (fSeq (dB 6)) (tgN 11) uYes (d2 oIx (dB 11) (dC (.int 1))))))) 
      (sSeq (sSet 8 (d2 oMod (dB 5) (dC (.int 5)))) 
      (sSeq (sIf (fB (d2 oGt (dB 7) (dC (.int 4)))) 
        (sSeq (sApp 3 (dTup (dCons (dTup (dCons (dC (.str (Str.ofString "peg"))) (dCons (d2 oMod (d2 oDiv (dB 5) (dC (.int 5))) (dB 1)) dNil))) (dCons (dC (.int 0)) dNil)))) sNil) 
        (sSeq (sIf (fB (d2 oEq (dB 8) (dC (.int 0)))) 
          (sSeq (sApp 3 (dTup (dCons (dTup (dCons (dC (.str (Str.ofString "sum"))) (dCons (d2 oIx (d2 oIx (dB 6) (dC (.int 0))) (dC (.int 0))) (dCons (d2 oIx (d2 oIx (dB 6) (dC (.int 1))) (dC (.int 0))) dNil)))) (dCons (dV 7) dNil)))) sNil) 
          (sSeq (sIf (fB (d2 oEq (dB 8) (dC (.int 1)))) 
            (sSeq (sApp 3 (dTup (dCons (dTup (dCons (dC (.str (Str.ofString "most"))) (dCons (d2 oIx (d2 oIx (dB 6) (dC (.int 0))) (dC (.int 0))) (dCons (d2 oIx (d2 oIx (dB 6) (dC (.int 1))) (dC (.int 0))) dNil)))) (dCons (dV 7) dNil)))) sNil) 
            (sSeq (sApp 3 (dTup (dCons (dTup (dCons (dC (.str (Str.ofString "pick"))) (dCons (d2 oIx (d2 oIx (dB 6) (dC (.int 0))) (dC (.int 0))) (dCons (d2 oIx (d2 oIx (dB 6) (dC (.int 1))) (dC (.int 0))) (dCons (d2 oIx (d2 oIx (dB 6) (dC (.int 2))) (dC (.int 0))) dNil))))) (dCons (dV 7) dNil)))) sNil)) sNil)) sNil)) sNil)))))) 
    (sSeq (sRetN (dComp [9, 7] (fSeq (dB 3)) (tgT 2 (tgCons (tgN 9) (tgCons (tgN 7) tgNil))) uYes (dV 9))) sNil)))
def D_law_questions : List D → Option D := runFn 12 3 b_law_questions
def b_law_judged : PEnv → Option Out := 
    (sSeq (sSet 3 (d1 oTuple (d1 oSortSet (dCall (D_law_read 40) (dCons (dV 0) (dCons (dV 2) dNil)))))) 
    (sSeq (sSet 4 (dCall (D_law_answer 40) (dCons (dV 0) (dCons (dV 2) dNil)))) 
    (sSeq (sIf (fOr (fNot (fTru (dCall (D_law_is 40) (dCons (dCall (D_answer_at 40) (dCons (dV 0) (dCons (dV 2) dNil))) (dCons (dV 4) dNil))))) (fNot (fTru (dCall (D_law_is 40) (dCons (dCall (D_pegs_read 40) (dCons (dV 0) (dCons (dV 2) dNil))) (dCons (dV 3) dNil)))))) 
      (sSeq (sRet (dC (.bool false))) sNil) sNil) 
    (sSeq (sSet 5 (dComp [7] (fSeq (dB 3)) (tgN 7) (fB (d2 oNe (d2 oIx (dB 0) (dB 7)) (d2 oIx (dB 1) (dB 7)))) (dV 7))) 
    (sSeq (sSet 6 (dCall D_told_cause (dCons (dV 0) (dCons (dV 1) (dCons (dV 2) dNil))))) 
    (sSeq (sIf (fNot (fTru (dCall (D_law_is 40) (dCons (dV 6) (dCons (dIf (fB (d2 oGt (d1 oLen (dB 5)) (dC (.int 0)))) (d2 oIx (dB 5) (dC (.int 0))) (dC .none)) dNil))))) 
      (sSeq (sRet (dC (.bool false))) sNil) sNil) 
    (sSeq (sIf (fB (d2 oIs (dB 6) (dC .none))) 
      (sSeq (sRet (dAnd (dCall (D_law_is 40) (dCons (dCall (D_answer_at 40) (dCons (dV 1) (dCons (dV 2) dNil))) (dCons (dV 4) dNil))) (dCall (D_law_is 40) (dCons (dCall (D_pegs_read 40) (dCons (dV 1) (dCons (dV 2) dNil))) (dCons (dV 3) dNil))))) sNil) sNil) 
    (sSeq (sRet (dCall (D_law_is 40) (dCons (dCall (D_answer_at 40) (dCons (dV 1) (dCons (dV 2) dNil))) (dCons (dCall (D_law_answer 40) (dCons (dV 1) (dCons (dV 2) dNil))) dNil)))) sNil))))))))
def D_law_judged : List D → Option D := runFn 8 3 b_law_judged
def b_law : PEnv → Option Out := 
    (sSeq (sFor (fRng1 (dC (.int 2))) (tgN 1) 
      (sSeq (sSet 2 (dCall D_law_draws (dCons (dCell 0 (dB 1)) (dCons (dC (.int 40)) dNil)))) 
      (sSeq (sSet 3 (d2 oIx (dTup (dCons (dC (.int 4)) (dCons (dC (.int 6)) (dCons (dC (.int 3)) (dCons (dC (.int 5)) (dCons (dC (.int 2)) (dCons (dC (.int 1)) dNil))))))) (d2 oMod (d1 oInt (d2 oIx (dB 2) (dC (.int 0)))) (dC (.int 6))))) 
      (sSeq (sSet 4 (d2 oIx (dTup (dCons (dTup (dCons (d2 oSub (dC (.int 0)) (dC (.int 1))) (dCons (dC (.int 0)) (dCons (dC (.int 1)) (dCons (dC (.int 2)) dNil))))) (dCons (dTup (dCons (d2 oSub (dC (.int 0)) (dC (.int 1000))) (dCons (dC (.int 1000)) (dCons (dC (.int 0)) (dCons (dC (.int 3)) dNil))))) dNil))) (d2 oMod (d1 oInt (d2 oIx (dB 2) (dC (.int 1)))) (dC (.int 2))))) 
      (sSeq (sSetN 5 (dLst dNil)) 
      (sSeq (sFor (fRng1 (dB 3)) (tgN 6) 
        (sSeq (sSet 7 (d1 oInt (d2 oIx (dB 2) (d2 oAdd (dC (.int 2)) (dB 6))))) 
        (sSeq (sApp 5 (dIf (fB (d2 oGt (d2 oMod (d2 oDiv (dB 7) (dC (.int 4))) (dC (.int 3))) (dC (.int 0)))) (d2 oIx (dB 4) (d2 oMod (dB 7) (dC (.int 4)))) (d2 oSub (d2 oMod (d2 oDiv (dB 7) (dC (.int 12))) (dC (.int 401))) (dC (.int 200))))) sNil))) 
      (sSeq (sSetN 8 (dLst (dCons (d1 oTuple (dB 5)) dNil))) 
      (sSeq (sFor (fRng1 (dC (.int 4))) (tgN 9) 
        (sSeq (sSetN 10 (d1 oList (dB 5))) 
        (sSeq (sFor (fRng1 (dB 3)) (tgN 6) 
          (sSeq (sSet 7 (d2 oDiv (d1 oInt (d2 oIx (dB 2) (d2 oAdd (d2 oAdd (dC (.int 8)) (d2 oMul (dB 9) (dC (.int 2)))) (d2 oMod (dB 6) (dC (.int 2)))))) (d2 oIx (dTup (dCons (dC (.int 1)) (dCons (dC (.int 2)) (dCons (dC (.int 4)) (dCons (dC (.int 8)) (dCons (dC (.int 16)) (dCons (dC (.int 32)) dNil))))))) (dB 6)))) 
          (sSeq (sIf (fB (d2 oEq (d2 oMod (dB 7) (d2 oAdd (dC (.int 2)) (dB 9))) (dC (.int 0)))) 
            (sSeq (sPut 10 (dV 6) (d2 oIx (dTup (dCons (d2 oSub (dC (.int 0)) (d2 oIx (dB 10) (dB 6))) (dCons (d2 oIx (dB 4) (d2 oMod (d2 oDiv (dB 7) (dC (.int 3))) (dC (.int 4)))) dNil))) (d2 oMod (d2 oDiv (dB 7) (dC (.int 12))) (dC (.int 2))))) sNil) sNil) sNil))) 
        (sSeq (sApp 8 (d1 oTuple (dB 10))) sNil)))) (sFrz 8 
      (sSeq (sFor (fSeq (dCall D_law_questions (dCons (dSl oSl (dB 2) (dPart (dC (.int 16))) dNo) (dCons (dV 3) (dCons (dC (.int 14)) dNil))))) (tgN 11) 
        (sSeq (sFor (fSeq (dV 8)) (tgN 10) 
          (sSeq (sIf (fNot (fTru (dCall D_law_judged (dCons (d2 oIx (dB 8) (dC (.int 0))) (dCons (dV 10) (dCons (dV 11) dNil)))))) 
            (sSeq (sRet (dC (.bool false))) sNil) sNil) sNil)) sNil)) sNil)))))))))) 
    (sSeq (sRet (dC (.bool true))) sNil))
section
variable {P : Program} {w : World} {K : PySem.W.Frag} {mg : Str → Option Value} {base : Heap}
theorem ok_law_cell {f : Addr} {fd : FuncData} (F : Def K mg "_law_cell" s_law_cell f fd) (b : Binds K fd ["script", "k"] []) (Z : Bl mg) : CalC P w K mg base 1 := by
  refine ⟨⟨f, fd, _, F.mg, F.fn.ok sc_law_cell (fun vs H Q E ⟨_, _, _, h, _⟩ => by rw [h]; rfl) fun cdv A outer s H vs Q E hr ⟨a, ns, k, h, hS, q⟩ => ?_, F.fn.kp, b⟩⟩
  subst h
  refine ⟨_, pss_cons (ps_if (pt_cmpR op_lt (pv 1) (pe_callB call_len_seq (by rfl) Z.z_len PySem.boot_len (pa_cons (pv 0) pa_nil)) (nomark _)) (pss_one (ps_ret (pe_ix ix_list (pv 0) (pv 1) (fun _ _ => rfl)))) pss_nil)
    (pss_one (ps_ret (pe_op op_add (pe_op op_mul pe_int (pv 1)) pe_int))), ?_⟩
  refine ⟨_, rfl, _, rfl, a, _, rfl, .inl hS, _, _, rfl, rfl, _, rfl, ?_⟩
  refine ite2 (fun c => ?_) (fun c => ?_)
  · have c' : (k : Int) < (((ns.map V.int).length : Nat) : Int) := of_decide_eq_true c
    rw [List.length_map] at c'
    exact ⟨_, rfl, _, rfl, a, _, _, _, rfl, rfl, hS, PL.cell_at (by omega), q⟩
  · have c' : ¬ (k : Int) < (((ns.map V.int).length : Nat) : Int) := of_decide_eq_false (Bool.eq_false_iff.mpr c)
    rw [List.length_map] at c'
    rw [PL.cell_out (by omega)] at q
    exact ⟨_, rfl, _, _, rfl, rfl, .inl (by decide), _, _, rfl, rfl, q⟩
theorem st_taken_question {n : Nat} {f0 : Addr} {d0 : FuncData} (F0 : Def K mg "taken_question" s_taken_question f0 d0) (b0 : Binds K d0 ["board", "question"] []) (Z : Bl mg)  (c_taken_question : Cal P w K mg base "taken_question" (0 + n) (D_taken_question n)) (c_answer_at : Cal P w K mg base "answer_at" (0 + n) (D_answer_at n)) : Cal P w K mg base "taken_question" (0 + n + 1) (D_taken_question (n + 1)) :=
  cal_of F0 b0 sc_taken_question rfl rfl fun cdv A outer s H E hr => 
    (ss_cons (s_ret (x_if (t_cmp (op_gtP hr.units) (XP.b (x_call c_answer_at (hr.mono (by omega)) (by rfl) (xs_cons (x_var 0 (pv 0)) (xs_cons (x_ix (b_var 1 (pv 1)) (XP.b x_int)) xs_nil)))) (XP.b x_int) (nomark _)) (x_ix (b_var 1 (pv 1)) (XP.b x_int)) (x_ix (b_var 1 (pv 1)) (XP.b x_int)))) ss_nil)
theorem st_answer_at {n : Nat} {f1 : Addr} {d1 : FuncData} (F1 : Def K mg "answer_at" s_answer_at f1 d1) (b1 : Binds K d1 ["board", "question"] []) (Z : Bl mg)  (c_taken_question : Cal P w K mg base "taken_question" (0 + n) (D_taken_question n)) (c_answer_at : Cal P w K mg base "answer_at" (0 + n) (D_answer_at n)) : Cal P w K mg base "answer_at" (0 + n + 1) (D_answer_at (n + 1)) :=
  cal_of F1 b1 sc_answer_at rfl rfl fun cdv A outer s H E hr => 
    (ss_cons (s_if (t_cmp (op_eqP hr.units) (XP.b (x_ix (b_var 1 (pv 1)) (XP.b x_int))) (XP.b x_str) (nomark _)) 
      (ss_cons (s_ret (x_ix (b_var 0 (pv 0)) (XP.b (x_ix (b_var 1 (pv 1)) (XP.b x_int))))) ss_nil) ss_nil) 
    (ss_cons (s_if (t_cmp (op_eqP hr.units) (XP.b (x_ix (b_var 1 (pv 1)) (XP.b x_int))) (XP.b x_str) (nomark _)) 
      (ss_cons (s_ret (x_call c_answer_at (hr.mono (by omega)) (by rfl) (xs_cons (x_var 0 (pv 0)) (xs_cons (x_call c_taken_question (hr.mono (by omega)) (by rfl) (xs_cons (x_var 0 (pv 0)) (xs_cons (x_var 1 (pv 1)) xs_nil))) xs_nil)))) ss_nil) ss_nil) 
    (ss_cons (s_set 2 sc_answer_at.nd rfl (by first | exact Or.inl rfl | exact Or.inr rfl) (x_call c_answer_at (hr.mono (by omega)) (by rfl) (xs_cons (x_var 0 (pv 0)) (xs_cons (x_ix (b_var 1 (pv 1)) (XP.b x_int)) xs_nil)))) 
    (ss_cons (s_set 3 sc_answer_at.nd rfl (by first | exact Or.inl rfl | exact Or.inr rfl) (x_call c_answer_at (hr.mono (by omega)) (by rfl) (xs_cons (x_var 0 (pv 0)) (xs_cons (x_ix (b_var 1 (pv 1)) (XP.b x_int)) xs_nil)))) 
    (ss_cons (s_ret (x_if (t_cmp (op_eqP hr.units) (XP.b (x_ix (b_var 1 (pv 1)) (XP.b x_int))) (XP.b x_str) (nomark _)) (x_bin op_addD (b_var 2 (pv 2)) (b_var 3 (pv 3))) (x_fn2 (c_max2 rfl) (by rfl) Z.z_max bo_max (b_var 2 (pv 2)) (b_var 3 (pv 3))))) ss_nil)))))
theorem all_taken_question {f0 : Addr} {d0 : FuncData} (F0 : Def K mg "taken_question" s_taken_question f0 d0) (b0 : Binds K d0 ["board", "question"] []) {f1 : Addr} {d1 : FuncData} (F1 : Def K mg "answer_at" s_answer_at f1 d1) (b1 : Binds K d1 ["board", "question"] []) (Z : Bl mg)  : ∀ n : Nat, Cal P w K mg base "taken_question" (0 + n) (D_taken_question n) ∧ Cal P w K mg base "answer_at" (0 + n) (D_answer_at n)
  | 0 => ⟨(Cal.zero F0 b0).mono (by omega), (Cal.zero F1 b1).mono (by omega)⟩
  | n + 1 => by
    have ih := all_taken_question F0 b0 F1 b1 Z  n
    obtain ⟨h0, h1⟩ := ih
    exact ⟨st_taken_question F0 b0 Z  h0 h1, st_answer_at F1 b1 Z  h0 h1⟩
theorem st_pegs_read {n : Nat} {f0 : Addr} {d0 : FuncData} (F0 : Def K mg "pegs_read" s_pegs_read f0 d0) (b0 : Binds K d0 ["board", "question"] []) (Z : Bl mg) (c_taken_question : Cal P w K mg base "taken_question" 40 (D_taken_question 40)) (c_pegs_read : Cal P w K mg base "pegs_read" (40 + n) (D_pegs_read n)) : Cal P w K mg base "pegs_read" (40 + n + 1) (D_pegs_read (n + 1)) :=
  cal_of F0 b0 sc_pegs_read rfl rfl fun cdv A outer s H E hr => 
    (ss_cons (s_if (t_cmp (op_eqP hr.units) (XP.b (x_ix (b_var 1 (pv 1)) (XP.b x_int))) (XP.b x_str) (nomark _)) 
      (ss_cons (s_ret (x_tup (xs_cons (x_ix (b_var 1 (pv 1)) (XP.b x_int)) xs_nil))) ss_nil) ss_nil) 
    (ss_cons (s_set 2 sc_pegs_read.nd rfl (by first | exact Or.inl rfl | exact Or.inr rfl) (x_if (t_cmp (op_eqP hr.units) (XP.b (x_ix (b_var 1 (pv 1)) (XP.b x_int))) (XP.b x_str) (nomark _)) (x_call c_taken_question (hr.mono (by omega)) (by rfl) (xs_cons (x_var 0 (pv 0)) (xs_cons (x_var 1 (pv 1)) xs_nil))) (x_ix (b_var 1 (pv 1)) (XP.b x_int)))) 
    (ss_cons (s_ret (x_ty1 c_tuple (by rfl) Z.z_tuple bo_tuple (XN.b (n_sortset rfl (by rfl) Z.z_sorted (by rfl) Z.z_set (XP.b (x_bin op_addD (XP.b (x_call c_pegs_read (hr.mono (by omega)) (by rfl) (xs_cons (x_var 0 (pv 0)) (xs_cons (x_ix (b_var 1 (pv 1)) (XP.b x_int)) xs_nil)))) (XP.b (x_call c_pegs_read (hr.mono (by omega)) (by rfl) (xs_cons (x_var 0 (pv 0)) (xs_cons (x_var 2 (pv 2)) xs_nil)))))))))) ss_nil)))
theorem all_pegs_read {f0 : Addr} {d0 : FuncData} (F0 : Def K mg "pegs_read" s_pegs_read f0 d0) (b0 : Binds K d0 ["board", "question"] []) (Z : Bl mg) (c_taken_question : Cal P w K mg base "taken_question" 40 (D_taken_question 40)) : ∀ n : Nat, Cal P w K mg base "pegs_read" (40 + n) (D_pegs_read n)
  | 0 => (Cal.zero F0 b0).mono (by omega)
  | n + 1 => by
    have ih := all_pegs_read F0 b0 Z c_taken_question n
    exact st_pegs_read F0 b0 Z c_taken_question ih
theorem ok_told_cause {f : Addr} {fd : FuncData} (F : Def K mg "told_cause" s_told_cause f fd) (b : Binds K fd ["first", "second", "question"] []) (Z : Bl mg) (c_pegs_read : Cal P w K mg base "pegs_read" 80 (D_pegs_read 40)) : Cal P w K mg base "told_cause" 81 D_told_cause :=
  cal_of F b sc_told_cause rfl rfl fun cdv A outer s H E hr => 
    (ss_cons (s_for PassesOwn.never rfl (i_seq (x_call c_pegs_read (hr.mono (by decide)) (by rfl) (xs_cons (x_var 0 (pv 0)) (xs_cons (x_var 2 (pv 2)) xs_nil)))) (g_name 3 sc_told_cause.nd rfl (by first | exact Or.inl rfl | exact Or.inr rfl)) 
      (ss_cons (s_if (t_cmp (op_neP hr.units) (XP.b (x_ix (b_var 0 (pv 0)) (b_var 3 (pv 3)))) (XP.b (x_ix (b_var 1 (pv 1)) (b_var 3 (pv 3)))) (nomark _)) 
        (ss_cons (s_ret (x_var 3 (pv 3))) ss_nil) ss_nil) ss_nil)) 
    (ss_cons (s_ret x_non) ss_nil))
theorem ok_law_draws {f : Addr} {fd : FuncData} (F : Def K mg "_law_draws" s_law_draws f fd) (b : Binds K fd ["cell", "count"] []) (Z : Bl mg)  : Cal P w K mg base "_law_draws" 1 D_law_draws :=
  cal_of F b sc_law_draws rfl rfl fun cdv A outer s H E hr => 
    (ss_cons (s_set 2 sc_law_draws.nd rfl (by first | exact Or.inl rfl | exact Or.inr rfl) (x_fn1 c_abs (by rfl) Z.z_abs bo_abs (XP.b (x_ty1 c_int (by rfl) Z.z_int bo_int (b_var 0 (pv 0)))))) 
    (ss_cons (s_set 3 sc_law_draws.nd rfl (by first | exact Or.inl rfl | exact Or.inr rfl) (x_cmp (op_geP hr.units) (b_var 2 (pv 2)) (XP.b (x_bin op_powD (XP.b x_int) (XP.b x_int))) (nomark _))) 
    (ss_cons (s_set 4 sc_law_draws.nd rfl (by first | exact Or.inl rfl | exact Or.inr rfl) (x_var 2 (pv 2))) 
    (ss_cons (s_setN 5 sc_law_draws.nd rfl (by first | exact Or.inl rfl | exact Or.inr rfl) (n_lst xs_nil)) 
    (ss_cons (s_for PassesOwn.never rfl (i_rng1 (by rfl) Z.z_range (b_var 1 (pv 1))) (g_name 6 sc_law_draws.nd rfl (by first | exact Or.inl rfl | exact Or.inr rfl)) 
      (ss_cons (s_if (PW.pt (w_and (t_tru (b_var 3 (pv 3))) (w_and1 (t_cmp (op_gtP hr.units) (b_var 2 (pv 2)) (XP.b x_int) (nomark _))))) 
        (ss_cons (s_app 5 (pv 5) (x_bin op_modD (XP.b (x_ty1 c_int (by rfl) Z.z_int bo_int (b_var 2 (pv 2)))) (XP.b x_int))) 
        (ss_cons (s_set 2 sc_law_draws.nd rfl (by first | exact Or.inl rfl | exact Or.inr rfl) (x_bin op_divD (b_var 2 (pv 2)) (XP.b x_int))) ss_nil)) 
        (ss_cons (s_set 7 sc_law_draws.nd rfl (by first | exact Or.inl rfl | exact Or.inr rfl) (x_bin op_modD (XP.b (x_ty1 c_int (by rfl) Z.z_int bo_int (XP.b (x_bin op_addD (XP.b (x_bin op_addD (XP.b (x_bin op_mulD (b_var 4 (pv 4)) (XP.b x_int))) (XP.b (x_bin op_mulD (XP.b (x_bin op_addD (b_var 6 (pv 6)) (XP.b x_int))) (XP.b x_int))))) (XP.b x_int))))) (XP.b x_int))) 
        (ss_cons (s_set 7 sc_law_draws.nd rfl (by first | exact Or.inl rfl | exact Or.inr rfl) (x_bin op_modD (XP.b (x_ty1 c_int (by rfl) Z.z_int bo_int (XP.b (x_bin op_addD (XP.b (x_bin op_mulD (b_var 7 (pv 7)) (b_var 7 (pv 7)))) (XP.b (x_bin op_mulD (XP.b x_int) (XP.b (x_bin op_addD (b_var 6 (pv 6)) (XP.b x_int))))))))) (XP.b x_int))) 
        (ss_cons (s_app 5 (pv 5) (x_bin op_modD (XP.b (x_ty1 c_int (by rfl) Z.z_int bo_int (XP.b (x_bin op_divD (b_var 7 (pv 7)) (XP.b x_int))))) (XP.b x_int))) ss_nil)))) ss_nil)) 
    (ss_cons (s_retV 5 (pv 5)) ss_nil))))))
theorem ok_law_is_integer {f : Addr} {fd : FuncData} (F : Def K mg "_law_is_integer" s_law_is_integer f fd) (b : Binds K fd ["value"] []) (Z : Bl mg)  : Cal P w K mg base "_law_is_integer" 1 D_law_is_integer :=
  cal_of F b sc_law_is_integer rfl rfl fun cdv A outer s H E hr => 
    (ss_cons (s_ret (x_and (x_isi (T := .int) (by rfl) Z.z_isinstance (b_var 0 (pv 0)) (pe_bltn (by rfl) Z.z_int bo_int rfl)) (x_one (x_not (x_isi (T := .bool) (by rfl) Z.z_isinstance (b_var 0 (pv 0)) (pe_bltn (by rfl) Z.z_bool bo_bool rfl)))))) ss_nil)
theorem st_law_is {n : Nat} {f0 : Addr} {d0 : FuncData} (F0 : Def K mg "_law_is" s_law_is f0 d0) (b0 : Binds K d0 ["value", "due"] []) (Z : Bl mg) (c_law_is_integer : Cal P w K mg base "_law_is_integer" 1 D_law_is_integer) (c_law_is : Cal P w K mg base "_law_is" (1 + n) (D_law_is n)) : Cal P w K mg base "_law_is" (1 + n + 1) (D_law_is (n + 1)) :=
  cal_of F0 b0 sc_law_is rfl rfl fun cdv A outer s H E hr => 
    (ss_cons (s_if (t_cmp op_isP (b_var 1 (pv 1)) (XP.b x_non) (nomark _)) 
      (ss_cons (s_ret (x_cmp op_isP (b_var 0 (pv 0)) (XP.b x_non) (nomark _))) ss_nil) ss_nil) 
    (ss_cons (s_if (t_tru (XP.b (x_isi (T := .bool) (by rfl) Z.z_isinstance (b_var 1 (pv 1)) (pe_bltn (by rfl) Z.z_bool bo_bool rfl)))) 
      (ss_cons (s_ret (x_and (x_isi (T := .bool) (by rfl) Z.z_isinstance (b_var 0 (pv 0)) (pe_bltn (by rfl) Z.z_bool bo_bool rfl)) (x_one (x_cmp (op_eqP hr.units) (b_var 0 (pv 0)) (b_var 1 (pv 1)) (nomark _))))) ss_nil) ss_nil) 
    (ss_cons (s_if (t_tru (XP.b (x_isi (T := .int) (by rfl) Z.z_isinstance (b_var 1 (pv 1)) (pe_bltn (by rfl) Z.z_int bo_int rfl)))) 
      (ss_cons (s_ret (x_and (x_call c_law_is_integer (hr.mono (by omega)) (by rfl) (xs_cons (x_var 0 (pv 0)) xs_nil)) (x_one (x_cmp (op_eqP hr.units) (b_var 0 (pv 0)) (b_var 1 (pv 1)) (nomark _))))) ss_nil) ss_nil) 
    (ss_cons (s_if (t_tru (XP.b (x_isi (T := .str) (by rfl) Z.z_isinstance (b_var 1 (pv 1)) (pe_bltn (by rfl) Z.z_str bo_str rfl)))) 
      (ss_cons (s_ret (x_and (x_isi (T := .str) (by rfl) Z.z_isinstance (b_var 0 (pv 0)) (pe_bltn (by rfl) Z.z_str bo_str rfl)) (x_one (x_cmp (op_eqP hr.units) (b_var 0 (pv 0)) (b_var 1 (pv 1)) (nomark _))))) ss_nil) ss_nil) 
    (ss_cons (s_if (PW.pt (w_or (t_not (t_tru (XP.b (x_isi (T := .tuple) (by rfl) Z.z_isinstance (b_var 0 (pv 0)) (pe_bltn (by rfl) Z.z_tuple bo_tuple rfl))))) (w_or1 (t_cmp (op_neP hr.units) (XP.b (x_fn1 c_len (by rfl) Z.z_len bo_len (b_var 0 (pv 0)))) (XP.b (x_fn1 c_len (by rfl) Z.z_len bo_len (b_var 1 (pv 1)))) (nomark _))))) 
      (ss_cons (s_ret x_bl) ss_nil) ss_nil) 
    (ss_cons (s_ret (x_fn1 (c_all rfl) (by rfl) Z.z_all bo_all (XN.b (n_comp rfl sc_law_is.nd (XI.b (i_rng1 (by rfl) Z.z_range (XP.b (x_fn1 c_len (by rfl) Z.z_len bo_len (b_var 1 (pv 1)))))) (blkOk_by (own := [("at", 2)]) (N := N_law_is) (sc := (defScope s_law_is)) (by decide +kernel)) (fun _ _ _ _ _ => (g_name 2 sc_law_is.nd rfl (by first | exact Or.inl rfl | exact Or.inr rfl))) (fun _ _ _ _ _ => ts_nil) (fun _ _ _ _ _ => (x_call c_law_is (hr.mono (by omega)) (by rfl) (xs_cons (x_ix (b_var 0 (pv 0)) (b_var 2 (pv 2))) (xs_cons (x_ix (b_var 1 (pv 1)) (b_var 2 (pv 2))) xs_nil)))))))) ss_nil))))))
theorem all_law_is {f0 : Addr} {d0 : FuncData} (F0 : Def K mg "_law_is" s_law_is f0 d0) (b0 : Binds K d0 ["value", "due"] []) (Z : Bl mg) (c_law_is_integer : Cal P w K mg base "_law_is_integer" 1 D_law_is_integer) : ∀ n : Nat, Cal P w K mg base "_law_is" (1 + n) (D_law_is n)
  | 0 => (Cal.zero F0 b0).mono (by omega)
  | n + 1 => by
    have ih := all_law_is F0 b0 Z c_law_is_integer n
    exact st_law_is F0 b0 Z c_law_is_integer ih
theorem st_law_answer {n : Nat} {f0 : Addr} {d0 : FuncData} (F0 : Def K mg "_law_answer" s_law_answer f0 d0) (b0 : Binds K d0 ["board", "question"] []) (Z : Bl mg)  (c_law_answer : Cal P w K mg base "_law_answer" (0 + n) (D_law_answer n)) : Cal P w K mg base "_law_answer" (0 + n + 1) (D_law_answer (n + 1)) :=
  cal_of F0 b0 sc_law_answer rfl rfl fun cdv A outer s H E hr => 
    (ss_cons (s_if (t_cmp (op_eqP hr.units) (XP.b (x_ix (b_var 1 (pv 1)) (XP.b x_int))) (XP.b x_str) (nomark _)) 
      (ss_cons (s_ret (x_ix (b_var 0 (pv 0)) (XP.b (x_ix (b_var 1 (pv 1)) (XP.b x_int))))) ss_nil) ss_nil) 
    (ss_cons (s_if (t_cmp (op_eqP hr.units) (XP.b (x_ix (b_var 1 (pv 1)) (XP.b x_int))) (XP.b x_str) (nomark _)) 
      (ss_cons (s_ret (x_call c_law_answer (hr.mono (by omega)) (by rfl) (xs_cons (x_var 0 (pv 0)) (xs_cons (x_if (t_cmp (op_gtP hr.units) (XP.b (x_call c_law_answer (hr.mono (by omega)) (by rfl) (xs_cons (x_var 0 (pv 0)) (xs_cons (x_ix (b_var 1 (pv 1)) (XP.b x_int)) xs_nil)))) (XP.b x_int) (nomark _)) (x_ix (b_var 1 (pv 1)) (XP.b x_int)) (x_ix (b_var 1 (pv 1)) (XP.b x_int))) xs_nil)))) ss_nil) ss_nil) 
    (ss_cons (s_set 2 sc_law_answer.nd rfl (by first | exact Or.inl rfl | exact Or.inr rfl) (x_call c_law_answer (hr.mono (by omega)) (by rfl) (xs_cons (x_var 0 (pv 0)) (xs_cons (x_ix (b_var 1 (pv 1)) (XP.b x_int)) xs_nil)))) 
    (ss_cons (s_set 3 sc_law_answer.nd rfl (by first | exact Or.inl rfl | exact Or.inr rfl) (x_call c_law_answer (hr.mono (by omega)) (by rfl) (xs_cons (x_var 0 (pv 0)) (xs_cons (x_ix (b_var 1 (pv 1)) (XP.b x_int)) xs_nil)))) 
    (ss_cons (s_ret (x_if (t_cmp (op_eqP hr.units) (XP.b (x_ix (b_var 1 (pv 1)) (XP.b x_int))) (XP.b x_str) (nomark _)) (x_bin op_addD (b_var 2 (pv 2)) (b_var 3 (pv 3))) (x_fn2 (c_max2 rfl) (by rfl) Z.z_max bo_max (b_var 2 (pv 2)) (b_var 3 (pv 3))))) ss_nil)))))
theorem all_law_answer {f0 : Addr} {d0 : FuncData} (F0 : Def K mg "_law_answer" s_law_answer f0 d0) (b0 : Binds K d0 ["board", "question"] []) (Z : Bl mg)  : ∀ n : Nat, Cal P w K mg base "_law_answer" (0 + n) (D_law_answer n)
  | 0 => (Cal.zero F0 b0).mono (by omega)
  | n + 1 => by
    have ih := all_law_answer F0 b0 Z  n
    exact st_law_answer F0 b0 Z  ih
theorem st_law_read {n : Nat} {f0 : Addr} {d0 : FuncData} (F0 : Def K mg "_law_read" s_law_read f0 d0) (b0 : Binds K d0 ["board", "question"] []) (Z : Bl mg) (c_law_answer : Cal P w K mg base "_law_answer" 40 (D_law_answer 40)) (c_law_read : Cal P w K mg base "_law_read" (40 + n) (D_law_read n)) : Cal P w K mg base "_law_read" (40 + n + 1) (D_law_read (n + 1)) :=
  cal_of F0 b0 sc_law_read rfl rfl fun cdv A outer s H E hr => 
    (ss_cons (s_if (t_cmp (op_eqP hr.units) (XP.b (x_ix (b_var 1 (pv 1)) (XP.b x_int))) (XP.b x_str) (nomark _)) 
      (ss_cons (s_retN (n_lst (xs_cons (x_ix (b_var 1 (pv 1)) (XP.b x_int)) xs_nil))) ss_nil) ss_nil) 
    (ss_cons (s_if (t_cmp (op_eqP hr.units) (XP.b (x_ix (b_var 1 (pv 1)) (XP.b x_int))) (XP.b x_str) (nomark _)) 
      (ss_cons (s_set 2 sc_law_read.nd rfl (by first | exact Or.inl rfl | exact Or.inr rfl) (x_if (t_cmp (op_gtP hr.units) (XP.b (x_call c_law_answer (hr.mono (by omega)) (by rfl) (xs_cons (x_var 0 (pv 0)) (xs_cons (x_ix (b_var 1 (pv 1)) (XP.b x_int)) xs_nil)))) (XP.b x_int) (nomark _)) (x_ix (b_var 1 (pv 1)) (XP.b x_int)) (x_ix (b_var 1 (pv 1)) (XP.b x_int)))) 
      (ss_cons (s_ret (x_bin op_addD (XP.b (x_call c_law_read (hr.mono (by omega)) (by rfl) (xs_cons (x_var 0 (pv 0)) (xs_cons (x_ix (b_var 1 (pv 1)) (XP.b x_int)) xs_nil)))) (XP.b (x_call c_law_read (hr.mono (by omega)) (by rfl) (xs_cons (x_var 0 (pv 0)) (xs_cons (x_var 2 (pv 2)) xs_nil)))))) ss_nil)) ss_nil) 
    (ss_cons (s_ret (x_bin op_addD (XP.b (x_call c_law_read (hr.mono (by omega)) (by rfl) (xs_cons (x_var 0 (pv 0)) (xs_cons (x_ix (b_var 1 (pv 1)) (XP.b x_int)) xs_nil)))) (XP.b (x_call c_law_read (hr.mono (by omega)) (by rfl) (xs_cons (x_var 0 (pv 0)) (xs_cons (x_ix (b_var 1 (pv 1)) (XP.b x_int)) xs_nil)))))) ss_nil)))
theorem all_law_read {f0 : Addr} {d0 : FuncData} (F0 : Def K mg "_law_read" s_law_read f0 d0) (b0 : Binds K d0 ["board", "question"] []) (Z : Bl mg) (c_law_answer : Cal P w K mg base "_law_answer" 40 (D_law_answer 40)) : ∀ n : Nat, Cal P w K mg base "_law_read" (40 + n) (D_law_read n)
  | 0 => (Cal.zero F0 b0).mono (by omega)
  | n + 1 => by
    have ih := all_law_read F0 b0 Z c_law_answer n
    exact st_law_read F0 b0 Z c_law_answer ih
theorem ok_law_questions {f : Addr} {fd : FuncData} (F : Def K mg "_law_questions" s_law_questions f fd) (b : Binds K fd ["draws", "n", "size"] []) (Z : Bl mg)  : Cal P w K mg base "_law_questions" 1 D_law_questions :=
  cal_of F b sc_law_questions rfl rfl fun cdv A outer s H E hr => 
    (ss_cons (s_setN 3 sc_law_questions.nd rfl (by first | exact Or.inl rfl | exact Or.inr rfl) (n_lst (xs_cons (x_tup (xs_cons (x_tup (xs_cons x_str (xs_cons (x_bin op_modD (XP.b (x_ty1 c_int (by rfl) Z.z_int bo_int (XP.b (x_ix (b_var 0 (pv 0)) (XP.b x_int))))) (b_var 1 (pv 1))) xs_nil))) (xs_cons x_int xs_nil))) (xs_cons (x_tup (xs_cons (x_tup (xs_cons x_str (xs_cons (x_bin op_modD (XP.b (x_ty1 c_int (by rfl) Z.z_int bo_int (XP.b (x_ix (b_var 0 (pv 0)) (XP.b x_int))))) (b_var 1 (pv 1))) xs_nil))) (xs_cons x_int xs_nil))) (xs_cons (x_tup (xs_cons (x_tup (xs_cons x_str (xs_cons (x_bin op_modD (XP.b (x_ty1 c_int (by rfl) Z.z_int bo_int (XP.b (x_ix (b_var 0 (pv 0)) (XP.b x_int))))) (b_var 1 (pv 1))) xs_nil))) (xs_cons x_int xs_nil))) xs_nil))))) 
    (ss_cons (s_for PassesOwn.never rfl (i_rng1 (by rfl) Z.z_range (b_var 2 (pv 2))) (g_name 4 sc_law_questions.nd rfl (by first | exact Or.inl rfl | exact Or.inr rfl)) 
      (ss_cons (s_set 5 sc_law_questions.nd rfl (by first | exact Or.inl rfl | exact Or.inr rfl) (x_ty1 c_int (by rfl) Z.z_int bo_int (XP.b (x_ix (b_var 0 (pv 0)) (XP.b (x_bin op_addD (XP.b x_int) (b_var 4 (pv 4)))))))) 
      (ss_cons (s_setLc 6 rfl sc_law_questions.nd rfl rfl (sw_true rfl rfl rfl (by decide +kernel)) (i_seqB (XP.b (x_tup (xs_cons x_int (xs_cons x_int (xs_cons x_int xs_nil)))))) (blkOk_by (own := [("by", 10)]) (N := N_law_questions) (sc := (defScope s_law_questions)) (by decide +kernel)) (fun _ _ _ _ _ => (g_name 10 sc_law_questions.nd rfl (by first | exact Or.inl rfl | exact Or.inr rfl))) (fun _ _ _ _ _ => ts_nil) (fun _ _ _ _ _ => (x_ix (b_var 3 (pv 3)) (XP.b (x_bin op_modD (XP.b (x_bin op_divD (b_var 5 (pv 5)) (b_var 10 (pv 10)))) (XP.b (x_fn1 c_len (by rfl) Z.z_len bo_len (b_var 3 (pv 3))))))))) 
      (ss_cons (s_set 7 sc_law_questions.nd rfl (by first | exact Or.inl rfl | exact Or.inr rfl) (x_bin op_addD (XP.b x_int) (XP.b (x_fn1 (c_maxL rfl hr.units) (by rfl) Z.z_max bo_max (XN.b (n_comp rfl sc_law_questions.nd (i_seqB (b_var 6 (pv 6))) (blkOk_by (own := [("part", 11)]) (N := N_law_questions) (sc := (defScope s_law_questions)) (by decide +kernel)) (fun _ _ _ _ _ => (g_name 11 sc_law_questions.nd rfl (by first | exact Or.inl rfl | exact Or.inr rfl))) (fun _ _ _ _ _ => ts_nil) (fun _ _ _ _ _ => (x_ix (b_var 11 (pv 11)) (XP.b x_int))))))))) 
      (ss_cons (s_set 8 sc_law_questions.nd rfl (by first | exact Or.inl rfl | exact Or.inr rfl) (x_bin op_modD (b_var 5 (pv 5)) (XP.b x_int))) 
      (ss_cons (s_if (t_cmp (op_gtP hr.units) (b_var 7 (pv 7)) (XP.b x_int) (nomark _)) 
        (ss_cons (s_app 3 (pv 3) (x_tup (xs_cons (x_tup (xs_cons x_str (xs_cons (x_bin op_modD (XP.b (x_bin op_divD (b_var 5 (pv 5)) (XP.b x_int))) (b_var 1 (pv 1))) xs_nil))) (xs_cons x_int xs_nil)))) ss_nil) 
        (ss_cons (s_if (t_cmp (op_eqP hr.units) (b_var 8 (pv 8)) (XP.b x_int) (nomark _)) 
          (ss_cons (s_app 3 (pv 3) (x_tup (xs_cons (x_tup (xs_cons x_str (xs_cons (x_ix (XP.b (x_ix (b_var 6 (pv 6)) (XP.b x_int))) (XP.b x_int)) (xs_cons (x_ix (XP.b (x_ix (b_var 6 (pv 6)) (XP.b x_int))) (XP.b x_int)) xs_nil)))) (xs_cons (x_var 7 (pv 7)) xs_nil)))) ss_nil) 
          (ss_cons (s_if (t_cmp (op_eqP hr.units) (b_var 8 (pv 8)) (XP.b x_int) (nomark _)) 
            (ss_cons (s_app 3 (pv 3) (x_tup (xs_cons (x_tup (xs_cons x_str (xs_cons (x_ix (XP.b (x_ix (b_var 6 (pv 6)) (XP.b x_int))) (XP.b x_int)) (xs_cons (x_ix (XP.b (x_ix (b_var 6 (pv 6)) (XP.b x_int))) (XP.b x_int)) xs_nil)))) (xs_cons (x_var 7 (pv 7)) xs_nil)))) ss_nil) 
            (ss_cons (s_app 3 (pv 3) (x_tup (xs_cons (x_tup (xs_cons x_str (xs_cons (x_ix (XP.b (x_ix (b_var 6 (pv 6)) (XP.b x_int))) (XP.b x_int)) (xs_cons (x_ix (XP.b (x_ix (b_var 6 (pv 6)) (XP.b x_int))) (XP.b x_int)) (xs_cons (x_ix (XP.b (x_ix (b_var 6 (pv 6)) (XP.b x_int))) (XP.b x_int)) xs_nil))))) (xs_cons (x_var 7 (pv 7)) xs_nil)))) ss_nil)) ss_nil)) ss_nil)) ss_nil)))))) 
    (ss_cons (s_retN (n_comp rfl sc_law_questions.nd (i_seqB (b_var 3 (pv 3))) (blkOk_by (own := [("one", 9), ("depth", 7)]) (N := N_law_questions) (sc := (defScope s_law_questions)) (by decide +kernel)) (fun _ _ _ _ _ => (g_tup rfl (gs_cons (g_name 9 sc_law_questions.nd rfl (by first | exact Or.inl rfl | exact Or.inr rfl)) (gs_cons (g_name 7 sc_law_questions.nd rfl (by first | exact Or.inl rfl | exact Or.inr rfl)) gs_nil)))) (fun _ _ _ _ _ => ts_nil) (fun _ _ _ _ _ => (x_var 9 (pv 9))))) ss_nil)))
theorem ok_law_judged {f : Addr} {fd : FuncData} (F : Def K mg "_law_judged" s_law_judged f fd) (b : Binds K fd ["first", "second", "question"] []) (Z : Bl mg) (c_law_answer : Cal P w K mg base "_law_answer" 40 (D_law_answer 40)) (c_told_cause : Cal P w K mg base "told_cause" 81 D_told_cause) (c_law_is : Cal P w K mg base "_law_is" 41 (D_law_is 40)) (c_answer_at : Cal P w K mg base "answer_at" 40 (D_answer_at 40)) (c_law_read : Cal P w K mg base "_law_read" 80 (D_law_read 40)) (c_pegs_read : Cal P w K mg base "pegs_read" 80 (D_pegs_read 40)) : Cal P w K mg base "_law_judged" 82 D_law_judged :=
  cal_of F b sc_law_judged rfl rfl fun cdv A outer s H E hr => 
    (ss_cons (s_set 3 sc_law_judged.nd rfl (by first | exact Or.inl rfl | exact Or.inr rfl) (x_ty1 c_tuple (by rfl) Z.z_tuple bo_tuple (XN.b (n_sortset rfl (by rfl) Z.z_sorted (by rfl) Z.z_set (XP.b (x_call c_law_read (hr.mono (by decide)) (by rfl) (xs_cons (x_var 0 (pv 0)) (xs_cons (x_var 2 (pv 2)) xs_nil)))))))) 
    (ss_cons (s_set 4 sc_law_judged.nd rfl (by first | exact Or.inl rfl | exact Or.inr rfl) (x_call c_law_answer (hr.mono (by decide)) (by rfl) (xs_cons (x_var 0 (pv 0)) (xs_cons (x_var 2 (pv 2)) xs_nil)))) 
    (ss_cons (s_if (PW.pt (w_or (t_not (t_tru (XP.b (x_call c_law_is (hr.mono (by decide)) (by rfl) (xs_cons (x_call c_answer_at (hr.mono (by decide)) (by rfl) (xs_cons (x_var 0 (pv 0)) (xs_cons (x_var 2 (pv 2)) xs_nil))) (xs_cons (x_var 4 (pv 4)) xs_nil)))))) (w_or1 (t_not (t_tru (XP.b (x_call c_law_is (hr.mono (by decide)) (by rfl) (xs_cons (x_call c_pegs_read (hr.mono (by decide)) (by rfl) (xs_cons (x_var 0 (pv 0)) (xs_cons (x_var 2 (pv 2)) xs_nil))) (xs_cons (x_var 3 (pv 3)) xs_nil))))))))) 
      (ss_cons (s_ret x_bl) ss_nil) ss_nil) 
    (ss_cons (s_setLc 5 rfl sc_law_judged.nd rfl rfl (sw_true rfl rfl rfl (by decide +kernel)) (i_seqB (b_var 3 (pv 3))) (blkOk_by (own := [("peg", 7)]) (N := N_law_judged) (sc := (defScope s_law_judged)) (by decide +kernel)) (fun _ _ _ _ _ => (g_name 7 sc_law_judged.nd rfl (by first | exact Or.inl rfl | exact Or.inr rfl))) (fun _ _ _ _ _ => (ts_one (t_cmp (op_neP hr.units) (XP.b (x_ix (b_var 0 (pv 0)) (b_var 7 (pv 7)))) (XP.b (x_ix (b_var 1 (pv 1)) (b_var 7 (pv 7)))) (nomark _)))) (fun _ _ _ _ _ => (x_var 7 (pv 7)))) 
    (ss_cons (s_set 6 sc_law_judged.nd rfl (by first | exact Or.inl rfl | exact Or.inr rfl) (x_call c_told_cause (hr.mono (by decide)) (by rfl) (xs_cons (x_var 0 (pv 0)) (xs_cons (x_var 1 (pv 1)) (xs_cons (x_var 2 (pv 2)) xs_nil))))) 
    (ss_cons (s_if (t_not (t_tru (XP.b (x_call c_law_is (hr.mono (by decide)) (by rfl) (xs_cons (x_var 6 (pv 6)) (xs_cons (x_if (t_cmp (op_gtP hr.units) (XP.b (x_fn1 c_len (by rfl) Z.z_len bo_len (b_var 5 (pv 5)))) (XP.b x_int) (nomark _)) (x_ix (b_var 5 (pv 5)) (XP.b x_int)) x_non) xs_nil)))))) 
      (ss_cons (s_ret x_bl) ss_nil) ss_nil) 
    (ss_cons (s_if (t_cmp op_isP (b_var 6 (pv 6)) (XP.b x_non) (nomark _)) 
      (ss_cons (s_ret (x_and (x_call c_law_is (hr.mono (by decide)) (by rfl) (xs_cons (x_call c_answer_at (hr.mono (by decide)) (by rfl) (xs_cons (x_var 1 (pv 1)) (xs_cons (x_var 2 (pv 2)) xs_nil))) (xs_cons (x_var 4 (pv 4)) xs_nil))) (x_one (x_call c_law_is (hr.mono (by decide)) (by rfl) (xs_cons (x_call c_pegs_read (hr.mono (by decide)) (by rfl) (xs_cons (x_var 1 (pv 1)) (xs_cons (x_var 2 (pv 2)) xs_nil))) (xs_cons (x_var 3 (pv 3)) xs_nil)))))) ss_nil) ss_nil) 
    (ss_cons (s_ret (x_call c_law_is (hr.mono (by decide)) (by rfl) (xs_cons (x_call c_answer_at (hr.mono (by decide)) (by rfl) (xs_cons (x_var 1 (pv 1)) (xs_cons (x_var 2 (pv 2)) xs_nil))) (xs_cons (x_call c_law_answer (hr.mono (by decide)) (by rfl) (xs_cons (x_var 1 (pv 1)) (xs_cons (x_var 2 (pv 2)) xs_nil))) xs_nil)))) ss_nil))))))))
theorem ok_law {f : Addr} {fd : FuncData} (F : Fun K "law" "law" s_law f fd) (Z : Bl mg) (c_law_draws : Cal P w K mg base "_law_draws" 1 D_law_draws) (c_law_questions : Cal P w K mg base "_law_questions" 1 D_law_questions) (c_law_cell : CalC P w K mg base 1) (c_law_judged : Cal P w K mg base "_law_judged" 82 D_law_judged) (hall : ∀ ns : List Int, ns.length ≤ 63 → b_law (startL 12 ns) = some (.rt (.bool true))) : FnOk P w K mg base CX0 83 f fd ["script"] (spLawF K) :=
  law_of F sc_law rfl (fun cdv A outer s H E hr => 
    (ss_cons (s_for PassesOwn.never rfl (i_rng1 (by rfl) Z.z_range (XP.b x_int)) (g_name 1 sc_law.nd rfl (by first | exact Or.inl rfl | exact Or.inr rfl)) 
      (ss_cons (s_set 2 sc_law.nd rfl (by first | exact Or.inl rfl | exact Or.inr rfl) (x_call c_law_draws (hr.mono (by decide)) (by rfl) (xs_cons (x_cell 0 c_law_cell (hr.mono (by decide)) (by rfl) (pv 0) (b_var 1 (pv 1))) (xs_cons x_int xs_nil)))) 
      (ss_cons (s_set 3 sc_law.nd rfl (by first | exact Or.inl rfl | exact Or.inr rfl) (x_ix (XP.b (x_tup (xs_cons x_int (xs_cons x_int (xs_cons x_int (xs_cons x_int (xs_cons x_int (xs_cons x_int xs_nil)))))))) (XP.b (x_bin op_modD (XP.b (x_ty1 c_int (by rfl) Z.z_int bo_int (XP.b (x_ix (b_var 2 (pv 2)) (XP.b x_int))))) (XP.b x_int))))) 
      (ss_cons (s_set 4 sc_law.nd rfl (by first | exact Or.inl rfl | exact Or.inr rfl) (x_ix (XP.b (x_tup (xs_cons (x_tup (xs_cons (x_bin op_subD (XP.b x_int) (XP.b x_int)) (xs_cons x_int (xs_cons x_int (xs_cons x_int xs_nil))))) (xs_cons (x_tup (xs_cons (x_bin op_subD (XP.b x_int) (XP.b x_int)) (xs_cons x_int (xs_cons x_int (xs_cons x_int xs_nil))))) xs_nil)))) (XP.b (x_bin op_modD (XP.b (x_ty1 c_int (by rfl) Z.z_int bo_int (XP.b (x_ix (b_var 2 (pv 2)) (XP.b x_int))))) (XP.b x_int))))) 
      (ss_cons (s_setN 5 sc_law.nd rfl (by first | exact Or.inl rfl | exact Or.inr rfl) (n_lst xs_nil)) 
      (ss_cons (s_for PassesOwn.never rfl (i_rng1 (by rfl) Z.z_range (b_var 3 (pv 3))) (g_name 6 sc_law.nd rfl (by first | exact Or.inl rfl | exact Or.inr rfl)) 
        (ss_cons (s_set 7 sc_law.nd rfl (by first | exact Or.inl rfl | exact Or.inr rfl) (x_ty1 c_int (by rfl) Z.z_int bo_int (XP.b (x_ix (b_var 2 (pv 2)) (XP.b (x_bin op_addD (XP.b x_int) (b_var 6 (pv 6)))))))) 
        (ss_cons (s_app 5 (pv 5) (x_if (t_cmp (op_gtP hr.units) (XP.b (x_bin op_modD (XP.b (x_bin op_divD (b_var 7 (pv 7)) (XP.b x_int))) (XP.b x_int))) (XP.b x_int) (nomark _)) (x_ix (b_var 4 (pv 4)) (XP.b (x_bin op_modD (b_var 7 (pv 7)) (XP.b x_int)))) (x_bin op_subD (XP.b (x_bin op_modD (XP.b (x_bin op_divD (b_var 7 (pv 7)) (XP.b x_int))) (XP.b x_int))) (XP.b x_int)))) ss_nil))) 
      (ss_cons (s_setN 8 sc_law.nd rfl (by first | exact Or.inl rfl | exact Or.inr rfl) (n_lst (xs_cons (x_ty1 c_tuple (by rfl) Z.z_tuple bo_tuple (b_var 5 (pv 5))) xs_nil))) 
      (ss_cons (s_for PassesOwn.never rfl (i_rng1 (by rfl) Z.z_range (XP.b x_int)) (g_name 9 sc_law.nd rfl (by first | exact Or.inl rfl | exact Or.inr rfl)) 
        (ss_cons (s_setN 10 sc_law.nd rfl (by first | exact Or.inl rfl | exact Or.inr rfl) (n_ty1 c_list (by rfl) Z.z_list bo_list (b_var 5 (pv 5)))) 
        (ss_cons (s_for PassesOwn.never rfl (i_rng1 (by rfl) Z.z_range (b_var 3 (pv 3))) (g_name 6 sc_law.nd rfl (by first | exact Or.inl rfl | exact Or.inr rfl)) 
          (ss_cons (s_set 7 sc_law.nd rfl (by first | exact Or.inl rfl | exact Or.inr rfl) (x_bin op_divD (XP.b (x_ty1 c_int (by rfl) Z.z_int bo_int (XP.b (x_ix (b_var 2 (pv 2)) (XP.b (x_bin op_addD (XP.b (x_bin op_addD (XP.b x_int) (XP.b (x_bin op_mulD (b_var 9 (pv 9)) (XP.b x_int))))) (XP.b (x_bin op_modD (b_var 6 (pv 6)) (XP.b x_int))))))))) (XP.b (x_ix (XP.b (x_tup (xs_cons x_int (xs_cons x_int (xs_cons x_int (xs_cons x_int (xs_cons x_int (xs_cons x_int xs_nil)))))))) (b_var 6 (pv 6)))))) 
          (ss_cons (s_if (t_cmp (op_eqP hr.units) (XP.b (x_bin op_modD (b_var 7 (pv 7)) (XP.b (x_bin op_addD (XP.b x_int) (b_var 9 (pv 9)))))) (XP.b x_int) (nomark _)) 
            (ss_cons (s_put 10 (pv 10) (x_var 6 (pv 6)) (x_ix (XP.b (x_tup (xs_cons (x_bin op_subD (XP.b x_int) (XP.b (x_ix (b_var 10 (pv 10)) (b_var 6 (pv 6))))) (xs_cons (x_ix (b_var 4 (pv 4)) (XP.b (x_bin op_modD (XP.b (x_bin op_divD (b_var 7 (pv 7)) (XP.b x_int))) (XP.b x_int)))) xs_nil)))) (XP.b (x_bin op_modD (XP.b (x_bin op_divD (b_var 7 (pv 7)) (XP.b x_int))) (XP.b x_int))))) ss_nil) ss_nil) ss_nil))) 
        (ss_cons (s_app 8 (pv 8) (x_ty1 c_tuple (by rfl) Z.z_tuple bo_tuple (b_var 10 (pv 10)))) ss_nil)))) (ss_frz 8 
      (ss_cons (s_for PassesOwn.never rfl (i_seq (x_call c_law_questions (hr.mono (by decide)) (by rfl) (xs_cons (x_slice (b_var 2 (pv 2)) (o_some (XP.b x_int)) o_none) (xs_cons (x_var 3 (pv 3)) (xs_cons x_int xs_nil))))) (g_name 11 sc_law.nd rfl (by first | exact Or.inl rfl | exact Or.inr rfl)) 
        (ss_cons (s_for PassesOwn.never rfl (i_seq (x_var 8 (pv 8))) (g_name 10 sc_law.nd rfl (by first | exact Or.inl rfl | exact Or.inr rfl)) 
          (ss_cons (s_if (t_not (t_tru (XP.b (x_call c_law_judged (hr.mono (by decide)) (by rfl) (xs_cons (x_ix (b_var 8 (pv 8)) (XP.b x_int)) (xs_cons (x_var 10 (pv 10)) (xs_cons (x_var 11 (pv 11)) xs_nil))))))) 
            (ss_cons (s_ret x_bl) ss_nil) ss_nil) ss_nil)) ss_nil)) ss_nil)))))))))) 
    (ss_cons (s_ret x_bl) ss_nil))) hall
end
theorem all_mk {l : PySem.W.OpenLaw} {w : World} {K : PySem.W.Frag} {h : Heap} {mg : Str → Option Value} {fa : Addr} (hall : ∀ ns : List Int, ns.length ≤ 63 → b_law (startL 12 ns) = some (.rt (.bool true))) (X : K.In h) (G : h.Ns mainGlobals mg) (hfa : mg "law" = some (.ref fa))
    {f0 : Addr} {od0 an0 : Option Addr} {sl0 : Array (Option Value)} {oc0 kV0 dc0 pm0 cd0 ct0 : Value} (a0 : PySem.W.nsIn K mainGlobals "taken_question" = some (some (.ref f0))) (l0 : K.lookup f0 = some ⟨oc0, od0, .func (PySem.W.fnOf "taken_question" "taken_question" (defArgs s_taken_question) (defBody s_taken_question) (defScope s_taken_question) .none kV0 dc0 pm0 an0 cd0 ct0), sl0⟩) (c0 : PySem.W.codeIn K cd0 "taken_question" = true) (k0 : PySem.W.keepIn K (.ref f0) = true)
    {f1 : Addr} {od1 an1 : Option Addr} {sl1 : Array (Option Value)} {oc1 kV1 dc1 pm1 cd1 ct1 : Value} (a1 : PySem.W.nsIn K mainGlobals "answer_at" = some (some (.ref f1))) (l1 : K.lookup f1 = some ⟨oc1, od1, .func (PySem.W.fnOf "answer_at" "answer_at" (defArgs s_answer_at) (defBody s_answer_at) (defScope s_answer_at) .none kV1 dc1 pm1 an1 cd1 ct1), sl1⟩) (c1 : PySem.W.codeIn K cd1 "answer_at" = true) (k1 : PySem.W.keepIn K (.ref f1) = true)
    {f2 : Addr} {od2 an2 : Option Addr} {sl2 : Array (Option Value)} {oc2 kV2 dc2 pm2 cd2 ct2 : Value} (a2 : PySem.W.nsIn K mainGlobals "pegs_read" = some (some (.ref f2))) (l2 : K.lookup f2 = some ⟨oc2, od2, .func (PySem.W.fnOf "pegs_read" "pegs_read" (defArgs s_pegs_read) (defBody s_pegs_read) (defScope s_pegs_read) .none kV2 dc2 pm2 an2 cd2 ct2), sl2⟩) (c2 : PySem.W.codeIn K cd2 "pegs_read" = true) (k2 : PySem.W.keepIn K (.ref f2) = true)
    {f3 : Addr} {od3 an3 : Option Addr} {sl3 : Array (Option Value)} {oc3 kV3 dc3 pm3 cd3 ct3 : Value} (a3 : PySem.W.nsIn K mainGlobals "told_cause" = some (some (.ref f3))) (l3 : K.lookup f3 = some ⟨oc3, od3, .func (PySem.W.fnOf "told_cause" "told_cause" (defArgs s_told_cause) (defBody s_told_cause) (defScope s_told_cause) .none kV3 dc3 pm3 an3 cd3 ct3), sl3⟩) (c3 : PySem.W.codeIn K cd3 "told_cause" = true) (k3 : PySem.W.keepIn K (.ref f3) = true)
    {f4 : Addr} {od4 an4 : Option Addr} {sl4 : Array (Option Value)} {oc4 kV4 dc4 pm4 cd4 ct4 : Value} (a4 : PySem.W.nsIn K mainGlobals "_law_cell" = some (some (.ref f4))) (l4 : K.lookup f4 = some ⟨oc4, od4, .func (PySem.W.fnOf "_law_cell" "_law_cell" (defArgs s_law_cell) (defBody s_law_cell) (defScope s_law_cell) .none kV4 dc4 pm4 an4 cd4 ct4), sl4⟩) (c4 : PySem.W.codeIn K cd4 "_law_cell" = true) (k4 : PySem.W.keepIn K (.ref f4) = true)
    {f5 : Addr} {od5 an5 : Option Addr} {sl5 : Array (Option Value)} {oc5 kV5 dc5 pm5 cd5 ct5 : Value} (a5 : PySem.W.nsIn K mainGlobals "_law_draws" = some (some (.ref f5))) (l5 : K.lookup f5 = some ⟨oc5, od5, .func (PySem.W.fnOf "_law_draws" "_law_draws" (defArgs s_law_draws) (defBody s_law_draws) (defScope s_law_draws) .none kV5 dc5 pm5 an5 cd5 ct5), sl5⟩) (c5 : PySem.W.codeIn K cd5 "_law_draws" = true) (k5 : PySem.W.keepIn K (.ref f5) = true)
    {f6 : Addr} {od6 an6 : Option Addr} {sl6 : Array (Option Value)} {oc6 kV6 dc6 pm6 cd6 ct6 : Value} (a6 : PySem.W.nsIn K mainGlobals "_law_is_integer" = some (some (.ref f6))) (l6 : K.lookup f6 = some ⟨oc6, od6, .func (PySem.W.fnOf "_law_is_integer" "_law_is_integer" (defArgs s_law_is_integer) (defBody s_law_is_integer) (defScope s_law_is_integer) .none kV6 dc6 pm6 an6 cd6 ct6), sl6⟩) (c6 : PySem.W.codeIn K cd6 "_law_is_integer" = true) (k6 : PySem.W.keepIn K (.ref f6) = true)
    {f7 : Addr} {od7 an7 : Option Addr} {sl7 : Array (Option Value)} {oc7 kV7 dc7 pm7 cd7 ct7 : Value} (a7 : PySem.W.nsIn K mainGlobals "_law_is" = some (some (.ref f7))) (l7 : K.lookup f7 = some ⟨oc7, od7, .func (PySem.W.fnOf "_law_is" "_law_is" (defArgs s_law_is) (defBody s_law_is) (defScope s_law_is) .none kV7 dc7 pm7 an7 cd7 ct7), sl7⟩) (c7 : PySem.W.codeIn K cd7 "_law_is" = true) (k7 : PySem.W.keepIn K (.ref f7) = true)
    {f8 : Addr} {od8 an8 : Option Addr} {sl8 : Array (Option Value)} {oc8 kV8 dc8 pm8 cd8 ct8 : Value} (a8 : PySem.W.nsIn K mainGlobals "_law_answer" = some (some (.ref f8))) (l8 : K.lookup f8 = some ⟨oc8, od8, .func (PySem.W.fnOf "_law_answer" "_law_answer" (defArgs s_law_answer) (defBody s_law_answer) (defScope s_law_answer) .none kV8 dc8 pm8 an8 cd8 ct8), sl8⟩) (c8 : PySem.W.codeIn K cd8 "_law_answer" = true) (k8 : PySem.W.keepIn K (.ref f8) = true)
    {f9 : Addr} {od9 an9 : Option Addr} {sl9 : Array (Option Value)} {oc9 kV9 dc9 pm9 cd9 ct9 : Value} (a9 : PySem.W.nsIn K mainGlobals "_law_read" = some (some (.ref f9))) (l9 : K.lookup f9 = some ⟨oc9, od9, .func (PySem.W.fnOf "_law_read" "_law_read" (defArgs s_law_read) (defBody s_law_read) (defScope s_law_read) .none kV9 dc9 pm9 an9 cd9 ct9), sl9⟩) (c9 : PySem.W.codeIn K cd9 "_law_read" = true) (k9 : PySem.W.keepIn K (.ref f9) = true)
    {f10 : Addr} {od10 an10 : Option Addr} {sl10 : Array (Option Value)} {oc10 kV10 dc10 pm10 cd10 ct10 : Value} (a10 : PySem.W.nsIn K mainGlobals "_law_questions" = some (some (.ref f10))) (l10 : K.lookup f10 = some ⟨oc10, od10, .func (PySem.W.fnOf "_law_questions" "_law_questions" (defArgs s_law_questions) (defBody s_law_questions) (defScope s_law_questions) .none kV10 dc10 pm10 an10 cd10 ct10), sl10⟩) (c10 : PySem.W.codeIn K cd10 "_law_questions" = true) (k10 : PySem.W.keepIn K (.ref f10) = true)
    {f11 : Addr} {od11 an11 : Option Addr} {sl11 : Array (Option Value)} {oc11 kV11 dc11 pm11 cd11 ct11 : Value} (a11 : PySem.W.nsIn K mainGlobals "_law_judged" = some (some (.ref f11))) (l11 : K.lookup f11 = some ⟨oc11, od11, .func (PySem.W.fnOf "_law_judged" "_law_judged" (defArgs s_law_judged) (defBody s_law_judged) (defScope s_law_judged) .none kV11 dc11 pm11 an11 cd11 ct11), sl11⟩) (c11 : PySem.W.codeIn K cd11 "_law_judged" = true) (k11 : PySem.W.keepIn K (.ref f11) = true)
    {f12 : Addr} {od12 an12 : Option Addr} {sl12 : Array (Option Value)} {oc12 kV12 dc12 pm12 cd12 ct12 : Value} (a12 : PySem.W.nsIn K mainGlobals "law" = some (some (.ref f12))) (l12 : K.lookup f12 = some ⟨oc12, od12, .func (PySem.W.fnOf "law" "law" (defArgs s_law) (defBody s_law) (defScope s_law) .none kV12 dc12 pm12 an12 cd12 ct12), sl12⟩) (c12 : PySem.W.codeIn K cd12 "law" = true) (k12 : PySem.W.keepIn K (.ref f12) = true)
    (z_abs : PySem.W.nsIn K mainGlobals "abs" = some none) (z_all : PySem.W.nsIn K mainGlobals "all" = some none) (z_bool : PySem.W.nsIn K mainGlobals "bool" = some none) (z_int : PySem.W.nsIn K mainGlobals "int" = some none) (z_isinstance : PySem.W.nsIn K mainGlobals "isinstance" = some none) (z_len : PySem.W.nsIn K mainGlobals "len" = some none) (z_list : PySem.W.nsIn K mainGlobals "list" = some none) (z_max : PySem.W.nsIn K mainGlobals "max" = some none) (z_range : PySem.W.nsIn K mainGlobals "range" = some none) (z_set : PySem.W.nsIn K mainGlobals "set" = some none) (z_sorted : PySem.W.nsIn K mainGlobals "sorted" = some none) (z_str : PySem.W.nsIn K mainGlobals "str" = some none) (z_tuple : PySem.W.nsIn K mainGlobals "tuple" = some none) :
    ∃ fd : FuncData, (∀ (s : Shared) (v : Value), BindsTo s fd ⟨[v], []⟩ [("script", v)]) ∧ ∀ base : Heap, K.In base → base.Ns mainGlobals mg → FnOk l.prog w K mg base CX0 83 fa fd ["script"] (spLawF K) := by
  have e := hfa.symm.trans (PySem.W.mg_of X G a12)
  cases e
  have Z : Bl mg := ⟨PySem.W.mg_none_of X G z_abs, PySem.W.mg_none_of X G z_all, PySem.W.mg_none_of X G z_bool, PySem.W.mg_none_of X G z_int, PySem.W.mg_none_of X G z_isinstance, PySem.W.mg_none_of X G z_len, PySem.W.mg_none_of X G z_list, PySem.W.mg_none_of X G z_max, PySem.W.mg_none_of X G z_range, PySem.W.mg_none_of X G z_set, PySem.W.mg_none_of X G z_sorted, PySem.W.mg_none_of X G z_str, PySem.W.mg_none_of X G z_tuple⟩
  have F0 := fun_mk (st := s_taken_question) l0 c0 k0
  have b0 := F0.binds (ps := ["board", "question"]) fun _ _ _ _ _ _ us hl => match us, hl with | [_, _], _ => rfl
  have E0 : Def K mg "taken_question" s_taken_question f0 _ := ⟨F0, PySem.W.mg_of X G a0⟩
  have F1 := fun_mk (st := s_answer_at) l1 c1 k1
  have b1 := F1.binds (ps := ["board", "question"]) fun _ _ _ _ _ _ us hl => match us, hl with | [_, _], _ => rfl
  have E1 : Def K mg "answer_at" s_answer_at f1 _ := ⟨F1, PySem.W.mg_of X G a1⟩
  have F2 := fun_mk (st := s_pegs_read) l2 c2 k2
  have b2 := F2.binds (ps := ["board", "question"]) fun _ _ _ _ _ _ us hl => match us, hl with | [_, _], _ => rfl
  have E2 : Def K mg "pegs_read" s_pegs_read f2 _ := ⟨F2, PySem.W.mg_of X G a2⟩
  have F3 := fun_mk (st := s_told_cause) l3 c3 k3
  have b3 := F3.binds (ps := ["first", "second", "question"]) fun _ _ _ _ _ _ us hl => match us, hl with | [_, _, _], _ => rfl
  have E3 : Def K mg "told_cause" s_told_cause f3 _ := ⟨F3, PySem.W.mg_of X G a3⟩
  have F4 := fun_mk (st := s_law_cell) l4 c4 k4
  have b4 := F4.binds (ps := ["script", "k"]) fun _ _ _ _ _ _ us hl => match us, hl with | [_, _], _ => rfl
  have E4 : Def K mg "_law_cell" s_law_cell f4 _ := ⟨F4, PySem.W.mg_of X G a4⟩
  have F5 := fun_mk (st := s_law_draws) l5 c5 k5
  have b5 := F5.binds (ps := ["cell", "count"]) fun _ _ _ _ _ _ us hl => match us, hl with | [_, _], _ => rfl
  have E5 : Def K mg "_law_draws" s_law_draws f5 _ := ⟨F5, PySem.W.mg_of X G a5⟩
  have F6 := fun_mk (st := s_law_is_integer) l6 c6 k6
  have b6 := F6.binds (ps := ["value"]) fun _ _ _ _ _ _ us hl => match us, hl with | [_], _ => rfl
  have E6 : Def K mg "_law_is_integer" s_law_is_integer f6 _ := ⟨F6, PySem.W.mg_of X G a6⟩
  have F7 := fun_mk (st := s_law_is) l7 c7 k7
  have b7 := F7.binds (ps := ["value", "due"]) fun _ _ _ _ _ _ us hl => match us, hl with | [_, _], _ => rfl
  have E7 : Def K mg "_law_is" s_law_is f7 _ := ⟨F7, PySem.W.mg_of X G a7⟩
  have F8 := fun_mk (st := s_law_answer) l8 c8 k8
  have b8 := F8.binds (ps := ["board", "question"]) fun _ _ _ _ _ _ us hl => match us, hl with | [_, _], _ => rfl
  have E8 : Def K mg "_law_answer" s_law_answer f8 _ := ⟨F8, PySem.W.mg_of X G a8⟩
  have F9 := fun_mk (st := s_law_read) l9 c9 k9
  have b9 := F9.binds (ps := ["board", "question"]) fun _ _ _ _ _ _ us hl => match us, hl with | [_, _], _ => rfl
  have E9 : Def K mg "_law_read" s_law_read f9 _ := ⟨F9, PySem.W.mg_of X G a9⟩
  have F10 := fun_mk (st := s_law_questions) l10 c10 k10
  have b10 := F10.binds (ps := ["draws", "n", "size"]) fun _ _ _ _ _ _ us hl => match us, hl with | [_, _, _], _ => rfl
  have E10 : Def K mg "_law_questions" s_law_questions f10 _ := ⟨F10, PySem.W.mg_of X G a10⟩
  have F11 := fun_mk (st := s_law_judged) l11 c11 k11
  have b11 := F11.binds (ps := ["first", "second", "question"]) fun _ _ _ _ _ _ us hl => match us, hl with | [_, _, _], _ => rfl
  have E11 : Def K mg "_law_judged" s_law_judged f11 _ := ⟨F11, PySem.W.mg_of X G a11⟩
  have F12 := fun_mk (st := s_law) l12 c12 k12
  refine ⟨PySem.W.fnOf "law" "law" (defArgs s_law) (defBody s_law) (defScope s_law) .none kV12 dc12 pm12 an12 cd12 ct12, fun s v => .of_eq rfl, fun base _ _ => ?_⟩
  have C_law_cell := ok_law_cell (P := l.prog) (w := w) (base := base) E4 b4 Z
  have A_taken_question := all_taken_question (P := l.prog) (w := w) (base := base) E0 b0 E1 b1 Z  40
  obtain ⟨C_taken_question, C_answer_at⟩ := A_taken_question
  have A_pegs_read := all_pegs_read (P := l.prog) (w := w) (base := base) E2 b2 Z C_taken_question 40
  have C_pegs_read := A_pegs_read
  have C_told_cause := ok_told_cause (P := l.prog) (w := w) (base := base) E3 b3 Z C_pegs_read
  have C_law_draws := ok_law_draws (P := l.prog) (w := w) (base := base) E5 b5 Z 
  have C_law_is_integer := ok_law_is_integer (P := l.prog) (w := w) (base := base) E6 b6 Z 
  have A_law_is := all_law_is (P := l.prog) (w := w) (base := base) E7 b7 Z C_law_is_integer 40
  have C_law_is := A_law_is
  have A_law_answer := all_law_answer (P := l.prog) (w := w) (base := base) E8 b8 Z  40
  have C_law_answer := A_law_answer
  have A_law_read := all_law_read (P := l.prog) (w := w) (base := base) E9 b9 Z C_law_answer 40
  have C_law_read := A_law_read
  have C_law_questions := ok_law_questions (P := l.prog) (w := w) (base := base) E10 b10 Z 
  have C_law_judged := ok_law_judged (P := l.prog) (w := w) (base := base) E11 b11 Z C_law_answer C_told_cause C_law_is C_answer_at C_law_read C_pegs_read
  exact ok_law F12 Z C_law_draws C_law_questions C_law_cell C_law_judged hall
theorem walk {l : PySem.W.OpenLaw} {q : Program} {loose : List Str} {XP : (Str → Option Value) → Heap → Prop} {YP : World → Heap → Prop} {d : DefRec} {K : Params → PySem.W.Frag} (hn : l.most = some 63) (hdf : d.params.defaults = [])
    (hY : ∀ (w : World) (h : Heap), YP w h → (K w.params).In h)
    (F : ∀ (w : World) (mg : Str → Option Value) (fa : Addr) (h : Heap), (K w.params).In h → h.Ns mainGlobals mg → mg d.name = some (.ref fa) →
      ∃ fd : FuncData, (∀ (s : Shared) (u : Value), BindsTo s fd ⟨[u], []⟩ [("script", u)]) ∧ ∀ base : Heap, (K w.params).In base → base.Ns mainGlobals mg → FnOk l.prog w (K w.params) mg base CX0 83 fa fd ["script"] (spLawF (K w.params))) :
    PySem.W.WalkO q loose XP YP l.row.toRowW d [] (fun f vs => PySem.call f vs) :=
  L2.walk_of (n := 63) (k := 83) (x := "script") (CX := fun _ => CX0) (sp := fun w => spLawF (K w.params)) hn (by decide) hdf ⟨rfl, by decide, by decide⟩ hY F (fun _ _ a ns hl _ hS => ⟨a, ns, rfl, hS, hl, fun _ => rfl⟩) fun _ _ _ _ _ z => z
end Law
namespace Law
open PySem PySem.Spec L2 PL
open PyProof.Rows hiding St
inductive Qn where
  | peg (p : Nat)
  | sum (a b : Qn)
  | most (a b : Qn)
  | pick (t a b : Qn)
namespace Qn
def enc : Qn → D
  | .peg p => .tuple [.str (Str.ofString "peg"), .int (p : Nat)]
  | .sum a b => .tuple [.str (Str.ofString "sum"), a.enc, b.enc]
  | .most a b => .tuple [.str (Str.ofString "most"), a.enc, b.enc]
  | .pick t a b => .tuple [.str (Str.ofString "pick"), t.enc, a.enc, b.enc]
def dep : Qn → Nat
  | .peg _ => 0
  | .sum a b => 1 + max a.dep b.dep
  | .most a b => 1 + max a.dep b.dep
  | .pick t a b => 1 + max t.dep (max a.dep b.dep)
def ok (n : Nat) : Qn → Prop
  | .peg p => p < n
  | .sum a b => a.ok n ∧ b.ok n
  | .most a b => a.ok n ∧ b.ok n
  | .pick t a b => t.ok n ∧ a.ok n ∧ b.ok n
def ans (bs : List Int) : Qn → Int
  | .peg p => bs.getD p 0
  | .sum a b => a.ans bs + b.ans bs
  | .most a b => if b.ans bs > a.ans bs then b.ans bs else a.ans bs
  | .pick t a b => if 0 < t.ans bs then a.ans bs else b.ans bs
def rd (bs : List Int) : Qn → List Int
  | .peg p => [(p : Int)]
  | .sum a b => a.rd bs ++ b.rd bs
  | .most a b => a.rd bs ++ b.rd bs
  | .pick t a b => t.rd bs ++ if 0 < t.ans bs then a.rd bs else b.rd bs
theorem rd_len (bs : List Int) : ∀ q : Qn, (q.rd bs).length ≤ 2 ^ q.dep
  | .peg p => by simp [rd, dep]
  | .sum a b => by
    have ha := rd_len bs a
    have hb := rd_len bs b
    have h1 : 2 ^ a.dep ≤ 2 ^ max a.dep b.dep := Nat.pow_le_pow_right (by omega) (by omega)
    have h2 : 2 ^ b.dep ≤ 2 ^ max a.dep b.dep := Nat.pow_le_pow_right (by omega) (by omega)
    simp only [rd, dep, List.length_append, Nat.pow_add]
    omega
  | .most a b => by
    have ha := rd_len bs a
    have hb := rd_len bs b
    have h1 : 2 ^ a.dep ≤ 2 ^ max a.dep b.dep := Nat.pow_le_pow_right (by omega) (by omega)
    have h2 : 2 ^ b.dep ≤ 2 ^ max a.dep b.dep := Nat.pow_le_pow_right (by omega) (by omega)
    simp only [rd, dep, List.length_append, Nat.pow_add]
    omega
  | .pick t a b => by
    have ht := rd_len bs t
    have ha := rd_len bs a
    have hb := rd_len bs b
    have h0 : 2 ^ t.dep ≤ 2 ^ max t.dep (max a.dep b.dep) := Nat.pow_le_pow_right (by omega) (by omega)
    have h1 : 2 ^ a.dep ≤ 2 ^ max t.dep (max a.dep b.dep) := Nat.pow_le_pow_right (by omega) (by omega)
    have h2 : 2 ^ b.dep ≤ 2 ^ max t.dep (max a.dep b.dep) := Nat.pow_le_pow_right (by omega) (by omega)
    simp only [rd, dep, List.length_append, Nat.pow_add]
    split <;> omega
theorem rd_ok {bs : List Int} {n : Nat} : ∀ {q : Qn}, q.ok n → ∀ k ∈ q.rd bs, 0 ≤ k ∧ k < n
  | .peg p, h => by intro k hk; simp only [rd, List.mem_singleton] at hk; subst hk; simp only [ok] at h; omega
  | .sum a b, h => by intro k hk; rcases List.mem_append.mp hk with hk | hk; exact rd_ok h.1 k hk; exact rd_ok h.2 k hk
  | .most a b, h => by intro k hk; rcases List.mem_append.mp hk with hk | hk; exact rd_ok h.1 k hk; exact rd_ok h.2 k hk
  | .pick t a b, h => by
    intro k hk
    rcases List.mem_append.mp hk with hk | hk
    · exact rd_ok h.1 k hk
    · split at hk
      · exact rd_ok h.2.1 k hk
      · exact rd_ok h.2.2 k hk
theorem same {b1 b2 : List Int} : ∀ {q : Qn}, (∀ k ∈ q.rd b1, b1.getD k.toNat 0 = b2.getD k.toNat 0) → q.ans b2 = q.ans b1 ∧ q.rd b2 = q.rd b1
  | .peg p, h => by
    have := h p (by simp [rd])
    simp only [ans, rd, and_true]
    simpa using this.symm
  | .sum a b, h => by
    have ha := @same b1 b2 a fun k hk => h k (List.mem_append_left _ hk)
    have hb := @same b1 b2 b fun k hk => h k (List.mem_append_right _ hk)
    simp [ans, rd, ha, hb]
  | .most a b, h => by
    have ha := @same b1 b2 a fun k hk => h k (List.mem_append_left _ hk)
    have hb := @same b1 b2 b fun k hk => h k (List.mem_append_right _ hk)
    simp [ans, rd, ha, hb]
  | .pick t a b, h => by
    have ht := @same b1 b2 t fun k hk => h k (List.mem_append_left _ hk)
    by_cases hp : 0 < t.ans b1
    · have ha := @same b1 b2 a fun k hk => h k (List.mem_append_right _ (by rw [if_pos hp]; exact hk))
      simp [ans, rd, ht, hp, ha]
    · have hb := @same b1 b2 b fun k hk => h k (List.mem_append_right _ (by rw [if_neg hp]; exact hk))
      simp [ans, rd, ht, hp, hb]
end Qn
@[simp] theorem e_sp : (Str.ofString "sum" == Str.ofString "peg") = false := by decide +kernel
@[simp] theorem e_mp : (Str.ofString "most" == Str.ofString "peg") = false := by decide +kernel
@[simp] theorem e_kp : (Str.ofString "pick" == Str.ofString "peg") = false := by decide +kernel
@[simp] theorem e_sk : (Str.ofString "sum" == Str.ofString "pick") = false := by decide +kernel
@[simp] theorem e_mk : (Str.ofString "most" == Str.ofString "pick") = false := by decide +kernel
@[simp] theorem e_ms : (Str.ofString "most" == Str.ofString "sum") = false := by decide +kernel
@[simp] theorem e_rf (s : Str) : (s == s) = true := by simp
abbrev bd (bs : List Int) : D := .tuple (bs.map .int)
theorem bd_ix {bs : List Int} {p : Nat} (h : p < bs.length) : oIx (bd bs) (.int p) = some (.int (bs.getD p 0)) := oIx_tupI (i := (p : Int)) (by omega) (by omega)
theorem answer_eq {bs : List Int} {B : D} (hB : B = bd bs) : ∀ {q : Qn} {m : Nat}, q.dep < m → q.ok bs.length → D_law_answer m [B, q.enc] = some (.int (q.ans bs))
  | .peg p, m + 1, hm, h => by
    have e := bd_ix h
    rw [← hB] at e
    show runFn 4 2 (b_law_answer (D_law_answer m)) _ = _
    simp [runFn, startE, b_law_answer, Qn.enc, Qn.ans, e]
  | .sum a b, m + 1, hm, h => by
    simp only [Qn.dep] at hm
    have ea := @answer_eq bs B hB a m (by omega) h.1
    have eb := @answer_eq bs B hB b m (by omega) h.2
    show runFn 4 2 (b_law_answer (D_law_answer m)) _ = _
    simp [runFn, startE, b_law_answer, Qn.enc, Qn.ans, ea, eb]
  | .most a b, m + 1, hm, h => by
    simp only [Qn.dep] at hm
    have ea := @answer_eq bs B hB a m (by omega) h.1
    have eb := @answer_eq bs B hB b m (by omega) h.2
    show runFn 4 2 (b_law_answer (D_law_answer m)) _ = _
    simp [runFn, startE, b_law_answer, Qn.enc, Qn.ans, ea, eb]
  | .pick t a b, m + 1, hm, h => by
    simp only [Qn.dep] at hm
    have et := @answer_eq bs B hB t m (by omega) h.1
    have ea := @answer_eq bs B hB a m (by omega) h.2.1
    have eb := @answer_eq bs B hB b m (by omega) h.2.2
    show runFn 4 2 (b_law_answer (D_law_answer m)) _ = _
    by_cases hp : 0 < t.ans bs <;> simp [runFn, startE, b_law_answer, Qn.enc, Qn.ans, et, ea, eb, hp]
theorem at_eq {bs : List Int} {B : D} (hB : B = bd bs) : ∀ {q : Qn} {m : Nat}, 2 * q.dep < m → q.ok bs.length → D_answer_at m [B, q.enc] = some (.int (q.ans bs))
  | .peg p, m + 1, hm, h => by
    have e := bd_ix h
    rw [← hB] at e
    show runFn 4 2 (b_answer_at (D_taken_question m) (D_answer_at m)) _ = _
    simp [runFn, startE, b_answer_at, Qn.enc, Qn.ans, e]
  | .sum a b, m + 1, hm, h => by
    simp only [Qn.dep] at hm
    have ea := @at_eq bs B hB a m (by omega) h.1
    have eb := @at_eq bs B hB b m (by omega) h.2
    show runFn 4 2 (b_answer_at (D_taken_question m) (D_answer_at m)) _ = _
    simp [runFn, startE, b_answer_at, Qn.enc, Qn.ans, ea, eb]
  | .most a b, m + 1, hm, h => by
    simp only [Qn.dep] at hm
    have ea := @at_eq bs B hB a m (by omega) h.1
    have eb := @at_eq bs B hB b m (by omega) h.2
    show runFn 4 2 (b_answer_at (D_taken_question m) (D_answer_at m)) _ = _
    simp [runFn, startE, b_answer_at, Qn.enc, Qn.ans, ea, eb]
  | .pick t a b, 0 + 1, hm, h => by simp only [Qn.dep] at hm; omega
  | .pick t a b, (m + 1) + 1, hm, h => by
    simp only [Qn.dep] at hm
    have et := @at_eq bs B hB t m (by omega) h.1
    have ea := @at_eq bs B hB a (m + 1) (by omega) h.2.1
    have eb := @at_eq bs B hB b (m + 1) (by omega) h.2.2
    show runFn 4 2 (b_answer_at (runFn 2 2 (b_taken_question (D_taken_question m) (D_answer_at m))) (D_answer_at (m + 1))) _ = _
    simp only [Qn.enc] at ea eb et ⊢
    by_cases hp : 0 < t.ans bs <;> simp [runFn, startE, b_answer_at, b_taken_question, Qn.ans, et, ea, eb, hp]
theorem taken_eq {bs : List Int} {B : D} (hB : B = bd bs) {t a b : Qn} {m : Nat} (hm : 2 * t.dep < m) (h : t.ok bs.length) : D_taken_question (m + 1) [B, (Qn.pick t a b).enc] = some (if 0 < t.ans bs then a.enc else b.enc) := by
  have et := at_eq hB hm h
  show runFn 2 2 (b_taken_question (D_taken_question m) (D_answer_at m)) _ = _
  by_cases hp : 0 < t.ans bs <;> simp [runFn, startE, b_taken_question, Qn.enc, et, hp]
theorem read_eq {bs : List Int} {B : D} (hB : B = bd bs) : ∀ {q : Qn} {m : Nat}, q.dep < m → q.dep < 16 → q.ok bs.length → D_law_read m [B, q.enc] = some (.list ((q.rd bs).map .int))
  | .peg p, m + 1, hm, _, h => by
    show runFn 3 2 (b_law_read (D_law_read m)) _ = _
    simp [runFn, startE, b_law_read, Qn.enc, Qn.rd, lim]
  | .sum a b, m + 1, hm, hd, h => by
    have hl := Qn.rd_len bs (.sum a b)
    have hx : 2 ^ (Qn.sum a b).dep ≤ 2 ^ 15 := Nat.pow_le_pow_right (by omega) (by omega)
    have hl2 : (a.rd bs).length + (b.rd bs).length ≤ lim := by rw [← List.length_append]; unfold lim; exact Nat.le_trans hl (Nat.le_trans hx (by decide))
    simp only [Qn.dep] at hm hd
    have ea := @read_eq bs B hB a m (by omega) (by omega) h.1
    have eb := @read_eq bs B hB b m (by omega) (by omega) h.2
    show runFn 3 2 (b_law_read (D_law_read m)) _ = _
    simp [runFn, startE, b_law_read, Qn.enc, Qn.rd, ea, eb, oAdd, hl2]
  | .most a b, m + 1, hm, hd, h => by
    have hl := Qn.rd_len bs (.most a b)
    have hx : 2 ^ (Qn.most a b).dep ≤ 2 ^ 15 := Nat.pow_le_pow_right (by omega) (by omega)
    have hl2 : (a.rd bs).length + (b.rd bs).length ≤ lim := by rw [← List.length_append]; unfold lim; exact Nat.le_trans hl (Nat.le_trans hx (by decide))
    simp only [Qn.dep] at hm hd
    have ea := @read_eq bs B hB a m (by omega) (by omega) h.1
    have eb := @read_eq bs B hB b m (by omega) (by omega) h.2
    show runFn 3 2 (b_law_read (D_law_read m)) _ = _
    simp [runFn, startE, b_law_read, Qn.enc, Qn.rd, ea, eb, oAdd, hl2]
  | .pick t a b, m + 1, hm, hd, h => by
    have hl := Qn.rd_len bs (.pick t a b)
    have hx : 2 ^ (Qn.pick t a b).dep ≤ 2 ^ 15 := Nat.pow_le_pow_right (by omega) (by omega)
    have hl2 : (t.rd bs).length + (if 0 < t.ans bs then a.rd bs else b.rd bs).length ≤ lim := by rw [← List.length_append]; unfold lim; exact Nat.le_trans hl (Nat.le_trans hx (by decide))
    simp only [Qn.dep] at hm hd
    have ew := @answer_eq bs B hB t 40 (by omega) h.1
    have et := @read_eq bs B hB t m (by omega) (by omega) h.1
    have ea := @read_eq bs B hB a m (by omega) (by omega) h.2.1
    have eb := @read_eq bs B hB b m (by omega) (by omega) h.2.2
    show runFn 3 2 (b_law_read (D_law_read m)) _ = _
    by_cases hp : 0 < t.ans bs
    · rw [if_pos hp] at hl2
      simp [runFn, startE, b_law_read, Qn.enc, Qn.rd, ew, et, ea, eb, hp, oAdd, hl2]
    · rw [if_neg hp] at hl2
      simp [runFn, startE, b_law_read, Qn.enc, Qn.rd, ew, et, ea, eb, hp, oAdd, hl2]
theorem sdd_app (a b : List Int) : sdd (sdd a ++ sdd b) = sdd (a ++ b) := sdd_eq fun k => by simp only [List.mem_append, mem_sdd]
theorem sdd_tup {a b : List Int} (h : a.length + b.length < 64) : ((oAdd (.tuple ((sdd a).map .int)) (.tuple ((sdd b).map .int))).bind fun x => oSortSet x) = some (.list ((sdd (a ++ b)).map .int)) := by
  have ha := @length_sdd a
  have hb := @length_sdd b
  rw [oAdd_tup (by rw [List.length_map, List.length_map]; unfold lim; omega), Option.bind_some, ← List.map_append, oSortSet_tup (by rw [List.length_append]; omega), sdd_app]
theorem pegs_eq {bs : List Int} {B : D} (hB : B = bd bs) : ∀ {q : Qn} {m : Nat}, q.dep < m → q.dep < 5 → q.ok bs.length → D_pegs_read m [B, q.enc] = some (.tuple ((sdd (q.rd bs)).map .int))
  | .peg p, m + 1, hm, _, h => by
    show runFn 3 2 (b_pegs_read (D_pegs_read m)) _ = _
    simp [runFn, startE, b_pegs_read, Qn.enc, Qn.rd, lim, sdd, insU]
  | .sum a b, m + 1, hm, hd, h => by
    have hl := Qn.rd_len bs (.sum a b)
    have hx : 2 ^ (Qn.sum a b).dep ≤ 2 ^ 4 := Nat.pow_le_pow_right (by omega) (by omega)
    have hl2 := sdd_tup (a := a.rd bs) (b := b.rd bs) (by rw [← List.length_append]; exact Nat.lt_of_le_of_lt hl (Nat.lt_of_le_of_lt hx (by decide)))
    simp only [Qn.dep] at hm hd
    have ea := @pegs_eq bs B hB a m (by omega) (by omega) h.1
    have eb := @pegs_eq bs B hB b m (by omega) (by omega) h.2
    show runFn 3 2 (b_pegs_read (D_pegs_read m)) _ = _
    simp [runFn, startE, b_pegs_read, Qn.enc, Qn.rd, ea, eb, hl2]
  | .most a b, m + 1, hm, hd, h => by
    have hl := Qn.rd_len bs (.most a b)
    have hx : 2 ^ (Qn.most a b).dep ≤ 2 ^ 4 := Nat.pow_le_pow_right (by omega) (by omega)
    have hl2 := sdd_tup (a := a.rd bs) (b := b.rd bs) (by rw [← List.length_append]; exact Nat.lt_of_le_of_lt hl (Nat.lt_of_le_of_lt hx (by decide)))
    simp only [Qn.dep] at hm hd
    have ea := @pegs_eq bs B hB a m (by omega) (by omega) h.1
    have eb := @pegs_eq bs B hB b m (by omega) (by omega) h.2
    show runFn 3 2 (b_pegs_read (D_pegs_read m)) _ = _
    simp [runFn, startE, b_pegs_read, Qn.enc, Qn.rd, ea, eb, hl2]
  | .pick t a b, m + 1, hm, hd, h => by
    have hl := Qn.rd_len bs (.pick t a b)
    have hx : 2 ^ (Qn.pick t a b).dep ≤ 2 ^ 4 := Nat.pow_le_pow_right (by omega) (by omega)
    have hl2 := sdd_tup (a := t.rd bs) (b := if 0 < t.ans bs then a.rd bs else b.rd bs) (by rw [← List.length_append]; exact Nat.lt_of_le_of_lt hl (Nat.lt_of_le_of_lt hx (by decide)))
    simp only [Qn.dep] at hm hd
    have ew := @taken_eq bs B hB t a b 39 (by omega) h.1
    have et := @pegs_eq bs B hB t m (by omega) (by omega) h.1
    have ea := @pegs_eq bs B hB a m (by omega) (by omega) h.2.1
    have eb := @pegs_eq bs B hB b m (by omega) (by omega) h.2.2
    show runFn 3 2 (b_pegs_read (D_pegs_read m)) _ = _
    simp only [Qn.enc] at ew ⊢
    by_cases hp : 0 < t.ans bs
    · rw [if_pos hp] at hl2 ew
      simp [runFn, startE, b_pegs_read, Qn.rd, ew, et, ea, eb, hp, hl2]
    · rw [if_neg hp] at hl2 ew
      simp [runFn, startE, b_pegs_read, Qn.rd, ew, et, ea, eb, hp, hl2]
end Law
namespace Law
open PySem PySem.Spec L2 PL
open PyProof.Rows hiding St
theorem is_int (a : Int) (m : Nat) : D_law_is (m + 1) [.int a, .int a] = some (.bool true) := by
  show runFn 3 2 (b_law_is (D_law_is m)) _ = _
  simp [runFn, startE, b_law_is, D_law_is_integer, b_law_is_integer, isi]
theorem is_none (m : Nat) : D_law_is (m + 1) [.none, .none] = some (.bool true) := by
  show runFn 3 2 (b_law_is (D_law_is m)) _ = _
  simp [runFn, startE, b_law_is]
theorem is_tup {xs : List D} {m : Nat} (h : ∀ x ∈ xs, D_law_is m [x, x] = some (.bool true)) (hl : xs.length ≤ 1000000) : D_law_is (m + 1) [.tuple xs, .tuple xs] = some (.bool true) := by
  have hc : dComp [2] (fRng1 (d1 oLen (dB 1))) (tgN 2) uYes (dCall (D_law_is m) (dCons (d2 oIx (dB 0) (dB 2)) (dCons (d2 oIx (dB 1) (dB 2)) dNil))) [some (.sh (.tuple xs)), some (.sh (.tuple xs)), none] = some (.list (((List.range xs.length).map fun _ => true).map .bool)) := by
    refine dComp_of (fRng1_of (n := (xs.length : Int)) (by simp) (by omega)) ?_
    rw [List.map_map]
    refine compL_map _ _ fun i hi => ?_
    have hi : i < xs.length := by simpa using hi
    refine ⟨_, rfl, ?_⟩
    have e : oIx (.tuple xs) (.int (0 + (i : Nat))) = some xs[i] := by
      rw [oIx_tup (by omega) (by omega), List.getD_eq_getElem?_getD]
      have : (0 + (i : Int)).toNat = i := by omega
      rw [this, List.getElem?_eq_getElem hi]
      rfl
    have := h xs[i] (List.getElem_mem hi)
    simp at e
    simp [wipeE, e, this]
  have ha : oAll (.list (((List.range xs.length).map fun _ => true).map .bool)) = some (.bool true) := by
    show (asBools _).bind _ = _
    rw [asBools_map]
    simp
  show runFn 3 2 (b_law_is (D_law_is m)) _ = _
  simp only [runFn, startE, b_law_is]
  simp [isi]
  rw [hc, Option.bind_some, ha]
  rfl
theorem is_pegs (ns : List Int) (hl : ns.length ≤ 1000000) (m : Nat) : D_law_is (m + 1 + 1) [.tuple (ns.map .int), .tuple (ns.map .int)] = some (.bool true) :=
  is_tup (fun x hx => by obtain ⟨n, _, rfl⟩ := List.mem_map.mp hx; exact is_int n m) (by rw [List.length_map]; exact hl)
def df (F S : List Int) (p : Int) : Bool := !(F.getD p.toNat 0 == S.getD p.toNat 0)
def oh : Option Int → D
  | some p => .int p
  | none => .none
theorem df_ev {F S : List Int} {A B : D} (hA : A = bd F) (hB : B = bd S) (hn : S.length = F.length) {p : Int} (hp : 0 ≤ p ∧ p < F.length) :
    ((oIx A (.int p)).bind fun x => (oIx B (.int p)).bind fun y => oNe x y) = some (.bool (df F S p)) := by
  rw [hA, hB, oIx_tupI hp.1 hp.2, oIx_tupI hp.1 (by omega), Option.bind_some, Option.bind_some, oNe_int]
  rfl
theorem told_eq {F S : List Int} {A B : D} (hA : A = bd F) (hB : B = bd S) (hn : S.length = F.length) {q : Qn} (hd : q.dep < 5) (h : q.ok F.length) : D_told_cause [A, B, q.enc] = some (oh ((sdd (q.rd F)).find? (df F S))) := by
  have go : ∀ (ps : List Int) (x : Option SV), (∀ p ∈ ps, 0 ≤ p ∧ p < F.length) → ∃ o, forL (tgN 3) (sSeq (sIf (fB (d2 oNe (d2 oIx (dB 0) (dB 3)) (d2 oIx (dB 1) (dB 3)))) 
        (sSeq (sRet (dV 3)) sNil) sNil) sNil) (ps.map .int) [some (.sh A), some (.sh B), some (.sh q.enc), x] = some o ∧ match ps.find? (df F S) with
        | some p => o = .rt (.int p)
        | none => ∃ y, o = .nx [some (.sh A), some (.sh B), some (.sh q.enc), y] := by
    intro ps
    induction ps with
    | nil => exact fun x _ => ⟨_, rfl, _, rfl⟩
    | cons p ps ih =>
      intro x hp
      have e := df_ev hA hB hn (hp p List.mem_cons_self)
      cases hb : df F S p with
      | true =>
        rw [hb] at e
        rw [List.find?_cons_of_pos hb]
        refine ⟨.rt (.int p), ?_, rfl⟩
        simp [forL, e]
      | false =>
        rw [hb] at e
        rw [List.find?_cons_of_neg (by simp [hb])]
        obtain ⟨o, h1, h2⟩ := ih (some (.sh (.int p))) fun p' h' => hp p' (List.mem_cons_of_mem _ h')
        refine ⟨o, ?_, h2⟩
        rw [List.map_cons]
        unfold forL
        simp only [ev_tgN, Option.bind_some]
        simp [e]
        exact h1
  have e1 := pegs_eq hA (m := 40) (by omega) hd h
  obtain ⟨o, h1, h2⟩ := go (sdd (q.rd F)) none fun p hp => Qn.rd_ok h p (mem_sdd.mp hp)
  refine runFn_of rfl ?_
  cases hf : (sdd (q.rd F)).find? (df F S) with
  | some p =>
    rw [hf] at h2
    cases h2
    refine ⟨.rt (.int p), ?_, rfl⟩
    unfold b_told_cause
    simp [sFor, fSeq, e1, asSeq, startE, h1]
  | none =>
    rw [hf] at h2
    obtain ⟨y, rfl⟩ := h2
    refine ⟨.rt .none, ?_, rfl⟩
    unfold b_told_cause
    simp [sFor, fSeq, e1, asSeq, startE, h1]
theorem judged_eq {F S : List Int} {A B : D} (hA : A = bd F) (hB : B = bd S) (hn : S.length = F.length) {q : Qn} (hd : q.dep < 5) (h : q.ok F.length) : D_law_judged [A, B, q.enc] = some (.bool true) := by
  have hl : (q.rd F).length < 64 := Nat.lt_of_le_of_lt (Qn.rd_len F q) (Nat.lt_of_le_of_lt (Nat.pow_le_pow_right (by omega) (by omega : q.dep ≤ 4)) (by decide))
  have hlS : (q.rd S).length < 64 := Nat.lt_of_le_of_lt (Qn.rd_len S q) (Nat.lt_of_le_of_lt (Nat.pow_le_pow_right (by omega) (by omega : q.dep ≤ 4)) (by decide))
  have hs := @length_sdd (q.rd F)
  have h' : q.ok S.length := by rw [hn]; exact h
  have e1 := read_eq hA (m := 40) (by omega) (by omega) h
  have e2 := oSortSet_list hl
  have e3 := answer_eq hA (m := 40) (by omega) h
  have e3' := answer_eq hB (m := 40) (by omega) h'
  have e4 := at_eq hA (m := 40) (by omega) h
  have e4' := at_eq hB (m := 40) (by omega) h'
  have e5 := pegs_eq hA (m := 40) (by omega) hd h
  have e5' := pegs_eq hB (m := 40) (by omega) hd h'
  have e6 := is_pegs (sdd (q.rd F)) (by omega) 38
  have e7 := told_eq hA hB hn hd h
  have e8 : ∀ a, D_law_is 40 [.int a, .int a] = some (.bool true) := fun a => is_int a 39
  have e9 : D_law_is 40 [.none, .none] = some (.bool true) := is_none 39
  have hc : ∀ a b c d, dComp [7] (fSeq (dB 3)) (tgN 7) (fB (d2 oNe (d2 oIx (dB 0) (dB 7)) (d2 oIx (dB 1) (dB 7)))) (dV 7) [some (.sh A), some (.sh B), some (.sh q.enc), some (.sh (.tuple ((sdd (q.rd F)).map .int))), a, b, c, d] = some (.list (((sdd (q.rd F)).filter (df F S)).map .int)) := by
    intro a b c d
    refine dComp_of (fSeq_tup rfl) ?_
    refine compL_mapF _ _ _ fun p hp => ?_
    have e := df_ev hA hB hn (Qn.rd_ok h p (mem_sdd.mp hp))
    exact ⟨_, rfl, by simp [wipeE, e], fun _ => by simp [wipeE]⟩
  rw [← List.head?_filter] at e7
  show runFn 8 3 b_law_judged _ = _
  unfold b_law_judged
  cases hf : (sdd (q.rd F)).filter (df F S) with
  | nil =>
    rw [hf] at e7 hc
    have hsame := @Qn.same F S q fun k hk => by
      have := List.filter_eq_nil_iff.mp hf k (mem_sdd.mpr hk)
      simpa [df] using this
    rw [hsame.1] at e4'
    rw [hsame.2] at e5'
    have e7 : D_told_cause [A, B, q.enc] = some .none := e7
    simp [runFn, startE, e1, e2, e3, e4, e5, e6, e7, e8, e9, hc, e4', e5']
  | cons p r =>
    rw [hf] at e7 hc
    have e7 : D_told_cause [A, B, q.enc] = some (.int p) := e7
    have hp : (0 : Int) < r.length + 1 := by omega
    simp [runFn, startE, e1, e2, e3, e4, e5, e6, e7, e8, e9, hc, e4', e3', e5', hp]
end Law
namespace Law
open PySem PySem.Spec L2 PL
open PyProof.Rows hiding St
/-- a list of draws -/
def Drawn (ns : List Int) : Prop := ∀ d ∈ ns, 0 ≤ d ∧ d < 5040
theorem Drawn.snoc {ns : List Int} {d : Int} (h : Drawn ns) (hd : 0 ≤ d ∧ d < 5040) : Drawn (ns ++ [d]) := by
  intro x hx
  rcases List.mem_append.mp hx with hx | hx
  · exact h x hx
  · rw [List.mem_singleton.mp hx]; exact hd
theorem Drawn.at {ns : List Int} (h : Drawn ns) {k : Nat} (hk : k < ns.length) : 0 ≤ ns.getD k 0 ∧ ns.getD k 0 < 5040 := by
  rw [List.getD_eq_getElem?_getD, List.getElem?_eq_getElem hk]
  exact h _ (List.getElem_mem hk)
theorem runFn_ex {n m : Nat} {b : PEnv → Option Out} {ds : List D} {P : D → Prop} (hl : ds.length = m) (h : R b (startE n ds) fun o => ∃ d, isV d o ∧ P d) : ∃ d, runFn n m b ds = some d ∧ P d := by
  obtain ⟨o, h1, d, h2, h3⟩ := h
  exact ⟨d, runFn_of hl ⟨o, h1, h2⟩, h3⟩
theorem rangeD_at {n : Nat} {lo : Int} {i : Nat} {x : D} (h : (rangeD lo n)[i]? = some x) : x = .int (lo + (i : Nat)) ∧ i < n := by
  unfold rangeD at h
  rw [List.getElem?_map] at h
  obtain ⟨j, h1, h2⟩ := Option.map_eq_some_iff.mp h
  obtain ⟨h3, h4⟩ := List.getElem?_eq_some_iff.mp h1
  have h5 : i < n := by simpa using h3
  rw [List.getElem_range] at h4
  subst h4
  exact ⟨h2.symm, h5⟩
theorem snoc_map (ns : List Int) (d : Int) : ns.map PyData.int ++ [PyData.int d] = (ns ++ [d]).map .int := by rw [List.map_append]; rfl
theorem rangeD_ex {n : Nat} {lo : Int} {i : Nat} {x : D} (h : (rangeD lo n)[i]? = some x) : ∃ k : Int, i < n ∧ x = .int k := ⟨_, (rangeD_at h).2, (rangeD_at h).1⟩
theorem draws_eq (c : Int) : ∃ d, D_law_draws [.int c, .int 40] = some d ∧ ∃ ns : List Int, d = .list (ns.map .int) ∧ ns.length = 40 ∧ Drawn ns := by
  refine runFn_ex rfl ?_
  unfold b_law_draws
  refine R_seq (R_set (d := .int (if c < 0 then -c else c)) (by simp [startE]) ?_)
  refine R_seq (R_set (d := .bool (decide ((10 : Int) ^ 18 ≤ (if c < 0 then -c else c)))) (by simp [startE, oPow]) ?_)
  refine R_seq (R_set (d := .int (if c < 0 then -c else c)) (by simp [startE]) ?_)
  refine R_seq (R_setN (d := .list []) (by simp) ?_)
  refine R_seq (R_for (fRng1_of (n := 40) (by simp [startE]) (by decide)) (fun i ρ => ∃ (rest : Int) (dg : Bool) (seed : Int) (ns : List Int) (k mx : Option SV),
    ρ = [some (.sh (.int c)), some (.sh (.int 40)), some (.sh (.int rest)), some (.sh (.bool dg)), some (.sh (.int seed)), some (.ow (.list (ns.map .int))), k, mx] ∧ ns.length = i ∧ Drawn ns)
    ⟨_, _, _, [], _, _, rfl, rfl, fun _ h => nomatch h⟩ ?_ ?_)
  · rintro i x ρ hx ⟨rest, dg, seed, ns, k, mx, rfl, hl, hd⟩
    obtain ⟨kk, hi, rfl⟩ := rangeD_ex hx
    clear hx
    refine ⟨_, rfl, R_seq (R_if (b := dg && decide (0 < rest)) (by cases dg <;> simp) (fun hb => ?_) (fun hb => ?_))⟩
    · refine R_seq (R_app (d := .int (rest % 5040)) (by simp) rfl (by rw [List.length_map]; unfold lim; omega) ?_)
      refine R_seq (R_set (d := .int (rest / 5040)) (by simp) ?_)
      exact R_nil (R_nil ⟨_, _, _, ns ++ [rest % 5040], _, _, by rw [snoc_map]; rfl, by rw [List.length_append, hl]; rfl, hd.snoc (by omega)⟩)
    · obtain ⟨m, hm⟩ : ∃ m : Int, m = (seed * 48271 + (kk + 1) * 69621 + 11) % 2147483647 := ⟨_, rfl⟩
      have hm' : -(2 ^ 64) < m ∧ m < 2 ^ 64 := by omega
      obtain ⟨z, hz⟩ : ∃ z : Int, z = (m * m + 40692 * (kk + 3)) % 2147483399 := ⟨_, rfl⟩
      refine R_seq (R_set (d := .int m) (by simp [hm]) ?_)
      refine R_seq (R_set (d := .int z) (by simp [oMul_left hm', hz]) ?_)
      clear hm hz
      refine R_seq (R_app (d := .int (z / 64 % 5040)) (by simp) rfl (by rw [List.length_map]; unfold lim; omega) ?_)
      exact R_nil (R_nil ⟨_, _, _, ns ++ [z / 64 % 5040], _, _, by rw [snoc_map]; rfl, by rw [List.length_append, hl]; rfl, hd.snoc (by omega)⟩)
  · rintro ρ ⟨rest, dg, seed, ns, k, mx, rfl, hl, hd⟩
    exact R_seq ⟨_, rfl, _, rfl, ns, rfl, hl, hd⟩
/-! ### the questions -/
def pe (e : Qn × Nat) : D := .tuple [e.1.enc, .int (e.2 : Nat)]
def Pool (n : Nat) (ps : List (Qn × Nat)) : Prop := ps ≠ [] ∧ ∀ e ∈ ps, e.1.ok n ∧ e.1.dep ≤ e.2 ∧ e.2 ≤ 4
theorem Pool.snoc {n : Nat} {ps : List (Qn × Nat)} (h : Pool n ps) {e : Qn × Nat} (he : e.1.ok n ∧ e.1.dep ≤ e.2 ∧ e.2 ≤ 4) : Pool n (ps ++ [e]) := by
  refine ⟨by simp, fun x hx => ?_⟩
  rcases List.mem_append.mp hx with hx | hx
  · exact h.2 x hx
  · rw [List.mem_singleton.mp hx]; exact he
theorem pool_ix {n : Nat} {ps : List (Qn × Nat)} (h : Pool n ps) (x : Int) : ∃ e ∈ ps, oIx (.list (ps.map pe)) (.int (x % (ps.length : Int))) = some (pe e) := by
  have hl : 0 < ps.length := List.length_pos_iff.mpr h.1
  have h0 := Int.emod_nonneg x (b := (ps.length : Int)) (by omega)
  have h1 := Int.emod_lt_of_pos x (b := (ps.length : Int)) (by omega)
  have hk : (x % (ps.length : Int)).toNat < ps.length := by omega
  refine ⟨ps[(x % (ps.length : Int)).toNat], List.getElem_mem hk, ?_⟩
  rw [oIx_list h0 (by rw [List.length_map]; exact h1), List.getD_eq_getElem?_getD, List.getElem?_map, List.getElem?_eq_getElem hk]
  rfl
theorem max3 (a b c : Int) : oMaxL (.list [.int a, .int b, .int c]) = some (.int (max (max a b) c)) := by
  have e := PySem.W.maxD_ints a [b, c]
  show (if (alikeL [.int a, .int b, .int c] && decide (PyData.depthAll [.int a, .int b, .int c] ≤ 50)) = true then some (PySem.W.maxD (.int a) [.int b, .int c]) else none) = _
  rw [if_pos]
  · exact congrArg some e
  · simp [alikeL, notNone, PySem.W.alike, PyData.depthAll, PyData.depth]
theorem pegD (n : Nat) (hn : 1 ≤ n ∧ n ≤ 6) (d : Int) : d % (n : Int) = (((d % (n : Int)).toNat : Nat) : Int) ∧ (d % (n : Int)).toNat < n := by
  have h0 := Int.emod_nonneg d (b := (n : Int)) (by omega)
  have h1 := Int.emod_lt_of_pos d (b := (n : Int)) (by omega)
  omega
theorem snoc_pe (ps : List (Qn × Nat)) (e : Qn × Nat) : ps.map pe ++ [pe e] = (ps ++ [e]).map pe := by rw [List.map_append]; rfl
theorem questions_eq {ns : List Int} {n : Nat} (hl : ns.length = 24) (hd : Drawn ns) (hn : 1 ≤ n ∧ n ≤ 6) : ∃ d, D_law_questions [.list (ns.map .int), .int (n : Nat), .int 14] = some d ∧ ∃ qs : List Qn, d = .list (qs.map Qn.enc) ∧ ∀ q ∈ qs, q.ok n ∧ q.dep < 5 := by
  refine runFn_ex rfl ?_
  unfold b_law_questions
  have hnp : (0 : Int) < (n : Int) := by omega
  have i0 : oIx (.list (ns.map .int)) (.int 0) = some (.int (ns.getD 0 0)) := oIx_listI (by omega) (by omega)
  have i1 : oIx (.list (ns.map .int)) (.int 1) = some (.int (ns.getD 1 0)) := oIx_listI (by omega) (by omega)
  have i2 : oIx (.list (ns.map .int)) (.int 2) = some (.int (ns.getD 2 0)) := oIx_listI (by omega) (by omega)
  obtain ⟨p0, q0⟩ := pegD n hn (ns.getD 0 0)
  obtain ⟨p1, q1⟩ := pegD n hn (ns.getD 1 0)
  obtain ⟨p2, q2⟩ := pegD n hn (ns.getD 2 0)
  refine R_seq (R_setN (d := .list ([(.peg (ns.getD 0 0 % (n : Int)).toNat, 0), (.peg (ns.getD 1 0 % (n : Int)).toNat, 0), (.peg (ns.getD 2 0 % (n : Int)).toNat, 0)].map pe)) ?_ ?_)
  · simp only [List.map_cons, List.map_nil, pe, Qn.enc, ← p0, ← p1, ← p2]
    simp [startE, i0, i1, i2, lim, oMod_int hnp]
  refine R_seq (R_for (fRng1_of (n := 14) (by simp [startE]) (by decide)) (fun i ρ => ∃ (ps : List (Qn × Nat)) (a b c d e f g h : Option SV),
    ρ = [some (.sh (.list (ns.map .int))), some (.sh (.int (n : Nat))), some (.sh (.int 14)), some (.ow (.list (ps.map pe))), a, b, c, d, e, f, g, h] ∧ ps.length ≤ i + 3 ∧ Pool n ps)
    ⟨_, _, _, _, _, _, _, _, _, rfl, Nat.le_refl _, by simp, fun e he => ?_⟩ ?_ ?_)
  · simp only [List.mem_cons, List.not_mem_nil, or_false] at he
    rcases he with rfl | rfl | rfl <;> exact ⟨by assumption, Nat.le_refl _, Nat.zero_le _⟩
  · rintro i x ρ hx ⟨ps, a, b, c, d, e, f, g, h, rfl, hlp, hp⟩
    obtain ⟨rfl, hi⟩ := rangeD_at hx
    have hi : i < 14 := hi
    have i3 : oIx (.list (ns.map .int)) (.int (3 + (0 + (i : Nat)))) = some (.int (ns.getD (3 + (0 + (i : Int))).toNat 0)) := oIx_listI (by omega) (by omega)
    have hpos : (0 : Int) < (ps.length : Int) := by have := List.length_pos_iff.mpr hp.1; omega
    generalize hw : ns.getD (3 + (0 + (i : Int))).toNat 0 = w at i3
    simp only [Int.zero_add] at i3
    refine ⟨_, rfl, R_seq (R_set (d := .int w) (by simp [i3]) ?_)⟩
    obtain ⟨e1, m1, x1⟩ := pool_ix hp (w / 1)
    obtain ⟨e2, m2, x2⟩ := pool_ix hp (w / 13)
    obtain ⟨e3, m3, x3⟩ := pool_ix hp (w / 163)
    simp only [Int.ediv_one] at x1
    obtain ⟨o1, g1, k1⟩ := hp.2 e1 m1
    obtain ⟨o2, g2, k2⟩ := hp.2 e2 m2
    obtain ⟨o3, g3, k3⟩ := hp.2 e3 m3
    refine R_seq (R_set (d := .list [pe e1, pe e2, pe e3]) (dComp_of (xs := [.int 1, .int 13, .int 163]) (by simp [fSeq, asSeq, lim]) ?_) ?_)
    · simp [compL, wipeE, oMod_int hpos, x1, x2, x3]
    refine R_seq (R_set (d := .int (((1 + max (max e1.2 e2.2) e3.2 : Nat)) : Int)) ?_ ?_)
    · have hc : dComp [11] (fSeq (dB 6)) (tgN 11) uYes (d2 oIx (dB 11) (dC (.int 1))) (List.set (List.set (List.set [some (.sh (.list (ns.map .int))), some (.sh (.int (n : Nat))), some (.sh (.int 14)), some (.ow (.list (ps.map pe))), a, b, c, d, e, f, g, h] 4 (some (.sh (.int (0 + (i : Nat)))))) 5 (some (.sh (.int w)))) 6 (some (.sh (.list [pe e1, pe e2, pe e3])))) = some (.list [.int (e1.2 : Nat), .int (e2.2 : Nat), .int (e3.2 : Nat)]) :=
        dComp_of (xs := [pe e1, pe e2, pe e3]) (by simp [fSeq, asSeq]) (by simp [compL, wipeE, pe])
      show (dC (.int 1) _).bind _ = _
      rw [ev_dC, Option.bind_some, PL.ev_d1, hc, Option.bind_some, max3]
      simp only [Option.bind_some, oAdd_int]
      congr 2
      omega
    refine R_seq (R_set (d := .int (w % 5)) (by simp) ?_)
    have happ : ∀ (fe : PEnv → Option D) (ρ : PEnv) (q : Qn × Nat) (x4 x5 x6 x7 x8 x9 x10 x11 : Option SV), ρ = [some (.sh (.list (ns.map .int))), some (.sh (.int (n : Nat))), some (.sh (.int 14)), some (.ow (.list (ps.map pe))), x4, x5, x6, x7, x8, x9, x10, x11] →
        fe ρ = some (pe q) → (q.1.ok n ∧ q.1.dep ≤ q.2 ∧ q.2 ≤ 4) → R (sSeq (sApp 3 fe) sNil) ρ fun o => match o with
          | .nx ρ2 => ∃ (ps : List (Qn × Nat)) (a b c d e f g h : Option SV), ρ2 = [some (.sh (.list (ns.map .int))), some (.sh (.int (n : Nat))), some (.sh (.int 14)), some (.ow (.list (ps.map pe))), a, b, c, d, e, f, g, h] ∧ ps.length ≤ (i + 1) + 3 ∧ Pool n ps
          | _ => False := by
      intro fe ρ q x4 x5 x6 x7 x8 x9 x10 x11 hρ hf hq
      subst hρ
      exact R_seq (R_app hf rfl (by rw [List.length_map]; unfold lim; omega) (R_nil ⟨ps ++ [q], _, _, _, _, _, _, _, _, by rw [snoc_pe]; rfl, by rw [List.length_append]; simp; omega, hp.snoc hq⟩))
    have hfin : ∀ {s : PEnv → Option Out} {ρ : PEnv} {Q : Out → Prop}, R s ρ (fun o => match o with
          | .nx ρ2 => ∃ (ps : List (Qn × Nat)) (a b c d e f g h : Option SV), ρ2 = [some (.sh (.list (ns.map .int))), some (.sh (.int (n : Nat))), some (.sh (.int 14)), some (.ow (.list (ps.map pe))), a, b, c, d, e, f, g, h] ∧ ps.length ≤ (i + 1) + 3 ∧ Pool n ps
          | _ => False) → (∀ ρ2, (∃ (ps : List (Qn × Nat)) (a b c d e f g h : Option SV), ρ2 = [some (.sh (.list (ns.map .int))), some (.sh (.int (n : Nat))), some (.sh (.int 14)), some (.ow (.list (ps.map pe))), a, b, c, d, e, f, g, h] ∧ ps.length ≤ (i + 1) + 3 ∧ Pool n ps) → Q (.nx ρ2)) → R s ρ Q := by
      intro s ρ Q h1 h2
      refine h1.mono fun o ho => ?_
      cases o with
      | nx ρ2 => exact h2 ρ2 ho
      | _ => exact ho.elim
    refine R_seq (hfin (s := _) ?_ fun ρ2 hI => R_nil hI)
    refine R_if (b := decide (4 < (((1 + max (max e1.2 e2.2) e3.2 : Nat)) : Int))) (by simp) (fun hb => ?_) (fun hb => ?_)
    · obtain ⟨p4, q4⟩ := pegD n hn (w / 5)
      refine happ _ _ (.peg (w / 5 % (n : Int)).toNat, 0) _ _ _ _ _ _ _ _ rfl ?_ ⟨q4, Nat.le_refl _, Nat.zero_le _⟩
      simp only [pe, Qn.enc, ← p4]
      simp [lim, oMod_int hnp]
    · have hb : 1 + max (max e1.2 e2.2) e3.2 ≤ 4 := by simp at hb; omega
      refine R_seq (R_if (b := w % 5 == 0) (by simp) (fun hb => ?_) (fun hb => ?_))
      · refine (happ _ _ (.sum e1.1 e2.1, 1 + max (max e1.2 e2.2) e3.2) _ _ _ _ _ _ _ _ rfl ?_ ⟨⟨o1, o2⟩, by simp only [Qn.dep]; omega, by assumption⟩).mono fun o ho => ?_
        · simp [pe, Qn.enc, lim]
        · cases o with
          | nx ρ2 => exact R_nil ho
          | _ => exact ho.elim
      · refine R_seq (R_if (b := w % 5 == 1) (by simp) (fun hb => ?_) (fun hb => ?_))
        · refine (happ _ _ (.most e1.1 e2.1, 1 + max (max e1.2 e2.2) e3.2) _ _ _ _ _ _ _ _ rfl ?_ ⟨⟨o1, o2⟩, by simp only [Qn.dep]; omega, by assumption⟩).mono fun o ho => ?_
          · simp [pe, Qn.enc, lim]
          · cases o with
            | nx ρ2 => exact R_nil (R_nil ho)
            | _ => exact ho.elim
        · refine (happ _ _ (.pick e1.1 e2.1 e3.1, 1 + max (max e1.2 e2.2) e3.2) _ _ _ _ _ _ _ _ rfl ?_ ⟨⟨o1, o2, o3⟩, by simp only [Qn.dep]; omega, by assumption⟩).mono fun o ho => ?_
          · simp [pe, Qn.enc, lim]
          · cases o with
            | nx ρ2 => exact R_nil (R_nil ho)
            | _ => exact ho.elim
  · rintro ρ ⟨ps, a, b, c, d, e, f, g, h, rfl, hlp, hp⟩
    refine R_seq (R_retN (d := .list ((ps.map Prod.fst).map Qn.enc)) (dComp_of (xs := ps.map pe) (fSeq_list rfl) ?_) ⟨_, rfl, ps.map Prod.fst, rfl, fun q hq => ?_⟩)
    · rw [List.map_map]
      refine compL_map _ _ fun e he => ?_
      exact ⟨_, rfl, rfl⟩
    · obtain ⟨e, he, rfl⟩ := List.mem_map.mp hq
      have := hp.2 e he
      exact ⟨this.1, by omega⟩
end Law
namespace Law
open PySem PySem.Spec L2 PL
open PyProof.Rows hiding St
theorem ix_ints {ns : List Int} {k : Int} (h0 : 0 ≤ k) (h : k < ns.length) : ∃ z ∈ ns, oIx (.list (ns.map .int)) (.int k) = some (.int z) := by
  refine ⟨ns.getD k.toNat 0, ?_, oIx_listI h0 h⟩
  have hk : k.toNat < ns.length := by omega
  rw [List.getD_eq_getElem?_getD, List.getElem?_eq_getElem hk]
  exact List.getElem_mem hk
theorem ix_intsT {ns : List Int} {k : Int} (h0 : 0 ≤ k) (h : k < ns.length) : ∃ z ∈ ns, oIx (.tuple (ns.map .int)) (.int k) = some (.int z) := by
  refine ⟨ns.getD k.toNat 0, ?_, oIx_tupI h0 h⟩
  have hk : k.toNat < ns.length := by omega
  rw [List.getD_eq_getElem?_getD, List.getElem?_eq_getElem hk]
  exact List.getElem_mem hk
theorem ixN_in {n : Nat} {k : Int} (h0 : 0 ≤ k) (h : k < n) : ixN n k = some k.toNat := by
  unfold ixN
  rw [if_pos h0, if_pos h]
theorem set_map (ns : List Int) (j : Nat) (z : Int) : (ns.map PyData.int).set j (.int z) = (ns.set j z).map .int := by
  rw [List.map_set]
theorem snoc_bd (ps : List (List Int)) (e : List Int) : ps.map bd ++ [bd e] = (ps ++ [e]).map bd := by rw [List.map_append]; rfl
theorem cut16 {α : Type} (xs : List α) (h : xs.length = 40) : cut xs (some 16) none = (xs.drop 16) := by
  unfold cut
  rw [h]
  show (xs.drop 16).take 24 = _
  exact List.take_of_length_le (by rw [List.length_drop, h]; decide)
theorem rangeD_k {n : Nat} {i : Nat} {x : D} (h : (rangeD 0 n)[i]? = some x) : ∃ k : Int, (k = (i : Int) ∧ i < n) ∧ x = .int k := ⟨(i : Int), ⟨rfl, (rangeD_at h).2⟩, by rw [(rangeD_at h).1, Int.zero_add]⟩
theorem hall (ns : List Int) (_ : ns.length ≤ 63) : b_law (startL 12 ns) = some (.rt (.bool true)) := by
  suffices h : R b_law (startL 12 ns) fun o => o = .rt (.bool true) by
    obtain ⟨o, h1, rfl⟩ := h
    exact h1
  unfold b_law
  refine R_seq (R_for (fRng1_of (n := 2) (by simp) (by decide)) (fun i ρ => ∃ (a b c d e f g h j k l : Option SV), ρ = [some (.scr ns), a, b, c, d, e, f, g, h, j, k, l])
    ⟨_, _, _, _, _, _, _, _, _, _, _, rfl⟩ ?_ ?_)
  rotate_left
  · rintro ρ ⟨a, b, c, d, e, f, g, h, j, k, l, rfl⟩
    exact R_seq (R_ret (d := .bool true) rfl rfl)
  rintro i x ρ hx ⟨a, b, c, d, e, f, g, h, j, k, l, rfl⟩
  obtain ⟨hx, hi⟩ := rangeD_at hx
  obtain ⟨kk, hk⟩ : ∃ kk : Int, kk = 0 + (i : Nat) := ⟨_, rfl⟩
  rw [← hk] at hx
  have hk0 : 0 ≤ kk := by omega
  clear hk
  subst hx
  refine ⟨_, rfl, ?_⟩
  obtain ⟨_, hdr, ds, rfl, hdl, hds⟩ := draws_eq (cellF ns kk.toNat)
  refine R_seq (R_set (d := .list (ds.map .int)) ?_ ?_)
  · simp [dCell, asI, hk0, hdr]
  have i0 : oIx (.list (ds.map .int)) (.int 0) = some (.int (ds.getD 0 0)) := oIx_listI (by omega) (by omega)
  have i1 : oIx (.list (ds.map .int)) (.int 1) = some (.int (ds.getD 1 0)) := oIx_listI (by omega) (by omega)
  obtain ⟨n, hn, hnx⟩ : ∃ n : Nat, (1 ≤ n ∧ n ≤ 6) ∧ oIx (.tuple ([(4 : Int), 6, 3, 5, 2, 1].map .int)) (.int (ds.getD 0 0 % 6)) = some (.int (n : Nat)) := by
    obtain ⟨z, hz, e⟩ := ix_intsT (ns := [(4 : Int), 6, 3, 5, 2, 1]) (k := ds.getD 0 0 % 6) (by omega) (by show _ < (6 : Int); omega)
    simp only [List.mem_cons, List.not_mem_nil, or_false] at hz
    refine ⟨z.toNat, by omega, ?_⟩
    rw [e, show ((z.toNat : Nat) : Int) = z by omega]
  simp only [List.map_cons, List.map_nil] at hnx
  generalize ds.getD 0 0 = d0 at i0 hnx
  refine R_seq (R_set (d := .int (n : Nat)) (by simp [i0, lim, hnx]) ?_)
  obtain ⟨ws, hwl, hwx⟩ : ∃ ws : List Int, ws.length = 4 ∧ oIx (.tuple [.tuple [.int (0 - 1), .int 0, .int 1, .int 2], .tuple [.int (0 - 1000), .int 1000, .int 0, .int 3]]) (.int (ds.getD 1 0 % 2)) = some (.tuple (ws.map .int)) := by
    have : ds.getD 1 0 % 2 = 0 ∨ ds.getD 1 0 % 2 = 1 := by omega
    rcases this with e | e <;> rw [e]
    · exact ⟨[0 - 1, 0, 1, 2], rfl, ix_0⟩
    · exact ⟨[0 - 1000, 1000, 0, 3], rfl, ix_1⟩
  generalize ds.getD 1 0 = d1' at i1 hwx
  refine R_seq (R_set (d := .tuple (ws.map .int)) (by (try simp at hwx); simp [i1, lim, hwx]) ?_)
  refine R_seq (R_setN (d := .list []) (by simp) ?_)
  have hw4 : ∀ x : Int, ∃ z, oIx (.tuple (ws.map .int)) (.int (x % 4)) = some (.int z) := fun x => by
    obtain ⟨z, _, e⟩ := ix_intsT (ns := ws) (k := x % 4) (by omega) (by omega)
    exact ⟨z, e⟩
  refine R_seq (R_for (fRng1_of (n := (n : Int)) (by simp) (by omega)) (fun i ρ => ∃ (fs : List Int) (a b c d e f : Option SV), ρ = [some (.scr ns), some (.sh (.int kk)), some (.sh (.list (ds.map .int))), some (.sh (.int (n : Nat))), some (.sh (.tuple (ws.map .int))), some (.ow (.list (fs.map .int))), a, b, c, d, e, f] ∧ fs.length = i)
    ⟨[], _, _, _, _, _, _, rfl, rfl⟩ ?_ ?_)
  · rintro i x ρ hx ⟨fs, a, b, c, d, e, f, rfl, hf⟩
    obtain ⟨ki, ⟨hki, hi⟩, rfl⟩ := rangeD_k hx
    clear hx
    have hi : i < n := by omega
    obtain ⟨w, _, hw⟩ := ix_ints (ns := ds) (k := 2 + ki) (by omega) (by omega)
    refine ⟨_, rfl, R_seq (R_set (d := .int w) (by simp [hw]) ?_)⟩
    obtain ⟨z, hz⟩ := hw4 w
    obtain ⟨y, hy⟩ : ∃ y : Int, y = if 0 < w / 4 % 3 then z else w / 12 % 401 - 200 := ⟨_, rfl⟩
    refine R_seq (R_app (d := .int y) ?_ rfl (by rw [List.length_map]; unfold lim; omega) ?_)
    · by_cases hp : 0 < w / 4 % 3
      · rw [if_pos hp] at hy
        simp [hp, hz, hy]
      · rw [if_neg hp] at hy
        simp [hp, hy]
    exact R_nil ⟨fs ++ [y], _, _, _, _, _, _, by rw [snoc_map]; rfl, by rw [List.length_append, hf]; rfl⟩
  rintro ρ ⟨fs, a, b, c, d, e, f, rfl, hf⟩
  have hf : fs.length = n := by rw [hf]; unfold rangeD; simp
  refine R_seq (R_setN (d := .list [bd fs]) (by simp [lim]) ?_)
  refine R_seq (R_for (fRng1_of (n := 4) (by simp) (by decide)) (fun i ρ => ∃ (bb : List (List Int)) (a b c d e : Option SV), ρ = [some (.scr ns), some (.sh (.int kk)), some (.sh (.list (ds.map .int))), some (.sh (.int (n : Nat))), some (.sh (.tuple (ws.map .int))), some (.ow (.list (fs.map .int))), a, b, some (.ow (.list ((fs :: bb).map bd))), c, d, e] ∧ bb.length = i ∧ ∀ x ∈ bb, x.length = n)
    ⟨[], _, _, _, _, _, rfl, rfl, fun _ h => nomatch h⟩ ?_ ?_)
  · rintro i x ρ hx ⟨bb, a, b, c, d, e, rfl, hbl, hbb⟩
    obtain ⟨ki, ⟨hki, hi⟩, rfl⟩ := rangeD_k hx
    clear hx
    have hi : i < 4 := hi
    refine ⟨_, rfl, R_seq (R_setN (d := .list (fs.map .int)) (by simp) ?_)⟩
    refine R_seq (R_for (fRng1_of (n := (n : Int)) (by simp) (by omega)) (fun _ ρ => ∃ (ss : List Int) (a b c : Option SV), ρ = [some (.scr ns), some (.sh (.int kk)), some (.sh (.list (ds.map .int))), some (.sh (.int (n : Nat))), some (.sh (.tuple (ws.map .int))), some (.ow (.list (fs.map .int))), a, b, some (.ow (.list ((fs :: bb).map bd))), some (.sh (.int ki)), some (.ow (.list (ss.map .int))), c] ∧ ss.length = n)
      ⟨fs, _, _, _, rfl, hf⟩ ?_ ?_)
    · rintro j x ρ hx ⟨ss, a, b, c, rfl, hs⟩
      obtain ⟨kj, ⟨hkj, hj⟩, rfl⟩ := rangeD_k hx
      clear hx
      have hj : j < n := by omega
      obtain ⟨w, _, hw⟩ := ix_ints (ns := ds) (k := 8 + ki * 2 + kj % 2) (by omega) (by omega)
      obtain ⟨v, hv, hvx⟩ := ix_intsT (ns := [(1 : Int), 2, 4, 8, 16, 32]) (k := kj) (by omega) (by show _ < (6 : Int); omega)
      have hv : 0 < v ∧ v < 1073741824 := by
        simp only [List.mem_cons, List.not_mem_nil, or_false] at hv
        omega
      refine ⟨_, rfl, R_seq (R_set (d := .int (w / v)) (by (try simp at hw); (try simp at hvx); simp [hw, lim, hvx, oDiv_int hv]) ?_)⟩
      generalize w / v = y
      refine R_seq (R_if (b := y % (2 + ki) == 0) ?_ (fun hb => ?_) (fun hb => ?_))
      · have : (0 : Int) < 2 + ki := by omega
        simp [oMod_int this]
      · obtain ⟨s1, _, hs1⟩ := ix_ints (ns := ss) (k := kj) (by omega) (by omega)
        obtain ⟨z, hz⟩ := hw4 (y / 3)
        obtain ⟨t, ht⟩ : ∃ t : Int, oIx (.tuple [.int (0 - s1), .int z]) (.int (y / 12 % 2)) = some (.int t) := by
          obtain ⟨t, _, ht⟩ := ix_intsT (ns := [0 - s1, z]) (k := y / 12 % 2) (by omega) (by show _ < (2 : Int); omega)
          exact ⟨t, ht⟩
        refine R_seq (R_put (d := .int t) (n := kj) (by (try simp at hs1); (try simp at ht); simp [hs1, hz, lim, ht]) rfl rfl (ixN_in (by omega) (by rw [List.length_map]; omega)) ?_)
        exact R_nil (R_nil ⟨ss.set kj.toNat t, _, _, _, by rw [set_map]; rfl, by rw [List.length_set]; exact hs⟩)
      · exact R_nil (R_nil ⟨ss, _, _, _, rfl, hs⟩)
    · rintro ρ ⟨ss, a, b, c, rfl, hs⟩
      refine R_seq (R_app (d := bd ss) (by simp) rfl (by rw [List.length_map, List.length_cons]; unfold lim; omega) ?_)
      refine R_nil ⟨bb ++ [ss], _, _, _, _, _, by rw [snoc_bd]; rfl, by rw [List.length_append, hbl]; rfl, fun x hx => ?_⟩
      rcases List.mem_append.mp hx with hx | hx
      · exact hbb x hx
      · rw [List.mem_singleton.mp hx]; exact hs
  rintro ρ ⟨bb, a, b, c, d, e, rfl, _, hbb⟩
  refine R_frz ?_
  obtain ⟨_, hq, qs, rfl, hqs⟩ := questions_eq (ns := ds.drop 16) (n := n) (by rw [List.length_drop, hdl]) (fun x hx => hds x (List.mem_of_mem_drop hx)) hn
  have hall2 : ∀ x ∈ fs :: bb, x.length = n := fun x hx => by
    rcases List.mem_cons.mp hx with rfl | hx
    · exact hf
    · exact hbb x hx
  refine R_seq (R_for (w := fSeq _) (xs := qs.map Qn.enc) (fSeq_list ?_) (fun _ ρ => ∃ (a b c d e : Option SV), ρ = [some (.scr ns), some (.sh (.int kk)), some (.sh (.list (ds.map .int))), some (.sh (.int (n : Nat))), some (.sh (.tuple (ws.map .int))), some (.ow (.list (fs.map .int))), a, b, some (.sh (.list ((fs :: bb).map bd))), c, d, e])
    ⟨_, _, _, _, _, rfl⟩ ?_ ?_)
  · have e16 : oSl (.list (ds.map .int)) (some 16) none = some (.list ((ds.drop 16).map .int)) := by
      show some (PyData.list (cut _ _ _)) = _
      rw [cut16 _ (by rw [List.length_map]; exact hdl), List.map_drop]
    rw [List.map_drop] at hq e16
    simp [frz, dSl, e16, hq]
  · rintro i x ρ hx ⟨a, b, c, d, e, rfl⟩
    rw [List.getElem?_map] at hx
    obtain ⟨q, hq1, rfl⟩ := Option.map_eq_some_iff.mp hx
    have hqo := hqs q (List.mem_of_getElem? hq1)
    refine ⟨_, rfl, R_seq (R_for (w := fSeq _) (xs := (fs :: bb).map bd) (fSeq_list rfl) (fun _ ρ => ∃ (a b c d : Option SV), ρ = [some (.scr ns), some (.sh (.int kk)), some (.sh (.list (ds.map .int))), some (.sh (.int (n : Nat))), some (.sh (.tuple (ws.map .int))), some (.ow (.list (fs.map .int))), a, b, some (.sh (.list ((fs :: bb).map bd))), c, d, some (.sh q.enc)])
      ⟨_, _, _, _, rfl⟩ ?_ ?_)⟩
    · rintro j x ρ hx ⟨a, b, c, d, rfl⟩
      rw [List.getElem?_map] at hx
      obtain ⟨s, hs, rfl⟩ := Option.map_eq_some_iff.mp hx
      have hsn := hall2 s (List.mem_of_getElem? hs)
      have hj := judged_eq (A := bd fs) (B := bd s) rfl rfl (by rw [hsn, hf]) hqo.2 (by rw [hf]; exact hqo.1)
      refine ⟨_, rfl, R_seq (R_ifF ?_ (R_nil (R_nil ⟨_, _, _, _, rfl⟩)))⟩
      simp only [bd] at hj
      simp [hj]
    · rintro ρ ⟨a, b, c, d, rfl⟩
      exact R_nil ⟨_, _, _, _, _, rfl⟩
  · rintro ρ ⟨a, b, c, d, e, rfl⟩
    exact R_nil ⟨_, _, _, _, _, _, _, _, _, _, _, rfl⟩
end Law
open PySem PySem.W PyProof.Rows
set_option maxRecDepth 100000 in
set_option maxHeartbeats 0 in
theorem PySem.Challenge.cw_featurehold_k74_whole_answers_and_causes_holds : PySem.Challenge.rw_featurehold_k74_whole_answers_and_causes.Holds := by
  w_on; o_law; k_head; (case hw => w_witness2)
  k_fill
  refine Law.walk (l := PySem.Challenge.rw_featurehold_k74_whole_answers_and_causes) rfl rfl (fun w h Y => PySem.W.kIn_of Y) ?F
  case F =>
    intro w mg fa h KX G hmg
    refine' Law.all_mk Law.hall KX G hmg ?a0 ?l0 ?c0 ?k0 ?a1 ?l1 ?c1 ?k1 ?a2 ?l2 ?c2 ?k2 ?a3 ?l3 ?c3 ?k3 ?a4 ?l4 ?c4 ?k4 ?a5 ?l5 ?c5 ?k5 ?a6 ?l6 ?c6 ?k6 ?a7 ?l7 ?c7 ?k7 ?a8 ?l8 ?c8 ?k8 ?a9 ?l9 ?c9 ?k9 ?a10 ?l10 ?c10 ?k10 ?a11 ?l11 ?c11 ?k11 ?a12 ?l12 ?c12 ?k12 ?z_abs ?z_all ?z_bool ?z_int ?z_isinstance ?z_len ?z_list ?z_max ?z_range ?z_set ?z_sorted ?z_str ?z_tuple
    (case a0 => k_is)
    (case l0 => k_is)
    (case c0 => k_is)
    (case k0 => k_is)
    (case a1 => k_is)
    (case l1 => k_is)
    (case c1 => k_is)
    (case k1 => k_is)
    (case a2 => k_is)
    (case l2 => k_is)
    (case c2 => k_is)
    (case k2 => k_is)
    (case a3 => k_is)
    (case l3 => k_is)
    (case c3 => k_is)
    (case k3 => k_is)
    (case a4 => k_is)
    (case l4 => k_is)
    (case c4 => k_is)
    (case k4 => k_is)
    (case a5 => k_is)
    (case l5 => k_is)
    (case c5 => k_is)
    (case k5 => k_is)
    (case a6 => k_is)
    (case l6 => k_is)
    (case c6 => k_is)
    (case k6 => k_is)
    (case a7 => k_is)
    (case l7 => k_is)
    (case c7 => k_is)
    (case k7 => k_is)
    (case a8 => k_is)
    (case l8 => k_is)
    (case c8 => k_is)
    (case k8 => k_is)
    (case a9 => k_is)
    (case l9 => k_is)
    (case c9 => k_is)
    (case k9 => k_is)
    (case a10 => k_is)
    (case l10 => k_is)
    (case c10 => k_is)
    (case k10 => k_is)
    (case a11 => k_is)
    (case l11 => k_is)
    (case c11 => k_is)
    (case k11 => k_is)
    (case a12 => k_is)
    (case l12 => k_is)
    (case c12 => k_is)
    (case k12 => k_is)
    (case z_abs => k_is)
    (case z_all => k_is)
    (case z_bool => k_is)
    (case z_int => k_is)
    (case z_isinstance => k_is)
    (case z_len => k_is)
    (case z_list => k_is)
    (case z_max => k_is)
    (case z_range => k_is)
    (case z_set => k_is)
    (case z_sorted => k_is)
    (case z_str => k_is)
    (case z_tuple => k_is)
