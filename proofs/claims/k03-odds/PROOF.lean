import PyProof.Rows.All
import Wide.All
import OpenK.AllK
import Wide.FinOn
import HandS.ForMost
import HandS.Defaults
import HandS.IsInst
import HandS.Gcd
import HandS.Style
import HandS.Wide
import HandS.RaiseMore
import PySem.Challenge.RW_allodds_k03_odds_along_lines
set_option Elab.async false
set_option linter.all false
set_option maxRecDepth 100000
set_option maxHeartbeats 4000000
/-! Fx 1: trees for Python's values, slots, what a heap holds of them. -/
namespace Fx
open PySem PySem.Spec PyProof.Rows L2

/-- built-in classes as values -/
inductive Ty where
  | int | bl | str | list | tup | dic
  deriving DecidableEq
def Ty.name : Ty → String
  | .int => "int"
  | .bl => "bool"
  | .str => "str"
  | .list => "list"
  | .tup => "tuple"
  | .dic => "dict"
/-- a value with all that it holds -/
inductive T where
  | ty (n : Ty) | non | bl (b : Bool) | int (i : Int) | str (x : Str) | ref (a : Addr)
  | tup (ts : List T) | lst (ts : List T) | lsf (ts : List T) | dic (ks : List Key) (ts : List T)

/-- a slot: nothing, a value that stays, a list of one's own, a caller's list that is changed here -/
inductive Sl where
  | un | val (t : T) | own (t : T) | io (t : T)
abbrev Sls := List Sl
@[simp] def Sl.cont : Sl → Option T
  | .own t => some t
  | .io t => some t
  | _ => none
def Sl.tree : Sl → Option T
  | .val t => some t
  | .own t => some t
  | .io t => some t
  | .un => none

mutual
inductive Rep (K : PySem.W.Frag) (G : Hp) : V → T → Prop
  | non : Rep K G .non .non
  | bl (b : Bool) : Rep K G (.bl b) (.bl b)
  | int (i : Int) : Rep K G (.int i) (.int i)
  | str (x : Str) : Rep K G (.str x) (.str x)
  | ref (a : Addr) : Rep K G (.ref a) (.ref a)
  | ty (n : Ty) : Rep K G (.ty n.name) (.ty n)
  | tup {a : Addr} {xs : List V} {ts : List T} : SqT K G a xs → Reps K G xs ts → Rep K G (.ref a) (.tup ts)
  | lst {a : Addr} {xs : List V} {ts : List T} : G a = some (.lst xs) → Reps K G xs ts → Rep K G (.ref a) (.lst ts)
  | lsf {a : Addr} {xs : List V} {ts : List T} : SqL K G a xs → Reps K G xs ts → Rep K G (.ref a) (.lsf ts)
  | dic {a : Addr} {kvs : List (Key × V)} {ts : List T} : G a = some (.dK kvs) → Reps K G (kvs.map (·.2)) ts → Rep K G (.ref a) (.dic (kvs.map (·.1)) ts)
inductive Reps (K : PySem.W.Frag) (G : Hp) : List V → List T → Prop
  | nil : Reps K G [] []
  | cons {v : V} {vs : List V} {t : T} {ts : List T} : Rep K G v t → Reps K G vs ts → Reps K G (v :: vs) (t :: ts)
end

/-- all that was tracked stands -/
def Ext (H H' : Hp) : Prop := ∀ a o, H a = some o → H' a = some o
theorem Ext.refl (H : Hp) : Ext H H := fun _ _ e => e
theorem Ext.trans {H H1 H2 : Hp} (a : Ext H H1) (b : Ext H1 H2) : Ext H H2 := fun c o e => b c o (a c o e)
theorem Ext.new {H : Hp} {p : Addr} {o : HO} (n : H p = none) : Ext H (upd H p o) := fun a u e => by rw [upd_ne (ne_of_none e n)]; exact e
theorem Ext.sqL {K : PySem.W.Frag} {G G' : Hp} (x : Ext G G') {a : Addr} {xs : List V} (h : SqL K G a xs) : SqL K G' a xs := by
  rcases h with h | h
  · rcases h with h | ⟨o, h⟩
    · exact .inl (.inl (x _ _ h))
    · exact .inl (.inr ⟨o, x _ _ h⟩)
  · exact .inr h
theorem Ext.sqT {K : PySem.W.Frag} {G G' : Hp} (x : Ext G G') {a : Addr} {xs : List V} (h : SqT K G a xs) : SqT K G' a xs := by
  rcases h with h | h
  · rcases h with h | ⟨o, h⟩
    · exact .inl (.inl (x _ _ h))
    · exact .inl (.inr ⟨o, x _ _ h⟩)
  · exact .inr h
section
variable {K : PySem.W.Frag} {G G' : Hp}
mutual
theorem Rep.mono (x : Ext G G') : ∀ {v : V} {t : T}, Rep K G v t → Rep K G' v t
  | _, _, .non => .non
  | _, _, .bl b => .bl b
  | _, _, .int i => .int i
  | _, _, .str z => .str z
  | _, _, .ref a => .ref a
  | _, _, .ty n => .ty n
  | _, _, .tup h r => .tup (x.sqT h) (Reps.mono x r)
  | _, _, .lst h r => .lst (x _ _ h) (Reps.mono x r)
  | _, _, .lsf h r => .lsf (x.sqL h) (Reps.mono x r)
  | _, _, .dic h r => .dic (x _ _ h) (Reps.mono x r)
theorem Reps.mono (x : Ext G G') : ∀ {vs : List V} {ts : List T}, Reps K G vs ts → Reps K G' vs ts
  | _, _, .nil => .nil
  | _, _, .cons h r => .cons (Rep.mono x h) (Reps.mono x r)
end
theorem Reps.length : ∀ {vs : List V} {ts : List T}, Reps K G vs ts → vs.length = ts.length
  | _, _, .nil => rfl
  | _, _, .cons _ r => by simp [Reps.length r]
theorem Reps.get : ∀ {vs : List V} {ts : List T} {i : Nat} {t : T}, Reps K G vs ts → ts[i]? = some t → ∃ v, vs[i]? = some v ∧ Rep K G v t
  | _, _, i, _, .nil, e => by simp at e
  | _, _, 0, _, .cons h _, e => by simp at e; subst e; exact ⟨_, rfl, h⟩
  | _, _, i + 1, _, .cons _ r, e => by
    obtain ⟨v, h1, h2⟩ := Reps.get (i := i) r (by simpa using e)
    exact ⟨v, by simpa using h1, h2⟩
theorem Reps.getV : ∀ {vs : List V} {ts : List T} {i : Nat} {v : V}, Reps K G vs ts → vs[i]? = some v → ∃ t, ts[i]? = some t ∧ Rep K G v t
  | _, _, i, _, .nil, e => by simp at e
  | _, _, 0, _, .cons h _, e => by simp at e; subst e; exact ⟨_, rfl, h⟩
  | _, _, i + 1, _, .cons _ r, e => by
    obtain ⟨v, h1, h2⟩ := Reps.getV (i := i) r (by simpa using e)
    exact ⟨v, by simpa using h1, h2⟩
theorem Reps.append : ∀ {vs ws : List V} {ts us : List T}, Reps K G vs ts → Reps K G ws us → Reps K G (vs ++ ws) (ts ++ us)
  | _, _, _, _, .nil, s => s
  | _, _, _, _, .cons h r, s => .cons h (Reps.append r s)
theorem Reps.set {v : V} {t : T} (h : Rep K G v t) : ∀ {vs : List V} {ts : List T} (i : Nat), Reps K G vs ts → Reps K G (vs.set i v) (ts.set i t)
  | _, _, _, .nil => .nil
  | _, _, 0, .cons _ r => .cons h r
  | _, _, i + 1, .cons q r => .cons q (Reps.set h i r)
theorem Reps.take : ∀ {vs : List V} {ts : List T} (n : Nat), Reps K G vs ts → Reps K G (vs.take n) (ts.take n)
  | _, _, 0, _ => .nil
  | _, _, _ + 1, .nil => .nil
  | _, _, n + 1, .cons h r => .cons h (Reps.take n r)
theorem Reps.drop : ∀ {vs : List V} {ts : List T} (n : Nat), Reps K G vs ts → Reps K G (vs.drop n) (ts.drop n)
  | _, _, 0, r => r
  | _, _, _ + 1, .nil => .nil
  | _, _, n + 1, .cons _ r => Reps.drop n r
theorem Reps.inv_nil {vs : List V} (r : Reps K G vs []) : vs = [] := by cases r; rfl
theorem Reps.inv_cons {vs : List V} {t : T} {ts : List T} (r : Reps K G vs (t :: ts)) : ∃ v ws, vs = v :: ws ∧ Rep K G v t ∧ Reps K G ws ts := by
  cases r with
  | cons h r => exact ⟨_, _, rfl, h, r⟩
theorem Rep.inv_int {v : V} {i : Int} (r : Rep K G v (.int i)) : v = .int i := by cases r; rfl
theorem Rep.inv_bl {v : V} {b : Bool} (r : Rep K G v (.bl b)) : v = .bl b := by cases r; rfl
theorem Rep.inv_str {v : V} {z : Str} (r : Rep K G v (.str z)) : v = .str z := by cases r; rfl
theorem Rep.inv_non {v : V} (r : Rep K G v .non) : v = .non := by cases r; rfl
theorem Rep.inv_ref {v : V} {a : Addr} (r : Rep K G v (.ref a)) : v = .ref a := by cases r; rfl
theorem Rep.inv_ty {v : V} {n : Ty} (r : Rep K G v (.ty n)) : v = .ty n.name := by cases r; rfl
theorem Rep.inv_tup {v : V} {ts : List T} (r : Rep K G v (.tup ts)) : ∃ a xs, v = .ref a ∧ SqT K G a xs ∧ Reps K G xs ts := by
  cases r with
  | tup h r => exact ⟨_, _, rfl, h, r⟩
theorem Rep.inv_lst {v : V} {ts : List T} (r : Rep K G v (.lst ts)) : ∃ a xs, v = .ref a ∧ G a = some (.lst xs) ∧ Reps K G xs ts := by
  cases r with
  | lst h r => exact ⟨_, _, rfl, h, r⟩
theorem Rep.inv_lsf {v : V} {ts : List T} (r : Rep K G v (.lsf ts)) : ∃ a xs, v = .ref a ∧ SqL K G a xs ∧ Reps K G xs ts := by
  cases r with
  | lsf h r => exact ⟨_, _, rfl, h, r⟩
end

/-- the heap without the lists that are changed -/
def hid (H : Hp) (O : List Addr) : Hp := fun a => if a ∈ O then none else H a
theorem hid_of {H : Hp} {O : List Addr} {a : Addr} (h : a ∉ O) : hid H O a = H a := by unfold hid; rw [if_neg h]
theorem of_hid {H : Hp} {O : List Addr} {a : Addr} {o : HO} (h : hid H O a = some o) : a ∉ O ∧ H a = some o := by
  unfold hid at h
  split at h
  · cases h
  · exact ⟨by assumption, h⟩
theorem hid_ext (H : Hp) (O : List Addr) : Ext (hid H O) H := fun _ _ e => (of_hid e).2
theorem hid_nil (H : Hp) : hid H [] = H := by funext a; unfold hid; simp
theorem Ext.hid {H H' : Hp} (x : Ext H H') (O : List Addr) : Ext (hid H O) (hid H' O) := fun a o e => by
  obtain ⟨h1, h2⟩ := of_hid e
  rw [hid_of h1]; exact x a o h2
theorem hid_new {H : Hp} {O : List Addr} {p : Addr} {o : HO} (hp : p ∉ O) : hid (upd H p o) O p = some o := by rw [hid_of hp, upd_same]
theorem hid_upd {H : Hp} {O : List Addr} {p : Addr} {o : HO} (hp : p ∈ O) : hid (upd H p o) O = hid H O := by
  funext a
  unfold Fx.hid
  by_cases h : a ∈ O
  · rw [if_pos h, if_pos h]
  · rw [if_neg h, if_neg h, upd_ne]
    rintro rfl
    exact h hp

/-- what an owned list holds -/
def RepO (K : PySem.W.Frag) (G H : Hp) (p : Addr) : T → Prop
  | .lst ts => ∃ vs, H p = some (.lst vs) ∧ Reps K G vs ts
  | .dic ks ts => ∃ kvs : List (Key × V), H p = some (.dK kvs) ∧ kvs.map (·.1) = ks ∧ Reps K G (kvs.map (·.2)) ts
  | _ => False
theorem RepO.mono {K : PySem.W.Frag} {G G' H H' : Hp} {p : Addr} {t : T} (h : RepO K G H p t) (x : Ext G G') (e : H' p = H p) : RepO K G' H' p t := by
  cases t with
  | lst ts =>
    obtain ⟨vs, h1, h2⟩ := h
    exact ⟨vs, e.trans h1, h2.mono x⟩
  | dic ks ts =>
    obtain ⟨kvs, h1, h2, h3⟩ := h
    exact ⟨kvs, e.trans h1, h2, h3.mono x⟩
  | _ => exact h.elim
theorem RepO.there {K : PySem.W.Frag} {G H : Hp} {p : Addr} {t : T} (h : RepO K G H p t) : ∃ o, H p = some o := by
  cases t with
  | lst ts => obtain ⟨vs, h1, _⟩ := h; exact ⟨_, h1⟩
  | dic ks ts => obtain ⟨vs, h1, _⟩ := h; exact ⟨_, h1⟩
  | _ => exact h.elim

/-- the address of an owned slot -/
def Owns (σ : L2.St) (env : Sls) (a : Addr) : Prop := ∃ (i : Nat) (t : T), env[i]?.bind Sl.cont = some t ∧ σ[i]? = some (some (V.ref a))

/-- slots and heap hold what env tells; O: what is hidden of the heap (all owned lists, and whatever else) -/
structure RepS (K : PySem.W.Frag) (H : Hp) (O : List Addr) (σ : L2.St) (env : Sls) : Prop where
  len : env.length = σ.length
  dom : ∀ a ∈ O, ∃ o, H a = some o
  val : ∀ (i : Nat) (t : T), env[i]? = some (Sl.val t) → ∃ v : V, σ[i]? = some (some v) ∧ Rep K (hid H O) v t
  own : ∀ (i : Nat) (t : T), env[i]?.bind Sl.cont = some t → ∃ p : Addr, σ[i]? = some (some (V.ref p)) ∧ p ∈ O ∧ RepO K (hid H O) H p t
  inj : ∀ (i j : Nat) (t u : T) (p : Addr), env[i]?.bind Sl.cont = some t → env[j]?.bind Sl.cont = some u → σ[i]? = some (some (V.ref p)) → σ[j]? = some (some (V.ref p)) → i = j

/-- a step: what is owned may change; what was tracked stands else -/
structure Nx (σ : L2.St) (env : Sls) (H : Hp) (O : List Addr) (σ' : L2.St) (env' : Sls) (H' : Hp) (O' : List Addr) : Prop where
  fr : ∀ a o, H a = some o → ¬ Owns σ env a → H' a = some o
  dom : ∀ a o, H a = some o → ∃ o', H' a = some o'
  sub : ∀ a ∈ O', a ∈ O ∨ H a = none
  sup : ∀ a ∈ O, a ∈ O' ∨ Owns σ env a ∨ H a = none
  own : ∀ a, Owns σ' env' a → Owns σ env a ∨ H a = none
  io : ∀ (i : Nat) (t : T), env[i]? = some (Sl.io t) → (∃ t', env'[i]? = some (Sl.io t')) ∧ σ'[i]? = σ[i]?
  ion : ∀ (i : Nat) (t' : T), env'[i]? = some (Sl.io t') → ∃ t, env[i]? = some (Sl.io t)

section
variable {K : PySem.W.Frag} {H H1 H2 H' : Hp} {O O1 O2 O' : List Addr} {σ σ1 σ2 σ' : L2.St} {env env1 env2 env' : Sls}
theorem RepS.owns (S : RepS K H O σ env) {a : Addr} (h : Owns σ env a) : a ∈ O := by
  obtain ⟨i, t, h1, h2⟩ := h
  obtain ⟨p, h3, h4, _⟩ := S.own i t h1
  rw [h2] at h3
  cases h3
  exact h4
theorem RepS.fresh (S : RepS K H O σ env) {p : Addr} (n : H p = none) : p ∉ O := fun h => by
  obtain ⟨o, e⟩ := S.dom p h
  rw [n] at e; cases e
theorem Nx.refl : Nx σ env H O σ env H O := ⟨fun _ _ e _ => e, fun _ o e => ⟨o, e⟩, fun _ h => .inl h, fun _ h => .inl h, fun _ h => .inl h, fun _ t h => ⟨⟨t, h⟩, rfl⟩, fun _ t h => ⟨t, h⟩⟩
theorem Nx.ext (x : Ext H H') : Nx σ env H O σ env H' O := ⟨fun a o e _ => x a o e, fun a o e => ⟨o, x a o e⟩, fun _ h => .inl h, fun _ h => .inl h, fun _ h => .inl h, fun _ t h => ⟨⟨t, h⟩, rfl⟩, fun _ t h => ⟨t, h⟩⟩
theorem none_of_dom (d : ∀ a o, H a = some o → ∃ o', H1 a = some o') {a : Addr} (n : H1 a = none) : H a = none := by
  cases e : H a with
  | none => rfl
  | some o =>
    obtain ⟨o', q⟩ := d a o e
    rw [n] at q; cases q
theorem Nx.trans (a : Nx σ env H O σ1 env1 H1 O1) (b : Nx σ1 env1 H1 O1 σ2 env2 H2 O2) : Nx σ env H O σ2 env2 H2 O2 where
  fr := fun c o e n => b.fr c o (a.fr c o e n) fun q => by
    rcases a.own c q with h | h
    · exact n h
    · rw [e] at h; cases h
  dom := fun c o e => by
    obtain ⟨o1, q⟩ := a.dom c o e
    exact b.dom c o1 q
  sub := fun c h => by
    rcases b.sub c h with h | h
    · exact a.sub c h
    · exact .inr (none_of_dom a.dom h)
  sup := fun c h => by
    rcases a.sup c h with h1 | h1
    · rcases b.sup c h1 with h2 | h2 | h2
      · exact .inl h2
      · rcases a.own c h2 with h3 | h3
        · exact .inr (.inl h3)
        · exact .inr (.inr h3)
      · exact .inr (.inr (none_of_dom a.dom h2))
    · exact .inr h1
  own := fun c h => by
    rcases b.own c h with h | h
    · exact a.own c h
    · exact .inr (none_of_dom a.dom h)
  io := fun i t h => by
    obtain ⟨⟨t1, h1⟩, e1⟩ := a.io i t h
    obtain ⟨⟨t2, h2⟩, e2⟩ := b.io i t1 h1
    exact ⟨⟨t2, h2⟩, e2.trans e1⟩
  ion := fun i t h => by
    obtain ⟨t1, h1⟩ := b.ion i t h
    exact a.ion i t1 h1
end
end Fx

/-! Fx 2: expressions as functions of the slots. -/
namespace Fx
open PySem PySem.Spec PyProof.Rows L2

section
variable {K : PySem.W.Frag} {H H1 H2 H' : Hp} {O O1 O2 O' : List Addr} {σ σ1 σ2 σ' : L2.St} {env env1 env2 env' : Sls}
/-- what is frozen stands -/
theorem RepS.grow (S : RepS K H O σ env) (n : Nx σ env H O σ' env' H' O') : Ext (hid H O) (hid H' O') := fun a o e => by
  obtain ⟨h1, h2⟩ := of_hid e
  have h3 : ¬ Owns σ env a := fun q => h1 (S.owns q)
  have h4 : a ∉ O' := fun q => by
    rcases n.sub a q with z | z
    · exact h1 z
    · rw [h2] at z; cases z
  rw [hid_of h4]
  exact n.fr a o h2 h3
theorem RepS.ext (S : RepS K H O σ env) (x : Ext H H') : RepS K H' O σ env where
  len := S.len
  dom := fun a h => by
    obtain ⟨o, e⟩ := S.dom a h
    exact ⟨o, x a o e⟩
  val := fun i t h => by
    obtain ⟨v, h1, h2⟩ := S.val i t h
    exact ⟨v, h1, h2.mono (x.hid O)⟩
  own := fun i t h => by
    obtain ⟨p, h1, h2, h3⟩ := S.own i t h
    obtain ⟨o, e⟩ := h3.there
    exact ⟨p, h1, h2, h3.mono (x.hid O) ((x p o e).trans e.symm)⟩
  inj := S.inj
end

/-- an expression's function: the slots give a tree and the slots behind -/
abbrev EF := Sls → Option (T × Sls)
abbrev AF := Sls → Option (List T × Sls)
abbrev BF := Sls → Option (Bool × Sls)
def tV (K : PySem.W.Frag) (f : EF) : TE := fun σ H Q => ∃ O env t env', RepS K H O σ env ∧ f env = some (t, env') ∧ ∀ v H' O', Nx σ env H O σ env' H' O' → RepS K H' O' σ env' → Rep K (hid H' O') v t → Q v H'
def tVs (K : PySem.W.Frag) (f : AF) : TA := fun σ H Q => ∃ O env ts env', RepS K H O σ env ∧ f env = some (ts, env') ∧ ∀ vs H' O', Nx σ env H O σ env' H' O' → RepS K H' O' σ env' → Reps K (hid H' O') vs ts → Q vs H'
def tTt (K : PySem.W.Frag) (f : BF) : TT := fun σ H Q => ∃ O env b env', RepS K H O σ env ∧ f env = some (b, env') ∧ ∀ H' O', Nx σ env H O σ env' H' O' → RepS K H' O' σ env' → Q b H'
def EV (X : Cx) (e : Expr) (f : EF) : Prop := PE X e (tV X.K f)
def EA (X : Cx) (es : List Expr) (f : AF) : Prop := PA X es (tVs X.K f)
def TV (X : Cx) (e : Expr) (f : BF) : Prop := PT X e (tTt X.K f)

theorem pe_mono {X : Cx} {e : Expr} {t t' : TE} (h : PE X e t) (m : ∀ σ H Q, t' σ H Q → t σ H Q) : PE X e t' := ⟨fun pins s σ H Q I q => h.run pins s σ H Q I (m _ _ _ q)⟩
theorem pa_mono {X : Cx} {e : List Expr} {t t' : TA} (h : PA X e t) (m : ∀ σ H Q, t' σ H Q → t σ H Q) : PA X e t' := ⟨fun pos pins s σ H Q I q => h.run pos pins s σ H Q I (m _ _ _ q)⟩
theorem pt_mono {X : Cx} {e : Expr} {t t' : TT} (h : PT X e t) (m : ∀ σ H Q, t' σ H Q → t σ H Q) : PT X e t' := ⟨fun pins s σ H Q I q => h.run pins s σ H Q I (m _ _ _ q)⟩
theorem pw_mono {X : Cx} {e : Expr} {t t' : TT} (h : PW X e t) (m : ∀ σ H Q, t' σ H Q → t σ H Q) : PW X e t' := ⟨fun wh pins s σ H Q I q => h.run wh pins s σ H Q I (m _ _ _ q)⟩

/-! ### operators by values -/
abbrev O2 := T → T → Option T
abbrev O1' := T → Option T
abbrev ON := List T → Option T
def rT (K : PySem.W.Frag) (g : O2) : R2 := fun x y H Q => ∃ O a b c, (∀ q ∈ O, ∃ o : HO, H q = some o) ∧ Rep K (hid H O) x a ∧ Rep K (hid H O) y b ∧ g a b = some c ∧ ∀ v H', Ext H H' → Rep K (hid H' O) v c → Q v H'
def rT1 (K : PySem.W.Frag) (g : O1') : V → Hp → VK → Prop := fun x H Q => ∃ O a c, (∀ q ∈ O, ∃ o : HO, H q = some o) ∧ Rep K (hid H O) x a ∧ g a = some c ∧ ∀ v H', Ext H H' → Rep K (hid H' O) v c → Q v H'
def rTN (K : PySem.W.Frag) (g : ON) : List V → Hp → VK → Prop := fun xs H Q => ∃ O as c, (∀ q ∈ O, ∃ o : HO, H q = some o) ∧ Reps K (hid H O) xs as ∧ g as = some c ∧ ∀ v H', Ext H H' → Rep K (hid H' O) v c → Q v H'
def OpT (X : Cx) (f : Value → Value → Sem Value) (g : O2) : Prop := OpR X f (rT X.K g)
def UnT (X : Cx) (f : Value → Sem Value) (g : O1') : Prop := UnR X f (rT1 X.K g)
def CallT (X : Cx) (f : Value) (g : ON) : Prop := CallR X f (rTN X.K g)
def IxT (X : Cx) (g : O2) : Prop := IxR X (rT X.K g)

@[simp] def orO (g g' : O2) : O2 := fun a b => match g a b with
  | some c => some c
  | none => g' a b
def orN (g g' : ON) : ON := fun a => match g a with
  | some c => some c
  | none => g' a
theorem OpR.mono {X : Cx} {f : Value → Value → Sem Value} {r r' : R2} (h : OpR X f r) (m : ∀ x y H Q, r' x y H Q → r x y H Q) : OpR X f r' := by
  intro pins s σ H x y v u Q I rx ry q
  exact h pins s σ H x y v u Q I rx ry (m _ _ _ _ q)
theorem UnR.mono {X : Cx} {f : Value → Sem Value} {r r' : V → Hp → VK → Prop} (h : UnR X f r) (m : ∀ x H Q, r' x H Q → r x H Q) : UnR X f r' := by
  intro pins s σ H x v Q I rx q
  exact h pins s σ H x v Q I rx (m _ _ _ q)
theorem CallR.mono {X : Cx} {f : Value} {r r' : List V → Hp → VK → Prop} (h : CallR X f r) (m : ∀ x H Q, r' x H Q → r x H Q) : CallR X f r' := fun pins s σ H vs us Q I rx q => h pins s σ H vs us Q I rx (m _ _ _ q)
theorem CallR.or {X : Cx} {f : Value} {r r' : List V → Hp → VK → Prop} (h : CallR X f r) (h' : CallR X f r') : CallR X f (fun x H Q => r x H Q ∨ r' x H Q) := fun pins s σ H vs us Q I rx q => by
  rcases q with q | q
  · exact h pins s σ H vs us Q I rx q
  · exact h' pins s σ H vs us Q I rx q
theorem IxR.mono {X : Cx} {r r' : R2} (h : IxR X r) (m : ∀ x y H Q, r' x y H Q → r x y H Q) : IxR X r' := by
  intro value slice pins s σ H x y v u Q I rx ry q hs
  exact h value slice pins s σ H x y v u Q I rx ry (m _ _ _ _ q) hs
theorem OpT.or {X : Cx} {f : Value → Value → Sem Value} {g g' : O2} (h : OpT X f g) (h' : OpT X f g') : OpT X f (orO g g') :=
  OpR.mono (L2.OpR.or h h') fun x y H Q ⟨O, a, b, c, d, ra, rb, e, k⟩ => by
    unfold orO at e
    cases q : g a b with
    | some z =>
      rw [q] at e
      cases e
      exact .inl ⟨O, a, b, _, d, ra, rb, q, k⟩
    | none =>
      rw [q] at e
      exact .inr ⟨O, a, b, c, d, ra, rb, e, k⟩
theorem CallT.or {X : Cx} {f : Value} {g g' : ON} (h : CallT X f g) (h' : CallT X f g') : CallT X f (orN g g') :=
  CallR.mono (CallR.or h h') fun x H Q ⟨O, a, c, d, ra, e, k⟩ => by
    unfold orN at e
    cases q : g a with
    | some z =>
      rw [q] at e
      cases e
      exact .inl ⟨O, a, _, d, ra, q, k⟩
    | none =>
      rw [q] at e
      exact .inr ⟨O, a, c, d, ra, e, k⟩
theorem IxT.or {X : Cx} {g g' : O2} (h : IxT X g) (h' : IxT X g') : IxT X (orO g g') :=
  IxR.mono (L2.IxR.or h h') fun x y H Q ⟨O, a, b, c, d, ra, rb, e, k⟩ => by
    unfold orO at e
    cases q : g a b with
    | some z =>
      rw [q] at e
      cases e
      exact .inl ⟨O, a, b, _, d, ra, rb, q, k⟩
    | none =>
      rw [q] at e
      exact .inr ⟨O, a, b, c, d, ra, rb, e, k⟩

/-! ### expressions -/
@[simp] def eC (t : T) : EF := fun env => some (t, env)
@[simp] def e2 (g : O2) (fa fb : EF) : EF := fun env => (fa env).bind fun p => (fb p.2).bind fun q => (g p.1 q.1).map fun z => (z, q.2)
@[simp] def e1 (g : O1') (fa : EF) : EF := fun env => (fa env).bind fun p => (g p.1).map fun z => (z, p.2)
@[simp] def aN : AF := fun env => some ([], env)
@[simp] def aC (fa : EF) (fr : AF) : AF := fun env => (fa env).bind fun p => (fr p.2).map fun q => (p.1 :: q.1, q.2)
@[simp] def eN (g : ON) (fa : AF) : EF := fun env => (fa env).bind fun p => (g p.1).map fun z => (z, p.2)
/-- a slot is read; what is owned stays so no longer -/
@[simp] def eVar (i : Nat) : EF := fun env => match env[i]? with
  | some (.val t) => some (t, env)
  | some (.own t) => some (t, env.set i (.val t))
  | _ => none
section
variable {X : Cx} {a b : Expr} {es : List Expr} {fa fb : EF} {fr : AF} {pos : Pos}
theorem ev_const {e : Expr} {v : V} {t : T} (h : PE X e (tC v)) (r : ∀ G, Rep X.K G v t) : EV X e (eC t) :=
  pe_mono h fun σ H Q ⟨O, env, t', env', S, e, k⟩ => by
    cases e
    exact k v H O .refl S (r _)
theorem ev_int {i j} : EV X (.Constant (.int i) j pos) (eC (.int i)) := ev_const pe_int fun _ => .int i
theorem ev_bl {i j} : EV X (.Constant (.bool i) j pos) (eC (.bl i)) := ev_const pe_bl fun _ => .bl i
theorem ev_str {i j} : EV X (.Constant (.str i) j pos) (eC (.str i)) := ev_const pe_str fun _ => .str i
theorem ev_non {j} : EV X (.Constant .none j pos) (eC .non) := ev_const pe_non fun _ => .non
theorem set_same {σ : L2.St} {env : Sls} {i : Nat} {x : Sl} {j : Nat} (h : i ≠ j) : (env.set i x)[j]? = env[j]? := by rw [List.getElem?_set_ne h]
/-- an owned list is owned no longer -/
theorem RepS.freeze {K : PySem.W.Frag} {H : Hp} {O : List Addr} {σ : L2.St} {env : Sls} {i : Nat} {t : T} (S : RepS K H O σ env) (h : env[i]? = some (.own t)) :
    ∃ v O', σ[i]? = some (some v) ∧ Rep K (hid H O') v t ∧ Nx σ env H O σ (env.set i (.val t)) H O' ∧ RepS K H O' σ (env.set i (.val t)) := by
  have hc : env[i]?.bind Sl.cont = some t := by rw [h]; rfl
  have hil : i < env.length := (List.getElem?_eq_some_iff.mp h).1
  obtain ⟨p, h1, h2, h3⟩ := S.own i t hc
  have gx : Ext (hid H O) (hid H (O.filter fun a => decide (a ≠ p))) := fun a o e => by
    obtain ⟨q1, q2⟩ := of_hid e
    rw [hid_of (fun z => q1 (List.mem_filter.mp z).1)]
    exact q2
  have hp : hid H (O.filter fun a => decide (a ≠ p)) p = H p := hid_of (fun z => by
    have := (List.mem_filter.mp z).2
    simp at this)
  refine ⟨.ref p, O.filter (fun a => decide (a ≠ p)), h1, ?_, ?_, ?_⟩
  · cases t with
    | lst ts =>
      obtain ⟨vs, q1, q2⟩ := h3
      exact .lst (hp.trans q1) (q2.mono gx)
    | dic ks ts =>
      obtain ⟨kvs, q1, q2, q3⟩ := h3
      subst q2
      exact .dic (hp.trans q1) (q3.mono gx)
    | _ => exact h3.elim
  · have hne : ∀ j x, i ≠ j → (env.set i x)[j]? = env[j]? := fun j x z => by rw [List.getElem?_set_ne z]
    have hie : (env.set i (Sl.val t))[i]? = some (.val t) := by rw [List.getElem?_set_self hil]
    refine ⟨fun _ _ e _ => e, fun _ o e => ⟨o, e⟩, fun a z => .inl (List.mem_filter.mp z).1, fun a z => ?_, fun a z => ?_, fun j u z => ?_, fun j u z => ?_⟩
    · by_cases q : a = p
      · subst q
        exact .inr (.inl ⟨i, t, hc, h1⟩)
      · exact .inl (List.mem_filter.mpr ⟨z, by simpa using q⟩)
    · obtain ⟨j, u, z1, z2⟩ := z
      by_cases q : i = j
      · subst q
        rw [hie] at z1
        cases z1
      · rw [hne j _ q] at z1
        exact .inl ⟨j, u, z1, z2⟩
    · by_cases q : i = j
      · subst q
        rw [h] at z; cases z
      · rw [hne j _ q]
        exact ⟨⟨u, z⟩, rfl⟩
    · by_cases q : i = j
      · subst q
        rw [hie] at z; cases z
      · rw [hne j _ q] at z
        exact ⟨u, z⟩
  · have hne : ∀ j x, i ≠ j → (env.set i x)[j]? = env[j]? := fun j x z => by rw [List.getElem?_set_ne z]
    have hie : (env.set i (Sl.val t))[i]? = some (.val t) := by rw [List.getElem?_set_self hil]
    refine ⟨by simpa using S.len, fun a z => S.dom a (List.mem_filter.mp z).1, fun j u z => ?_, fun j u z => ?_, fun j k u w q z1 z2 z3 z4 => ?_⟩
    · by_cases q : i = j
      · subst q
        rw [hie] at z; cases z
        refine ⟨.ref p, h1, ?_⟩
        cases t with
        | lst ts =>
          obtain ⟨vs, q1, q2⟩ := h3
          exact .lst (hp.trans q1) (q2.mono gx)
        | dic ks ts =>
          obtain ⟨kvs, q1, q2, q3⟩ := h3
          subst q2
          exact .dic (hp.trans q1) (q3.mono gx)
        | _ => exact h3.elim
      · rw [hne j _ q] at z
        obtain ⟨v, z1, z2⟩ := S.val j u z
        exact ⟨v, z1, z2.mono gx⟩
    · by_cases q : i = j
      · subst q
        rw [hie] at z; cases z
      · rw [hne j _ q] at z
        obtain ⟨r, z1, z2, z3⟩ := S.own j u z
        have hr : r ≠ p := fun e => by
          subst e
          exact q (S.inj i j t u r hc z h1 z1)
        exact ⟨r, z1, List.mem_filter.mpr ⟨z2, by simpa using hr⟩, z3.mono gx rfl⟩
    · have back : ∀ j u, (env.set i (Sl.val t))[j]?.bind Sl.cont = some u → env[j]?.bind Sl.cont = some u := fun j u z => by
        by_cases q : i = j
        · subst q
          rw [hie] at z; cases z
        · rw [hne j _ q] at z
          exact z
      exact S.inj j k u w q (back _ _ z1) (back _ _ z2) z3 z4
theorem ev_var {i : Nat} {x : Str} (h : PE X (.Name x pos) (tVar i)) : EV X (.Name x pos) (eVar i) :=
  pe_mono h fun σ H Q ⟨O, env, t, env', S, e, k⟩ => by
    unfold eVar at e
    split at e
    · rename_i u q
      cases e
      obtain ⟨v, h1, h2⟩ := S.val i _ q
      exact ⟨v, h1, k v H O .refl S h2⟩
    · rename_i u q
      cases e
      obtain ⟨v, O', h1, h2, h3, h4⟩ := S.freeze q
      exact ⟨v, h1, k v H O' h3 h4 h2⟩
    · cases e
theorem ev_bin {op : Operator} {g : O2} (ho : OpT X (binaryOp op) g) (ha : EV X a fa) (hb : EV X b fb) : EV X (.BinOp a op b pos) (e2 g fa fb) :=
  pe_mono (pe_op ho ha hb) fun σ H Q ⟨O, env, t, env', S, e, k⟩ => by
    unfold Fx.e2 at e
    obtain ⟨⟨x, e1⟩, q1, e⟩ := Option.bind_eq_some_iff.mp e
    obtain ⟨⟨y, e2⟩, q2, e⟩ := Option.bind_eq_some_iff.mp e
    obtain ⟨z, q3, e⟩ := Option.map_eq_some_iff.mp e
    cases e
    refine ⟨O, env, x, e1, S, q1, fun v H1 O1 n1 S1 r1 => ⟨O1, e1, y, _, S1, q2, fun u H2 O2 n2 S2 r2 => ⟨O2, x, y, t, S2.dom, r1.mono (S1.grow n2), r2, q3, fun w H3 x3 r3 => ?_⟩⟩⟩
    exact k w H3 O2 ((n1.trans n2).trans (.ext x3)) (S2.ext x3) r3
theorem ev_cmp {op : CmpOp} {g : O2} (ho : OpT X (compareOp op) g) (ha : EV X a fa) (hb : EV X b fb) (hm : behindInMarks op b = false) : EV X (.Compare a [op] [b] pos) (e2 g fa fb) :=
  pe_mono (pe_cmpR ho ha hb hm) fun σ H Q ⟨O, env, t, env', S, e, k⟩ => by
    unfold Fx.e2 at e
    obtain ⟨⟨x, e1⟩, q1, e⟩ := Option.bind_eq_some_iff.mp e
    obtain ⟨⟨y, e2⟩, q2, e⟩ := Option.bind_eq_some_iff.mp e
    obtain ⟨z, q3, e⟩ := Option.map_eq_some_iff.mp e
    cases e
    refine ⟨O, env, x, e1, S, q1, fun v H1 O1 n1 S1 r1 => ⟨O1, e1, y, _, S1, q2, fun u H2 O2 n2 S2 r2 => ⟨O2, x, y, t, S2.dom, r1.mono (S1.grow n2), r2, q3, fun w H3 x3 r3 => ?_⟩⟩⟩
    exact k w H3 O2 ((n1.trans n2).trans (.ext x3)) (S2.ext x3) r3
theorem ev_ix {g : O2} (ho : IxT X g) (ha : EV X a fa) (hb : EV X b fb) (hs : PlainIx b) : EV X (.Subscript a b pos) (e2 g fa fb) :=
  pe_mono (pe_ix ho ha hb hs) fun σ H Q ⟨O, env, t, env', S, e, k⟩ => by
    unfold Fx.e2 at e
    obtain ⟨⟨x, e1⟩, q1, e⟩ := Option.bind_eq_some_iff.mp e
    obtain ⟨⟨y, e2⟩, q2, e⟩ := Option.bind_eq_some_iff.mp e
    obtain ⟨z, q3, e⟩ := Option.map_eq_some_iff.mp e
    cases e
    refine ⟨O, env, x, e1, S, q1, fun v H1 O1 n1 S1 r1 => ⟨O1, e1, y, _, S1, q2, fun u H2 O2 n2 S2 r2 => ⟨O2, x, y, t, S2.dom, r1.mono (S1.grow n2), r2, q3, fun w H3 x3 r3 => ?_⟩⟩⟩
    exact k w H3 O2 ((n1.trans n2).trans (.ext x3)) (S2.ext x3) r3
theorem ev_un {op : UnaryOp} {g : O1'} (ho : UnT X (unaryOp op) g) (ha : EV X a fa) : EV X (.UnaryOp op a pos) (e1 g fa) :=
  pe_mono (pe_un ho ha) fun σ H Q ⟨O, env, t, env', S, e, k⟩ => by
    unfold Fx.e1 at e
    obtain ⟨⟨x, e1⟩, q1, e⟩ := Option.bind_eq_some_iff.mp e
    obtain ⟨z, q3, e⟩ := Option.map_eq_some_iff.mp e
    cases e
    refine ⟨O, env, x, _, S, q1, fun v H1 O1 n1 S1 r1 => ⟨O1, x, t, S1.dom, r1, q3, fun w H3 x3 r3 => ?_⟩⟩
    exact k w H3 O1 (n1.trans (.ext x3)) (S1.ext x3) r3
theorem ea_nil : EA X [] aN := pa_mono pa_nil fun σ H Q ⟨O, env, t, env', S, e, k⟩ => by
  cases e
  exact k [] H O .refl S .nil
theorem ea_cons (ha : EV X a fa) (hr : EA X es fr) (hs : starEach (a :: es) X.env = (false, eval a X.env) :: starEach es X.env := by rfl) : EA X (a :: es) (aC fa fr) :=
  pa_mono (pa_cons ha hr hs) fun σ H Q ⟨O, env, t, env', S, e, k⟩ => by
    unfold aC at e
    obtain ⟨⟨x, e1⟩, q1, e⟩ := Option.bind_eq_some_iff.mp e
    obtain ⟨⟨z, e2⟩, q3, e⟩ := Option.map_eq_some_iff.mp e
    cases e
    exact ⟨O, env, x, e1, S, q1, fun v H1 O1 n1 S1 r1 => ⟨O1, e1, z, _, S1, q3, fun vs H2 O2 n2 S2 r2 => k _ H2 O2 (n1.trans n2) S2 (.cons (r1.mono (S1.grow n2)) r2)⟩⟩
/-- a display -/
@[simp] def dTup : ON := fun ts => if ts.length ≤ 100000 then some (.tup ts) else none
@[simp] def dLst : ON := fun ts => if ts.length ≤ 100000 then some (.lst ts) else none
theorem ev_tup {x1} (h : EA X es fr) : EV X (.Tuple es x1 pos) (eN dTup fr) :=
  pe_mono (pe_tup h) fun σ H Q ⟨O, env, t, env', S, e, k⟩ => by
    unfold eN at e
    obtain ⟨⟨x, e1⟩, q1, e⟩ := Option.bind_eq_some_iff.mp e
    obtain ⟨z, q3, e⟩ := Option.map_eq_some_iff.mp e
    cases e
    refine ⟨O, env, x, _, S, q1, fun vs H1 O1 n1 S1 r1 => ?_⟩
    have q3 : (if x.length ≤ 100000 then some (T.tup x) else none) = some t := q3
    split at q3
    · rename_i hl
      cases q3
      refine ⟨by rw [r1.length, sizeLine_eq]; have : x.length ≤ 100000 := hl; omega, fun p hp => ?_⟩
      exact k _ _ O1 (n1.trans (.ext (.new hp))) (S1.ext (.new hp)) (.tup (.inl (.inl (hid_new (S1.fresh hp)))) (r1.mono ((Ext.new hp).hid O1)))
    · cases q3
theorem ev_lst (h : EA X es fr) : EV X (.List es pos) (eN dLst fr) :=
  pe_mono (pe_lst h) fun σ H Q ⟨O, env, t, env', S, e, k⟩ => by
    unfold eN at e
    obtain ⟨⟨x, e1⟩, q1, e⟩ := Option.bind_eq_some_iff.mp e
    obtain ⟨z, q3, e⟩ := Option.map_eq_some_iff.mp e
    cases e
    refine ⟨O, env, x, _, S, q1, fun vs H1 O1 n1 S1 r1 => ?_⟩
    have q3 : (if x.length ≤ 100000 then some (T.lst x) else none) = some t := q3
    split at q3
    · rename_i hl
      cases q3
      refine ⟨by rw [r1.length, sizeLine_eq]; have : x.length ≤ 100000 := hl; omega, fun p hp => ?_⟩
      exact k _ _ O1 (n1.trans (.ext (.new hp))) (S1.ext (.new hp)) (.lst (hid_new (S1.fresh hp)) (r1.mono ((Ext.new hp).hid O1)))
    · cases q3
/-- a built-in called by its name -/
theorem ev_callB {x : Str} {p : Pos} {id : String} {g : ON} {e : Expr} (hc : CallT X (.builtin id) g) (hg : Gl X x) (hm : X.mg x = none) (hv : bootBuiltins x = some (.builtin id)) (ha : EA X (e :: es) fr) (hn : x ≠ "__name__" := by decide) (hdb : (x == ("__debug__" : Str)) = false := by decide)
    (he : starEach (e :: es) X.env = (false, eval e X.env) :: starEach es X.env := by rfl) (hpl : (backTo pos (starEach es X.env)).any (·.1) = false := by rfl) : EV X (.Call (.Name x p) (e :: es) [] pos) (eN g fr) :=
  pe_mono (pe_callB hc hg hm hv ha hn hdb he hpl) fun σ H Q ⟨O, env, t, env', S, e, k⟩ => by
    unfold eN at e
    obtain ⟨⟨x, e1⟩, q1, e⟩ := Option.bind_eq_some_iff.mp e
    obtain ⟨z, q3, e⟩ := Option.map_eq_some_iff.mp e
    cases e
    exact ⟨O, env, x, _, S, q1, fun vs H1 O1 n1 S1 r1 => ⟨O1, x, _, S1.dom, r1, q3, fun w H3 x3 r3 => k w H3 O1 (n1.trans (.ext x3)) (S1.ext x3) r3⟩⟩
theorem ev_callTy {x : Str} {p : Pos} {id : String} {g : ON} {e : Expr} (hc : CallT X (.type id) g) (hg : Gl X x) (hm : X.mg x = none) (hv : bootBuiltins x = some (.type id)) (ha : EA X (e :: es) fr) (hn : x ≠ "__name__" := by decide) (hdb : (x == ("__debug__" : Str)) = false := by decide)
    (he : starEach (e :: es) X.env = (false, eval e X.env) :: starEach es X.env := by rfl) (hpl : (backTo pos (starEach es X.env)).any (·.1) = false := by rfl) : EV X (.Call (.Name x p) (e :: es) [] pos) (eN g fr) :=
  pe_mono (pe_callTy hc hg hm hv ha hn hdb he hpl) fun σ H Q ⟨O, env, t, env', S, e, k⟩ => by
    unfold eN at e
    obtain ⟨⟨x, e1⟩, q1, e⟩ := Option.bind_eq_some_iff.mp e
    obtain ⟨z, q3, e⟩ := Option.map_eq_some_iff.mp e
    cases e
    exact ⟨O, env, x, _, S, q1, fun vs H1 O1 n1 S1 r1 => ⟨O1, x, _, S1.dom, r1, q3, fun w H3 x3 r3 => k w H3 O1 (n1.trans (.ext x3)) (S1.ext x3) r3⟩⟩

/-! ### tests, and, or, not, if -/
@[simp] def tB1 (fa : EF) : BF := fun env => (fa env).bind fun p => match p.1 with
  | .bl b => some (b, p.2)
  | _ => none
theorem tB1_some {fa : EF} {env : Sls} {b : Bool} {env' : Sls} (h : tB1 fa env = some (b, env')) : fa env = some (.bl b, env') := by
  unfold tB1 at h
  obtain ⟨⟨x, e1⟩, q1, e⟩ := Option.bind_eq_some_iff.mp h
  cases x <;> first | (cases e; exact q1) | cases e
/-- an expression of another form than a comparison, and, or, not -/
theorem tv_val (h : EV X a fa) (he : ∀ whole, isTrue a X.env whole = (do let v ← whole; standAt a.pos; holding [v] (truthy v)) := by intro _; rfl) : TV X a (tB1 fa) :=
  pt_mono (pt_val h he) fun σ H Q ⟨O, env, b, env', S, e, k⟩ =>
    ⟨O, env, .bl b, env', S, tB1_some e, fun v H1 O1 n1 S1 r1 => ⟨b, r1.inv_bl, k H1 O1 n1 S1⟩⟩
theorem tv_cmp {op : CmpOp} {g : O2} (ho : OpT X (compareOp op) g) (ha : EV X a fa) (hb : EV X b fb) (hm : behindInMarks op b = false) : TV X (.Compare a [op] [b] pos) (tB1 (e2 g fa fb)) :=
  pt_mono (pt_cmpR ho ha hb hm) fun σ H Q ⟨O, env, c, env', S, e, k⟩ => by
    have e := tB1_some e
    unfold Fx.e2 at e
    obtain ⟨⟨x, e1⟩, q1, e⟩ := Option.bind_eq_some_iff.mp e
    obtain ⟨⟨y, e2⟩, q2, e⟩ := Option.bind_eq_some_iff.mp e
    obtain ⟨z, q3, e⟩ := Option.map_eq_some_iff.mp e
    cases e
    refine ⟨O, env, x, e1, S, q1, fun v H1 O1 n1 S1 r1 => ⟨O1, e1, y, _, S1, q2, fun u H2 O2 n2 S2 r2 => ⟨O2, x, y, _, S2.dom, r1.mono (S1.grow n2), r2, q3, fun w H3 x3 r3 => ⟨c, r3.inv_bl, ?_⟩⟩⟩⟩
    exact k H3 O2 ((n1.trans n2).trans (.ext x3)) (S2.ext x3)
@[simp] def bAnd (f g : BF) : BF := fun env => (f env).bind fun p => if p.1 = true then g p.2 else some (false, p.2)
@[simp] def bOr (f g : BF) : BF := fun env => (f env).bind fun p => if p.1 = true then some (true, p.2) else g p.2
@[simp] def bNot (f : BF) : BF := fun env => (f env).map fun p => (!p.1, p.2)
variable {tf tg : BF} {rest : List Expr}
def TW (X : Cx) (e : Expr) (f : BF) : Prop := PW X e (tTt X.K f)
theorem tw_tv (h : TW X a tf) : TV X a tf := h.pt
theorem tw_and1 (h : TV X a tf) : TW X (.BoolOp .And [a] pos) tf := pw_and1 h
theorem tw_or1 (h : TV X a tf) : TW X (.BoolOp .Or [a] pos) tf := pw_or1 h
theorem tw_and (ha : TV X a tf) (hb : TW X (.BoolOp .And (b :: rest) pos) tg) : TW X (.BoolOp .And (a :: b :: rest) pos) (bAnd tf tg) :=
  pw_mono (pw_and ha hb) fun σ H Q ⟨O, env, c, env', S, e, k⟩ => by
    unfold bAnd at e
    obtain ⟨⟨x, e1⟩, q1, e⟩ := Option.bind_eq_some_iff.mp e
    refine ⟨O, env, x, e1, S, q1, fun H1 O1 n1 S1 => ?_⟩
    cases x with
    | true =>
      rw [if_pos rfl] at e
      rw [if_pos rfl]
      exact ⟨O1, e1, c, env', S1, e, fun H2 O2 n2 S2 => k H2 O2 (n1.trans n2) S2⟩
    | false =>
      rw [if_neg Bool.false_ne_true] at e
      rw [if_neg Bool.false_ne_true]
      cases e
      exact k H1 O1 n1 S1
theorem tw_or (ha : TV X a tf) (hb : TW X (.BoolOp .Or (b :: rest) pos) tg) : TW X (.BoolOp .Or (a :: b :: rest) pos) (bOr tf tg) :=
  pw_mono (pw_or ha hb) fun σ H Q ⟨O, env, c, env', S, e, k⟩ => by
    unfold bOr at e
    obtain ⟨⟨x, e1⟩, q1, e⟩ := Option.bind_eq_some_iff.mp e
    refine ⟨O, env, x, e1, S, q1, fun H1 O1 n1 S1 => ?_⟩
    cases x with
    | false =>
      rw [if_neg Bool.false_ne_true] at e
      rw [if_neg Bool.false_ne_true]
      exact ⟨O1, e1, c, env', S1, e, fun H2 O2 n2 S2 => k H2 O2 (n1.trans n2) S2⟩
    | true =>
      rw [if_pos rfl] at e
      rw [if_pos rfl]
      cases e
      exact k H1 O1 n1 S1
theorem tv_not (ha : TV X a tf) : TV X (.UnaryOp .Not a pos) (bNot tf) :=
  pt_mono (pt_not ha) fun σ H Q ⟨O, env, c, env', S, e, k⟩ => by
    unfold bNot at e
    obtain ⟨⟨z, e2⟩, q3, e⟩ := Option.map_eq_some_iff.mp e
    cases e
    exact ⟨O, env, z, _, S, q3, k⟩
/-- .. as values -/
@[simp] def eAnd (f g : EF) : EF := fun env => (tB1 f env).bind fun p => if p.1 = true then g p.2 else some (.bl false, p.2)
@[simp] def eOr (f g : EF) : EF := fun env => (tB1 f env).bind fun p => if p.1 = true then some (.bl true, p.2) else g p.2
@[simp] def eNot (f : EF) : EF := fun env => (tB1 f env).map fun p => (.bl (!p.1), p.2)
theorem ev_one {op} (h : EV X a fa) : EV X (.BoolOp op [a] pos) fa := pe_one h
theorem ev_and (ha : EV X a fa) (hb : EV X (.BoolOp .And (b :: rest) pos) fb) : EV X (.BoolOp .And (a :: b :: rest) pos) (eAnd fa fb) :=
  pe_mono (pe_and ha hb) fun σ H Q ⟨O, env, t, env', S, e, k⟩ => by
    unfold eAnd at e
    obtain ⟨⟨x, e1⟩, q1, e⟩ := Option.bind_eq_some_iff.mp e
    refine ⟨O, env, .bl x, e1, S, tB1_some q1, fun v H1 O1 n1 S1 r1 => ⟨x, r1.inv_bl, ?_⟩⟩
    cases x with
    | true =>
      rw [if_pos rfl] at e
      rw [if_pos rfl]
      exact ⟨O1, e1, t, env', S1, e, fun v H2 O2 n2 S2 r2 => k v H2 O2 (n1.trans n2) S2 r2⟩
    | false =>
      rw [if_neg Bool.false_ne_true] at e
      rw [if_neg Bool.false_ne_true]
      cases e
      exact k _ H1 O1 n1 S1 (.bl false)
theorem ev_or (ha : EV X a fa) (hb : EV X (.BoolOp .Or (b :: rest) pos) fb) : EV X (.BoolOp .Or (a :: b :: rest) pos) (eOr fa fb) :=
  pe_mono (pe_or ha hb) fun σ H Q ⟨O, env, t, env', S, e, k⟩ => by
    unfold eOr at e
    obtain ⟨⟨x, e1⟩, q1, e⟩ := Option.bind_eq_some_iff.mp e
    refine ⟨O, env, .bl x, e1, S, tB1_some q1, fun v H1 O1 n1 S1 r1 => ⟨x, r1.inv_bl, ?_⟩⟩
    cases x with
    | false =>
      rw [if_neg Bool.false_ne_true] at e
      rw [if_neg Bool.false_ne_true]
      exact ⟨O1, e1, t, env', S1, e, fun v H2 O2 n2 S2 r2 => k v H2 O2 (n1.trans n2) S2 r2⟩
    | true =>
      rw [if_pos rfl] at e
      rw [if_pos rfl]
      cases e
      exact k _ H1 O1 n1 S1 (.bl true)
theorem ev_not (ha : EV X a fa) : EV X (.UnaryOp .Not a pos) (eNot fa) :=
  pe_mono (pe_not ha) fun σ H Q ⟨O, env, t, env', S, e, k⟩ => by
    unfold eNot at e
    obtain ⟨⟨z, e2⟩, q3, e⟩ := Option.map_eq_some_iff.mp e
    cases e
    exact ⟨O, env, .bl z, _, S, tB1_some q3, fun v H1 O1 n1 S1 r1 => ⟨z, r1.inv_bl, k _ H1 O1 n1 S1 (.bl _)⟩⟩
@[simp] def eIf (c : BF) (f g : EF) : EF := fun env => (c env).bind fun p => if p.1 = true then f p.2 else g p.2
theorem ev_ifExp {c : Expr} (hc : TV X c tf) (ha : EV X a fa) (hb : EV X b fb) : EV X (.IfExp c a b pos) (eIf tf fa fb) :=
  pe_mono (pe_ifExp hc ha hb) fun σ H Q ⟨O, env, t, env', S, e, k⟩ => by
    unfold eIf at e
    obtain ⟨⟨x, e1⟩, q1, e⟩ := Option.bind_eq_some_iff.mp e
    refine ⟨O, env, x, e1, S, q1, fun H1 O1 n1 S1 => ?_⟩
    cases x with
    | true =>
      rw [if_pos rfl] at e
      rw [if_pos rfl]
      exact ⟨O1, e1, t, env', S1, e, fun v H2 O2 n2 S2 r2 => k v H2 O2 (n1.trans n2) S2 r2⟩
    | false =>
      rw [if_neg Bool.false_ne_true] at e
      rw [if_neg Bool.false_ne_true]
      exact ⟨O1, e1, t, env', S1, e, fun v H2 O2 n2 S2 r2 => k v H2 O2 (n1.trans n2) S2 r2⟩
end
end Fx

/-! Fx 3: statements, targets, loops, comprehensions as functions of the slots. -/
namespace Fx
open PySem PySem.Spec PyProof.Rows L2

inductive Fl where
  | nx | bk | ct | ret (t : T)
abbrev SF := Sls → Option (Fl × Sls)
def SPost (K : PySem.W.Frag) (σ : L2.St) (env : Sls) (H : Hp) (O : List Addr) (env' : Sls) (fl : Fl) (D : Ends) : Prop :=
  ∀ σ' H' O', Nx σ env H O σ' env' H' O' → RepS K H' O' σ' env' → match fl with
    | .nx => D.nx σ' H'
    | .bk => D.bk σ' H'
    | .ct => D.ct σ' H'
    | .ret t => ∀ v, Rep K (hid H' O') v t → D.rt v H'
def tS (K : PySem.W.Frag) (g : SF) : TS := fun D σ H => ∃ O env fl env', RepS K H O σ env ∧ g env = some (fl, env') ∧ SPost K σ env H O env' fl D
def SV (X : Cx) (st : Stmt) (g : SF) : Prop := PS X st (tS X.K g)
def BV (X : Cx) (sts : List Stmt) (g : SF) : Prop := PSs X sts (tS X.K g)
theorem ps_mono {X : Cx} {e : Stmt} {t t' : TS} (h : PS X e t) (m : ∀ D σ H, t' D σ H → t D σ H) : PS X e t' := ⟨fun pins s σ H Q I q => h.run pins s σ H Q I (m _ _ _ q)⟩
theorem pss_mono {X : Cx} {e : List Stmt} {t t' : TS} (h : PSs X e t) (m : ∀ D σ H, t' D σ H → t D σ H) : PSs X e t' := ⟨fun pins s σ H Q I q => h.run pins s σ H Q I (m _ _ _ q)⟩
theorem pg_mono {X : Cx} {e : Expr} {t t' : TG} (h : PG X e t) (m : ∀ v σ H Q, t' v σ H Q → t v σ H Q) : PG X e t' := ⟨fun pins s σ H v u Q I r q => h.run pins s σ H v u Q I r (m _ _ _ _ q)⟩
theorem pgs_mono {X : Cx} {e : List Expr} {t t' : TGs} (h : PGs X e t) (m : ∀ v σ H Q, t' v σ H Q → t v σ H Q) : PGs X e t' := ⟨fun pins s σ H v u Q I r q => h.run pins s σ H v u Q I r (m _ _ _ _ q)⟩
theorem pi_mono {X : Cx} {tg e : Expr} {t t' : TI} (h : PI X tg e t) (m : ∀ σ H Q, t' σ H Q → t σ H Q) : PI X tg e t' := ⟨fun pins s σ H Q I q => h.run pins s σ H Q I (m _ _ _ q)⟩
theorem pi_or {X : Cx} {tg e : Expr} {t t' : TI} (h : PI X tg e t) (h' : PI X tg e t') : PI X tg e (fun σ H Q => t σ H Q ∨ t' σ H Q) := ⟨fun pins s σ H Q I q => by
  rcases q with q | q
  · exact h.run pins s σ H Q I q
  · exact h'.run pins s σ H Q I q⟩

section
variable {X : Cx} {e : Expr} {st : Stmt} {rest a b : List Stmt} {fa : EF} {g g' : SF} {pos : Pos}
@[simp] def bNil : SF := fun env => some (.nx, env)
@[simp] def bSeq (g g' : SF) : SF := fun env => (g env).bind fun p => match p.1 with
  | .nx => g' p.2
  | .bk => some (.bk, p.2)
  | .ct => some (.ct, p.2)
  | .ret t => some (.ret t, p.2)
theorem bv_nil : BV X [] bNil := pss_mono pss_nil fun D σ H ⟨O, env, fl, env', S, e, k⟩ => by
  cases e
  exact k σ H O .refl S
theorem bv_cons (h : SV X st g) (h' : BV X rest g') : BV X (st :: rest) (bSeq g g') := pss_mono (pss_cons h h') fun D σ H ⟨O, env, fl, env', S, e, k⟩ => by
  unfold bSeq at e
  obtain ⟨⟨f1, e1⟩, q1, e⟩ := Option.bind_eq_some_iff.mp e
  refine ⟨O, env, f1, e1, S, q1, fun σ1 H1 O1 n1 S1 => ?_⟩
  cases f1 with
  | nx => exact ⟨O1, e1, fl, env', S1, e, fun σ2 H2 O2 n2 S2 => k σ2 H2 O2 (n1.trans n2) S2⟩
  | bk => cases e; exact k σ1 H1 O1 n1 S1
  | ct => cases e; exact k σ1 H1 O1 n1 S1
  | ret t => cases e; exact k σ1 H1 O1 n1 S1
theorem bv_one (h : SV X st g) : BV X [st] g := pss_one h
@[simp] def sPass : SF := fun env => some (.nx, env)
@[simp] def sBreak : SF := fun env => some (.bk, env)
@[simp] def sCont : SF := fun env => some (.ct, env)
theorem sv_pass : SV X (.Pass pos) sPass := ps_mono ps_pass fun D σ H ⟨O, env, fl, env', S, e, k⟩ => by
  cases e
  exact k σ H O .refl S
theorem sv_break : SV X (.Break pos) sBreak := ps_mono ps_break fun D σ H ⟨O, env, fl, env', S, e, k⟩ => by
  cases e
  exact k σ H O .refl S
theorem sv_cont : SV X (.Continue pos) sCont := ps_mono ps_continue fun D σ H ⟨O, env, fl, env', S, e, k⟩ => by
  cases e
  exact k σ H O .refl S
@[simp] def sRet (f : EF) : SF := fun env => (f env).map fun p => (.ret p.1, p.2)
theorem sv_ret (h : EV X e fa) : SV X (.Return (some e) pos) (sRet fa) := ps_mono (ps_ret h) fun D σ H ⟨O, env, fl, env', S, e, k⟩ => by
  unfold sRet at e
  obtain ⟨⟨t, e1⟩, q1, e⟩ := Option.map_eq_some_iff.mp e
  cases e
  exact ⟨O, env, t, _, S, q1, fun v H1 O1 n1 S1 r1 => k σ H1 O1 n1 S1 v r1⟩
@[simp] def sRetN : SF := fun env => some (.ret .non, env)
theorem sv_retN : SV X (.Return none pos) sRetN := ps_mono ps_retN fun D σ H ⟨O, env, fl, env', S, e, k⟩ => by
  cases e
  exact k σ H O .refl S _ .non
@[simp] def sExpr (f : EF) : SF := fun env => (f env).map fun p => (.nx, p.2)
theorem sv_expr (h : EV X e fa) (hs : swapsWith e none pos.line X.env = pure false := by rfl) : SV X (.Expr e pos) (sExpr fa) := ps_mono (ps_expr h hs) fun D σ H ⟨O, env, fl, env', S, e, k⟩ => by
  unfold sExpr at e
  obtain ⟨⟨t, e1⟩, q1, e⟩ := Option.map_eq_some_iff.mp e
  cases e
  exact ⟨O, env, t, _, S, q1, fun v H1 O1 n1 S1 r1 => k σ H1 O1 n1 S1⟩
@[simp] def sIf (c : BF) (f g : SF) : SF := fun env => (c env).bind fun p => if p.1 = true then f p.2 else g p.2
theorem sv_if {c : Expr} {tc : BF} (hc : TV X c tc) (ha : BV X a g) (hb : BV X b g') : SV X (.If c a b pos) (sIf tc g g') := ps_mono (ps_if hc ha hb) fun D σ H ⟨O, env, fl, env', S, e, k⟩ => by
  unfold sIf at e
  obtain ⟨⟨x, e1⟩, q1, e⟩ := Option.bind_eq_some_iff.mp e
  refine ⟨O, env, x, e1, S, q1, fun H1 O1 n1 S1 => ?_⟩
  cases x with
  | true =>
    rw [if_pos rfl] at e
    rw [if_pos rfl]
    exact ⟨O1, e1, fl, env', S1, e, fun σ2 H2 O2 n2 S2 => k σ2 H2 O2 (n1.trans n2) S2⟩
  | false =>
    rw [if_neg Bool.false_ne_true] at e
    rw [if_neg Bool.false_ne_true]
    exact ⟨O1, e1, fl, env', S1, e, fun σ2 H2 O2 n2 S2 => k σ2 H2 O2 (n1.trans n2) S2⟩
end

/-! ### targets -/
inductive Pat where
  | nm (i : Nat) | tup (ps : List Pat)
@[simp] def isIo : Option Sl → Bool
  | some (.io _) => true
  | _ => false
@[simp] def putS (i : Nat) (t : T) (env : Sls) : Option Sls := if isIo env[i]? = true then none else some (env.set i (.val t))
mutual
@[simp] def bindP : Pat → T → Sls → Option Sls
  | .nm i, t, env => putS i t env
  | .tup ps, .tup ts, env => bindPs ps ts env
  | .tup ps, .lst ts, env => none
  | .tup _, _, _ => none
@[simp] def bindPs : List Pat → List T → Sls → Option Sls
  | [], [], env => some env
  | p :: ps, t :: ts, env => (bindP p t env).bind fun e => bindPs ps ts e
  | _, _, _ => none
end
mutual
@[simp] def Pat.slots : Pat → List Nat
  | .nm i => [i]
  | .tup ps => slotsAll ps
@[simp] def slotsAll : List Pat → List Nat
  | [] => []
  | p :: ps => p.slots ++ slotsAll ps
end
def tG (K : PySem.W.Frag) (p : Pat) : TG := fun v σ H Q => ∃ O env t env', RepS K H O σ env ∧ Rep K (hid H O) v t ∧ bindP p t env = some env' ∧ ∀ σ', Nx σ env H O σ' env' H O → RepS K H O σ' env' → (∀ vs, (∀ i ∈ p.slots, i ∈ vs) → wipe σ' vs = wipe σ vs) → Q σ' H
def tGs (K : PySem.W.Frag) (p : List Pat) : TGs := fun xs σ H Q => ∃ O env ts env', RepS K H O σ env ∧ Reps K (hid H O) xs ts ∧ bindPs p ts env = some env' ∧ ∀ σ', Nx σ env H O σ' env' H O → RepS K H O σ' env' → (∀ vs, (∀ i ∈ slotsAll p, i ∈ vs) → wipe σ' vs = wipe σ vs) → Q σ' H
def GV (X : Cx) (tg : Expr) (p : Pat) : Prop := PG X tg (tG X.K p)
def GVs (X : Cx) (tgs : List Expr) (p : List Pat) : Prop := PGs X tgs (tGs X.K p)

theorem wipe_set {σ : L2.St} {x : Option V} {i : Nat} : ∀ {vs : List Nat}, i ∈ vs → wipe (σ.set i x) vs = wipe σ vs
  | v :: vs, h => by
    unfold wipe
    by_cases e : i = v
    · subst e
      by_cases h2 : i ∈ vs
      · rw [wipe_set h2]
      · have : ∀ (ws : List Nat), i ∉ ws → wipe (σ.set i x) ws = (wipe σ ws).set i x := fun ws => by
          induction ws with
          | nil => intro _; rfl
          | cons w ws ih =>
            intro hn
            have hw : i ≠ w := fun z => hn (by rw [z]; exact List.mem_cons_self)
            unfold wipe
            rw [ih fun z => hn (List.mem_cons_of_mem _ z), List.set_comm _ _ hw]
        rw [this vs h2, List.set_set]
    · have h2 : i ∈ vs := by
        rcases List.mem_cons.mp h with z | z
        · exact absurd z e
        · exact z
      rw [wipe_set h2]
section
variable {K : PySem.W.Frag} {H H1 H2 H' : Hp} {O O1 O2 O' : List Addr} {σ σ1 σ2 σ' : L2.St} {env env1 env2 env' : Sls}
/-- a value is put into a slot -/
theorem RepS.put {i : Nat} {v : V} {t : T} (S : RepS K H O σ env) (r : Rep K (hid H O) v t) (hi : isIo env[i]? = false) : Nx σ env H O (σ.set i (some v)) (env.set i (.val t)) H O ∧ RepS K H O (σ.set i (some v)) (env.set i (.val t)) := by
  have hl := S.len
  have ne1 : ∀ {j : Nat}, i ≠ j → (env.set i (Sl.val t))[j]? = env[j]? := fun z => by rw [List.getElem?_set_ne z]
  have ns1 : ∀ {j : Nat}, i ≠ j → (σ.set i (some v))[j]? = σ[j]? := fun z => by rw [List.getElem?_set_ne z]
  have at1 : ∀ {u : Sl}, (env.set i (Sl.val t))[i]? = some u → u = .val t ∧ i < env.length := fun {u} z => by
    by_cases h : i < env.length
    · rw [List.getElem?_set_self h] at z
      cases z
      exact ⟨rfl, h⟩
    · rw [List.getElem?_eq_none (by simpa using h)] at z
      cases z
  have back : ∀ {j : Nat} {u : T}, (env.set i (Sl.val t))[j]?.bind Sl.cont = some u → i ≠ j ∧ env[j]?.bind Sl.cont = some u := fun {j u} z => by
    by_cases q : i = j
    · subst q
      cases hz : (env.set i (Sl.val t))[i]? with
      | none => rw [hz] at z; cases z
      | some w =>
        obtain ⟨e, _⟩ := at1 hz
        subst e
        rw [hz] at z; cases z
    · exact ⟨q, by rw [ne1 q] at z; exact z⟩
  refine ⟨⟨fun _ _ e _ => e, fun _ o e => ⟨o, e⟩, fun _ h => .inl h, fun _ h => .inl h, fun a h => ?_, fun j u h => ?_, fun j u h => ?_⟩, ⟨by simpa using hl, S.dom, fun j u h => ?_, fun j u h => ?_, fun j k u w p h1 h2 h3 h4 => ?_⟩⟩
  · obtain ⟨j, u, h1, h2⟩ := h
    obtain ⟨q, h1⟩ := back h1
    rw [ns1 q] at h2
    exact .inl ⟨j, u, h1, h2⟩
  · have q : i ≠ j := fun z => by
      subst z
      rw [h] at hi; cases hi
    exact ⟨⟨u, by rw [ne1 q]; exact h⟩, ns1 q⟩
  · by_cases q : i = j
    · subst q
      obtain ⟨e, _⟩ := at1 h
      cases e
    · exact ⟨u, by rw [ne1 q] at h; exact h⟩
  · by_cases q : i = j
    · subst q
      obtain ⟨e, hlt⟩ := at1 h
      cases e
      exact ⟨v, by rw [List.getElem?_set_self (by omega)], r⟩
    · rw [ne1 q] at h
      obtain ⟨w, h1, h2⟩ := S.val j u h
      exact ⟨w, by rw [ns1 q]; exact h1, h2⟩
  · obtain ⟨q, h⟩ := back h
    obtain ⟨p, h1, h2⟩ := S.own j u h
    exact ⟨p, by rw [ns1 q]; exact h1, h2⟩
  · obtain ⟨q1, h1⟩ := back h1
    obtain ⟨q2, h2⟩ := back h2
    rw [ns1 q1] at h3
    rw [ns1 q2] at h4
    exact S.inj j k u w p h1 h2 h3 h4
/-- a new list of one's own is put into a slot -/
theorem RepS.putOwn {i : Nat} {p : Addr} {t : T} (S : RepS K H O σ env) (hp : p ∈ O) (hn : ¬ Owns σ env p) (r : RepO K (hid H O) H p t) (hi : isIo env[i]? = false) :
    RepS K H O (σ.set i (some (.ref p))) (env.set i (.own t)) ∧ (∀ a, Owns (σ.set i (some (.ref p))) (env.set i (.own t)) a → Owns σ env a ∨ a = p) ∧
    (∀ (j : Nat) (u : T), env[j]? = some (Sl.io u) → (env.set i (.own t))[j]? = some (Sl.io u) ∧ (σ.set i (some (V.ref p)))[j]? = σ[j]?) ∧ (∀ (j : Nat) (u : T), (env.set i (.own t))[j]? = some (Sl.io u) → env[j]? = some (Sl.io u)) := by
  have hl := S.len
  have ne1 : ∀ {j : Nat}, i ≠ j → (env.set i (Sl.own t))[j]? = env[j]? := fun z => by rw [List.getElem?_set_ne z]
  have ns1 : ∀ {j : Nat}, i ≠ j → (σ.set i (some (V.ref p)))[j]? = σ[j]? := fun z => by rw [List.getElem?_set_ne z]
  have at1 : ∀ {u : Sl}, (env.set i (Sl.own t))[i]? = some u → u = .own t ∧ i < env.length := fun {u} z => by
    by_cases h : i < env.length
    · rw [List.getElem?_set_self h] at z
      cases z
      exact ⟨rfl, h⟩
    · rw [List.getElem?_eq_none (by simpa using h)] at z
      cases z
  have sat : i < env.length → (σ.set i (some (V.ref p)))[i]? = some (some (V.ref p)) := fun h => by rw [List.getElem?_set_self (by omega)]
  have cas : ∀ {j : Nat} {u : T}, (env.set i (Sl.own t))[j]?.bind Sl.cont = some u → (i = j ∧ u = t ∧ i < env.length) ∨ (i ≠ j ∧ env[j]?.bind Sl.cont = some u) := fun {j u} z => by
    by_cases q : i = j
    · subst q
      cases hz : (env.set i (Sl.own t))[i]? with
      | none => rw [hz] at z; cases z
      | some w =>
        obtain ⟨e, h⟩ := at1 hz
        subst e
        rw [hz] at z; cases z
        exact .inl ⟨rfl, rfl, h⟩
    · exact .inr ⟨q, by rw [ne1 q] at z; exact z⟩
  refine ⟨⟨by simpa using hl, S.dom, fun j u h => ?_, fun j u h => ?_, fun j k u w q h1 h2 h3 h4 => ?_⟩, fun a h => ?_, fun j u h => ?_, fun j u h => ?_⟩
  · by_cases q : i = j
    · subst q
      obtain ⟨e, _⟩ := at1 h
      cases e
    · rw [ne1 q] at h
      obtain ⟨w, h1, h2⟩ := S.val j u h
      exact ⟨w, by rw [ns1 q]; exact h1, h2⟩
  · rcases cas h with ⟨rfl, rfl, hlt⟩ | ⟨q, h⟩
    · exact ⟨p, sat hlt, hp, r⟩
    · obtain ⟨p, h1, h2⟩ := S.own j u h
      exact ⟨p, by rw [ns1 q]; exact h1, h2⟩
  · rcases cas h1 with ⟨e1, _, hlt⟩ | ⟨q1, g1⟩
    · subst e1
      rcases cas h2 with ⟨e2, _, _⟩ | ⟨q2, g2⟩
      · exact e2
      · rw [sat hlt] at h3
        cases h3
        rw [ns1 q2] at h4
        exact (hn ⟨k, w, g2, h4⟩).elim
    · rw [ns1 q1] at h3
      rcases cas h2 with ⟨e2, _, hlt⟩ | ⟨q2, g2⟩
      · subst e2
        rw [sat hlt] at h4
        cases h4
        exact (hn ⟨j, u, g1, h3⟩).elim
      · rw [ns1 q2] at h4
        exact S.inj j k u w q g1 g2 h3 h4
  · obtain ⟨j, u, h1, h2⟩ := h
    rcases cas h1 with ⟨rfl, rfl, hlt⟩ | ⟨q1, h1⟩
    · rw [sat hlt] at h2
      cases h2
      exact .inr rfl
    · rw [ns1 q1] at h2
      exact .inl ⟨j, u, h1, h2⟩
  · have q : i ≠ j := fun z => by
      subst z
      rw [h] at hi; cases hi
    exact ⟨by rw [ne1 q]; exact h, ns1 q⟩
  · by_cases q : i = j
    · subst q
      obtain ⟨e, _⟩ := at1 h
      cases e
    · rw [ne1 q] at h
      exact h
end
section
variable {X : Cx} {pos : Pos} {tg : Expr} {tgs : List Expr} {p : Pat} {ps : List Pat}
theorem gv_name {i : Nat} {x : Str} (hN : X.N.Nodup) (hi : X.N[i]? = some x) (hx : Loc X.env.scope x) (hf : X.fn x = true ∨ X.env.scope.names.lookup x = some .local := by first | exact .inl rfl | exact .inr rfl | assumption) : GV X (.Name x pos) (.nm i) :=
  pg_mono (pg_name hN hi hx hf) fun v σ H Q ⟨O, env, t, env', S, r, e, k⟩ => by
    have e : putS i t env = some env' := by
      unfold bindP at e
      exact e
    unfold putS at e
    split at e
    · cases e
    · rename_i h
      cases e
      obtain ⟨n, S'⟩ := S.put r (by simpa using h)
      exact k _ n S' fun vs hv => wipe_set (hv i (by simp [Pat.slots]))
theorem gvs_nil : GVs X [] [] := pgs_mono pgs_nil fun v σ H Q ⟨O, env, ts, env', S, r, e, k⟩ => by
  cases r with
  | nil =>
    unfold bindPs at e
    cases e
    exact ⟨rfl, k σ .refl S fun _ _ => rfl⟩
  | cons _ _ =>
    unfold bindPs at e
    cases e
theorem gvs_cons (h1 : GV X tg p) (h2 : GVs X tgs ps) (hs : (assignEach (tg :: tgs) X.env).map (·.2) = assign tg X.env :: (assignEach tgs X.env).map (·.2) := by rfl) : GVs X (tg :: tgs) (p :: ps) :=
  pgs_mono (pgs_cons h1 h2 hs) fun v σ H Q ⟨O, env, ts, env', S, r, e, k⟩ => by
    cases r with
    | nil =>
      unfold bindPs at e
      cases e
    | cons r1 rs =>
      unfold bindPs at e
      obtain ⟨e1, q1, e⟩ := Option.bind_eq_some_iff.mp e
      refine ⟨_, _, rfl, O, env, _, e1, S, r1, q1, fun σ1 n1 S1 w1 => ⟨O, e1, _, env', S1, rs, e, fun σ2 n2 S2 w2 => k σ2 (n1.trans n2) S2 fun vs hv => ?_⟩⟩
      rw [w2 vs fun i hi => hv i (by unfold slotsAll; exact List.mem_append_right _ hi), w1 vs fun i hi => hv i (by unfold slotsAll; exact List.mem_append_left _ hi)]
theorem gv_tup {k : Nat} (hc : X.calm = true) (h : GVs X tgs ps) (hn : (assignEach tgs X.env).length = ps.length := by rfl) (hst : (assignEach tgs X.env).findIdx? (·.1) = none := by rfl) : GV X (.Tuple tgs k pos) (.tup ps) :=
  pg_mono (pg_tup hc h hn hst) fun v σ H Q ⟨O, env, t, env', S, r, e, k⟩ => by
    cases r with
    | tup hq rs =>
      unfold bindP at e
      refine ⟨_, _, rfl, ?_, ?_, O, env, _, env', S, rs, e, fun σ' n S' w => k σ' n S' fun vs hv => w vs fun i hi => hv i (by unfold Pat.slots; exact hi)⟩
      · exact (hid_ext H O).sqT hq
      · have : ∀ (ps : List Pat) (ts : List T) (e e' : Sls), bindPs ps ts e = some e' → ts.length = ps.length := fun ps => by
          induction ps with
          | nil =>
            intro ts e e' h
            cases ts with
            | nil => rfl
            | cons _ _ => unfold bindPs at h; cases h
          | cons p ps ih =>
            intro ts e e' h
            cases ts with
            | nil => unfold bindPs at h; cases h
            | cons t ts =>
              unfold bindPs at h
              obtain ⟨e1, _, h⟩ := Option.bind_eq_some_iff.mp h
              simp [ih ts e1 e' h]
        rw [rs.length]
        exact this _ _ _ _ e
    | _ =>
      unfold bindP at e
      cases e
/-- target = value -/
@[simp] def sAsg (p : Pat) (f : EF) : SF := fun env => (f env).bind fun q => (bindP p q.1 q.2).map fun e => (.nx, e)
theorem sv_asg {e : Expr} {fa : EF} (he : EV X e fa) (hg : GV X tg p) (hs : swapsWithSole [tg] e pos.line X.env = pure false := by rfl) (hw : swappedStores [tg] e X.env = pure none := by rfl)
    (h1 : (assignEach [tg] X.env).map (·.2) = [assign tg X.env] := by rfl) : SV X (.Assign [tg] e pos) (sAsg p fa) :=
  ps_mono (ps_asg he hg hs hw h1) fun D σ H ⟨O, env, fl, env', S, e, k⟩ => by
    unfold sAsg at e
    obtain ⟨⟨t, e1⟩, q1, e⟩ := Option.bind_eq_some_iff.mp e
    obtain ⟨e2, q2, e⟩ := Option.map_eq_some_iff.mp e
    cases e
    exact ⟨O, env, t, e1, S, q1, fun v H1 O1 n1 S1 r1 => ⟨O1, e1, t, _, S1, r1, q2, fun σ2 n2 S2 _ => k σ2 H1 O1 (n1.trans n2) S2⟩⟩
/-- name = value -/
theorem sv_set {i : Nat} {x : Str} {e : Expr} {fa : EF} {pos' : Pos} (hN : X.N.Nodup) (hi : X.N[i]? = some x) (hx : Loc X.env.scope x) (he : EV X e fa) (hs : swapsWith e (some (.Name x pos')) pos.line X.env = pure false := by rfl) (hf : X.fn x = true ∨ X.env.scope.names.lookup x = some .local := by first | exact .inl rfl | exact .inr rfl | assumption) :
    SV X (.Assign [.Name x pos'] e pos) (sAsg (.nm i) fa) :=
  ps_mono (ps_set hN hi hx he hs hf) fun D σ H ⟨O, env, fl, env', S, e, k⟩ => by
    unfold sAsg at e
    obtain ⟨⟨t, e1⟩, q1, e⟩ := Option.bind_eq_some_iff.mp e
    obtain ⟨e2, q2, e⟩ := Option.map_eq_some_iff.mp e
    cases e
    have q2 : putS i t e1 = some env' := by unfold bindP at q2; exact q2
    unfold putS at q2
    split at q2
    · cases q2
    · rename_i h
      cases q2
      refine ⟨O, env, t, e1, S, q1, fun v H1 O1 n1 S1 r1 => ?_⟩
      obtain ⟨n, S'⟩ := S1.put r1 (by simpa using h)
      exact k _ H1 O1 (n1.trans n) S'
/-- a, b = x, y with plain local names -/
@[simp] def sPar (i j : Nat) (f : AF) : SF := fun env => (f env).bind fun q => match q.1 with
  | [t, u] => (putS i t q.2).bind fun e1 => (putS j u e1).map fun e2 => (.nx, e2)
  | _ => none
theorem sv_par {i j : Nat} {x y : Str} {a b : Expr} {fa : AF} {px py pt : Pos} {kt k2 pt2} (hc : X.calm = true) (hN : X.N.Nodup) (hi : X.N[i]? = some x) (hj : X.N[j]? = some y) (hij : i ≠ j)
    (hx : X.env.scope.names.lookup x = some .local) (hy : X.env.scope.names.lookup y = some .local) (ha : EA X [a, b] fa)
    (hw : swappedStores [.Tuple [.Name x px, .Name y py] kt pt] (.Tuple [a, b] k2 pt2) X.env = pure (some [x, y]))
    (hs : swapsWithSole [.Tuple [.Name x px, .Name y py] kt pt] (.Tuple [a, b] k2 pt2) pos.line X.env = pure false := by rfl) :
    SV X (.Assign [.Tuple [.Name x px, .Name y py] kt pt] (.Tuple [a, b] k2 pt2) pos) (sPar i j fa) :=
  ps_mono (ps_par hc hN hi hj hij hx hy ha hw hs) fun D σ H ⟨O, env, fl, env', S, e, k⟩ => by
    unfold sPar at e
    obtain ⟨⟨ts, e1⟩, q1, e⟩ := Option.bind_eq_some_iff.mp e
    refine ⟨O, env, ts, e1, S, q1, fun vs H1 O1 n1 S1 r1 => ?_⟩
    cases r1 with
    | nil => cases e
    | cons r1 r2 =>
      cases r2 with
      | nil => cases e
      | cons r2 r3 =>
        cases r3 with
        | cons _ _ => cases e
        | nil =>
          obtain ⟨e2, q2, e⟩ := Option.bind_eq_some_iff.mp e
          obtain ⟨e3, q3, e⟩ := Option.map_eq_some_iff.mp e
          cases e
          unfold putS at q2
          split at q2
          · cases q2
          · rename_i h
            cases q2
            unfold putS at q3
            split at q3
            · cases q3
            · rename_i h'
              cases q3
              obtain ⟨n, S'⟩ := S1.put r1 (by simpa using h)
              obtain ⟨n2, S2⟩ := S'.put r2 (by simpa using h')
              exact ⟨_, _, rfl, k _ H1 O1 ((n1.trans n).trans n2) S2⟩
end

/-! ### what a loop walks -/
structure WkT (K : PySem.W.Frag) (J : It) (ts : List T) (G0 : Hp) : Prop where
  go : ∀ i H, i < ts.length → Ext G0 H → J.go i H
  stop : ∀ H, Ext G0 H → J.stop ts.length H
  yld : ∀ i H x H', i < ts.length → Ext G0 H → J.yld i H x H' → Ext H H' ∧ ∀ O, (∀ q ∈ O, ∃ o : HO, H q = some o) → Ext G0 (hid H O) → ∃ t, ts[i]? = some t ∧ Rep K (hid H' O) x t
def tI (K : PySem.W.Frag) (f : AF) : TI := fun σ H R => ∃ O env ts env', RepS K H O σ env ∧ f env = some (ts, env') ∧ ∀ J H' O', Nx σ env H O σ env' H' O' → RepS K H' O' σ env' → WkT K J ts (hid H' O') → R J H'
def IV (X : Cx) (tg iter : Expr) (f : AF) : Prop := PI X tg iter (tI X.K f)
@[simp] def itS (f : EF) : AF := fun env => (f env).bind fun p => match p.1 with
  | .tup ts => some (ts, p.2)
  | .lst ts => some (ts, p.2)
  | .lsf ts => some (ts, p.2)
  | _ => none
section
variable {K : PySem.W.Frag} {G : Hp} {a : Addr} {xs : List V} {ts : List T}
theorem wk_list (h : SqL K G a xs) (r : Reps K G xs ts) : WkT K (Itl K a) ts G where
  go := fun i H hi x => by
    have h2 : i < xs.length := by rw [r.length]; exact hi
    exact ⟨xs, _, x.sqL h, List.getElem?_eq_getElem h2⟩
  stop := fun H x => ⟨xs, x.sqL h, by rw [r.length]; exact Nat.le_refl _⟩
  yld := fun i H v H' hi x y => by
    obtain ⟨rfl, y⟩ := y
    obtain ⟨t, h1, h2⟩ := r.getV (y xs (x.sqL h))
    exact ⟨.refl _, fun O _ x2 => ⟨t, h1, h2.mono x2⟩⟩
theorem wk_tup (h : SqT K G a xs) (r : Reps K G xs ts) : WkT K (Itt K a) ts G where
  go := fun i H hi x => by
    have h2 : i < xs.length := by rw [r.length]; exact hi
    exact ⟨xs, _, x.sqT h, List.getElem?_eq_getElem h2⟩
  stop := fun H x => ⟨xs, x.sqT h, by rw [r.length]; exact Nat.le_refl _⟩
  yld := fun i H v H' hi x y => by
    obtain ⟨rfl, y⟩ := y
    obtain ⟨t, h1, h2⟩ := r.getV (y xs (x.sqT h))
    exact ⟨.refl _, fun O _ x2 => ⟨t, h1, h2.mono x2⟩⟩
def rangeT (lo : Int) (n : Nat) : List T := (List.range n).map fun i => .int (lo + (i : Nat))
theorem rangeT_len {lo : Int} {n : Nat} : (rangeT lo n).length = n := by simp [rangeT]
theorem rangeT_get {lo : Int} {n i : Nat} (h : i < n) : (rangeT lo n)[i]? = some (.int (lo + (i : Nat))) := by simp [rangeT, h]
theorem wk_range {lo : Int} {n : Nat} : WkT K (Itr lo n) (rangeT lo n) G where
  go := fun i H hi x => by
    rw [rangeT_len] at hi
    exact hi
  stop := fun H x => by
    rw [rangeT_len]
    exact Nat.le_refl _
  yld := fun i H v H' hi x y => by
    obtain ⟨rfl, rfl⟩ := y
    rw [rangeT_len] at hi
    exact ⟨.refl _, fun O _ _ => ⟨_, rangeT_get hi, .int _⟩⟩
end
section
variable {X : Cx} {pos : Pos} {tg e : Expr} {es : List Expr}
/-- a list or a tuple is walked -/
theorem iv_seq {f : EF} (h : EV X e f) : IV X tg e (itS f) :=
  pi_mono (pi_or (pi_list (tg := tg) h) (pi_tup (tg := tg) h)) fun σ H R ⟨O, env, ts, env', S, e, k⟩ => by
    unfold itS at e
    obtain ⟨⟨t, e1⟩, q1, e⟩ := Option.bind_eq_some_iff.mp e
    cases t with
    | lst us =>
      cases e
      refine .inl ⟨O, env, _, e1, S, q1, fun v H1 O1 n1 S1 r1 => ?_⟩
      obtain ⟨a, xs, rfl, h1, h2⟩ := r1.inv_lst
      exact ⟨a, rfl, ⟨xs, (hid_ext H1 O1).sqL (.of h1)⟩, k _ H1 O1 n1 S1 (wk_list (.of h1) h2)⟩
    | lsf us =>
      cases e
      refine .inl ⟨O, env, _, e1, S, q1, fun v H1 O1 n1 S1 r1 => ?_⟩
      obtain ⟨a, xs, rfl, h1, h2⟩ := r1.inv_lsf
      exact ⟨a, rfl, ⟨xs, (hid_ext H1 O1).sqL h1⟩, k _ H1 O1 n1 S1 (wk_list h1 h2)⟩
    | tup us =>
      cases e
      refine .inr ⟨O, env, _, e1, S, q1, fun v H1 O1 n1 S1 r1 => ?_⟩
      obtain ⟨a, xs, rfl, h1, h2⟩ := r1.inv_tup
      exact ⟨a, rfl, ⟨xs, (hid_ext H1 O1).sqT h1⟩, k _ H1 O1 n1 S1 (wk_tup h1 h2)⟩
    | _ => cases e
@[simp] def itRange1 (f : AF) : AF := fun env => (f env).bind fun p => match p.1 with
  | [.int n] => if -1000000000 < n ∧ n < 1000000000 then some (rangeT 0 n.toNat, p.2) else none
  | _ => none
@[simp] def itRange2 (f : AF) : AF := fun env => (f env).bind fun p => match p.1 with
  | [.int m, .int n] => if (-1000000000 < n ∧ n < 1000000000) ∧ (-1000000000 < m ∧ m < 1000000000) then some (rangeT m (n - m).toNat, p.2) else none
  | _ => none
end

/-! ### for -/
@[simp] def forL (p : Pat) (b : SF) : List T → Sls → Option (Fl × Sls)
  | [], env => some (.nx, env)
  | t :: r, env => (bindP p t env).bind fun e1 => (b e1).bind fun q => match q.1 with
    | .nx => forL p b r q.2
    | .ct => forL p b r q.2
    | .bk => some (.nx, q.2)
    | .ret t => some (.ret t, q.2)
@[simp] def sFor (fi : AF) (p : Pat) (b : SF) : SF := fun env => (fi env).bind fun q => forL p b q.1 q.2
theorem drop_cons {α : Type} {l : List α} {i : Nat} {x : α} (h : l[i]? = some x) : l.drop i = x :: l.drop (i + 1) := by
  obtain ⟨h1, h2⟩ := List.getElem?_eq_some_iff.mp h
  rw [List.drop_eq_getElem_cons h1, h2]
theorem sv_for {X : Cx} {tg iter : Expr} {body : List Stmt} {fi : AF} {p : Pat} {b : SF} {pos : Pos} (hp : PassesOwn (model X.prog X.w) X.A X.env X.xe) (hc : X.calm = true) (hi : IV X tg iter fi) (hg : GV X tg p) (hb : BV X body b)
    (hs : ∀ x, foldedSetIterable iter X.env x = pure x := by intro _; rfl) : SV X (.For tg iter body [] pos) (sFor fi p b) :=
  ps_mono (ps_for hp hc hi hg hb hs) fun D σ H ⟨O, env, fl, envf, S, e, k⟩ => by
    unfold sFor at e
    obtain ⟨⟨ts, e1⟩, q1, e⟩ := Option.bind_eq_some_iff.mp e
    refine ⟨O, env, ts, e1, S, q1, fun J H1 O1 n1 S1 w => ?_⟩
    have e : forL p b ts e1 = some (fl, envf) := e
    let Pv : Nat → L2.St → Hp → Prop := fun i σi Hi => ∃ envi Oi, RepS X.K Hi Oi σi envi ∧ Nx σ e1 H1 O1 σi envi Hi Oi ∧ forL p b (ts.drop i) envi = some (fl, envf)
    refine ⟨fun i m σi Hi => m = ts.length - i ∧ i ≤ ts.length ∧ Pv i σi Hi, ⟨_, rfl, Nat.zero_le _, e1, O1, S1, .refl, by rw [List.drop_zero]; exact e⟩, ?_⟩
    rintro i m σi Hi ⟨rfl, hil, envi, Oi, Si, ni, fi⟩
    have gx : Ext (hid H1 O1) (hid Hi Oi) := S1.grow ni
    have gx2 : Ext (hid H1 O1) Hi := gx.trans (hid_ext _ _)
    by_cases hlt : i < ts.length
    · refine .inr ⟨w.go i Hi hlt gx2, Pv (i + 1), fun σ' H' q => ⟨ts.length - (i + 1), by omega, rfl, hlt, q⟩, fun x H' y => ?_⟩
      obtain ⟨xx, y2⟩ := w.yld i Hi x H' hlt gx2 y
      obtain ⟨t, ht, rt⟩ := y2 Oi Si.dom gx
      rw [drop_cons ht] at fi
      unfold forL at fi
      obtain ⟨e2, q2, fi⟩ := Option.bind_eq_some_iff.mp fi
      obtain ⟨⟨f3, e3⟩, q3, fi⟩ := Option.bind_eq_some_iff.mp fi
      refine ⟨Oi, envi, t, e2, Si.ext xx, rt, q2, fun σ2 n2 S2 _ => ⟨Oi, e2, f3, e3, S2, q3, fun σ3 H3 O3 n3 S3 => ?_⟩⟩
      have nn : Nx σ e1 H1 O1 σ3 e3 H3 O3 := ((ni.trans (.ext xx)).trans n2).trans n3
      cases f3 with
      | nx => exact ⟨e3, O3, S3, nn, fi⟩
      | ct => exact ⟨e3, O3, S3, nn, fi⟩
      | bk => cases fi; exact k σ3 H3 O3 (n1.trans nn) S3
      | ret t => cases fi; exact k σ3 H3 O3 (n1.trans nn) S3
    · have hi : i = ts.length := by omega
      subst hi
      rw [List.drop_length] at fi
      cases fi
      exact .inl ⟨w.stop Hi gx2, k σi Hi Oi (n1.trans ni) Si⟩

/-! ### while -/
def whileL (c : BF) (b : SF) : Nat → Sls → Option (Fl × Sls)
  | 0, _ => none
  | n + 1, env => (c env).bind fun p => if p.1 = true then (b p.2).bind fun q => match q.1 with
      | .nx => whileL c b n q.2
      | .ct => whileL c b n q.2
      | .bk => some (.nx, q.2)
      | .ret t => some (.ret t, q.2)
    else some (.nx, p.2)
def sWhile (n : Nat) (c : BF) (b : SF) : SF := whileL c b n
theorem sv_while {X : Cx} {c : Expr} {body : List Stmt} {tc : BF} {b : SF} {pos : Pos} (n : Nat) (hp : PassesOwn (model X.prog X.w) X.A X.env X.xe) (hc : TV X c tc) (hb : BV X body b) : SV X (.While c body [] pos) (sWhile n tc b) :=
  ps_mono (ps_while hp hc hb) fun D σ H ⟨O, env, fl, envf, S, e, k⟩ => by
    have e : whileL tc b n env = some (fl, envf) := e
    refine ⟨fun m σi Hi => ∃ envi Oi, RepS X.K Hi Oi σi envi ∧ Nx σ env H O σi envi Hi Oi ∧ whileL tc b m envi = some (fl, envf), ⟨n, env, O, S, .refl, e⟩, ?_⟩
    rintro m σi Hi ⟨envi, Oi, Si, ni, fi⟩
    cases m with
    | zero => unfold whileL at fi; cases fi
    | succ m =>
      unfold whileL at fi
      obtain ⟨⟨x, e1⟩, q1, fi⟩ := Option.bind_eq_some_iff.mp fi
      refine ⟨Oi, envi, x, e1, Si, q1, fun H1 O1 n1 S1 => ?_⟩
      cases x with
      | false =>
        rw [if_neg Bool.false_ne_true] at fi
        rw [if_neg Bool.false_ne_true]
        cases fi
        exact k σi H1 O1 (ni.trans n1) S1
      | true =>
        rw [if_pos rfl] at fi
        rw [if_pos rfl]
        obtain ⟨⟨f3, e3⟩, q3, fi⟩ := Option.bind_eq_some_iff.mp fi
        refine ⟨fun σ' H' => ∃ envi Oi, RepS X.K H' Oi σ' envi ∧ Nx σ env H O σ' envi H' Oi ∧ whileL tc b m envi = some (fl, envf), fun σ' H' q => ⟨m, Nat.lt_succ_self _, q⟩, O1, e1, f3, e3, S1, q3, fun σ3 H3 O3 n3 S3 => ?_⟩
        have nn : Nx σ env H O σ3 e3 H3 O3 := (ni.trans n1).trans n3
        cases f3 with
        | nx => exact ⟨e3, O3, S3, nn, fi⟩
        | ct => exact ⟨e3, O3, S3, nn, fi⟩
        | bk => cases fi; exact k σ3 H3 O3 nn S3
        | ret t => cases fi; exact k σ3 H3 O3 nn S3
end Fx

/-! Fx 4: new lists of one's own, comprehensions, what is done to own lists, calls of own defs. -/
namespace Fx
open PySem PySem.Spec PyProof.Rows L2

/-- an expression that makes a list (a dict) that nobody else has -/
def tW (K : PySem.W.Frag) (f : EF) : TE := fun σ H Q => ∃ O env t env', RepS K H O σ env ∧ f env = some (t, env') ∧
  ∀ p H' O', Nx σ env H O σ env' H' O' → RepS K H' O' σ env' → p ∈ O' → ¬ Owns σ env' p → H p = none → RepO K (hid H' O') H' p t → Q (.ref p) H'
def EW (X : Cx) (e : Expr) (f : EF) : Prop := PE X e (tW X.K f)

section
variable {K : PySem.W.Frag} {H H1 H2 H' : Hp} {O O1 O2 O' : List Addr} {σ σ1 σ2 σ' : L2.St} {env env1 env2 env' : Sls}
/-- a list that nobody else has is shown -/
theorem RepS.unhide {p : Addr} {t : T} {H0 : Hp} {O0 : List Addr} {env0 : Sls} {σ0 : L2.St} (n : Nx σ0 env0 H0 O0 σ env H O) (S : RepS K H O σ env) (hp : p ∈ O) (hn : ¬ Owns σ env p) (h0 : H0 p = none) (r : RepO K (hid H O) H p t) :
    ∃ O', Nx σ0 env0 H0 O0 σ env H O' ∧ RepS K H O' σ env ∧ Rep K (hid H O') (.ref p) t := by
  have gx : Ext (hid H O) (hid H (O.filter fun a => decide (a ≠ p))) := fun a o e => by
    obtain ⟨q1, q2⟩ := of_hid e
    rw [hid_of (fun z => q1 (List.mem_filter.mp z).1)]
    exact q2
  have hp2 : hid H (O.filter fun a => decide (a ≠ p)) p = H p := hid_of (fun z => by
    have := (List.mem_filter.mp z).2
    simp at this)
  refine ⟨O.filter (fun a => decide (a ≠ p)), ⟨n.fr, n.dom, fun a z => n.sub a (List.mem_filter.mp z).1, fun a z => ?_, n.own, n.io, n.ion⟩, ⟨S.len, fun a z => S.dom a (List.mem_filter.mp z).1, fun j u z => ?_, fun j u z => ?_, S.inj⟩, ?_⟩
  · rcases n.sup a z with h | h
    · by_cases q : a = p
      · subst q
        exact .inr (.inr h0)
      · exact .inl (List.mem_filter.mpr ⟨h, by simpa using q⟩)
    · exact .inr h
  · obtain ⟨v, h1, h2⟩ := S.val j u z
    exact ⟨v, h1, h2.mono gx⟩
  · obtain ⟨q, h1, h2, h3⟩ := S.own j u z
    have hq : q ≠ p := fun e => by
      subst e
      exact hn ⟨j, u, z, h1⟩
    exact ⟨q, h1, List.mem_filter.mpr ⟨h2, by simpa using hq⟩, h3.mono gx rfl⟩
  · cases t with
    | lst ts =>
      obtain ⟨vs, q1, q2⟩ := r
      exact .lst (hp2.trans q1) (q2.mono gx)
    | dic ks ts =>
      obtain ⟨kvs, q1, q2, q3⟩ := r
      subst q2
      exact .dic (hp2.trans q1) (q3.mono gx)
    | _ => exact r.elim
/-- a new list is hidden -/
theorem RepS.hideNew {p : Addr} {o : HO} (S : RepS K H O σ env) (hp : H p = none) : Nx σ env H O σ env (upd H p o) (p :: O) ∧ RepS K (upd H p o) (p :: O) σ env ∧ ¬ Owns σ env p ∧ hid (upd H p o) (p :: O) = hid H O := by
  have hpO : p ∉ O := S.fresh hp
  have hno : ¬ Owns σ env p := fun z => hpO (S.owns z)
  have eh : hid (upd H p o) (p :: O) = hid H O := by
    funext a
    unfold Fx.hid
    by_cases h : a ∈ O
    · rw [if_pos (List.mem_cons_of_mem _ h), if_pos h]
    · by_cases q : a = p
      · subst q
        rw [if_pos List.mem_cons_self, if_neg h, hp]
      · rw [if_neg (by simp [q, h]), if_neg h, upd_ne q]
  have x : Ext H (upd H p o) := .new hp
  refine ⟨⟨fun a u e _ => x a u e, fun a u e => ⟨u, x a u e⟩, fun a z => ?_, fun a z => .inl (List.mem_cons_of_mem _ z), fun a z => .inl z, fun j u z => ⟨⟨u, z⟩, rfl⟩, fun j u z => ⟨u, z⟩⟩, ⟨S.len, fun a z => ?_, fun j u z => ?_, fun j u z => ?_, S.inj⟩, hno, eh⟩
  · rcases List.mem_cons.mp z with q | q
    · subst q
      exact .inr hp
    · exact .inl q
  · rcases List.mem_cons.mp z with q | q
    · subst q
      exact ⟨o, upd_same⟩
    · obtain ⟨u, e⟩ := S.dom a q
      exact ⟨u, x a u e⟩
  · rw [eh]
    exact S.val j u z
  · obtain ⟨q, h1, h2, h3⟩ := S.own j u z
    rw [eh]
    obtain ⟨w, e⟩ := h3.there
    exact ⟨q, h1, List.mem_cons_of_mem _ h2, h3.mono (.refl _) ((x q w e).trans e.symm)⟩
/-- something hidden that is no slot's changes -/
theorem RepS.other {p : Addr} {o : HO} (S : RepS K H O σ env) (hp : p ∈ O) (hn : ¬ Owns σ env p) : RepS K (upd H p o) O σ env := by
  have eh : hid (upd H p o) O = hid H O := hid_upd hp
  refine ⟨S.len, fun a z => ?_, fun j u z => ?_, fun j u z => ?_, S.inj⟩
  · by_cases q : a = p
    · subst q
      exact ⟨o, upd_same⟩
    · rw [upd_ne q]
      exact S.dom a z
  · rw [eh]
    exact S.val j u z
  · obtain ⟨q, h1, h2, h3⟩ := S.own j u z
    rw [eh]
    have hq : q ≠ p := fun e => by
      subst e
      exact hn ⟨j, u, z, h1⟩
    exact ⟨q, h1, h2, h3.mono (.refl _) (upd_ne hq)⟩
/-- an own list changes -/
theorem RepS.change {i : Nat} {p : Addr} {o : HO} {t t' : T} (S : RepS K H O σ env) (hi : env[i]?.bind Sl.cont = some t) (hs : σ[i]? = some (some (.ref p))) (r : RepO K (hid H O) (upd H p o) p t')
    {x : Sl} (hx : (env[i]? = some (.own t) ∧ x = .own t') ∨ (env[i]? = some (.io t) ∧ x = .io t')) : Nx σ env H O σ (env.set i x) (upd H p o) O ∧ RepS K (upd H p o) O σ (env.set i x) := by
  obtain ⟨p', h1, hp, h3⟩ := S.own i t hi
  rw [hs] at h1
  cases h1
  have eh : hid (upd H p o) O = hid H O := hid_upd hp
  have hil : i < env.length := by
    rcases hx with h | h
    · exact (List.getElem?_eq_some_iff.mp h.1).1
    · exact (List.getElem?_eq_some_iff.mp h.1).1
  have xc : x.cont = some t' := by rcases hx with ⟨_, rfl⟩ | ⟨_, rfl⟩ <;> rfl
  have ne1 : ∀ {j : Nat}, i ≠ j → (env.set i x)[j]? = env[j]? := fun z => by rw [List.getElem?_set_ne z]
  have at1 : (env.set i x)[i]? = some x := by rw [List.getElem?_set_self hil]
  have cas : ∀ {j : Nat} {u : T}, (env.set i x)[j]?.bind Sl.cont = some u → (i = j ∧ u = t') ∨ (i ≠ j ∧ env[j]?.bind Sl.cont = some u) := fun {j u} z => by
    by_cases q : i = j
    · subst q
      rw [at1] at z
      have z : x.cont = some u := z
      rw [xc] at z
      exact .inl ⟨rfl, (Option.some.inj z).symm⟩
    · exact .inr ⟨q, by rw [ne1 q] at z; exact z⟩
  refine ⟨⟨fun a u e n => ?_, fun a u e => ?_, fun a z => .inl z, fun a z => .inl z, fun a z => ?_, fun j u z => ?_, fun j u z => ?_⟩, ⟨by simpa using S.len, fun a z => ?_, fun j u z => ?_, fun j u z => ?_, fun j k u w q h1 h2 h3 h4 => ?_⟩⟩
  · have q : a ≠ p := fun z => by
      subst z
      exact n ⟨i, t, hi, hs⟩
    rw [upd_ne q]
    exact e
  · by_cases q : a = p
    · subst q
      exact ⟨o, upd_same⟩
    · rw [upd_ne q]
      exact ⟨u, e⟩
  · obtain ⟨j, u, h1, h2⟩ := z
    rcases cas h1 with ⟨e, _⟩ | ⟨_, g⟩
    · subst e
      exact .inl ⟨i, t, hi, h2⟩
    · exact .inl ⟨j, u, g, h2⟩
  · by_cases q : i = j
    · subst q
      rcases hx with ⟨h, _⟩ | ⟨h, e⟩
      · rw [h] at z; cases z
      · subst e
        exact ⟨⟨t', at1⟩, rfl⟩
    · exact ⟨⟨u, by rw [ne1 q]; exact z⟩, rfl⟩
  · by_cases q : i = j
    · subst q
      rw [at1] at z
      rcases hx with ⟨_, e⟩ | ⟨h, e⟩
      · subst e; cases z
      · exact ⟨t, h⟩
    · rw [ne1 q] at z
      exact ⟨u, z⟩
  · by_cases q : a = p
    · subst q
      exact ⟨o, upd_same⟩
    · rw [upd_ne q]
      exact S.dom a z
  · rw [eh]
    by_cases q : i = j
    · subst q
      rw [at1] at z
      rcases hx with ⟨_, e⟩ | ⟨_, e⟩ <;> (subst e; cases z)
    · rw [ne1 q] at z
      exact S.val j u z
  · rw [eh]
    rcases cas z with ⟨e, e2⟩ | ⟨q, g⟩
    · subst e e2
      exact ⟨p, hs, hp, r⟩
    · obtain ⟨r', g1, g2, g3⟩ := S.own j u g
      have hq : r' ≠ p := fun e => by
        subst e
        exact q (S.inj i j t u _ hi g hs g1)
      exact ⟨r', g1, g2, g3.mono (.refl _) (upd_ne hq)⟩
  · have h1' : ∃ u', env[j]?.bind Sl.cont = some u' := by
      rcases cas h1 with ⟨e, _⟩ | ⟨_, g⟩
      · subst e; exact ⟨t, hi⟩
      · exact ⟨u, g⟩
    have h2' : ∃ u', env[k]?.bind Sl.cont = some u' := by
      rcases cas h2 with ⟨e, _⟩ | ⟨_, g⟩
      · subst e; exact ⟨t, hi⟩
      · exact ⟨w, g⟩
    obtain ⟨u1, g1⟩ := h1'
    obtain ⟨u2, g2⟩ := h2'
    exact S.inj j k u1 u2 q g1 g2 h3 h4
end
section
variable {X : Cx} {e : Expr} {es : List Expr} {f : EF} {fr : AF} {pos : Pos}
theorem ev_ew (h : EW X e f) : EV X e f := pe_mono h fun σ H Q ⟨O, env, t, env', S, e, k⟩ => ⟨O, env, t, env', S, e, fun p H1 O1 n1 S1 hp hn h0 r => by
  obtain ⟨O2, n2, S2, r2⟩ := S1.unhide n1 hp hn h0 r
  exact k _ H1 O2 n2 S2 r2⟩
/-- name = a new list, kept as one's own -/
@[simp] def sOwn (i : Nat) (f : EF) : SF := fun env => (f env).bind fun q => if isIo q.2[i]? = true then none else some (.nx, q.2.set i (.own q.1))
theorem sv_own {i : Nat} {x : Str} {pos' : Pos} (hN : X.N.Nodup) (hi : X.N[i]? = some x) (hx : Loc X.env.scope x) (he : EW X e f) (hs : swapsWith e (some (.Name x pos')) pos.line X.env = pure false := by rfl) (hf : X.fn x = true ∨ X.env.scope.names.lookup x = some .local := by first | exact .inl rfl | exact .inr rfl | assumption) :
    SV X (.Assign [.Name x pos'] e pos) (sOwn i f) :=
  ps_mono (ps_set hN hi hx he hs hf) fun D σ H ⟨O, env, fl, env', S, e, k⟩ => by
    unfold sOwn at e
    obtain ⟨⟨t, e1⟩, q1, e⟩ := Option.bind_eq_some_iff.mp e
    refine ⟨O, env, t, e1, S, q1, fun p H1 O1 n1 S1 hp hn h0 r => ?_⟩
    split at e
    · cases e
    · rename_i hio
      cases e
      obtain ⟨S2, o2, io2, ion2⟩ := S1.putOwn hp hn r (by simpa using hio)
      refine k _ H1 O1 ⟨n1.fr, n1.dom, n1.sub, n1.sup, fun a z => ?_, fun j u z => ?_, fun j u z => ?_⟩ S2
      · rcases o2 a z with q | q
        · exact n1.own a q
        · subst q
          exact .inr h0
      · obtain ⟨⟨t1, g1⟩, g2⟩ := n1.io j u z
        obtain ⟨g3, g4⟩ := io2 j t1 g1
        exact ⟨⟨t1, g3⟩, g4.trans g2⟩
      · exact n1.ion j u (ion2 j u z)
theorem ew_lst (h : EA X es fr) : EW X (.List es pos) (eN dLst fr) :=
  pe_mono (pe_lst h) fun σ H Q ⟨O, env, t, env', S, e, k⟩ => by
    unfold eN at e
    obtain ⟨⟨x, e1⟩, q1, e⟩ := Option.bind_eq_some_iff.mp e
    obtain ⟨z, q3, e⟩ := Option.map_eq_some_iff.mp e
    cases e
    refine ⟨O, env, x, _, S, q1, fun vs H1 O1 n1 S1 r1 => ?_⟩
    have q3 : (if x.length ≤ 100000 then some (T.lst x) else none) = some t := q3
    split at q3
    · rename_i hl
      cases q3
      refine ⟨by rw [r1.length, sizeLine_eq]; have : x.length ≤ 100000 := hl; omega, fun p hp => ?_⟩
      obtain ⟨n2, S2, no, eh⟩ := S1.hideNew (o := .lst vs) hp
      have h0 : H p = none := none_of_dom n1.dom hp
      exact k p _ _ (n1.trans n2) S2 List.mem_cons_self no h0 ⟨vs, upd_same, by rw [eh]; exact r1⟩
    · cases q3

/-! ### comprehensions -/
@[simp] def wipeE (env : Sls) : List Nat → Sls
  | [] => env
  | v :: vs => (wipeE env vs).set v .un
@[simp] def noIo (env : Sls) (vs : List Nat) : Bool := vs.all fun v => !isIo env[v]?
theorem wipeE_len (env : Sls) : ∀ vs, (wipeE env vs).length = env.length
  | [] => rfl
  | v :: vs => by unfold wipeE; rw [List.length_set, wipeE_len env vs]
theorem wipeE_in {env : Sls} {i : Nat} : ∀ {vs : List Nat}, i ∈ vs → (wipeE env vs)[i]? = none ∨ (wipeE env vs)[i]? = some .un
  | v :: vs, h => by
    unfold wipeE
    by_cases e : v = i
    · subst e
      by_cases hl : v < (wipeE env vs).length
      · rw [List.getElem?_set_self hl]; exact .inr rfl
      · rw [List.getElem?_eq_none (by simpa using hl)]; exact .inl rfl
    · rw [List.getElem?_set_ne e]
      rcases List.mem_cons.mp h with z | z
      · exact absurd z.symm e
      · exact wipeE_in z
theorem wipeE_out {env : Sls} {i : Nat} : ∀ {vs : List Nat}, i ∉ vs → (wipeE env vs)[i]? = env[i]?
  | [], _ => rfl
  | v :: vs, h => by
    unfold wipeE
    have e : v ≠ i := fun z => h (by rw [z]; exact List.mem_cons_self)
    rw [List.getElem?_set_ne e]
    exact wipeE_out fun z => h (List.mem_cons_of_mem _ z)
theorem wipe_keep {σ : L2.St} {i : Nat} {v : V} : ∀ {vs : List Nat}, i ∉ vs → σ[i]? = some (some v) → (wipe σ vs)[i]? = some (some v)
  | [], _, h => h
  | w :: vs, hi, h => by
    unfold wipe
    have e : w ≠ i := fun z => hi (by rw [z]; exact List.mem_cons_self)
    rw [List.getElem?_set_ne e]
    exact wipe_keep (fun z => hi (List.mem_cons_of_mem _ z)) h
section
variable {K : PySem.W.Frag} {H H1 H2 H' : Hp} {O O1 O2 O' : List Addr} {σ σ1 σ2 σ' : L2.St} {env env1 env2 env' : Sls} {vs : List Nat}
theorem wipeE_at {i : Nat} {x : Sl} (h : (wipeE env vs)[i]? = some x) (hx : x ≠ .un) : i ∉ vs ∧ env[i]? = some x := by
  by_cases q : i ∈ vs
  · rcases wipeE_in (env := env) q with z | z
    · rw [z] at h; cases h
    · rw [z] at h; cases h; exact (hx rfl).elim
  · exact ⟨q, by rw [wipeE_out q] at h; exact h⟩
theorem wipeE_cont {i : Nat} {t : T} (h : (wipeE env vs)[i]?.bind Sl.cont = some t) : i ∉ vs ∧ env[i]?.bind Sl.cont = some t := by
  cases e : (wipeE env vs)[i]? with
  | none => rw [e] at h; cases h
  | some x =>
    rw [e] at h
    have hx : x ≠ .un := fun z => by subst z; cases h
    obtain ⟨h1, h2⟩ := wipeE_at e hx
    exact ⟨h1, by rw [h2]; exact h⟩
theorem wiped_owns {a : Addr} (h : Owns (wipe σ vs) (wipeE env vs) a) : Owns σ env a := by
  obtain ⟨i, t, h1, h2⟩ := h
  obtain ⟨h3, h4⟩ := wipeE_cont h1
  exact ⟨i, t, h4, (wipe_some h2).1⟩
theorem RepS.wiped (S : RepS K H O σ env) : RepS K H O (wipe σ vs) (wipeE env vs) where
  len := by rw [wipeE_len, wipe_length]; exact S.len
  dom := S.dom
  val := fun i t h => by
    obtain ⟨h1, h2⟩ := wipeE_at h (by intro z; cases z)
    obtain ⟨v, h3, h4⟩ := S.val i t h2
    exact ⟨v, wipe_keep h1 h3, h4⟩
  own := fun i t h => by
    obtain ⟨h1, h2⟩ := wipeE_cont h
    obtain ⟨p, h3, h4⟩ := S.own i t h2
    exact ⟨p, wipe_keep h1 h3, h4⟩
  inj := fun i j t u p h1 h2 h3 h4 => S.inj i j t u p (wipeE_cont h1).2 (wipeE_cont h2).2 (wipe_some h3).1 (wipe_some h4).1
theorem Nx.wiped (hn : noIo env vs = true) : Nx σ env H O (wipe σ vs) (wipeE env vs) H O ∨ True := .inr trivial
/-- the slots of a block are left -/
theorem RepS.unwipe (S : RepS K H O (wipe σ vs) env) (hl : env.length = σ.length) : RepS K H O σ (wipeE env vs) where
  len := by rw [wipeE_len]; exact hl
  dom := S.dom
  val := fun i t h => by
    obtain ⟨h1, h2⟩ := wipeE_at h (by intro z; cases z)
    obtain ⟨v, h3, h4⟩ := S.val i t h2
    exact ⟨v, (wipe_some h3).1, h4⟩
  own := fun i t h => by
    obtain ⟨h1, h2⟩ := wipeE_cont h
    obtain ⟨p, h3, h4⟩ := S.own i t h2
    exact ⟨p, (wipe_some h3).1, h4⟩
  inj := fun i j t u p h1 h2 h3 h4 => by
    obtain ⟨g1, g2⟩ := wipeE_cont h1
    obtain ⟨g3, g4⟩ := wipeE_cont h2
    exact S.inj i j t u p g2 g4 (wipe_keep g1 h3) (wipe_keep g3 h4)
end
@[simp] def lcL (p : Pat) (tt : BF) (fe : EF) (vs : List Nat) : List T → Sls → Option (List T × Sls)
  | [], env => some ([], env)
  | t :: r, env => (bindP p t env).bind fun e1 => (tt e1).bind fun q => if q.1 = true then (fe q.2).bind fun y => if noIo y.2 vs = true then (lcL p tt fe vs r (wipeE y.2 vs)).map fun z => (y.1 :: z.1, z.2) else none
      else if noIo q.2 vs = true then lcL p tt fe vs r (wipeE q.2 vs) else none
@[simp] def eLc (fi : AF) (p : Pat) (tt : BF) (fe : EF) (vs : List Nat) : EF := fun env => (fi env).bind fun q => if noIo q.2 vs = true ∧ q.1.length ≤ 100000 then (lcL p tt fe vs q.1 (wipeE q.2 vs)).map fun z => (.lst z.1, z.2) else none
theorem lcL_len {p : Pat} {tt : BF} {fe : EF} {vs : List Nat} : ∀ {ts : List T} {env : Sls} {ys : List T} {env' : Sls}, lcL p tt fe vs ts env = some (ys, env') → ys.length ≤ ts.length
  | [], env, ys, env', h => by cases h; exact Nat.le_refl _
  | t :: r, env, ys, env', h => by
    unfold lcL at h
    obtain ⟨e1, _, h⟩ := Option.bind_eq_some_iff.mp h
    obtain ⟨⟨b, e2⟩, _, h⟩ := Option.bind_eq_some_iff.mp h
    cases b with
    | true =>
      rw [if_pos rfl] at h
      obtain ⟨⟨y, e3⟩, _, h⟩ := Option.bind_eq_some_iff.mp h
      split at h
      · obtain ⟨⟨zs, e4⟩, q, h⟩ := Option.map_eq_some_iff.mp h
        cases h
        have := lcL_len q
        simp only [List.length_cons]
        omega
      · cases h
    | false =>
      rw [if_neg Bool.false_ne_true] at h
      split at h
      · have := lcL_len h
        simp only [List.length_cons]
        omega
      · cases h
@[simp] def tYesF : BF := fun env => some (true, env)
def TsV (X : Cx) (ifs : List Expr) (f : BF) : Prop := PTs X ifs (tTt X.K f)
theorem tsv_nil : TsV X [] tYesF := ⟨fun pins s σ H Q I ⟨O, env, b, env', S, e, k⟩ => pts_nil.run pins s σ H Q I (by cases e; exact k H O .refl S)⟩
theorem tsv_one {c : Expr} {t : BF} (h : TV X c t) : TsV X [c] t := pts_one h
end

theorem lc_pure {K : PySem.W.Frag} {fi : AF} {p : Pat} {tt : BF} {fe : EF} {vs : List Nat} (hv : ∀ i ∈ p.slots, i ∈ vs) (σ : L2.St) (H : Hp) (Q : VK) (h : tW K (eLc fi p tt fe vs) σ H Q) :
    tLc (tI K fi) (tG K p) (tTt K tt) (tV K fe) vs σ H Q := by
  obtain ⟨O, env, t, envf, S, e, k⟩ := h
  unfold eLc at e
  obtain ⟨⟨ts, e1⟩, q1, e⟩ := Option.bind_eq_some_iff.mp e
  refine ⟨O, env, ts, e1, S, q1, fun J H1 O1 n1 S1 w D hD => ?_⟩
  split at e
  · rename_i hio
    obtain ⟨hio, hlen⟩ := hio
    have hlen : ts.length ≤ 100000 := hlen
    obtain ⟨⟨ys, ef⟩, q2, e⟩ := Option.map_eq_some_iff.mp e
    cases e
    have q2 : lcL p tt fe vs ts (wipeE e1 vs) = some (ys, ef) := q2
    have S1w : RepS K H1 O1 (wipe σ vs) (wipeE e1 vs) := S1.wiped
    -- the state behind i turns
    let Pv : Nat → Hp → Prop := fun i Hi => ∃ envi Oi acc done, RepS K Hi Oi (wipe σ vs) envi ∧ (∀ a o, H1 a = some o → ¬ Owns σ e1 a → Hi a = some o) ∧ (∀ a o, H1 a = some o → ∃ o', Hi a = some o') ∧ (∀ a ∈ Oi, a ∈ O1 ∨ H1 a = none) ∧ (∀ a ∈ O1, a ∈ Oi ∨ Owns σ e1 a ∨ H1 a = none) ∧
      (∀ a, Owns (wipe σ vs) envi a → Owns σ e1 a ∨ H1 a = none) ∧ (∀ (j : Nat) (u : T), e1[j]? = some (Sl.io u) → ∃ u', envi[j]? = some (Sl.io u')) ∧ (∀ (j : Nat) (u : T), envi[j]? = some (Sl.io u) → ∃ u', e1[j]? = some (Sl.io u')) ∧
      (∀ j ∈ vs, envi[j]? = none ∨ envi[j]? = some .un) ∧ D ∈ Oi ∧ ¬ Owns (wipe σ vs) envi D ∧ Hi D = some (.lst acc) ∧ Reps K (hid Hi Oi) acc done ∧ done.length ≤ i ∧ (lcL p tt fe vs (ts.drop i) envi).map (fun z => (done ++ z.1, z.2)) = some (ys, ef)
    obtain ⟨nD, SD, noD, ehD⟩ := S1w.hideNew (o := .lst []) hD
    refine ⟨fun i m Hi => m = ts.length - i ∧ i ≤ ts.length ∧ Pv i Hi, ⟨_, rfl, Nat.zero_le _, wipeE e1 vs, D :: O1, [], [], SD, fun a o e n => ?_, nD.dom, nD.sub, fun a z => .inl (List.mem_cons_of_mem _ z), fun a z => .inl (wiped_owns z), fun j u z => ?_, fun j u z => ?_, fun j z => wipeE_in z, List.mem_cons_self, noD, upd_same, .nil, Nat.le_refl _, ?_⟩, ?_⟩
    · exact Ext.new hD a o e
    · have hj : j ∉ vs := fun q => by
        have := List.all_eq_true.mp hio j q
        simp only [z] at this
        simp [isIo] at this
      exact ⟨u, by rw [wipeE_out hj]; exact z⟩
    · exact ⟨u, (wipeE_at z (by intro q; cases q)).2⟩
    · rw [List.drop_zero, q2]; rfl
    · rintro i m Hi ⟨rfl, hil, envi, Oi, acc, done, Si, ifr, idom, isub, isup, iown, iio, iion, iun, iD, inD, iacc, irep, idl, ilc⟩
      have gx : Ext (hid H1 O1) (hid Hi Oi) := fun a o z => by
        obtain ⟨h1, h2⟩ := of_hid z
        have h3 : ¬ Owns σ e1 a := fun q => h1 (S1.owns q)
        have h4 : a ∉ Oi := fun q => by
          rcases isub a q with z | z
          · exact h1 z
          · rw [h2] at z; cases z
        rw [hid_of h4]
        exact ifr a o h2 h3
      have gx2 : Ext (hid H1 O1) Hi := gx.trans (hid_ext _ _)
      by_cases hlt : i < ts.length
      · refine .inr ⟨w.go i Hi hlt gx2, Pv (i + 1), fun H' q => ⟨ts.length - (i + 1), by omega, rfl, hlt, q⟩, fun x H' y => ?_⟩
        obtain ⟨xx, y2⟩ := w.yld i Hi x H' hlt gx2 y
        obtain ⟨tr, ht, rt⟩ := y2 Oi Si.dom gx
        rw [drop_cons ht] at ilc
        obtain ⟨⟨zs, ez⟩, il0, iz⟩ := Option.map_eq_some_iff.mp ilc
        clear ilc
        simp only [Prod.mk.injEq] at iz
        obtain ⟨iz1, iz2⟩ := iz
        subst iz1
        subst iz2
        unfold lcL at il0
        obtain ⟨e2, q2, il1⟩ := Option.bind_eq_some_iff.mp il0
        obtain ⟨⟨b, e3⟩, q3, ilc⟩ := Option.bind_eq_some_iff.mp il1
        clear il0 il1
        refine ⟨Oi, envi, tr, e2, Si.ext xx, rt, q2, fun σ2 n2 S2 wp => ⟨?_, Oi, e2, b, e3, S2, q3, fun H3 O3 n3 S3 => ?_⟩⟩
        · have := wp vs hv
          rw [this]
          -- wiping twice is wiping once
          have tw : ∀ (us : List Nat) (τ : L2.St), (∀ j ∈ us, τ[j]? = none ∨ τ[j]? = some none) → wipe τ us = τ := fun us => by
            induction us with
            | nil => intro τ _; rfl
            | cons u us ih =>
              intro τ hj
              unfold wipe
              rw [ih τ fun j h => hj j (List.mem_cons_of_mem _ h)]
              apply List.ext_getElem?
              intro j
              by_cases q : u = j
              · subst q
                by_cases hl : u < τ.length
                · rw [List.getElem?_set_self hl]
                  rcases hj u List.mem_cons_self with z | z
                  · rw [List.getElem?_eq_none_iff] at z
                    omega
                  · exact z.symm
                · rw [List.getElem?_eq_none (by simpa using hl), List.getElem?_eq_none (by simpa using hl)]
              · rw [List.getElem?_set_ne q]
          refine tw vs _ fun j hj => ?_
          cases q : (wipe σ vs)[j]? with
          | none => exact .inl rfl
          | some z =>
            cases z with
            | none => exact .inr rfl
            | some z => exact ((wipe_some q).2 hj).elim
        · have wp2 : wipe σ2 vs = wipe σ vs := by
            have := wp vs hv
            rw [this]
            have tw : ∀ (us : List Nat) (τ : L2.St), (∀ j ∈ us, τ[j]? = none ∨ τ[j]? = some none) → wipe τ us = τ := fun us => by
              induction us with
              | nil => intro τ _; rfl
              | cons u us ih =>
                intro τ hj
                unfold wipe
                rw [ih τ fun j h => hj j (List.mem_cons_of_mem _ h)]
                apply List.ext_getElem?
                intro j
                by_cases q : u = j
                · subst q
                  by_cases hl : u < τ.length
                  · rw [List.getElem?_set_self hl]
                    rcases hj u List.mem_cons_self with z | z
                    · rw [List.getElem?_eq_none_iff] at z
                      omega
                    · exact z.symm
                  · rw [List.getElem?_eq_none (by simpa using hl), List.getElem?_eq_none (by simpa using hl)]
                · rw [List.getElem?_set_ne q]
            refine tw vs _ fun j hj => ?_
            cases q : (wipe σ vs)[j]? with
            | none => exact .inl rfl
            | some z =>
              cases z with
              | none => exact .inr rfl
              | some z => exact ((wipe_some q).2 hj).elim
          have nn : Nx (wipe σ vs) envi Hi Oi σ2 e3 H3 O3 := ((Nx.ext xx).trans n2).trans n3
          -- what a turn leaves for the next one
          have step : ∀ (e4 : Sls) (H4 : Hp) (O4 : List Addr) (acc' : List V) (done' : List T) (H5 : Hp), Nx (wipe σ vs) envi Hi Oi σ2 e4 H4 O4 → RepS K H4 O4 σ2 e4 → noIo e4 vs = true → (∀ a, a ≠ D → H5 a = H4 a) → H5 D = some (.lst acc') → Reps K (hid H4 O4) acc' done' → done'.length ≤ i + 1 →
              (lcL p tt fe vs (ts.drop (i + 1)) (wipeE e4 vs)).map (fun z => (done' ++ z.1, z.2)) = some (done ++ zs, ez) → Pv (i + 1) H5 := by
            intro e4 H4 O4 acc' done' H5 n4 S4 hio4 h5 h5D r5 l5 lc5
            have hDH4 : H4 D = some (.lst acc) := n4.fr D _ iacc inD
            have hD4 : D ∈ O4 := by
              rcases n4.sup D iD with z | z | z
              · exact z
              · exact (inD z).elim
              · rw [iacc] at z; cases z
            have noD4 : ¬ Owns σ2 e4 D := fun z => by
              rcases n4.own D z with q | q
              · exact inD q
              · rw [iacc] at q; cases q
            have e5 : H5 = upd H4 D (.lst acc') := by
              funext a
              by_cases q : a = D
              · subst q; rw [upd_same]; exact h5D
              · rw [upd_ne q]; exact h5 a q
            have S4w : RepS K H4 O4 (wipe σ vs) (wipeE e4 vs) := by
              rw [← wp2]
              exact S4.wiped
            have noD4w : ¬ Owns (wipe σ vs) (wipeE e4 vs) D := fun z => noD4 (wiped_owns (σ := σ2) (vs := vs) (by rw [wp2]; exact z))
            subst e5
            have n0 : H1 D = none := hD
            refine ⟨wipeE e4 vs, O4, acc', done', S4w.other hD4 noD4w, fun a o z n => ?_, fun a o z => ?_, fun a z => ?_, fun a z => ?_, fun a z => ?_, fun j u z => ?_, fun j u z => ?_, fun j z => wipeE_in z, hD4, noD4w, upd_same, by rw [hid_upd hD4]; exact r5, l5, lc5⟩
            · have q : a ≠ D := fun e => by subst e; rw [n0] at z; cases z
              rw [upd_ne q]
              refine n4.fr a o (ifr a o z n) fun q2 => ?_
              rcases iown a q2 with q3 | q3
              · exact n q3
              · rw [z] at q3; cases q3
            · have q : a ≠ D := fun e => by subst e; rw [n0] at z; cases z
              obtain ⟨o', z'⟩ := idom a o z
              obtain ⟨o'', z''⟩ := n4.dom a o' z'
              exact ⟨o'', by rw [upd_ne q]; exact z''⟩
            · rcases n4.sub a z with q | q
              · exact isub a q
              · exact .inr (none_of_dom idom q)
            · rcases isup a z with q | q
              · rcases n4.sup a q with q2 | q2 | q2
                · exact .inl q2
                · exact .inr (iown a q2)
                · exact .inr (.inr (none_of_dom idom q2))
              · exact .inr q
            · have z2 : Owns σ2 e4 a := wiped_owns (vs := vs) (by rw [wp2]; exact z)
              rcases n4.own a z2 with q | q
              · exact iown a q
              · exact .inr (none_of_dom idom q)
            · obtain ⟨u1, g1⟩ := iio j u z
              obtain ⟨⟨u2, g2⟩, _⟩ := n4.io j u1 g1
              have hj : j ∉ vs := fun q => by
                have := List.all_eq_true.mp hio4 j q
                simp only [g2] at this
                simp [isIo] at this
              exact ⟨u2, by rw [wipeE_out hj]; exact g2⟩
            · obtain ⟨u1, g1⟩ := n4.ion j u (wipeE_at z (by intro q; cases q)).2
              exact iion j u1 g1
          cases b with
          | false =>
            rw [if_neg Bool.false_ne_true] at ilc
            show Pv (i + 1) H3
            split at ilc
            · rename_i hio3
              refine step e3 H3 O3 acc done H3 nn S3 hio3 (fun _ _ => rfl) (nn.fr D _ iacc inD) (irep.mono (Si.grow nn)) (by omega) ?_
              rw [ilc]; rfl
            · cases ilc
          | true =>
            rw [if_pos rfl] at ilc
            obtain ⟨⟨yt, e4⟩, q4, ilc⟩ := Option.bind_eq_some_iff.mp ilc
            refine ⟨O3, e3, yt, e4, S3, q4, fun yv H4 O4 n4 S4 r4 => ?_⟩
            have nn4 : Nx (wipe σ vs) envi Hi Oi σ2 e4 H4 O4 := nn.trans n4
            have hDH4 : H4 D = some (.lst acc) := nn4.fr D _ iacc inD
            refine ⟨acc, hDH4, ?_, ?_⟩
            · rw [irep.length, sizeLine_eq]; omega
            · have ilc : (if noIo e4 vs = true then (lcL p tt fe vs (ts.drop (i + 1)) (wipeE e4 vs)).map (fun z => (yt :: z.1, z.2)) else none) = some (zs, ez) := ilc
              split at ilc
              · rename_i hio4
                refine step e4 H4 O4 (acc ++ [yv]) (done ++ [yt]) _ nn4 S4 hio4 (fun a q => upd_ne q) upd_same ((irep.mono (Si.grow nn4)).append (.cons r4 .nil)) (by rw [List.length_append, List.length_singleton]; omega) ?_
                obtain ⟨⟨us, eu⟩, qu, ilc⟩ := Option.map_eq_some_iff.mp ilc
                cases ilc
                rw [qu]
                simp
              · cases ilc
      · have hi : i = ts.length := by omega
        subst hi
        rw [List.drop_length] at ilc
        have ilc : some (done ++ [], envi) = some (ys, ef) := ilc
        simp only [Option.some.injEq, Prod.mk.injEq] at ilc
        obtain ⟨iz1, iz2⟩ := ilc
        subst iz1
        subst iz2
        refine .inl ⟨w.stop Hi gx2, ?_⟩
        have el : envi.length = σ.length := by rw [Si.len, wipe_length]
        have ew : wipeE envi vs = envi := by
          have tw : ∀ (us : List Nat), (∀ j ∈ us, envi[j]? = none ∨ envi[j]? = some Sl.un) → wipeE envi us = envi := fun us => by
            induction us with
            | nil => intro _; rfl
            | cons u us ih =>
              intro hj
              unfold wipeE
              rw [ih fun j h => hj j (List.mem_cons_of_mem _ h)]
              apply List.ext_getElem?
              intro j
              by_cases q : u = j
              · subst q
                by_cases hl : u < envi.length
                · rw [List.getElem?_set_self hl]
                  rcases hj u List.mem_cons_self with z | z
                  · rw [List.getElem?_eq_none_iff] at z
                    omega
                  · exact z.symm
                · rw [List.getElem?_eq_none (by simpa using hl), List.getElem?_eq_none (by simpa using hl)]
              · rw [List.getElem?_set_ne q]
          exact tw vs iun
        have Sf : RepS K Hi Oi σ envi := by
          have := Si.unwipe (σ := σ) el
          rw [ew] at this
          exact this
        have ob : ∀ a, Owns σ envi a → Owns (wipe σ vs) envi a := fun a z => by
          obtain ⟨j, u, g1, g2⟩ := z
          have hj : j ∉ vs := fun q => by
            rcases iun j q with z | z <;> (rw [z] at g1; cases g1)
          exact ⟨j, u, g1, wipe_keep hj g2⟩
        have nf : Nx σ e1 H1 O1 σ envi Hi Oi := ⟨ifr, idom, isub, isup, fun a z => iown a (ob a z), fun j u z => ⟨iio j u z, rfl⟩, iion⟩
        refine k D Hi Oi (n1.trans nf) Sf iD (fun z => inD (ob D z)) (none_of_dom n1.dom hD) ⟨acc, iacc, ?_⟩
        rw [List.append_nil]
        exact irep
  · cases e
theorem ew_lc {X : Cx} {elt tg iter : Expr} {ifs : List Expr} {scope : Scope} {own : List (Str × Nat)} {pos : Pos} {fi : AF} {p : Pat} {tt : BF} {fe : EF} (hc : X.calm = true) (hN : X.N.Nodup) (hi : IV X tg iter fi) (ok : BlkOk X.N X.env.scope scope own)
    (hg : ∀ (s : Shared) (H : Hp) (C : Addr) (cl : List (Str × Addr)) (fp : List Addr), GV (X.blk s H scope (compEnvC scope cl C X.env) fp) tg p)
    (ht : ∀ (s : Shared) (H : Hp) (C : Addr) (cl : List (Str × Addr)) (fp : List Addr), TsV (X.blk s H scope (compEnvC scope cl C X.env) fp) ifs tt)
    (he : ∀ (s : Shared) (H : Hp) (C : Addr) (cl : List (Str × Addr)) (fp : List Addr), EV (X.blk s H scope (compEnvC scope cl C X.env) fp) elt fe)
    (hv : ∀ i ∈ p.slots, i ∈ own.map (·.2))
    (hs : ∀ x, foldedSetIterable iter X.env x = pure x := by intro _; rfl) : EW X (.ListComp elt [{ target := tg, iter := iter, ifs := ifs, is_async := 0 }] scope pos) (eLc fi p tt fe (own.map (·.2))) :=
  pe_mono (pe_lc (wi := tI X.K fi) (g := tG X.K p) (tt := tTt X.K tt) (te := tV X.K fe) hc hN hi ok hg ht he hs) fun σ H Q h => lc_pure hv σ H Q h
end Fx

/-! Fx 5: calls of own defs, lists handed over to be changed. -/
namespace Fx
open PySem PySem.Spec PyProof.Rows L2

/-- an argument: a tree, or the caller's own list of a slot -/
inductive Ar where
  | v (t : T) | io (i : Nat)
abbrev XF := Sls → Option (List Ar × Sls)
inductive ArOk (K : PySem.W.Frag) (G : Hp) (σ : L2.St) : V → Ar → Prop
  | v {x : V} {t : T} : Rep K G x t → ArOk K G σ x (.v t)
  | io {x : V} {i : Nat} : σ[i]? = some (some x) → ArOk K G σ x (.io i)
theorem ArOk.mono {K : PySem.W.Frag} {G G' : Hp} {σ : L2.St} {x : V} {a : Ar} (h : ArOk K G σ x a) (e : Ext G G') : ArOk K G' σ x a := by
  cases h with
  | v r => exact .v (r.mono e)
  | io r => exact .io r
def tXs (K : PySem.W.Frag) (f : XF) : TA := fun σ H Q => ∃ O env as env', RepS K H O σ env ∧ f env = some (as, env') ∧ ∀ vs H' O', Nx σ env H O σ env' H' O' → RepS K H' O' σ env' → Paired (ArOk K (hid H' O') σ) vs as → Q vs H'
def XA (X : Cx) (es : List Expr) (f : XF) : Prop := PA X es (tXs X.K f)
def XKw (X : Cx) (kws : List Keyword) (f : XF) : Prop := PK X kws (tXs X.K f)
theorem pk_mono {X : Cx} {e : List Keyword} {t t' : TA} (h : PK X e t) (m : ∀ σ H Q, t' σ H Q → t σ H Q) : PK X e t' := ⟨fun pos pins s σ H Q I q => h.run pos pins s σ H Q I (m _ _ _ q)⟩
@[simp] def xN : XF := fun env => some ([], env)
@[simp] def xV (f : EF) (r : XF) : XF := fun env => (f env).bind fun p => (r p.2).map fun q => (.v p.1 :: q.1, q.2)
@[simp] def xIo (i : Nat) (r : XF) : XF := fun env => match env[i]?.bind Sl.cont with
  | some _ => (r env).map fun q => (.io i :: q.1, q.2)
  | none => none
section
variable {X : Cx} {e : Expr} {es : List Expr} {kws : List Keyword} {f : EF} {r : XF} {pos : Pos} {nm : Option Str} {kpos : Pos}
theorem paired_mono {α β : Type} {R R' : α → β → Prop} (h : ∀ a b, R a b → R' a b) : ∀ {l : List α} {m : List β}, Paired R l m → Paired R' l m
  | _, _, .nil => .nil
  | _, _, .cons x y => .cons (h _ _ x) (paired_mono h y)
theorem xa_nil : XA X [] xN := pa_mono pa_nil fun σ H Q ⟨O, env, as, env', S, e, k⟩ => by
  cases e
  exact k [] H O .refl S .nil
theorem xa_val (ha : EV X e f) (hr : XA X es r) (hs : starEach (e :: es) X.env = (false, eval e X.env) :: starEach es X.env := by rfl) : XA X (e :: es) (xV f r) :=
  pa_mono (pa_cons ha hr hs) fun σ H Q ⟨O, env, as, env', S, e, k⟩ => by
    unfold xV at e
    obtain ⟨⟨t, e1⟩, q1, e⟩ := Option.bind_eq_some_iff.mp e
    obtain ⟨⟨as2, e2⟩, q2, e⟩ := Option.map_eq_some_iff.mp e
    cases e
    exact ⟨O, env, t, e1, S, q1, fun v H1 O1 n1 S1 r1 => ⟨O1, e1, as2, _, S1, q2, fun vs H2 O2 n2 S2 r2 => k _ H2 O2 (n1.trans n2) S2 (.cons (.v (r1.mono (S1.grow n2))) r2)⟩⟩
theorem xa_io {i : Nat} {x : Str} (ha : PE X (.Name x pos) (tVar i)) (hr : XA X es r) (hs : starEach (.Name x pos :: es) X.env = (false, eval (.Name x pos) X.env) :: starEach es X.env := by rfl) : XA X (.Name x pos :: es) (xIo i r) :=
  pa_mono (pa_cons ha hr hs) fun σ H Q ⟨O, env, as, env', S, e, k⟩ => by
    unfold xIo at e
    cases hc : env[i]?.bind Sl.cont with
    | none => rw [hc] at e; cases e
    | some t =>
      rw [hc] at e
      obtain ⟨⟨as2, e2⟩, q2, e⟩ := Option.map_eq_some_iff.mp e
      cases e
      obtain ⟨p, h1, _⟩ := S.own i t hc
      exact ⟨_, h1, O, env, as2, _, S, q2, fun vs H2 O2 n2 S2 r2 => k _ H2 O2 n2 S2 (.cons (.io h1) r2)⟩
theorem xk_nil : XKw X [] xN := pk_mono pk_nil fun σ H Q ⟨O, env, as, env', S, e, k⟩ => by
  cases e
  exact k [] H O .refl S .nil
theorem xk_val (ha : EV X e f) (hr : XKw X kws r) : XKw X (⟨nm, e, kpos⟩ :: kws) (xV f r) :=
  pk_mono (pk_cons ha hr) fun σ H Q ⟨O, env, as, env', S, e, k⟩ => by
    unfold xV at e
    obtain ⟨⟨t, e1⟩, q1, e⟩ := Option.bind_eq_some_iff.mp e
    obtain ⟨⟨as2, e2⟩, q2, e⟩ := Option.map_eq_some_iff.mp e
    cases e
    exact ⟨O, env, t, e1, S, q1, fun v H1 O1 n1 S1 r1 => ⟨O1, e1, as2, _, S1, q2, fun vs H2 O2 n2 S2 r2 => k _ H2 O2 (n1.trans n2) S2 (.cons (.v (r1.mono (S1.grow n2))) r2)⟩⟩
end

/-! ### what a def is worth -/
abbrev MF := Sls → Option (T × Sls)
def noOwn (sls : Sls) : Prop := ∀ (i : Nat) (u : T), sls[i]? ≠ some (Sl.own u)
def spF (K : PySem.W.Frag) (n : Nat) (m : MF) : Sp := fun vs H Q _ => ∃ O sls t sls', vs.length = n ∧ noOwn sls ∧ RepS K H O (vs.map some) sls ∧ m sls = some (t, sls') ∧
  ∀ v H' O', Nx (vs.map some) sls H O (vs.map some) sls' H' O' → RepS K H' O' (vs.map some) sls' → Rep K (hid H' O') v t → Q v H'
@[simp] def resolve (env : Sls) : List Ar → Option Sls
  | [] => some []
  | .v t :: r => (resolve env r).map fun l => .val t :: l
  | .io i :: r => match env[i]?.bind Sl.cont with
    | some t => (resolve env r).map fun l => .io t :: l
    | none => none
@[simp] def ios : List Ar → List Nat
  | [] => []
  | .v _ :: r => ios r
  | .io i :: r => i :: ios r
@[simp] def setCont (env : Sls) (i : Nat) (t : T) : Sls := match env[i]? with
  | some (.own _) => env.set i (.own t)
  | some (.io _) => env.set i (.io t)
  | _ => env
@[simp] def writeB (env : Sls) : List Ar → Sls → Sls
  | .io i :: as, .io t :: sls => writeB (setCont env i t) as sls
  | _ :: as, _ :: sls => writeB env as sls
  | _, _ => env
@[simp] def eCall (m : MF) (fx : XF) : EF := fun env => (fx env).bind fun p => if (ios p.1).Nodup then (resolve p.2 p.1).bind fun sls => (m sls).map fun r => (r.1, writeB p.2 p.1 r.2) else none

theorem setCont_ne {env : Sls} {i j : Nat} {t : T} (h : i ≠ j) : (setCont env i t)[j]? = env[j]? := by
  unfold setCont
  split
  · rw [List.getElem?_set_ne h]
  · rw [List.getElem?_set_ne h]
  · rfl
theorem setCont_own {env : Sls} {i : Nat} {t u : T} (h : env[i]? = some (.own u)) : (setCont env i t)[i]? = some (.own t) := by
  unfold setCont
  rw [h]
  rw [List.getElem?_set_self (List.getElem?_eq_some_iff.mp h).1]
theorem setCont_io {env : Sls} {i : Nat} {t u : T} (h : env[i]? = some (.io u)) : (setCont env i t)[i]? = some (.io t) := by
  unfold setCont
  rw [h]
  rw [List.getElem?_set_self (List.getElem?_eq_some_iff.mp h).1]
theorem setCont_len {env : Sls} {i : Nat} {t : T} : (setCont env i t).length = env.length := by
  unfold setCont
  split <;> simp
theorem writeB_len : ∀ {as : List Ar} {sls env : Sls}, (writeB env as sls).length = env.length
  | [], _, _ => by unfold writeB; rfl
  | .v _ :: as, [], _ => by unfold writeB; rfl
  | .io _ :: as, [], _ => by unfold writeB; rfl
  | .v _ :: as, s :: sls, env => by unfold writeB; exact writeB_len
  | .io i :: as, .io t :: sls, env => by unfold writeB; rw [writeB_len, setCont_len]
  | .io i :: as, .un :: sls, env => by unfold writeB; exact writeB_len
  | .io i :: as, .val _ :: sls, env => by unfold writeB; exact writeB_len
  | .io i :: as, .own _ :: sls, env => by unfold writeB; exact writeB_len
theorem writeB_out {i : Nat} : ∀ {as : List Ar} {sls env : Sls}, i ∉ ios as → (writeB env as sls)[i]? = env[i]?
  | [], _, _, _ => by unfold writeB; rfl
  | .v _ :: as, [], _, _ => by unfold writeB; rfl
  | .io _ :: as, [], _, _ => by unfold writeB; rfl
  | .v _ :: as, s :: sls, env, h => by
    unfold writeB
    exact writeB_out (as := as) h
  | .io j :: as, .io t :: sls, env, h => by
    unfold writeB
    have hj : j ≠ i := fun z => h (by unfold ios; rw [z]; exact List.mem_cons_self)
    rw [writeB_out (as := as) fun z => h (by unfold ios; exact List.mem_cons_of_mem _ z), setCont_ne hj]
  | .io j :: as, .un :: sls, env, h => by
    unfold writeB
    exact writeB_out (as := as) fun z => h (by unfold ios; exact List.mem_cons_of_mem _ z)
  | .io j :: as, .val _ :: sls, env, h => by
    unfold writeB
    exact writeB_out (as := as) fun z => h (by unfold ios; exact List.mem_cons_of_mem _ z)
  | .io j :: as, .own _ :: sls, env, h => by
    unfold writeB
    exact writeB_out (as := as) fun z => h (by unfold ios; exact List.mem_cons_of_mem _ z)
theorem ios_mem {i : Nat} : ∀ {as : List Ar} {j : Nat}, as[j]? = some (.io i) → i ∈ ios as
  | a :: as, 0, h => by
    simp at h
    subst h
    unfold ios
    exact List.mem_cons_self
  | .v _ :: as, j + 1, h => by
    unfold ios
    exact ios_mem (j := j) (by simpa using h)
  | .io _ :: as, j + 1, h => by
    unfold ios
    exact List.mem_cons_of_mem _ (ios_mem (j := j) (by simpa using h))
theorem mem_ios {i : Nat} : ∀ {as : List Ar}, i ∈ ios as → ∃ j : Nat, as[j]? = some (.io i)
  | .v _ :: as, h => by
    unfold ios at h
    obtain ⟨j, e⟩ := mem_ios h
    exact ⟨j + 1, by simpa using e⟩
  | .io k :: as, h => by
    unfold ios at h
    rcases List.mem_cons.mp h with e | e
    · subst e
      exact ⟨0, rfl⟩
    · obtain ⟨j, e⟩ := mem_ios e
      exact ⟨j + 1, by simpa using e⟩
theorem ios_inj : ∀ {as : List Ar} {j k : Nat} {i : Nat}, (ios as).Nodup → as[j]? = some (.io i) → as[k]? = some (.io i) → j = k
  | a :: as, 0, 0, _, _, _, _ => rfl
  | a :: as, 0, k + 1, i, nd, h1, h2 => by
    simp at h1
    subst h1
    unfold ios at nd
    exact ((List.nodup_cons.mp nd).1 (ios_mem (j := k) (by simpa using h2))).elim
  | a :: as, j + 1, 0, i, nd, h1, h2 => by
    simp at h2
    subst h2
    unfold ios at nd
    exact ((List.nodup_cons.mp nd).1 (ios_mem (j := j) (by simpa using h1))).elim
  | .v _ :: as, j + 1, k + 1, i, nd, h1, h2 => by
    unfold ios at nd
    have h1 : as[j]? = some (.io i) := by simpa using h1
    have h2 : as[k]? = some (.io i) := by simpa using h2
    have q := ios_inj nd h1 h2
    omega
  | .io _ :: as, j + 1, k + 1, i, nd, h1, h2 => by
    unfold ios at nd
    have h1 : as[j]? = some (.io i) := by simpa using h1
    have h2 : as[k]? = some (.io i) := by simpa using h2
    have q := ios_inj (List.nodup_cons.mp nd).2 h1 h2
    omega
theorem writeB_in {i : Nat} {t u : T} : ∀ {as : List Ar} {sls env : Sls} {j : Nat}, (ios as).Nodup → as[j]? = some (.io i) → sls[j]? = some (.io t) →
    (env[i]? = some (.own u) → (writeB env as sls)[i]? = some (.own t)) ∧ (env[i]? = some (.io u) → (writeB env as sls)[i]? = some (.io t))
  | [], _, _, _, _, h, _ => by simp at h
  | _ :: _, [], _, _, _, _, h => by simp at h
  | a :: as, s :: sls, env, 0, nd, h1, h2 => by
    simp at h1 h2
    subst h1
    subst h2
    unfold ios at nd
    unfold writeB
    constructor
    · intro h
      rw [writeB_out (List.nodup_cons.mp nd).1]
      exact setCont_own h
    · intro h
      rw [writeB_out (List.nodup_cons.mp nd).1]
      exact setCont_io h
  | .v _ :: as, s :: sls, env, j + 1, nd, h1, h2 => by
    unfold ios at nd
    unfold writeB
    exact writeB_in (as := as) (j := j) nd (by simpa using h1) (by simpa using h2)
  | .io k :: as, s :: sls, env, j + 1, nd, h1, h2 => by
    unfold ios at nd
    have hk : k ≠ i := fun z => (List.nodup_cons.mp nd).1 (by rw [z]; exact ios_mem (j := j) (by simpa using h1))
    have ih := fun env' => writeB_in (u := u) (as := as) (sls := sls) (env := env') (j := j) (List.nodup_cons.mp nd).2 (by simpa using h1) (by simpa using h2)
    cases s with
    | io w =>
      unfold writeB
      have := ih (setCont env k w)
      rw [setCont_ne hk] at this
      exact this
    | un => unfold writeB; exact ih env
    | val _ => unfold writeB; exact ih env
    | own _ => unfold writeB; exact ih env
theorem resolve_get : ∀ {as : List Ar} {env sls : Sls}, resolve env as = some sls → sls.length = as.length ∧ (∀ (j : Nat) (t : T), as[j]? = some (.v t) → sls[j]? = some (.val t)) ∧ (∀ (j i : Nat), as[j]? = some (.io i) → ∃ t, env[i]?.bind Sl.cont = some t ∧ sls[j]? = some (.io t))
  | [], env, sls, h => by
    cases h
    exact ⟨rfl, fun j t h => by simp at h, fun j i h => by simp at h⟩
  | .v u :: as, env, sls, h => by
    unfold resolve at h
    obtain ⟨l, q, h⟩ := Option.map_eq_some_iff.mp h
    cases h
    obtain ⟨h1, h2, h3⟩ := resolve_get q
    refine ⟨by simp [h1], fun j t h => ?_, fun j i h => ?_⟩
    · cases j with
      | zero => simp at h; subst h; rfl
      | succ j => simpa using h2 j t (by simpa using h)
    · cases j with
      | zero => simp at h
      | succ j => simpa using h3 j i (by simpa using h)
  | .io k :: as, env, sls, h => by
    unfold resolve at h
    cases hc : env[k]?.bind Sl.cont with
    | none => rw [hc] at h; cases h
    | some w =>
      rw [hc] at h
      obtain ⟨l, q, h⟩ := Option.map_eq_some_iff.mp h
      cases h
      obtain ⟨h1, h2, h3⟩ := resolve_get q
      refine ⟨by simp [h1], fun j t h => ?_, fun j i h => ?_⟩
      · cases j with
        | zero => simp at h
        | succ j => simpa using h2 j t (by simpa using h)
      · cases j with
        | zero => simp at h; subst h; exact ⟨w, hc, rfl⟩
        | succ j => simpa using h3 j i (by simpa using h)
theorem resolve_noOwn : ∀ {as : List Ar} {env sls : Sls}, resolve env as = some sls → noOwn sls
  | [], env, sls, h => by
    cases h
    intro i u z
    simp at z
  | .v w :: as, env, sls, h => by
    unfold resolve at h
    obtain ⟨l, q, h⟩ := Option.map_eq_some_iff.mp h
    cases h
    intro i u z
    cases i with
    | zero => simp at z
    | succ i => exact resolve_noOwn q i u (by simpa using z)
  | .io k :: as, env, sls, h => by
    unfold resolve at h
    cases hc : env[k]?.bind Sl.cont with
    | none => rw [hc] at h; cases h
    | some w =>
      rw [hc] at h
      obtain ⟨l, q, h⟩ := Option.map_eq_some_iff.mp h
      cases h
      intro i u z
      cases i with
      | zero => simp at z
      | succ i => exact resolve_noOwn q i u (by simpa using z)
theorem paired_get {α β : Type} {R : α → β → Prop} : ∀ {l : List α} {m : List β}, Paired R l m → ∀ (i : Nat) (b : β), m[i]? = some b → ∃ a, l[i]? = some a ∧ R a b
  | _, _, .nil, i, b, h => by simp at h
  | _, _, .cons r _, 0, b, h => by simp at h; subst h; exact ⟨_, rfl, r⟩
  | _, _, .cons _ t, i + 1, b, h => by
    obtain ⟨a, h1, h2⟩ := paired_get t i b (by simpa using h)
    exact ⟨a, by simpa using h1, h2⟩

section
variable {K : PySem.W.Frag} {H H' : Hp} {O O' : List Addr} {σ : L2.St} {env : Sls} {as : List Ar} {sls sls' : Sls} {vs : List V}
theorem map_some_get {i : Nat} {v : V} : (vs.map some)[i]? = some (some v) ↔ vs[i]? = some v := by
  rw [List.getElem?_map]
  cases vs[i]? <;> simp
/-- the callee's slots -/
theorem RepS.args (S : RepS K H O σ env) (pr : Paired (ArOk K (hid H O) σ) vs as) (hr : resolve env as = some sls) (nd : (ios as).Nodup) : RepS K H O (vs.map some) sls ∧ (∀ a, Owns (vs.map some) sls a → Owns σ env a) := by
  obtain ⟨h1, h2, h3⟩ := resolve_get hr
  have hl : vs.length = as.length := Paired.length pr
  -- what stands at j
  have cas : ∀ (j : Nat) (x : Sl), sls[j]? = some x → (∃ t, as[j]? = some (.v t) ∧ x = .val t) ∨ (∃ i t, as[j]? = some (.io i) ∧ env[i]?.bind Sl.cont = some t ∧ x = .io t) := fun j x h => by
    have hj : j < as.length := by rw [← h1]; exact (List.getElem?_eq_some_iff.mp h).1
    cases ha : as[j] with
    | v t =>
      have e : as[j]? = some (.v t) := by rw [List.getElem?_eq_getElem hj, ha]
      have := h2 j t e
      rw [h] at this
      cases this
      exact .inl ⟨t, e, rfl⟩
    | io i =>
      have e : as[j]? = some (.io i) := by rw [List.getElem?_eq_getElem hj, ha]
      obtain ⟨t, h4, h5⟩ := h3 j i e
      rw [h] at h5
      cases h5
      exact .inr ⟨i, t, e, h4, rfl⟩
  have own1 : ∀ (j : Nat) (t : T), sls[j]?.bind Sl.cont = some t → ∃ (i : Nat) (p : Addr), as[j]? = some (.io i) ∧ env[i]?.bind Sl.cont = some t ∧ vs[j]? = some (.ref p) ∧ σ[i]? = some (some (.ref p)) ∧ p ∈ O ∧ RepO K (hid H O) H p t := fun j t h => by
    cases hx : sls[j]? with
    | none => rw [hx] at h; cases h
    | some x =>
      rw [hx] at h
      rcases cas j x hx with ⟨u, _, rfl⟩ | ⟨i, u, e1, e2, rfl⟩
      · cases h
      · cases h
        obtain ⟨v, g1, g2⟩ := paired_get pr j _ e1
        cases g2 with
        | io g2 =>
          obtain ⟨p, q1, q2, q3⟩ := S.own i _ e2
          rw [g2] at q1
          cases q1
          exact ⟨i, p, e1, e2, g1, g2, q2, q3⟩
  refine ⟨⟨by rw [List.length_map, h1, hl], S.dom, fun j t h => ?_, fun j t h => ?_, fun j k t u p g1 g2 g3 g4 => ?_⟩, fun a h => ?_⟩
  · rcases cas j _ h with ⟨u, e, q⟩ | ⟨i, u, _, _, q⟩
    · cases q
      obtain ⟨v, g1, g2⟩ := paired_get pr j _ e
      cases g2 with
      | v g2 => exact ⟨v, map_some_get.mpr g1, g2⟩
    · cases q
  · obtain ⟨i, p, _, _, q1, _, q2, q3⟩ := own1 j t h
    exact ⟨p, map_some_get.mpr q1, q2, q3⟩
  · obtain ⟨i1, p1, a1, a2, a3, a4, _⟩ := own1 j t g1
    obtain ⟨i2, p2, b1, b2, b3, b4, _⟩ := own1 k u g2
    rw [map_some_get] at g3 g4
    rw [a3] at g3
    rw [b3] at g4
    cases g3
    cases g4
    have : i1 = i2 := S.inj i1 i2 _ _ _ a2 b2 a4 b4
    subst this
    exact ios_inj nd a1 b1
  · obtain ⟨j, t, g1, g2⟩ := h
    obtain ⟨i1, p1, a1, a2, a3, a4, _⟩ := own1 j t g1
    rw [map_some_get, a3] at g2
    cases g2
    exact ⟨i1, t, a2, a4⟩
/-- behind the call -/
theorem RepS.back (S : RepS K H O σ env) (pr : Paired (ArOk K (hid H O) σ) vs as) (hr : resolve env as = some sls) (nd : (ios as).Nodup)
    (n : Nx (vs.map some) sls H O (vs.map some) sls' H' O') (S' : RepS K H' O' (vs.map some) sls') : Nx σ env H O σ (writeB env as sls') H' O' ∧ RepS K H' O' σ (writeB env as sls') := by
  obtain ⟨SA, oA⟩ := S.args pr hr nd
  obtain ⟨h1, h2, h3⟩ := resolve_get hr
  have gx : Ext (hid H O) (hid H' O') := SA.grow n
  -- a slot behind the call
  have at1 : ∀ (i : Nat), (i ∉ ios as ∧ (writeB env as sls')[i]? = env[i]?) ∨ (∃ (j : Nat) (p : Addr) (t u : T), as[j]? = some (.io i) ∧ vs[j]? = some (.ref p) ∧ σ[i]? = some (some (.ref p)) ∧ env[i]?.bind Sl.cont = some u ∧ sls'[j]? = some (.io t) ∧ sls[j]? = some (.io u) ∧
      ((env[i]? = some (.own u) ∧ (writeB env as sls')[i]? = some (.own t)) ∨ (env[i]? = some (.io u) ∧ (writeB env as sls')[i]? = some (.io t)))) := fun i => by
    by_cases hi : i ∈ ios as
    · obtain ⟨j, hj⟩ := mem_ios hi
      obtain ⟨u, e1, e2⟩ := h3 j i hj
      obtain ⟨⟨t, e3⟩, _⟩ := n.io j u e2
      obtain ⟨v, g1, g2⟩ := paired_get pr j _ hj
      cases g2 with
      | io g2 =>
        obtain ⟨p, q1, q2, q3⟩ := S.own i u e1
        rw [g2] at q1
        cases q1
        refine .inr ⟨j, p, t, u, hj, g1, g2, e1, e3, e2, ?_⟩
        have w := writeB_in (env := env) (u := u) nd hj e3
        cases he : env[i]? with
        | none => rw [he] at e1; cases e1
        | some x =>
          cases x with
          | own x => rw [he] at e1; cases e1; exact .inl ⟨rfl, w.1 he⟩
          | io x => rw [he] at e1; cases e1; exact .inr ⟨rfl, w.2 he⟩
          | un => rw [he] at e1; cases e1
          | val _ => rw [he] at e1; cases e1
    · exact .inl ⟨hi, writeB_out hi⟩
  have ownB : ∀ (i : Nat) (t : T), (writeB env as sls')[i]?.bind Sl.cont = some t → ∃ u, env[i]?.bind Sl.cont = some u := fun i t h => by
    rcases at1 i with ⟨_, e⟩ | ⟨j, p, t', u, _, _, _, e, _⟩
    · rw [e] at h; exact ⟨t, h⟩
    · exact ⟨u, e⟩
  -- an own list that was not handed over
  have left : ∀ (i : Nat) (t : T) (p : Addr), i ∉ ios as → env[i]?.bind Sl.cont = some t → σ[i]? = some (some (.ref p)) → ¬ Owns (vs.map some) sls p := fun i t p hi e es z => by
    obtain ⟨j, u, g1, g2⟩ := z
    cases hx : sls[j]? with
    | none => rw [hx] at g1; cases g1
    | some x =>
      rw [hx] at g1
      have hj : j < as.length := by rw [← h1]; exact (List.getElem?_eq_some_iff.mp hx).1
      cases ha : as[j] with
      | v t' =>
        have q := h2 j t' (by rw [List.getElem?_eq_getElem hj, ha])
        rw [hx] at q
        cases q
        cases g1
      | io i' =>
        have e' : as[j]? = some (.io i') := by rw [List.getElem?_eq_getElem hj, ha]
        obtain ⟨t', q1, q2⟩ := h3 j i' e'
        obtain ⟨v, q3, q4⟩ := paired_get pr j _ e'
        cases q4 with
        | io q4 =>
          rw [map_some_get, q3] at g2
          cases g2
          have : i = i' := S.inj i i' _ _ _ e q1 es q4
          subst this
          exact hi (ios_mem e')
  refine ⟨⟨fun a o e z => n.fr a o e fun q => z (oA a q), n.dom, n.sub, fun a z => ?_, fun a z => ?_, fun i t z => ?_, fun i t z => ?_⟩, ⟨by rw [writeB_len]; exact S.len, S'.dom, fun i t z => ?_, fun i t z => ?_, fun i k t u p g1 g2 g3 g4 => ?_⟩⟩
  · rcases n.sup a z with q | q | q
    · exact .inl q
    · exact .inr (.inl (oA a q))
    · exact .inr (.inr q)
  · obtain ⟨i, t, g1, g2⟩ := z
    obtain ⟨u, e⟩ := ownB i t g1
    exact .inl ⟨i, u, e, g2⟩
  · rcases at1 i with ⟨_, e⟩ | ⟨j, p, t', u, _, _, _, _, _, _, ⟨e, _⟩ | ⟨_, e⟩⟩
    · exact ⟨⟨t, by rw [e]; exact z⟩, rfl⟩
    · rw [z] at e; cases e
    · exact ⟨⟨t', e⟩, rfl⟩
  · rcases at1 i with ⟨_, e⟩ | ⟨j, p, t', u, _, _, _, _, _, _, ⟨_, e⟩ | ⟨e, _⟩⟩
    · exact ⟨t, by rw [← e]; exact z⟩
    · rw [z] at e; cases e
    · exact ⟨u, e⟩
  · rcases at1 i with ⟨_, e⟩ | ⟨j, p, t', u, _, _, _, _, _, _, ⟨_, e⟩ | ⟨_, e⟩⟩
    · rw [e] at z
      obtain ⟨v, g1, g2⟩ := S.val i t z
      exact ⟨v, g1, g2.mono gx⟩
    · rw [z] at e; cases e
    · rw [z] at e; cases e
  · rcases at1 i with ⟨hi, e⟩ | ⟨j, p, t', u, _, hv, hs, _, e3, _, hw⟩
    · rw [e] at z
      obtain ⟨p, g1, g2, g3⟩ := S.own i t z
      have no := left i t p hi z g1
      obtain ⟨o, eo⟩ := g3.there
      refine ⟨p, g1, ?_, g3.mono gx ((n.fr p o eo no).trans eo.symm)⟩
      rcases n.sup p g2 with q | q | q
      · exact q
      · exact (no q).elim
      · rw [eo] at q; cases q
    · have zt : t = t' := by
        rcases hw with ⟨_, e⟩ | ⟨_, e⟩ <;> (rw [e] at z; exact (Option.some.inj z).symm)
      subst zt
      obtain ⟨p', g1, g2, g3⟩ := S'.own j t (by rw [e3]; rfl)
      rw [map_some_get, hv] at g1
      cases g1
      exact ⟨_, hs, g2, g3⟩
  · obtain ⟨u1, e1⟩ := ownB i t g1
    obtain ⟨u2, e2⟩ := ownB k u g2
    exact S.inj i k u1 u2 p e1 e2 g3 g4
end
section
variable {X : Cx} {k n : Nat} {f : Addr} {fd : FuncData} {ps ks : List Str} {m : MF} {dvs : List V} {ds : List Value} {dts : List T} {x : Str} {p pos : Pos} {e : Expr} {es : List Expr} {kws : List Keyword} {fx fk : XF}
@[simp] def xDef (dts : List T) (fx : XF) : XF := fun env => (fx env).map fun q => (q.1 ++ dts.map .v, q.2)
theorem paired_app {α β : Type} {R : α → β → Prop} : ∀ {l l' : List α} {m m' : List β}, Paired R l m → Paired R l' m' → Paired R (l ++ l') (m ++ m')
  | _, _, _, _, .nil, s => s
  | _, _, _, _, .cons r t, s => .cons r (paired_app t s)
theorem paired_defs {K : PySem.W.Frag} {G : Hp} {σ : L2.St} : ∀ {dvs : List V} {dts : List T}, Reps K G dvs dts → Paired (ArOk K G σ) dvs (dts.map .v)
  | _, _, .nil => .nil
  | _, _, .cons r t => .cons (.v r) (paired_defs t)
theorem call_pure {K : PySem.W.Frag} {σ : L2.St} {H : Hp} {Q : VK} {O : List Addr} {env : Sls} {as : List Ar} {t : T} {env' : Sls} {vs : List V} (S : RepS K H O σ env) (pr : Paired (ArOk K (hid H O) σ) vs as) (hn : vs.length = n)
    (e : (if (ios as).Nodup then (resolve env as).bind fun sls => (m sls).map fun r => (r.1, writeB env as r.2) else none) = some (t, env'))
    (kk : ∀ v H' O', Nx σ env H O σ env' H' O' → RepS K H' O' σ env' → Rep K (hid H' O') v t → Q v H') (E : XK) : spF K n m vs H Q E := by
  split at e
  · rename_i nd
    obtain ⟨sls, q1, e⟩ := Option.bind_eq_some_iff.mp e
    obtain ⟨⟨t', sls'⟩, q2, e⟩ := Option.map_eq_some_iff.mp e
    cases e
    refine ⟨O, sls, _, sls', hn, resolve_noOwn q1, (S.args pr q1 nd).1, q2, fun v H2 O2 n2 S2 r2 => ?_⟩
    obtain ⟨n3, S3⟩ := S.back pr q1 nd n2 S2
    exact kk v H2 O2 n3 S3 r2
  · cases e
/-- f(..) of an own def -/
theorem ev_call (F : FnOk X.prog X.w X.K X.mg X.base CX0 k f fd ps (spF X.K n m)) (hr : Room k X.A) (hg : Gl X x) (hm : X.mg x = some (.ref f)) (hk : PySem.W.keepIn X.K (.ref f) = true) (hb : Binds X.K fd ps ds) (hd : Vals dvs ds) (hdt : ∀ G, Reps X.K G dvs dts) (hn : (e :: es).length + dvs.length = n)
    (ha : XA X (e :: es) fx) (hdb : (x == ("__debug__" : Str)) = false := by decide) (he : starEach (e :: es) X.env = (false, eval e X.env) :: starEach es X.env := by rfl) (hpl : (backTo pos (starEach es X.env)).any (·.1) = false := by rfl) (hlen : ∀ env as env', fx env = some (as, env') → as.length = (e :: es).length) :
    EV X (.Call (.Name x p) (e :: es) [] pos) (eCall m (xDef dts fx)) :=
  pe_mono (pe_call F hr hg hm hk hb hd (E := E0) pass0 ha hdb he hpl) fun σ H Q ⟨O, env, t, env', S, e, kk⟩ => by
    unfold eCall xDef at e
    obtain ⟨⟨as, e1⟩, q1, e⟩ := Option.bind_eq_some_iff.mp e
    obtain ⟨⟨as0, e2⟩, q0, q1⟩ := Option.map_eq_some_iff.mp q1
    cases q1
    refine ⟨O, env, as0, _, S, q0, fun vs H1 O1 n1 S1 pr => ?_⟩
    have hl : vs.length = as0.length := Paired.length pr
    exact call_pure S1 (paired_app pr (paired_defs (hdt _))) (by rw [List.length_append, hl, hlen _ _ _ q0, hn]) e (fun v H2 O2 n2 S2 r2 => kk v H2 O2 (n1.trans n2) S2 r2) _
end
end Fx

/-! Fx 6: own lists read and changed, calls with keywords, a def's worth by its body. -/
namespace Fx
open PySem PySem.Spec PyProof.Rows L2

theorem Reps.atI {K : PySem.W.Frag} {G : Hp} {vs : List V} {ts : List T} {i : Int} {t : T} (r : Reps K G vs ts) (h : L2.atI ts i = some t) : ∃ v, L2.atI vs i = some v ∧ Rep K G v t := by
  unfold L2.atI at h ⊢
  obtain ⟨j, h1, h2⟩ := Option.bind_eq_some_iff.mp h
  obtain ⟨v, h3, h4⟩ := r.get h2
  exact ⟨v, by rw [r.length, h1]; exact h3, h4⟩
/-! trees without dicts and objects, as the library's data -/
mutual
@[simp] def toD : T → Option PyData
  | .non => some .none
  | .bl b => some (.bool b)
  | .int i => some (.int i)
  | .str x => some (.str x)
  | .tup ts => (toDs ts).map .tuple
  | .lst ts => (toDs ts).map .list
  | .lsf ts => (toDs ts).map .list
  | .dic _ _ => none
  | .ref _ => none
  | .ty _ => none
@[simp] def toDs : List T → Option (List PyData)
  | [] => some []
  | t :: ts => (toD t).bind fun d => (toDs ts).map fun l => d :: l
end
section
variable {K : PySem.W.Frag} {G : Hp}
mutual
theorem Rep.dp : ∀ {v : V} {t : T} {d : PyData}, Rep K G v t → toD t = some d → Dp K G v d
  | _, _, d, .non, h => by unfold toD at h; cases h; exact .non
  | _, _, d, .bl b, h => by unfold toD at h; cases h; exact .bl b
  | _, _, d, .int b, h => by unfold toD at h; cases h; exact .int b
  | _, _, d, .str b, h => by unfold toD at h; cases h; exact .str b
  | _, _, d, .ref _, h => by unfold toD at h; cases h
  | _, _, d, .ty _, h => by unfold toD at h; cases h
  | _, _, d, .tup q r, h => by
    unfold toD at h
    obtain ⟨l, h1, h2⟩ := Option.map_eq_some_iff.mp h
    cases h2
    exact .tup q (Reps.dp r h1)
  | _, _, d, .lst q r, h => by
    unfold toD at h
    obtain ⟨l, h1, h2⟩ := Option.map_eq_some_iff.mp h
    cases h2
    exact .lst (.of q) (Reps.dp r h1)
  | _, _, d, .lsf q r, h => by
    unfold toD at h
    obtain ⟨l, h1, h2⟩ := Option.map_eq_some_iff.mp h
    cases h2
    exact .lst q (Reps.dp r h1)
  | _, _, d, .dic _ _, h => by unfold toD at h; cases h
theorem Reps.dp : ∀ {vs : List V} {ts : List T} {ds : List PyData}, Reps K G vs ts → toDs ts = some ds → DpAll K G vs ds
  | _, _, ds, .nil, h => by unfold toDs at h; cases h; exact .nil
  | _, _, ds, .cons r rs, h => by
    unfold toDs at h
    obtain ⟨d, h1, h⟩ := Option.bind_eq_some_iff.mp h
    obtain ⟨l, h2, h3⟩ := Option.map_eq_some_iff.mp h
    cases h3
    exact .cons (Rep.dp r h1) (Reps.dp rs h2)
end
end
def eqT (a b : T) : Option Bool := (toD a).bind fun d => (toD b).bind fun e => if SeqAt.shaped d && SeqAt.shaped e then some (PyData.eqv d e) else none

section
variable {X : Cx} {a b e : Expr} {fa fb : EF} {i : Nat} {x : Str} {pos pos' : Pos}
/-- xs[k], xs an own list of a slot -/
@[simp] def hasC (env : Sls) (i : Nat) : Bool := (env[i]?.bind Sl.cont).isSome
@[simp] def ePkIx (i : Nat) (fb : EF) : EF := fun env => if hasC env i then (fb env).bind fun q => match q.2[i]?.bind Sl.cont, q.1 with
  | some (.lst ts), .int k => (L2.atI ts k).map fun t => (t, q.2)
  | _, _ => none else none
theorem hasC_of {env : Sls} {i : Nat} {t : T} (h : env[i]?.bind Sl.cont = some t) : hasC env i = true := by unfold hasC; rw [h]; rfl
/-- an own list keeps its place -/
theorem RepS.slotAt {K : PySem.W.Frag} {H : Hp} {O : List Addr} {σ : L2.St} {env : Sls} {i : Nat} {t : T} (S : RepS K H O σ env) (h : env[i]?.bind Sl.cont = some t) : ∃ p, σ[i]? = some (some (.ref p)) ∧ p ∈ O ∧ RepO K (hid H O) H p t := S.own i t h
theorem ev_pkIx (hx : PE X (.Name x pos') (tVar i)) (hb : EV X b fb) (hs : PlainIx b) : EV X (.Subscript (.Name x pos') b pos) (ePkIx i fb) :=
  pe_mono (pe_ix ix_list hx hb hs) fun σ H Q ⟨O, env, t, env', S, e, k⟩ => by
    unfold ePkIx at e
    split at e
    · rename_i hc
      unfold hasC at hc
      obtain ⟨t0, hc⟩ := Option.isSome_iff_exists.mp hc
      obtain ⟨p, h1, _, _⟩ := S.own i t0 hc
      obtain ⟨⟨kt, e1⟩, q1, e⟩ := Option.bind_eq_some_iff.mp e
      refine ⟨_, h1, O, env, kt, e1, S, q1, fun v H1 O1 n1 S1 r1 => ?_⟩
      split at e
      · rename_i ts kk hq hk
        obtain ⟨t2, q3, e⟩ := Option.map_eq_some_iff.mp e
        cases e
        obtain ⟨p', g1, g2, g3⟩ := S1.own i _ hq
        rw [h1] at g1
        cases g1
        obtain ⟨vs, g4, g5⟩ := g3
        obtain ⟨v2, g6, g7⟩ := g5.atI q3
        have hk : kt = .int kk := hk
        subst hk
        exact ⟨p, vs, kk, v2, rfl, r1.inv_int, .of g4, g6, k v2 H1 O1 n1 S1 g7⟩
      · cases e
    · cases e
/-- len(xs), xs an own list -/
@[simp] def ePkLen (i : Nat) : EF := fun env => match env[i]?.bind Sl.cont with
  | some (.lst ts) => some (.int ts.length, env)
  | _ => none
theorem ev_pkLen {p : Pos} {y : Str} (hx : PE X (.Name y pos') (tVar i)) (hg : Gl X "len") (hm : X.mg "len" = none)
    (he : starEach [.Name y pos'] X.env = (false, eval (.Name y pos') X.env) :: starEach [] X.env := by rfl) (hpl : (backTo pos (starEach [] X.env)).any (·.1) = false := by rfl) : EV X (.Call (.Name "len" p) [.Name y pos'] [] pos) (ePkLen i) :=
  pe_mono (pe_callB call_len_seq hg hm PySem.boot_len (pa_cons hx pa_nil he) (he := he) (hpl := hpl)) fun σ H Q ⟨O, env, t, env', S, e, k⟩ => by
    unfold ePkLen at e
    split at e
    · rename_i ts hq
      cases e
      obtain ⟨p, h1, h2, vs, h3, h4⟩ := S.own i _ hq
      refine ⟨_, h1, p, vs, rfl, .inl (.of h3), ?_⟩
      rw [h4.length]
      exact k _ H O .refl S (.int _)
    · cases e
/-- xs == b, xs != b, xs an own list -/
@[simp] def ePkCmp (neg : Bool) (i : Nat) (fb : EF) : EF := fun env => if hasC env i then (fb env).bind fun q => match q.2[i]?.bind Sl.cont with
  | some (.lst ts) => (eqT (.lst ts) q.1).map fun c => (.bl (if neg then !c else c), q.2)
  | _ => none else none
theorem eqT_some {a b : T} {c : Bool} (h : eqT a b = some c) : ∃ d e, toD a = some d ∧ toD b = some e ∧ SeqAt.shaped d = true ∧ SeqAt.shaped e = true ∧ c = PyData.eqv d e := by
  unfold eqT at h
  obtain ⟨d, h1, h⟩ := Option.bind_eq_some_iff.mp h
  obtain ⟨e, h2, h⟩ := Option.bind_eq_some_iff.mp h
  split at h
  · rename_i hc
    rw [Bool.and_eq_true] at hc
    cases h
    exact ⟨d, e, h1, h2, hc.1, hc.2, rfl⟩
  · cases h
theorem pkCmp_pure {K : PySem.W.Frag} {neg : Bool} {σ : L2.St} {H : Hp} {Q : VK} {r : R2} (hr : ∀ x y H Q, (∃ d e, Dp K H x d ∧ Dp K H y e ∧ SeqAt.shaped d = true ∧ SeqAt.shaped e = true ∧ Q (.bl (if neg then !PyData.eqv d e else PyData.eqv d e)) H) → r x y H Q)
    (h : tV K (ePkCmp neg i fb) σ H Q) : tOp r (tVar i) (tV K fb) σ H Q := by
  obtain ⟨O, env, t, env', S, e, k⟩ := h
  unfold ePkCmp at e
  split at e
  · rename_i hc
    unfold hasC at hc
    obtain ⟨t0, hc⟩ := Option.isSome_iff_exists.mp hc
    obtain ⟨p, h1, _, _⟩ := S.own i t0 hc
    obtain ⟨⟨u, e1⟩, q1, e⟩ := Option.bind_eq_some_iff.mp e
    refine ⟨_, h1, O, env, u, e1, S, q1, fun v H1 O1 n1 S1 r1 => ?_⟩
    split at e
    · rename_i ts hq
      obtain ⟨c, q3, e⟩ := Option.map_eq_some_iff.mp e
      cases e
      obtain ⟨d, de, z1, z2, z3, z4, rfl⟩ := eqT_some q3
      obtain ⟨p', g1, g2, vs, g3, g4⟩ := S1.own i _ hq
      rw [h1] at g1
      cases g1
      refine hr _ _ _ _ ⟨d, de, ?_, (r1.mono (hid_ext H1 O1)).dp z2, z3, z4, k _ H1 O1 n1 S1 (.bl _)⟩
      unfold toD at z1
      obtain ⟨l, z5, z6⟩ := Option.map_eq_some_iff.mp z1
      cases z6
      exact .lst (.of g3) ((g4.mono (hid_ext H1 O1)).dp z5)
    · cases e
  · cases e
theorem ev_pkNe (hu : X.A.units + 64 < cLine) (hx : PE X (.Name x pos') (tVar i)) (hb : EV X b fb) (hm : behindInMarks .NotEq b = false) : EV X (.Compare (.Name x pos') [.NotEq] [b] pos) (ePkCmp true i fb) :=
  pe_mono (pe_cmpR (op_neD hu) hx hb hm) fun σ H Q h => pkCmp_pure (fun x y H Q ⟨d, e, h1, h2, h3, h4, h5⟩ => ⟨d, e, h1, h2, h3, h4, h5⟩) h
theorem ev_pkEq (hu : X.A.units + 64 < cLine) (hx : PE X (.Name x pos') (tVar i)) (hb : EV X b fb) (hm : behindInMarks .Eq b = false) : EV X (.Compare (.Name x pos') [.Eq] [b] pos) (ePkCmp false i fb) :=
  pe_mono (pe_cmpR (op_eqD hu) hx hb hm) fun σ H Q h => pkCmp_pure (fun x y H Q ⟨d, e, h1, h2, h3, h4, h5⟩ => ⟨d, e, h1, h2, h3, h4, h5⟩) h
theorem tv_pkNe (hu : X.A.units + 64 < cLine) (hx : PE X (.Name x pos') (tVar i)) (hb : EV X b fb) (hm : behindInMarks .NotEq b = false) : TV X (.Compare (.Name x pos') [.NotEq] [b] pos) (tB1 (ePkCmp true i fb)) :=
  pt_mono (pt_cmpR (op_neD hu) hx hb hm) fun σ H Q ⟨O, env, c, env', S, e, k⟩ => pkCmp_pure (Q := fun x H' => ∃ k, x = .bl k ∧ Q k H') (fun x y H Q ⟨d, e, h1, h2, h3, h4, h5⟩ => ⟨d, e, h1, h2, h3, h4, h5⟩) ⟨O, env, .bl c, env', S, tB1_some e, fun v H1 O1 n1 S1 r1 => ⟨c, r1.inv_bl, k H1 O1 n1 S1⟩⟩
theorem tv_pkEq (hu : X.A.units + 64 < cLine) (hx : PE X (.Name x pos') (tVar i)) (hb : EV X b fb) (hm : behindInMarks .Eq b = false) : TV X (.Compare (.Name x pos') [.Eq] [b] pos) (tB1 (ePkCmp false i fb)) :=
  pt_mono (pt_cmpR (op_eqD hu) hx hb hm) fun σ H Q ⟨O, env, c, env', S, e, k⟩ => pkCmp_pure (Q := fun x H' => ∃ k, x = .bl k ∧ Q k H') (fun x y H Q ⟨d, e, h1, h2, h3, h4, h5⟩ => ⟨d, e, h1, h2, h3, h4, h5⟩) ⟨O, env, .bl c, env', S, tB1_some e, fun v H1 O1 n1 S1 r1 => ⟨c, r1.inv_bl, k H1 O1 n1 S1⟩⟩

/-! ### changes -/
/-- xs[k] = e -/
@[simp] def sStore (i : Nat) (fe fk : EF) : SF := fun env => (fe env).bind fun p => if hasC p.2 i then (fk p.2).bind fun q => match q.2[i]?.bind Sl.cont, q.1 with
  | some (.lst ts), .int k => (ixN ts.length k).map fun j => (.nx, setCont q.2 i (.lst (ts.set j p.1)))
  | _, _ => none else none
theorem Nx.setCont_ok {K : PySem.W.Frag} {H : Hp} {O : List Addr} {σ : L2.St} {env : Sls} {t t' : T} {p : Addr} {o : HO} (S : RepS K H O σ env) (hi : env[i]?.bind Sl.cont = some t) (hs : σ[i]? = some (some (.ref p))) (r : RepO K (hid H O) (upd H p o) p t') :
    Nx σ env H O σ (setCont env i t') (upd H p o) O ∧ RepS K (upd H p o) O σ (setCont env i t') := by
  unfold setCont
  cases hx : env[i]? with
  | none => rw [hx] at hi; cases hi
  | some s =>
    cases s with
    | un => rw [hx] at hi; cases hi
    | val _ => rw [hx] at hi; cases hi
    | own u =>
      have hi' := hi
      rw [hx] at hi'
      cases hi'
      exact S.change hi hs r (.inl ⟨hx, rfl⟩)
    | io u =>
      have hi' := hi
      rw [hx] at hi'
      cases hi'
      exact S.change hi hs r (.inr ⟨hx, rfl⟩)
theorem sv_store {tpos : Pos} (hx : PE X (.Name x pos') (tVar i)) (he : EV X e fa) (hk : EV X b fb) (ha : ∀ v, assign (.Subscript (.Name x pos') b tpos) X.env v = (do
      let ov ← holding [v] (eval (.Name x pos') X.env)
      let iv ← holding [v, ov] (eval b X.env)
      standAt tpos
      holding [v, ov, iv] (setItem ov iv v)
      release [v, ov, iv] []) := by intro _; rfl) (hs : swapsWithSole [.Subscript (.Name x pos') b tpos] e pos.line X.env = pure false := by rfl) (hw : swappedStores [.Subscript (.Name x pos') b tpos] e X.env = pure none := by rfl)
    (h1 : (assignEach [.Subscript (.Name x pos') b tpos] X.env).map (·.2) = [assign (.Subscript (.Name x pos') b tpos) X.env] := by rfl) : SV X (.Assign [.Subscript (.Name x pos') b tpos] e pos) (sStore i fa fb) :=
  ps_mono (ps_asg he (pg_sub hx hk set_list ha) hs hw h1) fun D σ H ⟨O, env, fl, env', S, e, k⟩ => by
    unfold sStore at e
    obtain ⟨⟨t, e1⟩, q1, e⟩ := Option.bind_eq_some_iff.mp e
    refine ⟨O, env, t, e1, S, q1, fun v H1 O1 n1 S1 r1 => ?_⟩
    split at e
    · rename_i hc
      unfold hasC at hc
      obtain ⟨t0, hc⟩ := Option.isSome_iff_exists.mp hc
      obtain ⟨p, h1, _, _⟩ := S1.own i t0 hc
      obtain ⟨⟨kt, e2⟩, q2, e⟩ := Option.bind_eq_some_iff.mp e
      refine ⟨_, h1, O1, e1, kt, e2, S1, q2, fun kv H2 O2 n2 S2 r2 => ?_⟩
      split at e
      · rename_i ts kk hq hk
        obtain ⟨j, q3, e⟩ := Option.map_eq_some_iff.mp e
        cases e
        have hk : kt = .int kk := hk
        subst hk
        obtain ⟨p', g1, g2, vs, g3, g4⟩ := S2.own i _ hq
        rw [h1] at g1
        cases g1
        refine ⟨p, vs, kk, j, rfl, r2.inv_int, g3, by rw [g4.length]; exact q3, ?_⟩
        obtain ⟨n3, S3⟩ := Nx.setCont_ok (o := .lst (vs.set j v)) (t' := .lst (ts.set j t)) S2 hq h1 ⟨_, upd_same, g4.set (r1.mono (S1.grow n2)) j⟩
        exact k σ _ O2 ((n1.trans n2).trans n3) S3
      · cases e
    · cases e
/-- xs.append(e) -/
@[simp] def hasL (env : Sls) (i : Nat) : Bool := match env[i]?.bind Sl.cont with
  | some (.lst _) => true
  | _ => false
theorem hasL_of {env : Sls} {i : Nat} (h : hasL env i = true) : ∃ ts, env[i]?.bind Sl.cont = some (.lst ts) := by
  unfold hasL at h
  split at h
  · exact ⟨_, by assumption⟩
  · cases h
@[simp] def sApp (i : Nat) (fe : EF) : SF := fun env => if hasL env i then (fe env).bind fun p => match p.2[i]?.bind Sl.cont with
  | some (.lst ts) => if ts.length < 100000 then some (.nx, setCont p.2 i (.lst (ts ++ [p.1]))) else none
  | _ => none else none
theorem app_pure {K : PySem.W.Frag} {σ : L2.St} {H : Hp} {D : Ends} (h : tS K (sApp i fa) D σ H) : tDrop (tBM K "list" rAppend (tVar i) (tCons (tV K fa) tNil)) D σ H := by
  obtain ⟨O, env, fl, env', S, e, k⟩ := h
  unfold sApp at e
  split at e
  · rename_i hc
    obtain ⟨t0, hc⟩ := hasL_of hc
    obtain ⟨p, h1, _, vs0, g0, _⟩ := S.own i _ hc
    obtain ⟨⟨t, e1⟩, q1, e⟩ := Option.bind_eq_some_iff.mp e
    split at e
    · rename_i ts hq
      split at e
      · rename_i hl
        cases e
        refine ⟨_, h1, .inl ⟨rfl, vs0, .of g0⟩, O, env, t, e1, S, q1, fun v H1 O1 n1 S1 r1 => ?_⟩
        obtain ⟨p', g1, g2, vs, g3, g4⟩ := S1.own i _ hq
        rw [h1] at g1
        cases g1
        refine ⟨p, vs, v, rfl, rfl, g3, by rw [g4.length, sizeLine_eq]; omega, ?_⟩
        obtain ⟨n3, S3⟩ := Nx.setCont_ok (o := .lst (vs ++ [v])) (t' := .lst (ts ++ [t])) S1 hq h1 ⟨_, upd_same, g4.append (.cons r1 .nil)⟩
        exact k σ _ O1 (n1.trans n3) S3
      · cases e
    · cases e
  · cases e
theorem sv_app {apos cpos : Pos} (hx : PE X (.Name x pos') (tVar i)) (he : EV X e fa)
    (hbase : attributeBase (.Name x pos') "append" X.env (eval (.Name x pos') X.env) = eval (.Name x pos') X.env := by rfl)
    (hfew : ((backTo cpos (starEach [e] X.env)).all (fun x => !x.1) && (backToKw cpos (keywordEach [] X.env)).all (fun x => x.1.isSome)
      && decide ([e].length + ([] : List Keyword).length + (if ([] : List Keyword).isEmpty then 0 else 1) < 30)) = true := by rfl)
    (hline : (apos.endLine == cpos.line) = true := by rfl) (hs : starEach [e] X.env = (false, eval e X.env) :: starEach [] X.env := by rfl) (hplain : (backTo cpos (starEach [] X.env)).any (·.1) = false := by rfl)
    (hsw : swapsWith (.Call (.Attribute (.Name x pos') "append" apos) [e] [] cpos) none pos.line X.env = pure false := by rfl) : SV X (.Expr (.Call (.Attribute (.Name x pos') "append" apos) [e] [] cpos) pos) (sApp i fa) :=
  ps_mono (ps_expr (pe_bm PySem.F.plainAttrs_list PySem.F.slot_list_append PySem.F.type_list_append mt_append hx (pa_cons he pa_nil hs) hbase hfew hline hs hplain) hsw) fun D σ H h => app_pure h
/-- xs.pop() as a statement -/
def sPop (i : Nat) : SF := fun env => match env[i]?.bind Sl.cont with
  | some (.lst ts) => if ts = [] then none else some (.nx, setCont env i (.lst ts.dropLast))
  | _ => none
theorem Reps.dropLast {K : PySem.W.Frag} {G : Hp} {vs : List V} {ts : List T} (r : Reps K G vs ts) : Reps K G vs.dropLast ts.dropLast := by
  rw [List.dropLast_eq_take, List.dropLast_eq_take, r.length]
  exact r.take _
end

/-! ### calls with keywords -/
@[simp] def xKw (g : {α : Type} → List α → List α → List α) (fx fk : XF) : XF := fun env => (fx env).bind fun p => (fk p.2).map fun q => (g p.1 q.1, q.2)
theorem arOk_grow {K : PySem.W.Frag} {G G' : Hp} {σ : L2.St} (x : Ext G G') {vs : List V} {as : List Ar} (h : Paired (ArOk K G σ) vs as) : Paired (ArOk K G' σ) vs as := paired_mono (fun _ _ r => r.mono x) h
section
variable {X : Cx} {k n np : Nat} {f : Addr} {fd : FuncData} {ps ks : List Str} {m : MF} {x : Str} {p pos : Pos} {e : Expr} {es : List Expr} {kws : List Keyword} {fx fk : XF} {g : {α : Type} → List α → List α → List α} {gs : List Value → List Value → List Value}
theorem pe_callN0 {CX : CXT} {sp : Sp} {E : XK} {tk : TA} {gV : List V → List V → List V} (F : FnOk X.prog X.w X.K X.mg X.base CX k f fd ps sp) (hr : Room k X.A) (hg : Gl X x) (hm : X.mg x = some (.ref f)) (hk : PySem.W.keepIn X.K (.ref f) = true) (hb : KBn X.K fd ps 0 ks gs gV) (hx : Passes CX X E)
    (hkw : PK X kws tk) (hall : (backToKw pos (keywordEach kws X.env)).all (·.1.isSome) = true := by rfl) (hks : (backToKw pos (keywordEach kws X.env)).filterMap (·.1) = ks := by rfl)
    (hdb : (x == ("__debug__" : Str)) = false := by decide)
    (hpl : ((backTo pos (starEach [] X.env)).any (·.1) || (backToKw pos (keywordEach kws X.env)).any (·.1.isNone)) = false := by rfl) :
    PE X (.Call (.Name x p) [] kws pos) (tCallN 0 ks.length sp gV E tNil tk) := by
  refine ⟨fun pins s σ H Q I h => ?_⟩
  refine wpAny_Call_Name_kw (ld_glob I hg hm ?_ hdb)
  refine PySem.W.callWith_KW0 (h₀ := X.base) I.ok.mod.kin hk hall ?_ hpl
  refine thn (hkw.run pos pins s σ H _ I h) fun ws s2 ⟨zs, H2, I2, rz, l1, l2, q2⟩ => ⟨I2.kIn, ?_⟩
  rw [hks]
  exact run_fnN (vs := []) (us := []) F hr hb hx I2 .nil rz l1 l2 q2
/-- f(.., k = v, ..) -/
theorem ev_callK (F : FnOk X.prog X.w X.K X.mg X.base CX0 k f fd ps (spF X.K n m)) (hr : Room k X.A) (hg : Gl X x) (hm : X.mg x = some (.ref f)) (hk : PySem.W.keepIn X.K (.ref f) = true) (hb : KBn X.K fd ps np ks gs (fun vs zs => g vs zs))
    (hrel : ∀ {R : V → Ar → Prop} {vs zs : List V} {as bs : List Ar}, vs.length = np → zs.length = ks.length → Paired R vs as → Paired R zs bs → Paired R (g vs zs) (g as bs) ∧ (g vs zs).length = n)
    (ha : XA X (e :: es) fx) (hkw : XKw X kws fk) (hlx : ∀ env as env', fx env = some (as, env') → as.length = np) (hlk : ∀ env as env', fk env = some (as, env') → as.length = ks.length)
    (hall : (backToKw pos (keywordEach kws X.env)).all (·.1.isSome) = true := by rfl) (hks : (backToKw pos (keywordEach kws X.env)).filterMap (·.1) = ks := by rfl)
    (hdb : (x == ("__debug__" : Str)) = false := by decide) (he : starEach (e :: es) X.env = (false, eval e X.env) :: starEach es X.env := by rfl)
    (hpl : ((backTo pos (starEach (e :: es) X.env)).any (·.1) || (backToKw pos (keywordEach kws X.env)).any (·.1.isNone)) = false := by rfl) :
    EV X (.Call (.Name x p) (e :: es) kws pos) (eCall m (xKw g fx fk)) :=
  pe_mono (pe_callN F hr hg hm hk hb (E := E0) pass0 ha hkw hall hks hdb he hpl) fun σ H Q ⟨O, env, t, env', S, e, kk⟩ => by
    unfold eCall xKw at e
    obtain ⟨⟨as, e1⟩, q1, e⟩ := Option.bind_eq_some_iff.mp e
    obtain ⟨⟨as0, e0⟩, q0, q1⟩ := Option.bind_eq_some_iff.mp q1
    obtain ⟨⟨bs0, e2⟩, q2, q1⟩ := Option.map_eq_some_iff.mp q1
    cases q1
    refine ⟨O, env, as0, _, S, q0, fun vs H1 O1 n1 S1 pr => ⟨O1, e0, bs0, _, S1, q2, fun zs H2 O2 n2 S2 pz => ?_⟩⟩
    have l1 : vs.length = np := (Paired.length pr).trans (hlx _ _ _ q0)
    have l2 : zs.length = ks.length := (Paired.length pz).trans (hlk _ _ _ q2)
    obtain ⟨hp, hn⟩ := hrel l1 l2 (arOk_grow (S1.grow n2) pr) pz
    exact ⟨l1, l2, call_pure S2 hp hn e (fun v H3 O3 n3 S3 r3 => kk v H3 O3 ((n1.trans n2).trans n3) S3 r3) _⟩
theorem ev_callK0 (F : FnOk X.prog X.w X.K X.mg X.base CX0 k f fd ps (spF X.K n m)) (hr : Room k X.A) (hg : Gl X x) (hm : X.mg x = some (.ref f)) (hk : PySem.W.keepIn X.K (.ref f) = true) (hb : KBn X.K fd ps 0 ks gs (fun vs zs => g vs zs))
    (hrel : ∀ {R : V → Ar → Prop} {vs zs : List V} {as bs : List Ar}, vs.length = 0 → zs.length = ks.length → Paired R vs as → Paired R zs bs → Paired R (g vs zs) (g as bs) ∧ (g vs zs).length = n)
    (hkw : XKw X kws fk) (hlk : ∀ env as env', fk env = some (as, env') → as.length = ks.length)
    (hall : (backToKw pos (keywordEach kws X.env)).all (·.1.isSome) = true := by rfl) (hks : (backToKw pos (keywordEach kws X.env)).filterMap (·.1) = ks := by rfl)
    (hdb : (x == ("__debug__" : Str)) = false := by decide)
    (hpl : ((backTo pos (starEach [] X.env)).any (·.1) || (backToKw pos (keywordEach kws X.env)).any (·.1.isNone)) = false := by rfl) :
    EV X (.Call (.Name x p) [] kws pos) (eCall m (xKw g xN fk)) :=
  pe_mono (pe_callN0 F hr hg hm hk hb (E := E0) pass0 hkw hall hks hdb hpl) fun σ H Q ⟨O, env, t, env', S, e, kk⟩ => by
    unfold eCall xKw at e
    obtain ⟨⟨as, e1⟩, q1, e⟩ := Option.bind_eq_some_iff.mp e
    obtain ⟨⟨as0, e0⟩, q0, q1⟩ := Option.bind_eq_some_iff.mp q1
    obtain ⟨⟨bs0, e2⟩, q2, q1⟩ := Option.map_eq_some_iff.mp q1
    cases q1
    cases q0
    refine ⟨O, env, bs0, _, S, q2, fun zs H2 O2 n2 S2 pz => ?_⟩
    have l2 : zs.length = ks.length := (Paired.length pz).trans (hlk _ _ _ q2)
    obtain ⟨hp, hn⟩ := hrel (vs := []) (as := []) rfl l2 .nil pz
    exact ⟨rfl, l2, call_pure S2 hp hn e (fun v H3 O3 n3 S3 r3 => kk v H3 O3 (n2.trans n3) S3 r3) _⟩
end
/-- how keywords bind -/
theorem fun_kbn {K : PySem.W.Frag} {x qual : Str} {st : Stmt} {f : Addr} {fd : FuncData} {ps ks : List Str} {np : Nat} {g : {α : Type} → List α → List α → List α} (F : Fun K x qual st f fd)
    (hrel : ∀ {vs : List V} {us : List Value} {zs : List V} {ws : List Value}, Vals vs us → Vals zs ws → Vals (g vs zs) (g us ws))
    (h : ∀ (kV doc pm : Value) (an : Option Addr) (cdv ct : Value) (us ws : List Value), us.length = np → ws.length = ks.length → bindArgs (PySem.W.fnOf x qual (defArgs st) (defBody st) (defScope st) .none kV doc pm an cdv ct) ⟨us, ks.zip ws⟩ = pure (ps.zip (g us ws))) :
    KBn K fd ps np ks (fun us ws => g us ws) (fun vs zs => g vs zs) := by
  obtain ⟨oc, od, kV, doc, pm, an, cdv, ct, osl, rfl, lk, hcd⟩ := F.ex
  exact ⟨fun s us ws _ l1 l2 => .of_eq (h kV doc pm an cdv ct us ws l1 l2), fun r1 r2 => hrel r1 r2⟩

/-! ### a def by its body -/
/-- what of a caller's list stands behind -/
@[simp] def back1 (e : Sls) (i : Nat) : Sl → Sl
  | .io t => match e[i]? with
    | some (.io t') => .io t'
    | _ => .io t
  | s => s
@[simp] def backSi (e : Sls) : Nat → Sls → Sls
  | _, [] => []
  | i, s :: r => back1 e i s :: backSi e (i + 1) r
abbrev backS (l e : Sls) : Sls := backSi e 0 l
@[simp] def runF (nl : Nat) (g : SF) : MF := fun sls => (g (sls ++ List.replicate (nl - sls.length) .un)).bind fun q => match q.1 with
  | .ret t => some (t, backS sls q.2)
  | .nx => some (.non, backS sls q.2)
  | _ => none
theorem backSi_len {e : Sls} : ∀ {l : Sls} {i : Nat}, (backSi e i l).length = l.length
  | [], _ => rfl
  | s :: r, i => by unfold backSi; simp [backSi_len]
theorem backSi_get {e : Sls} : ∀ {l : Sls} {i j : Nat}, (backSi e i l)[j]? = l[j]?.map (back1 e (i + j))
  | [], _, _ => by simp [backSi]
  | s :: r, i, 0 => by simp [backSi]
  | s :: r, i, j + 1 => by
    have ih := backSi_get (e := e) (l := r) (i := i + 1) (j := j)
    unfold backSi
    rw [List.getElem?_cons_succ, List.getElem?_cons_succ, ih, show i + 1 + j = i + (j + 1) by omega]
theorem run_pure {K : PySem.W.Frag} {n nl : Nat} {N : List Str} {g : SF} {m : MF} (hN : N.length = nl) (hle : n ≤ nl) (hm : ∀ sls r, sls.length = n → m sls = some r → runF nl g sls = some r) (vs : List V) (H : Hp) (Q : VK) (E : XK) (h : spF K n m vs H Q E) :
    tS K g { nx := fun _ H' => Q .non H', rt := Q } (L2.start N vs) H := by
  obtain ⟨O, sls, t, sls', hn, hno, S, e, k⟩ := h
  have hsl : sls.length = n := by rw [S.len, List.length_map, hn]
  have e := hm sls _ hsl e
  unfold runF at e
  obtain ⟨⟨fl, envf⟩, q1, e⟩ := Option.bind_eq_some_iff.mp e
  have hlen : (sls ++ List.replicate (nl - sls.length) Sl.un).length = nl := by rw [List.length_append, List.length_replicate]; omega
  have stl : (L2.start N vs).length = nl := by unfold L2.start; rw [List.length_append, List.length_map, List.length_replicate]; omega
  -- a slot that holds something is an argument's
  have at1 : ∀ (i : Nat) (s : Sl), (sls ++ List.replicate (nl - sls.length) Sl.un)[i]? = some s → s ≠ .un → sls[i]? = some s ∧ i < n := fun i s h1 h2 => by
    by_cases hi : i < sls.length
    · rw [List.getElem?_append_left hi] at h1
      exact ⟨h1, by omega⟩
    · rw [List.getElem?_append_right (by omega), List.getElem?_replicate] at h1
      split at h1
      · exact (h2 (Option.some.inj h1).symm).elim
      · cases h1
  have sat : ∀ (i : Nat), i < n → (L2.start N vs)[i]? = (vs.map some)[i]? := fun i hi => by
    unfold L2.start
    rw [List.getElem?_append_left (by rw [List.length_map]; omega)]
  have cat : ∀ (i : Nat) (u : T), (sls ++ List.replicate (nl - sls.length) Sl.un)[i]?.bind Sl.cont = some u → sls[i]?.bind Sl.cont = some u ∧ i < n := fun i u h => by
    cases hx : (sls ++ List.replicate (nl - sls.length) Sl.un)[i]? with
    | none => rw [hx] at h; cases h
    | some s =>
      rw [hx] at h
      obtain ⟨h1, h2⟩ := at1 i s hx (by intro z; subst z; cases h)
      exact ⟨by rw [h1]; exact h, h2⟩
  have S0 : RepS K H O (L2.start N vs) (sls ++ List.replicate (nl - sls.length) .un) := by
    refine ⟨by rw [hlen, stl], S.dom, fun i u h => ?_, fun i u h => ?_, fun i j u w p h1 h2 h3 h4 => ?_⟩
    · obtain ⟨h1, h2⟩ := at1 i _ h (by intro z; cases z)
      rw [sat i h2]
      exact S.val i u h1
    · obtain ⟨h1, h2⟩ := cat i u h
      rw [sat i h2]
      exact S.own i u h1
    · obtain ⟨g1, g2⟩ := cat i u h1
      obtain ⟨g3, g4⟩ := cat j w h2
      rw [sat i g2] at h3
      rw [sat j g4] at h4
      exact S.inj i j u w p g1 g3 h3 h4
  refine ⟨O, _, fl, envf, S0, q1, fun σ' H' O' n' S' => ?_⟩
  have o0 : ∀ a, Owns (L2.start N vs) (sls ++ List.replicate (nl - sls.length) Sl.un) a → Owns (vs.map some) sls a := fun a ⟨i, u, h1, h2⟩ => by
    obtain ⟨g1, g2⟩ := cat i u h1
    rw [sat i g2] at h2
    exact ⟨i, u, g1, h2⟩
  -- a caller's list stands in its slot
  have ioat : ∀ (i : Nat) (u : T), sls[i]? = some (.io u) → ∃ u', envf[i]? = some (.io u') ∧ σ'[i]? = (vs.map some)[i]? ∧ (backS sls envf)[i]? = some (.io u') := fun i u h => by
    have hi : i < sls.length := (List.getElem?_eq_some_iff.mp h).1
    obtain ⟨⟨u', h1⟩, h2⟩ := n'.io i u (by rw [List.getElem?_append_left hi]; exact h)
    refine ⟨u', h1, by rw [h2, sat i (by omega)], ?_⟩
    rw [backSi_get, h]
    simp [back1, h1]
  have bk : ∀ (i : Nat) (s : Sl), (backS sls envf)[i]? = some s → (∃ u u', sls[i]? = some (.io u) ∧ s = .io u' ∧ envf[i]? = some (.io u')) ∨ (sls[i]? = some s ∧ isIo (some s) = false) := fun i s h => by
    rw [backSi_get] at h
    obtain ⟨s0, h1, h2⟩ := Option.map_eq_some_iff.mp h
    cases s0 with
    | io u =>
      obtain ⟨u', g1, _, g3⟩ := ioat i u h1
      rw [backSi_get, h1] at g3
      rw [Option.map_some] at g3
      rw [h2] at g3
      cases g3
      exact .inl ⟨u, u', h1, rfl, g1⟩
    | un => subst h2; exact .inr ⟨h1, rfl⟩
    | val _ => subst h2; exact .inr ⟨h1, rfl⟩
    | own _ => subst h2; exact .inr ⟨h1, rfl⟩
  -- no slot of the arguments is an own one of the callee's making
  have fin : ∀ v, Rep K (hid H' O') v t → (backS sls envf) = sls' → noOwn sls → Q v H' := fun v rv hs hno => by
    subst hs
    have bc : ∀ (i : Nat) (u : T), (backS sls envf)[i]?.bind Sl.cont = some u → ∃ u0, sls[i]? = some (.io u0) ∧ envf[i]? = some (.io u) ∧ σ'[i]? = (vs.map some)[i]? := fun i u h => by
      cases hx : (backS sls envf)[i]? with
      | none => rw [hx] at h; cases h
      | some s =>
        rw [hx] at h
        rcases bk i s hx with ⟨u0, u', g1, rfl, g2⟩ | ⟨g1, g2⟩
        · cases h
          obtain ⟨_, _, g4, _⟩ := ioat i u0 g1
          exact ⟨u0, g1, g2, g4⟩
        · cases s with
          | own w => exact (hno i w g1).elim
          | io w => cases g2
          | un => cases h
          | val _ => cases h
    have ob : ∀ a, Owns (vs.map some) (backS sls envf) a → Owns (vs.map some) sls a := fun a ⟨i, u, h1, h2⟩ => by
      obtain ⟨u0, g1, _, _⟩ := bc i u h1
      exact ⟨i, u0, by rw [g1]; rfl, h2⟩
    have n2 : Nx (vs.map some) sls H O (vs.map some) (backS sls envf) H' O' := by
      refine ⟨fun a o e1 h => n'.fr a o e1 fun q => h (o0 a q), n'.dom, n'.sub, fun a h => ?_, fun a h => .inl (ob a h), fun i u h => ?_, fun i u h => ?_⟩
      · rcases n'.sup a h with q | q | q
        · exact .inl q
        · exact .inr (.inl (o0 a q))
        · exact .inr (.inr q)
      · obtain ⟨u', _, _, g⟩ := ioat i u h
        exact ⟨⟨u', g⟩, rfl⟩
      · rcases bk i _ h with ⟨u0, u', g1, _, _⟩ | ⟨_, g⟩
        · exact ⟨u0, g1⟩
        · cases g
    have gx : Ext (hid H O) (hid H' O') := S0.grow n'
    refine k v H' O' n2 ⟨by rw [backSi_len]; exact S.len, S'.dom, fun i u h => ?_, fun i u h => ?_, fun i j u w p h1 h2 h3 h4 => ?_⟩ rv
    · rcases bk i _ h with ⟨_, _, _, g, _⟩ | ⟨g1, _⟩
      · cases g
      · obtain ⟨w, z1, z2⟩ := S.val i u g1
        exact ⟨w, z1, z2.mono gx⟩
    · obtain ⟨u0, g1, g2, g3⟩ := bc i u h
      obtain ⟨p, z1, z2, z3⟩ := S'.own i u (by rw [g2]; rfl)
      rw [g3] at z1
      exact ⟨p, z1, z2, z3⟩
    · obtain ⟨u0, g1, g2, g3⟩ := bc i u h1
      obtain ⟨w0, z1, z2, z3⟩ := bc j w h2
      exact S.inj i j u0 w0 p (by rw [g1]; rfl) (by rw [z1]; rfl) h3 h4
  cases fl with
  | nx =>
    cases e
    exact fin .non .non rfl hno
  | ret t' =>
    intro v rv
    cases e
    exact fin v rv rfl hno
  | bk => cases e
  | ct => cases e
end Fx

/-! Fx 7: the operators and the built-ins on trees. -/
namespace Fx
open PySem PySem.Spec PyProof.Rows L2

/-! ### ints -/
@[simp] def gI (f : Int → Int → Option T) : Fx.O2 := fun a b => match a, b with
  | .int i, .int j => f i j
  | _, _ => none
theorem gI_some {f : Int → Int → Option T} {a b c : T} (h : gI f a b = some c) : ∃ i j, a = .int i ∧ b = .int j ∧ f i j = some c := by
  unfold gI at h
  split at h
  · exact ⟨_, _, rfl, rfl, h⟩
  · cases h
theorem opT_I {X : Cx} {f : Value → Value → Sem Value} {C : Int → Int → Prop} {v : Int → Int → V} {g : Int → Int → Option T} (h : OpR X f (rI C v)) (hg : ∀ i j c, g i j = some c → C i j ∧ ∀ G, Rep X.K G (v i j) c) : OpT X f (gI g) :=
  OpR.mono h fun x y H Q ⟨O, a, b, c, d, ra, rb, e, k⟩ => by
    obtain ⟨i, j, rfl, rfl, e⟩ := gI_some e
    obtain ⟨h1, h2⟩ := hg i j c e
    exact ⟨i, j, ra.inv_int, rb.inv_int, h1, k _ H (.refl _) (h2 _)⟩
theorem opT_I0 {X : Cx} {f : Value → Value → Sem Value} {v : Int → Int → V} {g : Int → Int → Option T} (h : OpR X f (rI0 v)) (hg : ∀ i j c, g i j = some c → ∀ G, Rep X.K G (v i j) c) : OpT X f (gI g) :=
  OpR.mono h fun x y H Q ⟨O, a, b, c, d, ra, rb, e, k⟩ => by
    obtain ⟨i, j, rfl, rfl, e⟩ := gI_some e
    exact ⟨i, j, ra.inv_int, rb.inv_int, k _ H (.refl _) (hg i j c e _)⟩
def MulOk (i j : Int) : Prop := CMulW i j ∨ CMul i j
instance : Decidable (MulOk i j) := by unfold MulOk CMulW CMul; infer_instance
def PowOk (i j : Int) : Prop := CPow i j
instance : Decidable (PowOk i j) := by unfold PowOk CPow; infer_instance
def DivOk (j : Int) : Prop := j ≠ 0 ∧ j.natAbs.log2 < 9000
instance : Decidable (DivOk j) := by unfold DivOk; infer_instance
@[simp] abbrev iAdd : Fx.O2 := gI fun i j => some (.int (i + j))
@[simp] abbrev iSub : Fx.O2 := gI fun i j => some (.int (i - j))
@[simp] abbrev iMul : Fx.O2 := gI fun i j => if MulOk i j then some (.int (i * j)) else none
@[simp] abbrev iDiv : Fx.O2 := gI fun i j => if DivOk j then some (.int (i.fdiv j)) else none
@[simp] abbrev iMod : Fx.O2 := gI fun i j => if j ≠ 0 then some (.int (i.fmod j)) else none
@[simp] abbrev iPow : Fx.O2 := gI fun i j => if PowOk i j then some (.int (i ^ j.toNat)) else none
@[simp] abbrev iCmp (p : Int → Int → Bool) : Fx.O2 := gI fun i j => some (.bl (p i j))
section
variable {X : Cx}
theorem ot_iAdd : OpT X (binaryOp .Add) iAdd := opT_I0 op_add fun i j c h G => by cases h; exact .int _
theorem ot_iSub : OpT X (binaryOp .Sub) iSub := opT_I0 op_sub fun i j c h G => by cases h; exact .int _
theorem ot_iMul : OpT X (binaryOp .Mult) iMul :=
  OpR.mono (L2.OpR.or op_mulW op_mul) fun x y H Q ⟨O, a, b, c, d, ra, rb, e, k⟩ => by
    obtain ⟨i, j, rfl, rfl, e⟩ := gI_some e
    have e : (if MulOk i j then some (T.int (i * j)) else none) = some c := e
    split at e
    · rename_i h
      cases e
      rcases h with h | h
      · exact .inl ⟨i, j, ra.inv_int, rb.inv_int, h, k _ H (.refl _) (.int _)⟩
      · exact .inr ⟨i, j, ra.inv_int, rb.inv_int, h, k _ H (.refl _) (.int _)⟩
    · cases e
theorem op_fdivA : OpR X (binaryOp .FloorDiv) (rI (fun _ j => DivOk j) fun i j => .int (i.fdiv j)) := opI fun i j _ _ _ _ _ hc q => floordiv_int hc.1 q (.inl (PyProof.noPylong_of_log2 hc.2))
theorem ot_iDiv : OpT X (binaryOp .FloorDiv) iDiv := opT_I op_fdivA fun i j c h => by
  split at h
  · rename_i q
    cases h
    exact ⟨q, fun G => .int _⟩
  · cases h
theorem ot_iMod : OpT X (binaryOp .Mod) iMod := opT_I op_modN fun i j c h => by
  split at h
  · rename_i q
    cases h
    exact ⟨q, fun G => .int _⟩
  · cases h
theorem ot_iPow : OpT X (binaryOp .Pow) iPow := opT_I op_pow fun i j c h => by
  split at h
  · rename_i q
    cases h
    exact ⟨q, fun G => .int _⟩
  · cases h
theorem ot_iLt : OpT X (compareOp .Lt) (iCmp fun i j => decide (i < j)) := opT_I0 op_lt fun i j c h G => by cases h; exact .bl _
theorem ot_iLe : OpT X (compareOp .LtE) (iCmp fun i j => decide (i ≤ j)) := opT_I0 op_le fun i j c h G => by cases h; exact .bl _
theorem ot_iGt : OpT X (compareOp .Gt) (iCmp fun i j => decide (j < i)) := opT_I0 op_gt fun i j c h G => by cases h; exact .bl _
theorem ot_iGe : OpT X (compareOp .GtE) (iCmp fun i j => decide (j ≤ i)) := opT_I0 op_ge fun i j c h G => by cases h; exact .bl _
@[simp] def nNeg : O1' := fun a => match a with
  | .int i => some (.int (-i))
  | _ => none
theorem ut_neg : UnT X (unaryOp .USub) nNeg := UnR.mono un_neg fun x H Q ⟨O, a, c, d, ra, e, k⟩ => by
  cases a with
  | int i =>
    cases e
    exact ⟨i, ra.inv_int, k _ H (.refl _) (.int _)⟩
  | _ => cases e
/-! ### == -/
@[simp] def qEq : Fx.O2 := fun a b => (eqT a b).map .bl
@[simp] def qNe : Fx.O2 := fun a b => (eqT a b).map fun c => .bl (!c)
theorem ot_eq (hu : X.A.units + 64 < cLine) : OpT X (compareOp .Eq) qEq := OpR.mono (op_eqD hu) fun x y H Q ⟨O, a, b, c, d, ra, rb, e, k⟩ => by
  obtain ⟨z, q, e⟩ := Option.map_eq_some_iff.mp e
  obtain ⟨p, r, h1, h2, h3, h4, rfl⟩ := eqT_some q
  cases e
  exact ⟨p, r, (ra.mono (hid_ext H O)).dp h1, (rb.mono (hid_ext H O)).dp h2, h3, h4, k _ H (.refl _) (.bl _)⟩
theorem ot_ne (hu : X.A.units + 64 < cLine) : OpT X (compareOp .NotEq) qNe := OpR.mono (op_neD hu) fun x y H Q ⟨O, a, b, c, d, ra, rb, e, k⟩ => by
  obtain ⟨z, q, e⟩ := Option.map_eq_some_iff.mp e
  obtain ⟨p, r, h1, h2, h3, h4, rfl⟩ := eqT_some q
  cases e
  exact ⟨p, r, (ra.mono (hid_ext H O)).dp h1, (rb.mono (hid_ext H O)).dp h2, h3, h4, k _ H (.refl _) (.bl _)⟩
/-! ### is -/
@[simp] def isNon : T → Bool
  | .non => true
  | _ => false
theorem isNon_ok {K : PySem.W.Frag} {G : Hp} {v : V} {t : T} (r : Rep K G v t) : decide (v = .non) = isNon t := by
  cases r <;> simp [isNon]
@[simp] def qIs : Fx.O2 := fun a b => match a, b with
  | .bl a, .bl b => some (.bl (a == b))
  | a, .non => some (.bl (isNon a))
  | _, _ => none
@[simp] def qNis : Fx.O2 := fun a b => match a, b with
  | .bl a, .bl b => some (.bl (!(a == b)))
  | a, .non => some (.bl (!(isNon a)))
  | _, _ => none
theorem dec_beq (a b : Bool) : decide (a = b) = (a == b) := by cases a <;> cases b <;> rfl
theorem ot_is : OpT X (compareOp .Is) qIs := OpR.mono (L2.OpR.or op_isBl op_isN) fun x y H Q ⟨O, a, b, c, d, ra, rb, e, k⟩ => by
  unfold qIs at e
  split at e
  · cases e
    exact .inl ⟨_, _, ra.inv_bl, rb.inv_bl, k _ H (.refl _) (by rw [dec_beq]; exact .bl _)⟩
  · cases e
    exact .inr ⟨rb.inv_non, k _ H (.refl _) (by rw [isNon_ok ra]; exact .bl _)⟩
  · cases e
theorem ot_nis : OpT X (compareOp .IsNot) qNis := OpR.mono (L2.OpR.or op_notBl op_notN) fun x y H Q ⟨O, a, b, c, d, ra, rb, e, k⟩ => by
  unfold qNis at e
  split at e
  · cases e
    exact .inl ⟨_, _, ra.inv_bl, rb.inv_bl, k _ H (.refl _) (by rw [dec_beq]; exact .bl _)⟩
  · cases e
    exact .inr ⟨rb.inv_non, k _ H (.refl _) (by rw [isNon_ok ra]; exact .bl _)⟩
  · cases e
/-! ### lists, tuples, texts joined -/
@[simp] def lCat : Fx.O2 := fun a b => match a, b with
  | .lst xs, .lst ys => if xs.length + ys.length ≤ 100000 then some (.lst (xs ++ ys)) else none
  | _, _ => none
@[simp] def lRep : Fx.O2 := fun a b => match a, b with
  | .lst xs, .int k => if (-1000000 ≤ k ∧ k ≤ 1000000) ∧ xs.length * k.toNat ≤ 100000 then some (.lst (List.replicate k.toNat xs).flatten) else none
  | _, _ => none
@[simp] def tCat : Fx.O2 := fun a b => match a, b with
  | .tup (x :: xs), .tup ys => if xs.length + 1 + ys.length ≤ 100000 then some (.tup (x :: xs ++ ys)) else none
  | _, _ => none
theorem Reps.flat {K : PySem.W.Frag} {G : Hp} {vs : List V} {ts : List T} (r : Reps K G vs ts) : ∀ n, Reps K G (List.replicate n vs).flatten (List.replicate n ts).flatten
  | 0 => .nil
  | n + 1 => by
    rw [List.replicate_succ, List.replicate_succ, List.flatten_cons, List.flatten_cons]
    exact r.append (Reps.flat r n)
theorem ot_lCat : OpT X (binaryOp .Add) lCat := OpR.mono op_cat fun x y H Q ⟨O, a, b, c, d, ra, rb, e, k⟩ => by
  unfold lCat at e
  split at e
  · split at e
    · rename_i hl
      cases e
      obtain ⟨p, vs, rfl, h1, h2⟩ := ra.inv_lst
      obtain ⟨q, ws, rfl, h3, h4⟩ := rb.inv_lst
      refine ⟨p, q, vs, ws, rfl, rfl, (of_hid h1).2, (of_hid h3).2, by rw [h2.length, h4.length, sizeLine_eq]; omega, fun l hl => k _ _ (.new hl) (.lst (hid_new fun z => ?_) ((h2.append h4).mono ((Ext.new hl).hid O)))⟩
      obtain ⟨o, z⟩ := d l z
      rw [hl] at z; cases z
    · cases e
  · cases e
theorem ot_lRep : OpT X (binaryOp .Mult) lRep := OpR.mono op_rep fun x y H Q ⟨O, a, b, c, d, ra, rb, e, k⟩ => by
  unfold lRep at e
  split at e
  · split at e
    · rename_i hl
      cases e
      obtain ⟨p, vs, rfl, h1, h2⟩ := ra.inv_lst
      refine ⟨p, _, vs, rfl, rb.inv_int, (of_hid h1).2, by omega, by omega, by rw [h2.length, sizeLine_eq]; omega, fun l hl => k _ _ (.new hl) (.lst (hid_new fun z => ?_) ((h2.flat _).mono ((Ext.new hl).hid O)))⟩
      obtain ⟨o, z⟩ := d l z
      rw [hl] at z; cases z
    · cases e
  · cases e
theorem ot_tCat : OpT X (binaryOp .Add) tCat := OpR.mono op_catT fun x y H Q ⟨O, a, b, c, d, ra, rb, e, k⟩ => by
  unfold tCat at e
  split at e
  · split at e
    · rename_i hl
      cases e
      obtain ⟨p, vs, rfl, h1, h2⟩ := ra.inv_tup
      obtain ⟨q, ws, rfl, h3, h4⟩ := rb.inv_tup
      have l2 := h2.length
      have l4 := h4.length
      simp only [List.length_cons] at l2
      refine ⟨p, q, vs, ws, rfl, rfl, (hid_ext H O).sqT h1, (hid_ext H O).sqT h3, fun z => by subst z; simp at l2, by rw [l2, l4, sizeLine_eq]; omega, fun z => ?_, fun _ l hl => k _ _ (.new hl) (.tup (.inl (.inl (hid_new fun z => ?_))) ((h2.append h4).mono ((Ext.new hl).hid O)))⟩
      · subst z
        cases h4
        rw [List.append_nil] at k
        exact k _ H (.refl _) (.tup h1 h2)
      · obtain ⟨o, z⟩ := d l z
        rw [hl] at z; cases z
    · cases e
  · cases e
/-- an op that makes a new list, kept as one's own -/
def OpW (X : Cx) (f : Value → Value → Sem Value) (g : Fx.O2) : Prop := OpR X f fun x y H Q => ∃ O a b c, (∀ q ∈ O, ∃ o : HO, H q = some o) ∧ Rep X.K (hid H O) x a ∧ Rep X.K (hid H O) y b ∧ g a b = some c ∧ ∀ p o, H p = none → RepO X.K (hid H O) (upd H p o) p c → Q (.ref p) (upd H p o)
theorem ow_lCat : OpW X (binaryOp .Add) lCat := OpR.mono op_cat fun x y H Q ⟨O, a, b, c, d, ra, rb, e, k⟩ => by
  unfold lCat at e
  split at e
  · split at e
    · rename_i hl
      cases e
      obtain ⟨p, vs, rfl, h1, h2⟩ := ra.inv_lst
      obtain ⟨q, ws, rfl, h3, h4⟩ := rb.inv_lst
      exact ⟨p, q, vs, ws, rfl, rfl, (of_hid h1).2, (of_hid h3).2, by rw [h2.length, h4.length, sizeLine_eq]; omega, fun l hl => k _ _ hl ⟨_, upd_same, h2.append h4⟩⟩
    · cases e
  · cases e
theorem ow_lRep : OpW X (binaryOp .Mult) lRep := OpR.mono op_rep fun x y H Q ⟨O, a, b, c, d, ra, rb, e, k⟩ => by
  unfold lRep at e
  split at e
  · split at e
    · rename_i hl
      cases e
      obtain ⟨p, vs, rfl, h1, h2⟩ := ra.inv_lst
      exact ⟨p, _, vs, rfl, rb.inv_int, (of_hid h1).2, by omega, by omega, by rw [h2.length, sizeLine_eq]; omega, fun l hl => k _ _ hl ⟨_, upd_same, h2.flat _⟩⟩
    · cases e
  · cases e
theorem ew_bin {op : Operator} {g : Fx.O2} {a b : Expr} {fa fb : EF} {pos : Pos} (ho : OpW X (binaryOp op) g) (ha : EV X a fa) (hb : EV X b fb) : EW X (.BinOp a op b pos) (e2 g fa fb) :=
  pe_mono (pe_op ho ha hb) fun σ H Q ⟨O, env, t, env', S, e, k⟩ => by
    unfold Fx.e2 at e
    obtain ⟨⟨x, e1⟩, q1, e⟩ := Option.bind_eq_some_iff.mp e
    obtain ⟨⟨y, e2⟩, q2, e⟩ := Option.bind_eq_some_iff.mp e
    obtain ⟨z, q3, e⟩ := Option.map_eq_some_iff.mp e
    cases e
    refine ⟨O, env, x, e1, S, q1, fun v H1 O1 n1 S1 r1 => ⟨O1, e1, y, _, S1, q2, fun u H2 O2 n2 S2 r2 => ⟨O2, x, y, t, S2.dom, r1.mono (S1.grow n2), r2, q3, fun p o hp r3 => ?_⟩⟩⟩
    obtain ⟨n3, S3, no, eh⟩ := S2.hideNew (o := o) hp
    exact k p _ _ ((n1.trans n2).trans n3) S3 List.mem_cons_self no (none_of_dom (n1.trans n2).dom hp) (by rw [eh]; exact r3)

/-! ### items and slices -/
@[simp] def xIx : Fx.O2 := fun a b => match a, b with
  | .tup ts, .int k => L2.atI ts k
  | .lst ts, .int k => L2.atI ts k
  | .lsf ts, .int k => L2.atI ts k
  | _, _ => none
theorem it_ix : IxT X xIx := IxR.mono (L2.IxR.or ix_list ix_tup) fun x y H Q ⟨O, a, b, c, d, ra, rb, e, k⟩ => by
  unfold xIx at e
  split at e
  · obtain ⟨p, vs, rfl, h1, h2⟩ := ra.inv_tup
    obtain ⟨v, h3, h4⟩ := h2.atI e
    exact .inr ⟨p, vs, _, v, rfl, rb.inv_int, (hid_ext H O).sqT h1, h3, k v H (.refl _) h4⟩
  · obtain ⟨p, vs, rfl, h1, h2⟩ := ra.inv_lst
    obtain ⟨v, h3, h4⟩ := h2.atI e
    exact .inl ⟨p, vs, _, v, rfl, rb.inv_int, .of (of_hid h1).2, h3, k v H (.refl _) h4⟩
  · obtain ⟨p, vs, rfl, h1, h2⟩ := ra.inv_lsf
    obtain ⟨v, h3, h4⟩ := h2.atI e
    exact .inl ⟨p, vs, _, v, rfl, rb.inv_int, (hid_ext H O).sqL h1, h3, k v H (.refl _) h4⟩
  · cases e
def cutL {α : Type} (xs : List α) (lo hi : Option Int) : List α := (xs.drop (HT.sIx xs.length 0 lo)).take (HT.sIx xs.length xs.length hi - HT.sIx xs.length 0 lo)
theorem Reps.cut {K : PySem.W.Frag} {G : Hp} {vs : List V} {ts : List T} (r : Reps K G vs ts) (lo hi : Option Int) : Reps K G (cutV vs lo hi) (cutL ts lo hi) := by
  unfold cutV cutL
  rw [r.length]
  exact (r.drop _).take _
@[simp] def slT (a : T) (lo hi : Option Int) : Option T := match a with
  | .lst ts => some (.lst (cutL ts lo hi))
  | .lsf ts => some (.lst (cutL ts lo hi))
  | .tup ts => if HT.sIx ts.length 0 lo = 0 ∧ HT.sIx ts.length ts.length hi = ts.length then none else some (.tup (cutL ts lo hi))
  | _ => none
def PF := Sls → Option (Option Int × Sls)
@[simp] def pNone : PF := fun env => some (none, env)
@[simp] def pSome (f : EF) : PF := fun env => (f env).bind fun q => match q.1 with
  | .int i => some (some i, q.2)
  | _ => none
@[simp] def eSl (f : EF) (l u : PF) : EF := fun env => (f env).bind fun p => (l p.2).bind fun q => (u q.2).bind fun r => (slT p.1 q.1 r.1).map fun z => (z, r.2)
def tP (K : PySem.W.Frag) (f : PF) : TO := fun σ H Q => ∃ O env o env', RepS K H O σ env ∧ f env = some (o, env') ∧ ∀ H' O', Nx σ env H O σ env' H' O' → RepS K H' O' σ env' → Q o H'
def PV (X : Cx) (e : Option Expr) (f : PF) : Prop := PO X e (tP X.K f)
theorem po_mono {e : Option Expr} {t t' : TO} (h : PO X e t) (m : ∀ σ H Q, t' σ H Q → t σ H Q) : PO X e t' := ⟨fun pins s σ H Q I q => h.run pins s σ H Q I (m _ _ _ q)⟩
theorem pv_none : PV X none pNone := po_mono po_none fun σ H Q ⟨O, env, o, env', S, e, k⟩ => by
  cases e
  exact k H O .refl S
theorem pv_some {e : Expr} {f : EF} (h : EV X e f) : PV X (some e) (pSome f) := po_mono (po_some h) fun σ H Q ⟨O, env, o, env', S, e, k⟩ => by
  unfold pSome at e
  obtain ⟨⟨t, e1⟩, q1, e⟩ := Option.bind_eq_some_iff.mp e
  cases t with
  | int i =>
    cases e
    exact ⟨O, env, _, _, S, q1, fun v H1 O1 n1 S1 r1 => ⟨i, r1.inv_int, k H1 O1 n1 S1⟩⟩
  | _ => cases e
theorem ev_slice {e : Expr} {lo hi : Option Expr} {f : EF} {l u : PF} {p2 pos : Pos} (he : EV X e f) (hl : PV X lo l) (hu : PV X hi u) : EV X (.Subscript e (.Slice lo hi none p2) pos) (eSl f l u) :=
  pe_mono (pe_slice (L2.SlR.or sl_list sl_tup) he hl hu) fun σ H Q ⟨O, env, t, env', S, e, k⟩ => by
    unfold eSl at e
    obtain ⟨⟨a, e1⟩, q1, e⟩ := Option.bind_eq_some_iff.mp e
    obtain ⟨⟨l1, e2⟩, q2, e⟩ := Option.bind_eq_some_iff.mp e
    obtain ⟨⟨u1, e3⟩, q3, e⟩ := Option.bind_eq_some_iff.mp e
    obtain ⟨z, q4, e⟩ := Option.map_eq_some_iff.mp e
    cases e
    refine ⟨O, env, a, e1, S, q1, fun v H1 O1 n1 S1 r1 => ⟨O1, e1, l1, e2, S1, q2, fun H2 O2 n2 S2 => ⟨O2, e2, u1, _, S2, q3, fun H3 O3 n3 S3 => ?_⟩⟩⟩
    have q4 : slT a l1 u1 = some t := q4
    have r3 := (r1.mono (S1.grow n2)).mono (S2.grow n3)
    have fin : ∀ (p : Addr) (o : HO) (w : V), H3 p = none → (∀ G, Ext (hid H3 O3) G → G p = some o → Rep X.K G (.ref p) t) → Q (.ref p) (upd H3 p o) := fun p o w hp h =>
      k _ _ O3 (((n1.trans n2).trans n3).trans (.ext (.new hp))) (S3.ext (.new hp)) (h _ ((Ext.new hp).hid O3) (hid_new (S3.fresh hp)))
    unfold slT at q4
    split at q4
    · cases q4
      obtain ⟨p, vs, rfl, h1, h2⟩ := r3.inv_lst
      exact .inl ⟨p, vs, rfl, .of (of_hid h1).2, fun l hl => fin l _ .non hl fun G x g => .lst g ((h2.cut _ _).mono x)⟩
    · cases q4
      obtain ⟨p, vs, rfl, h1, h2⟩ := r3.inv_lsf
      exact .inl ⟨p, vs, rfl, (hid_ext _ _).sqL h1, fun l hl => fin l _ .non hl fun G x g => .lst g ((h2.cut _ _).mono x)⟩
    · split at q4
      · cases q4
      · rename_i hw
        cases q4
        obtain ⟨p, vs, rfl, h1, h2⟩ := r3.inv_tup
        exact .inr ⟨p, vs, rfl, (hid_ext _ _).sqT h1, by rw [h2.length]; exact hw, fun l hl => fin l _ .non hl fun G x g => .tup (.inl (.inl g)) ((h2.cut _ _).mono x)⟩
    · cases q4

/-! ### built-ins -/
@[simp] def bLen : ON := fun ts => match ts with
  | [.tup xs] => some (.int xs.length)
  | [.lst xs] => some (.int xs.length)
  | [.lsf xs] => some (.int xs.length)
  | _ => none
theorem ct_len : CallT X (.builtin "len") bLen := CallR.mono call_len_seq fun xs H Q ⟨O, as, c, d, ra, e, k⟩ => by
  unfold bLen at e
  split at e
  · cases e
    obtain ⟨v, ws, rfl, h1, h2⟩ := ra.inv_cons
    obtain rfl := h2.inv_nil
    obtain ⟨p, vs, rfl, h3, h4⟩ := h1.inv_tup
    exact ⟨p, vs, rfl, .inr ((hid_ext H O).sqT h3), k _ H (.refl _) (by rw [h4.length]; exact .int _)⟩
  · cases e
    obtain ⟨v, ws, rfl, h1, h2⟩ := ra.inv_cons
    obtain rfl := h2.inv_nil
    obtain ⟨p, vs, rfl, h3, h4⟩ := h1.inv_lst
    exact ⟨p, vs, rfl, .inl (.of (of_hid h3).2), k _ H (.refl _) (by rw [h4.length]; exact .int _)⟩
  · cases e
    obtain ⟨v, ws, rfl, h1, h2⟩ := ra.inv_cons
    obtain rfl := h2.inv_nil
    obtain ⟨p, vs, rfl, h3, h4⟩ := h1.inv_lsf
    exact ⟨p, vs, rfl, .inl ((hid_ext H O).sqL h3), k _ H (.refl _) (by rw [h4.length]; exact .int _)⟩
  · cases e
@[simp] def bAbs : ON := fun ts => match ts with
  | [.int i] => some (.int (if i < 0 then -i else i))
  | _ => none
theorem one_arg {K : PySem.W.Frag} {G : Hp} {xs : List V} {t : T} (r : Reps K G xs [t]) : ∃ v, xs = [v] ∧ Rep K G v t := by
  obtain ⟨v, ws, rfl, h1, h2⟩ := r.inv_cons
  obtain rfl := h2.inv_nil
  exact ⟨v, rfl, h1⟩
theorem two_args {K : PySem.W.Frag} {G : Hp} {xs : List V} {t u : T} (r : Reps K G xs [t, u]) : ∃ v w, xs = [v, w] ∧ Rep K G v t ∧ Rep K G w u := by
  obtain ⟨v, ws, rfl, h1, h2⟩ := r.inv_cons
  obtain ⟨w, rfl, h3⟩ := one_arg h2
  exact ⟨v, w, rfl, h1, h3⟩
theorem ct_abs : CallT X (.builtin "abs") bAbs := CallR.mono call_abs fun xs H Q ⟨O, as, c, d, ra, e, k⟩ => by
  unfold bAbs at e
  split at e
  · cases e
    obtain ⟨v, rfl, r⟩ := one_arg ra
    exact ⟨_, by rw [r.inv_int], k _ H (.refl _) (.int _)⟩
  · cases e
@[simp] def bInt : ON := fun ts => match ts with
  | [.int i] => some (.int i)
  | [.bl b] => some (.int (if b then 1 else 0))
  | _ => none
theorem ct_int : CallT X (.type "int") bInt := CallR.mono call_int1 fun xs H Q ⟨O, as, c, d, ra, e, k⟩ => by
  unfold bInt at e
  split at e
  · cases e
    obtain ⟨v, rfl, r⟩ := one_arg ra
    exact .inl ⟨_, by rw [r.inv_int], k _ H (.refl _) (.int _)⟩
  · cases e
    obtain ⟨v, rfl, r⟩ := one_arg ra
    exact .inr ⟨_, by rw [r.inv_bl], k _ H (.refl _) (.int _)⟩
  · cases e
@[simp] def bGcd : ON := fun ts => match ts with
  | [.int i, .int j] => some (.int ((Nat.gcd i.natAbs j.natAbs : Nat) : Int))
  | _ => none
theorem ct_gcd : CallT X (.builtin "math.gcd") bGcd := CallR.mono cr_gcd fun xs H Q ⟨O, as, c, d, ra, e, k⟩ => by
  unfold bGcd at e
  split at e
  · cases e
    obtain ⟨v, w, rfl, r1, r2⟩ := two_args ra
    exact ⟨_, _, by rw [r1.inv_int, r2.inv_int], k _ H (.refl _) (.int _)⟩
  · cases e
@[simp] def bools : List T → Option (List Bool)
  | [] => some []
  | .bl b :: r => (bools r).map fun l => b :: l
  | _ => none
theorem bools_rep {K : PySem.W.Frag} {G : Hp} : ∀ {xs : List V} {ts : List T} {bs : List Bool}, Reps K G xs ts → bools ts = some bs → xs = bs.map V.bl
  | _, [], bs, r, h => by cases h; rw [r.inv_nil]; rfl
  | _, .bl b :: ts, bs, r, h => by
    unfold bools at h
    obtain ⟨l, q, h⟩ := Option.map_eq_some_iff.mp h
    cases h
    obtain ⟨v, ws, rfl, h1, h2⟩ := r.inv_cons
    rw [h1.inv_bl, bools_rep h2 q]
    rfl
  | _, .non :: _, _, _, h => by unfold bools at h; cases h
  | _, .int _ :: _, _, _, h => by unfold bools at h; cases h
  | _, .str _ :: _, _, _, h => by unfold bools at h; cases h
  | _, .ref _ :: _, _, _, h => by unfold bools at h; cases h
  | _, .ty _ :: _, _, _, h => by unfold bools at h; cases h
  | _, .tup _ :: _, _, _, h => by unfold bools at h; cases h
  | _, .lst _ :: _, _, _, h => by unfold bools at h; cases h
  | _, .lsf _ :: _, _, _, h => by unfold bools at h; cases h
  | _, .dic _ _ :: _, _, _, h => by unfold bools at h; cases h
@[simp] def bAll : ON := fun ts => match ts with
  | [.lst xs] => (bools xs).map fun bs => .bl (bs.all id)
  | _ => none
@[simp] def bAny : ON := fun ts => match ts with
  | [.lst xs] => (bools xs).map fun bs => .bl (bs.any id)
  | _ => none
theorem ct_all (hc : X.calm = true) : CallT X (.builtin "all") bAll := CallR.mono (cr_all hc) fun xs H Q ⟨O, as, c, d, ra, e, k⟩ => by
  unfold bAll at e
  split at e
  · obtain ⟨bs, q, e⟩ := Option.map_eq_some_iff.mp e
    cases e
    obtain ⟨v, rfl, r⟩ := one_arg ra
    obtain ⟨p, vs, rfl, h3, h4⟩ := r.inv_lst
    have := bools_rep h4 q
    subst this
    exact ⟨p, bs, rfl, .of (of_hid h3).2, k _ H (.refl _) (.bl _)⟩
  · cases e
theorem ct_any (hc : X.calm = true) : CallT X (.builtin "any") bAny := CallR.mono (cr_any hc) fun xs H Q ⟨O, as, c, d, ra, e, k⟩ => by
  unfold bAny at e
  split at e
  · obtain ⟨bs, q, e⟩ := Option.map_eq_some_iff.mp e
    cases e
    obtain ⟨v, rfl, r⟩ := one_arg ra
    obtain ⟨p, vs, rfl, h3, h4⟩ := r.inv_lst
    have := bools_rep h4 q
    subst this
    exact ⟨p, bs, rfl, .of (of_hid h3).2, k _ H (.refl _) (.bl _)⟩
  · cases e
@[simp] def seqOf : T → Option (List T)
  | .tup ts => some ts
  | .lst ts => some ts
  | .lsf ts => some ts
  | _ => none
theorem Rep.seq {K : PySem.W.Frag} {H : Hp} {O : List Addr} {v : V} {t : T} {ts : List T} (r : Rep K (hid H O) v t) (h : seqOf t = some ts) : ∃ p vs, v = .ref p ∧ (SqL K H p vs ∨ SqT K H p vs) ∧ Reps K (hid H O) vs ts := by
  cases r with
  | tup q r => cases h; exact ⟨_, _, rfl, .inr ((hid_ext H O).sqT q), r⟩
  | lst q r => cases h; exact ⟨_, _, rfl, .inl (.of (of_hid q).2), r⟩
  | lsf q r => cases h; exact ⟨_, _, rfl, .inl ((hid_ext H O).sqL q), r⟩
  | _ => cases h
@[simp] def bList : ON := fun ts => match ts with
  | [t] => (seqOf t).map .lst
  | _ => none
theorem ct_list : CallT X (.type "list") bList := CallR.mono call_list_of fun xs H Q ⟨O, as, c, d, ra, e, k⟩ => by
  unfold bList at e
  split at e
  · obtain ⟨us, q, e⟩ := Option.map_eq_some_iff.mp e
    cases e
    obtain ⟨v, rfl, r⟩ := one_arg ra
    obtain ⟨p, vs, rfl, h1, h2⟩ := r.seq q
    refine ⟨p, vs, rfl, h1, fun l hl => k _ _ (.new hl) (.lst (hid_new fun z => ?_) (h2.mono ((Ext.new hl).hid O)))⟩
    obtain ⟨o, z⟩ := d l z
    rw [hl] at z; cases z
  · cases e
@[simp] def bTup : ON := fun ts => match ts with
  | [.tup us] => some (.tup us)
  | [.lst us] => some (.tup us)
  | [.lsf us] => some (.tup us)
  | _ => none
theorem ct_tup : CallT X (.type "tuple") bTup := CallR.mono call_tuple_of fun xs H Q ⟨O, as, c, d, ra, e, k⟩ => by
  have mk : ∀ (l : Addr) (vs : List V) (us : List T), H l = none → Reps X.K (hid H O) vs us → Rep X.K (hid (upd H l (.tup vs)) O) (.ref l) (.tup us) := fun l vs us hl h => .tup (.inl (.inl (hid_new fun z => by
    obtain ⟨o, z⟩ := d l z
    rw [hl] at z; cases z))) (h.mono ((Ext.new hl).hid O))
  unfold bTup at e
  split at e
  · cases e
    obtain ⟨v, rfl, r⟩ := one_arg ra
    obtain ⟨p, vs, rfl, h1, h2⟩ := r.inv_tup
    exact ⟨p, vs, rfl, .inr ⟨(hid_ext H O).sqT h1, k _ H (.refl _) r⟩⟩
  · cases e
    obtain ⟨v, rfl, r⟩ := one_arg ra
    obtain ⟨p, vs, rfl, h1, h2⟩ := r.inv_lst
    exact ⟨p, vs, rfl, .inl ⟨.of (of_hid h1).2, fun l hl => k _ _ (.new hl) (mk l vs _ hl h2)⟩⟩
  · cases e
    obtain ⟨v, rfl, r⟩ := one_arg ra
    obtain ⟨p, vs, rfl, h1, h2⟩ := r.inv_lsf
    exact ⟨p, vs, rfl, .inl ⟨(hid_ext H O).sqL h1, fun l hl => k _ _ (.new hl) (mk l vs _ hl h2)⟩⟩
  · cases e
/-! ### isinstance -/
inductive Kd where
  | non | bl | int | str | tup | lst | dic
def Kd.name : Kd → String
  | .non => "NoneType"
  | .bl => "bool"
  | .int => "int"
  | .str => "str"
  | .tup => "tuple"
  | .lst => "list"
  | .dic => "dict"
@[simp] def kdOf : T → Option Kd
  | .non => some .non
  | .bl _ => some .bl
  | .int _ => some .int
  | .str _ => some .str
  | .tup _ => some .tup
  | .lst _ => some .lst
  | .lsf _ => some .lst
  | .dic _ _ => some .dic
  | .ref _ => none
  | .ty _ => none
@[simp] def isK : Kd → Ty → Bool
  | .int, .int => true
  | .bl, .int => true
  | .bl, .bl => true
  | .str, .str => true
  | .lst, .list => true
  | .tup, .tup => true
  | .dic, .dic => true
  | _, _ => false
theorem isK_ok : ∀ (k : Kd) (t : Ty), kitB k.name t.name = some (isK k t) := by
  intro k t
  cases k <;> cases t <;> decide +kernel
theorem tyX_of {K : PySem.W.Frag} {H : Hp} {O : List Addr} {v : V} {t : T} {kd : Kd} (r : Rep K (hid H O) v t) (h : kdOf t = some kd) : TyX K H v (.type kd.name) := by
  have hl : ∀ {a : Addr} {xs : List V}, SqL K H a xs → TyX K H (.ref a) (.type "list") := fun {a xs} q => by
    rcases q with (q | ⟨o, q⟩) | ⟨o, its, n, q1, q2, _⟩
    · exact .base (.lst q)
    · exact .base (.frz q)
    · exact .kList q1 q2
  cases r with
  | non => cases h; exact .base .non
  | bl b => cases h; exact .base (.bl b)
  | int i => cases h; exact .base (.int i)
  | str x => cases h; exact .base (.str x)
  | ref a => cases h
  | ty n => cases h
  | tup q _ =>
    cases h
    rcases (hid_ext H O).sqT q with (q | ⟨o, q⟩) | ⟨o, its, n, q1, q2, _⟩
    · exact .base (.tup q)
    · exact .fTuple q
    · exact .kTuple q1 q2
  | lst q _ => cases h; exact hl (.of (of_hid q).2)
  | lsf q _ => cases h; exact hl ((hid_ext H O).sqL q)
  | dic q _ => cases h; exact .base (.dK (of_hid q).2)
@[simp] def tysOf : List T → Option (List Ty)
  | [] => some []
  | .ty n :: r => (tysOf r).map fun l => n :: l
  | _ => none
@[simp] def bIsi : ON := fun ts => match ts with
  | [t, .ty n] => (kdOf t).map fun k => .bl (isK k n)
  | [t, .tup us] => (kdOf t).bind fun k => (tysOf us).map fun ns => .bl (ns.any (isK k))
  | _ => none
theorem tysOf_rep {K : PySem.W.Frag} {G : Hp} : ∀ {xs : List V} {ts : List T} {ns : List Ty}, Reps K G xs ts → tysOf ts = some ns → Paired ClsV xs (ns.map fun n => Value.type n.name)
  | _, [], ns, r, h => by cases h; rw [r.inv_nil]; exact .nil
  | _, .ty n :: ts, ns, r, h => by
    unfold tysOf at h
    obtain ⟨l, q, h⟩ := Option.map_eq_some_iff.mp h
    cases h
    obtain ⟨v, ws, rfl, h1, h2⟩ := r.inv_cons
    rw [h1.inv_ty]
    exact .cons (.ty _) (tysOf_rep h2 q)
  | _, .non :: _, _, _, h => by unfold tysOf at h; cases h
  | _, .int _ :: _, _, _, h => by unfold tysOf at h; cases h
  | _, .bl _ :: _, _, _, h => by unfold tysOf at h; cases h
  | _, .str _ :: _, _, _, h => by unfold tysOf at h; cases h
  | _, .ref _ :: _, _, _, h => by unfold tysOf at h; cases h
  | _, .tup _ :: _, _, _, h => by unfold tysOf at h; cases h
  | _, .lst _ :: _, _, _, h => by unfold tysOf at h; cases h
  | _, .lsf _ :: _, _, _, h => by unfold tysOf at h; cases h
  | _, .dic _ _ :: _, _, _, h => by unfold tysOf at h; cases h
theorem kitAny_ok {K : PySem.W.Frag} (k : Kd) : ∀ ns : List Ty, PySem.W.kitAny K (.type k.name) (ns.map fun n => Value.type n.name) = some (ns.any (isK k))
  | [] => kitAny_nil
  | n :: ns => by
    refine kitAny_cons (kit_ty (isK_ok k n)) (fun h => ?_) (fun h => ?_)
    · rw [kitAny_ok k ns, List.any_cons, h, Bool.false_or]
    · rw [List.any_cons, h, Bool.true_or]
theorem call_isiF : CallR X (.builtin "isinstance") (fun xs H Q => ∃ (x : V) (tp : Addr) (o : Obj) (cs : List V) (t : Value) (us : List Value) (b : Bool), xs = [x, .ref tp] ∧ H tp = some (.frz o (.tup cs)) ∧ Paired ClsV cs us ∧ TyX X.K H x t ∧ PySem.W.kitAny X.K t us = some b ∧ Q (.bl b) H) := by
  intro pins s σ H xs us Q I r h
  obtain ⟨x, tp, o', cs, t, ws, b, rfl, hT, k, ty, e, q⟩ := h
  obtain ⟨u1, u2, rfl, r1, r2⟩ := vals2 r
  cases (show u2 = Value.ref tp from r2)
  obtain ⟨P, Z, p, hx⟩ := kit_of I r1 ty
  obtain ⟨_, _, its, rv, o, h1, h2, n, h3⟩ := (show ObjOk X.prog X.w H s.heap tp (.frz o' (.tup cs)) from I.hok tp _ hT)
  have e3 := ClsV.all k rv
  subst e3
  obtain ⟨oc, od, dt, sl⟩ := o
  simp only at h2 h3
  subst h2 h3
  exact PySem.W.kia_tup Z I.kIn p h1 e hx fun tk => ⟨.bl b, H, I.tok tk, rfl, q⟩
theorem ct_isi : CallT X (.builtin "isinstance") bIsi := CallR.mono (CallR.or call_isi (CallR.or call_isiT (CallR.or call_isiK call_isiF))) fun xs H Q ⟨O, as, c, d, ra, e, k⟩ => by
  unfold bIsi at e
  split at e
  · obtain ⟨kd, q, e⟩ := Option.map_eq_some_iff.mp e
    cases e
    obtain ⟨v, w, rfl, r1, r2⟩ := two_args ra
    exact .inl ⟨v, w, _, _, _, rfl, by rw [r2.inv_ty]; exact .ty _, tyX_of r1 q, kit_ty (isK_ok kd _), k _ H (.refl _) (.bl _)⟩
  · obtain ⟨kd, q, e⟩ := Option.bind_eq_some_iff.mp e
    obtain ⟨ns, q2, e⟩ := Option.map_eq_some_iff.mp e
    cases e
    obtain ⟨v, w, rfl, r1, r2⟩ := two_args ra
    obtain ⟨p, vs, rfl, h1, h2⟩ := r2.inv_tup
    have pr := tysOf_rep h2 q2
    rcases (hid_ext H O).sqT h1 with (h1 | ⟨o, h1⟩) | ⟨o, its, n, z1, z2, z3, z4, z5⟩
    · exact .inr (.inl ⟨v, p, vs, _, _, _, rfl, h1, pr, tyX_of r1 q, kitAny_ok kd ns, k _ H (.refl _) (.bl _)⟩)
    · exact .inr (.inr (.inr ⟨v, p, o, vs, _, _, _, rfl, h1, pr, tyX_of r1 q, kitAny_ok kd ns, k _ H (.refl _) (.bl _)⟩))
    · obtain ⟨oc, od, dt, sl⟩ := o
      simp only at z2 z3
      subst z2 z3
      have e3 := ClsV.all pr z5
      exact .inr (.inr (.inl ⟨v, p, od, ns.map fun n => Value.type n.name, n, sl, _, _, rfl, by rw [z1, ← e3], tyX_of r1 q, kitAny_ok kd ns, k _ H (.refl _) (.bl _)⟩))
  · cases e
/-! ### repr -/
@[simp] def bRepr : ON := fun ts => match ts with
  | [.bl b] => some (.str (if b then "True" else "False"))
  | _ => none
theorem call_repr_bl : CallR X (.builtin "repr") (fun xs H Q => ∃ b, xs = [.bl b] ∧ Q (.str (if b then "True" else "False")) H) := by
  intro pins s σ H xs us Q I r h
  obtain ⟨b, rfl, q⟩ := h
  obtain ⟨u, rfl, ru⟩ := vals1 r
  cases ru
  exact PySem.P.repr_of_bool ⟨.str _, H, I.tok _, ⟨_, rfl⟩, q⟩
theorem ct_repr : CallT X (.builtin "repr") bRepr := CallR.mono call_repr_bl fun xs H Q ⟨O, as, c, d, ra, e, k⟩ => by
  unfold bRepr at e
  split at e
  · cases e
    obtain ⟨v, rfl, r⟩ := one_arg ra
    exact ⟨_, by rw [r.inv_bl], k _ H (.refl _) (.str _)⟩
  · cases e
/-! ### range, classes' names, constants -/
theorem iv_range1 {tg a : Expr} {p pos : Pos} {f : AF} (hg : Gl X "range") (hm : X.mg "range" = none) (ha : EA X [a] f) (hs : starEach [a] X.env = [(false, eval a X.env)] := by rfl) : IV X tg (.Call (.Name "range" p) [a] [] pos) (itRange1 f) :=
  pi_mono (pi_range1 hg hm ha hs) fun σ H R ⟨O, env, ts, env', S, e, k⟩ => by
    unfold itRange1 at e
    obtain ⟨⟨as, e1⟩, q1, e⟩ := Option.bind_eq_some_iff.mp e
    refine ⟨O, env, as, e1, S, q1, fun vs H1 O1 n1 S1 r1 => ?_⟩
    split at e
    · rename_i n hn
      split at e
      · cases e
        have hn : as = [.int n] := hn
        subst hn
        obtain ⟨v, rfl, r⟩ := one_arg r1
        exact ⟨n, by rw [r.inv_int], by omega, by omega, k _ H1 O1 n1 S1 wk_range⟩
      · cases e
    · cases e
theorem iv_range2 {tg a b : Expr} {p pos : Pos} {f : AF} (hg : Gl X "range") (hm : X.mg "range" = none) (ha : EA X [a, b] f) (hs : starEach [a, b] X.env = [(false, eval a X.env), (false, eval b X.env)] := by rfl) (hs2 : starEach [b] X.env = [(false, eval b X.env)] := by rfl) : IV X tg (.Call (.Name "range" p) [a, b] [] pos) (itRange2 f) :=
  pi_mono (pi_range2 hg hm ha hs hs2) fun σ H R ⟨O, env, ts, env', S, e, k⟩ => by
    unfold itRange2 at e
    obtain ⟨⟨as, e1⟩, q1, e⟩ := Option.bind_eq_some_iff.mp e
    refine ⟨O, env, as, e1, S, q1, fun vs H1 O1 n1 S1 r1 => ?_⟩
    split at e
    · rename_i m n hn
      split at e
      · cases e
        have hn : as = [.int m, .int n] := hn
        subst hn
        obtain ⟨v, w, rfl, r, r2⟩ := two_args r1
        exact ⟨m, n, by rw [r.inv_int, r2.inv_int], ⟨by omega, by omega, by omega, by omega⟩, k _ H1 O1 n1 S1 wk_range⟩
      · cases e
    · cases e
theorem ev_ty {x : Str} {n : Ty} {pos : Pos} (hg : Gl X x) (hm : X.mg x = none) (hv : bootBuiltins x = some (.type n.name)) (hn : x ≠ "__name__" := by decide) (hd : (x == ("__debug__" : Str)) = false := by decide) : EV X (.Name x pos) (eC (.ty n)) :=
  ev_const (pe_bltn (v := .ty n.name) hg hm hv rfl hn hd) fun _ => .ty n
/-- a module's constant -/
def RepK (K : PySem.W.Frag) (u : Value) (t : T) : Prop := ∃ v, RelV v u ∧ ∀ G, Rep K G v t
theorem ev_glob {x : Str} {u : Value} {t : T} {pos : Pos} (hg : Gl X x) (hm : X.mg x = some u) (r : RepK X.K u t) (hd : (x == ("__debug__" : Str)) = false := by decide) : EV X (.Name x pos) (eC t) := by
  obtain ⟨v, h1, h2⟩ := r
  exact ev_const (pe_glob hg hm h1 hd) h2
/-- a built-in that a module's name holds -/
theorem ev_callG {x : Str} {p : Pos} {id : String} {g : ON} {e : Expr} {es : List Expr} {fr : AF} {pos : Pos} (hc : CallT X (.builtin id) g) (hg : Gl X x) (hm : X.mg x = some (.builtin id)) (ha : EA X (e :: es) fr) (hdb : (x == ("__debug__" : Str)) = false := by decide)
    (he : starEach (e :: es) X.env = (false, eval e X.env) :: starEach es X.env := by rfl) (hpl : (backTo pos (starEach es X.env)).any (·.1) = false := by rfl) : EV X (.Call (.Name x p) (e :: es) [] pos) (eN g fr) :=
  pe_mono (pe_callBfun hc hg hm ha hdb he hpl) fun σ H Q ⟨O, env, t, env', S, e, k⟩ => by
    unfold eN at e
    obtain ⟨⟨x, e1⟩, q1, e⟩ := Option.bind_eq_some_iff.mp e
    obtain ⟨z, q3, e⟩ := Option.map_eq_some_iff.mp e
    cases e
    exact ⟨O, env, x, _, S, q1, fun vs H1 O1 n1 S1 r1 => ⟨O1, x, _, S1.dom, r1, q3, fun w H3 x3 r3 => k w H3 O1 (n1.trans (.ext x3)) (S1.ext x3) r3⟩⟩
/-- {} -/
theorem ev_dnew {pos : Pos} : EV X (.Dict [] [] pos) (eC (.dic [] [])) :=
  pe_mono pe_dnewK fun σ H Q ⟨O, env, t, env', S, e, k⟩ => by
    cases e
    intro p hp
    exact k _ _ O (.ext (.new hp)) (S.ext (.new hp)) (.dic (kvs := []) (hid_new (S.fresh hp)) .nil)
end
end Fx

/-! Fx 8: defs by their bodies; the rest of statements. -/
namespace Fx
open PySem PySem.Spec PyProof.Rows L2

@[simp] def oAdd : Fx.O2 := orO iAdd (orO lCat tCat)
@[simp] def oMul : Fx.O2 := orO iMul lRep
section
variable {X : Cx}
theorem ot_add : OpT X (binaryOp .Add) oAdd := OpT.or ot_iAdd (OpT.or ot_lCat ot_tCat)
theorem ot_mul : OpT X (binaryOp .Mult) oMul := OpT.or ot_iMul ot_lRep
end
/-! ### how many arguments -/
def XLen (f : XF) (n : Nat) : Prop := ∀ env as env', f env = some (as, env') → as.length = n
theorem xl_nil : XLen xN 0 := fun env as env' h => by cases h; rfl
theorem xl_val {f : EF} {r : XF} {n : Nat} (h : XLen r n) : XLen (xV f r) (n + 1) := fun env as env' e => by
  unfold xV at e
  obtain ⟨⟨t, e1⟩, q1, e⟩ := Option.bind_eq_some_iff.mp e
  obtain ⟨⟨as2, e2⟩, q2, e⟩ := Option.map_eq_some_iff.mp e
  cases e
  simp [h _ _ _ q2]
theorem xl_io {i : Nat} {r : XF} {n : Nat} (h : XLen r n) : XLen (xIo i r) (n + 1) := fun env as env' e => by
  unfold xIo at e
  split at e
  · obtain ⟨⟨as2, e2⟩, q2, e⟩ := Option.map_eq_some_iff.mp e
    cases e
    simp [h _ _ _ q2]
  · cases e
theorem xl_of {f : XF} {n : Nat} (h : XLen f n) : ∀ env as env', f env = some (as, env') → as.length = n := h
/-! ### keywords: an order of the arguments -/
@[simp] def permG (np nk : Nat) (idx : List Nat) {α : Type} (us ws : List α) : List α := if us.length = np ∧ ws.length = nk then idx.filterMap fun i => (us ++ ws)[i]? else []
theorem paired_at {α β : Type} {R : α → β → Prop} : ∀ {l : List α} {m : List β}, Paired R l m → ∀ i : Nat, (∃ a b, l[i]? = some a ∧ m[i]? = some b ∧ R a b) ∨ (l[i]? = none ∧ m[i]? = none)
  | _, _, .nil, i => .inr ⟨rfl, rfl⟩
  | _, _, .cons r _, 0 => .inl ⟨_, _, rfl, rfl, r⟩
  | _, _, .cons _ t, i + 1 => by simpa using paired_at t i
theorem perm_pick {α β : Type} {R : α → β → Prop} {l : List α} {m : List β} (p : Paired R l m) : ∀ idx : List Nat, Paired R (idx.filterMap fun i => l[i]?) (idx.filterMap fun i => m[i]?)
  | [] => .nil
  | i :: idx => by
    rw [List.filterMap_cons, List.filterMap_cons]
    rcases paired_at p i with ⟨a, b, e1, e2, r⟩ | ⟨e1, e2⟩
    · rw [e1, e2]
      exact .cons r (perm_pick p idx)
    · rw [e1, e2]
      exact perm_pick p idx
theorem permG_rel {α β : Type} {R : α → β → Prop} {np nk : Nat} {idx : List Nat} {us ws : List α} {vs zs : List β} (p : Paired R us vs) (q : Paired R ws zs) : Paired R (permG np nk idx us ws) (permG np nk idx vs zs) := by
  unfold permG
  rw [Paired.length p, Paired.length q]
  split
  · exact perm_pick (paired_app p q) idx
  · exact .nil
theorem pick_len {α : Type} {l : List α} : ∀ {idx : List Nat}, (∀ i ∈ idx, i < l.length) → (idx.filterMap fun i => l[i]?).length = idx.length
  | [], _ => rfl
  | i :: idx, h => by
    rw [List.filterMap_cons]
    have := h i List.mem_cons_self
    rw [List.getElem?_eq_getElem this]
    simp only [List.length_cons]
    rw [pick_len fun j hj => h j (List.mem_cons_of_mem _ hj)]
theorem permG_r {np nk n : Nat} {idx : List Nat} (hi : idx.all (fun i => decide (i < np + nk)) = true) (hn : idx.length = n) {R : V → Ar → Prop} {vs zs : List V} {as bs : List Ar} (h1 : vs.length = np) (h2 : zs.length = nk) (p : Paired R vs as) (q : Paired R zs bs) :
    Paired R (permG np nk idx vs zs) (permG np nk idx as bs) ∧ (permG np nk idx vs zs).length = n := by
  refine ⟨permG_rel p q, ?_⟩
  unfold permG
  rw [if_pos ⟨h1, h2⟩, pick_len, hn]
  intro i hi'
  have := List.all_eq_true.mp hi i hi'
  rw [List.length_append, h1, h2]
  exact of_decide_eq_true this
/-! ### more statements -/
section
variable {X : Cx} {pos : Pos}
theorem sv_setLc {i : Nat} {y : Str} {py : Pos} {elt tg iter : Expr} {ifs : List Expr} {scope : Scope} {own : List (Str × Nat)} {spos : Pos} {fi : AF} {p : Pat} {tt : BF} {fe : EF} (hc : X.calm = true) (hN : X.N.Nodup) (hy : X.N[i]? = some y) (hyl : X.env.scope.names.lookup y = some .local)
    (hsw : swapsWith (.ListComp elt [⟨tg, iter, ifs, 0⟩] scope pos) (some (.Name y py)) spos.line X.env = pure true) (hi : IV X tg iter fi) (ok : BlkOk X.N X.env.scope scope own)
    (hg : ∀ (s : Shared) (H : Hp) (C : Addr) (cl : List (Str × Addr)) (fp : List Addr), GV (X.blk s H scope (compEnvC scope cl C X.env) fp) tg p)
    (ht : ∀ (s : Shared) (H : Hp) (C : Addr) (cl : List (Str × Addr)) (fp : List Addr), TsV (X.blk s H scope (compEnvC scope cl C X.env) fp) ifs tt)
    (he : ∀ (s : Shared) (H : Hp) (C : Addr) (cl : List (Str × Addr)) (fp : List Addr), EV (X.blk s H scope (compEnvC scope cl C X.env) fp) elt fe)
    (hv : ∀ i ∈ p.slots, i ∈ own.map (·.2)) (hs : ∀ x, foldedSetIterable iter X.env x = pure x := by intro _; rfl) :
    SV X (.Assign [.Name y py] (.ListComp elt [⟨tg, iter, ifs, 0⟩] scope pos) spos) (sAsg (.nm i) (eLc fi p tt fe (own.map (·.2)))) :=
  ps_mono (ps_setLc (wi := tI X.K fi) (g := tG X.K p) (tt := tTt X.K tt) (te := tV X.K fe) hc hN hy hyl hsw hi ok hg ht he hs) fun D σ H ⟨O, env, fl, env', S, e, k⟩ => by
    unfold sAsg at e
    obtain ⟨⟨t, e1⟩, q1, e⟩ := Option.bind_eq_some_iff.mp e
    obtain ⟨e2, q2, e⟩ := Option.map_eq_some_iff.mp e
    cases e
    have q2 : putS i t e1 = some env' := by unfold bindP at q2; exact q2
    unfold putS at q2
    split at q2
    · cases q2
    · rename_i h
      cases q2
      refine lc_pure hv σ H _ ⟨O, env, t, e1, S, q1, fun p H1 O1 n1 S1 hp hn h0 r => ?_⟩
      obtain ⟨O2, n2, S2, r2⟩ := S1.unhide n1 hp hn h0 r
      obtain ⟨n3, S3⟩ := S2.put r2 (by simpa using h)
      exact k _ H1 O2 (n2.trans n3) S3
theorem sv_ownLc {i : Nat} {y : Str} {py : Pos} {elt tg iter : Expr} {ifs : List Expr} {scope : Scope} {own : List (Str × Nat)} {spos : Pos} {fi : AF} {p : Pat} {tt : BF} {fe : EF} (hc : X.calm = true) (hN : X.N.Nodup) (hy : X.N[i]? = some y) (hyl : X.env.scope.names.lookup y = some .local)
    (hsw : swapsWith (.ListComp elt [⟨tg, iter, ifs, 0⟩] scope pos) (some (.Name y py)) spos.line X.env = pure true) (hi : IV X tg iter fi) (ok : BlkOk X.N X.env.scope scope own)
    (hg : ∀ (s : Shared) (H : Hp) (C : Addr) (cl : List (Str × Addr)) (fp : List Addr), GV (X.blk s H scope (compEnvC scope cl C X.env) fp) tg p)
    (ht : ∀ (s : Shared) (H : Hp) (C : Addr) (cl : List (Str × Addr)) (fp : List Addr), TsV (X.blk s H scope (compEnvC scope cl C X.env) fp) ifs tt)
    (he : ∀ (s : Shared) (H : Hp) (C : Addr) (cl : List (Str × Addr)) (fp : List Addr), EV (X.blk s H scope (compEnvC scope cl C X.env) fp) elt fe)
    (hv : ∀ i ∈ p.slots, i ∈ own.map (·.2)) (hs : ∀ x, foldedSetIterable iter X.env x = pure x := by intro _; rfl) :
    SV X (.Assign [.Name y py] (.ListComp elt [⟨tg, iter, ifs, 0⟩] scope pos) spos) (sOwn i (eLc fi p tt fe (own.map (·.2)))) :=
  ps_mono (ps_setLc (wi := tI X.K fi) (g := tG X.K p) (tt := tTt X.K tt) (te := tV X.K fe) hc hN hy hyl hsw hi ok hg ht he hs) fun D σ H ⟨O, env, fl, env', S, e, k⟩ => by
    unfold sOwn at e
    obtain ⟨⟨t, e1⟩, q1, e⟩ := Option.bind_eq_some_iff.mp e
    have e : (if isIo e1[i]? = true then none else some (Fl.nx, e1.set i (.own t))) = some (fl, env') := e
    split at e
    · cases e
    · rename_i hio
      cases e
      refine lc_pure hv σ H _ ⟨O, env, t, e1, S, q1, fun p H1 O1 n1 S1 hp hn h0 r => ?_⟩
      obtain ⟨S2, o2, io2, ion2⟩ := S1.putOwn hp hn r (by simpa using hio)
      refine k _ H1 O1 ⟨n1.fr, n1.dom, n1.sub, n1.sup, fun a z => ?_, fun j u z => ?_, fun j u z => ?_⟩ S2
      · rcases o2 a z with q | q
        · exact n1.own a q
        · subst q
          exact .inr h0
      · obtain ⟨⟨t1, g1⟩, g2⟩ := n1.io j u z
        obtain ⟨g3, g4⟩ := io2 j t1 g1
        exact ⟨⟨t1, g3⟩, g4.trans g2⟩
      · exact n1.ion j u (ion2 j u z)
@[simp] def sPar3 (i j l : Nat) (f : AF) : SF := fun env => (f env).bind fun q => match q.1 with
  | [t, u, v] => (putS i t q.2).bind fun e1 => (putS j u e1).bind fun e2 => (putS l v e2).map fun e3 => (.nx, e3)
  | _ => none
theorem sv_par3 {i j l : Nat} {x y z : Str} {a b c : Expr} {fa : AF} {px py pz pt : Pos} {kt k2 pt2} (hc : X.calm = true) (hN : X.N.Nodup) (hi : X.N[i]? = some x) (hj : X.N[j]? = some y) (hl : X.N[l]? = some z) (hij : i ≠ j) (hil : i ≠ l) (hjl : j ≠ l)
    (hx : X.env.scope.names.lookup x = some .local) (hy : X.env.scope.names.lookup y = some .local) (hz : X.env.scope.names.lookup z = some .local) (ha : EA X [a, b, c] fa)
    (hw : swappedStores [.Tuple [.Name x px, .Name y py, .Name z pz] kt pt] (.Tuple [a, b, c] k2 pt2) X.env = pure (some [x, y, z]))
    (hs : swapsWithSole [.Tuple [.Name x px, .Name y py, .Name z pz] kt pt] (.Tuple [a, b, c] k2 pt2) pos.line X.env = pure false := by rfl) :
    SV X (.Assign [.Tuple [.Name x px, .Name y py, .Name z pz] kt pt] (.Tuple [a, b, c] k2 pt2) pos) (sPar3 i j l fa) :=
  ps_mono (ps_par3 hc hN hi hj hl hij hil hjl hx hy hz ha hw hs) fun D σ H ⟨O, env, fl, env', S, e, k⟩ => by
    unfold sPar3 at e
    obtain ⟨⟨ts, e1⟩, q1, e⟩ := Option.bind_eq_some_iff.mp e
    refine ⟨O, env, ts, e1, S, q1, fun vs H1 O1 n1 S1 r1 => ?_⟩
    split at e
    · rename_i t u v ht
      have ht : ts = [t, u, v] := ht
      subst ht
      obtain ⟨x1, w1, rfl, h1, r2⟩ := r1.inv_cons
      obtain ⟨x2, x3, rfl, h2, h3⟩ := two_args r2
      obtain ⟨e2, q2, e⟩ := Option.bind_eq_some_iff.mp e
      obtain ⟨e3, q3, e⟩ := Option.bind_eq_some_iff.mp e
      obtain ⟨e4, q4, e⟩ := Option.map_eq_some_iff.mp e
      cases e
      unfold putS at q2
      split at q2
      · cases q2
      · rename_i g1
        cases q2
        unfold putS at q3
        split at q3
        · cases q3
        · rename_i g2
          cases q3
          unfold putS at q4
          split at q4
          · cases q4
          · rename_i g3
            cases q4
            obtain ⟨n, S'⟩ := S1.put h1 (by simpa using g1)
            obtain ⟨n2, S2⟩ := S'.put h2 (by simpa using g2)
            obtain ⟨n3, S3⟩ := S2.put h3 (by simpa using g3)
            exact ⟨_, _, _, rfl, k _ H1 O1 (((n1.trans n).trans n2).trans n3) S3⟩
    · cases e
end

/-! ### loops that forget what a turn alone needs -/
section
variable {K : PySem.W.Frag} {H : Hp} {O : List Addr} {σ : L2.St} {env : Sls} {vs : List Nat}
theorem RepS.forget (S : RepS K H O σ env) (hio : noIo env vs = true) : Nx σ env H O σ (wipeE env vs) H O ∧ RepS K H O σ (wipeE env vs) := by
  have ow : ∀ a, Owns σ (wipeE env vs) a → Owns σ env a := fun a ⟨i, t, h1, h2⟩ => ⟨i, t, (wipeE_cont h1).2, h2⟩
  refine ⟨⟨fun _ _ e _ => e, fun _ o e => ⟨o, e⟩, fun _ h => .inl h, fun _ h => .inl h, fun a h => .inl (ow a h), fun i t h => ?_, fun i t h => ?_⟩, ⟨by rw [wipeE_len]; exact S.len, S.dom, fun i t h => ?_, fun i t h => ?_, fun i j t u p h1 h2 h3 h4 => ?_⟩⟩
  · have hj : i ∉ vs := fun q => by
      have := List.all_eq_true.mp hio i q
      simp only [h] at this
      simp [isIo] at this
    exact ⟨⟨t, by rw [wipeE_out hj]; exact h⟩, rfl⟩
  · exact ⟨t, (wipeE_at h (by intro q; cases q)).2⟩
  · exact S.val i t (wipeE_at h (by intro q; cases q)).2
  · exact S.own i t (wipeE_cont h).2
  · exact S.inj i j t u p (wipeE_cont h1).2 (wipeE_cont h2).2 h3 h4
end
@[simp] def forLR (vs : List Nat) (p : Pat) (b : SF) : List T → Sls → Option (Fl × Sls)
  | [], env => if noIo env vs = true then some (.nx, wipeE env vs) else none
  | t :: r, env => if noIo env vs = true then (bindP p t (wipeE env vs)).bind fun e1 => (b e1).bind fun q => match q.1 with
    | .nx => forLR vs p b r q.2
    | .ct => forLR vs p b r q.2
    | .bk => some (.nx, q.2)
    | .ret t => some (.ret t, q.2) else none
@[simp] def sForR (vs : List Nat) (fi : AF) (p : Pat) (b : SF) : SF := fun env => (fi env).bind fun q => forLR vs p b q.1 q.2
theorem sv_forR {X : Cx} {tg iter : Expr} {body : List Stmt} {fi : AF} {p : Pat} {b : SF} {pos : Pos} (vs : List Nat) (hp : PassesOwn (model X.prog X.w) X.A X.env X.xe) (hc : X.calm = true) (hi : IV X tg iter fi) (hg : GV X tg p) (hb : BV X body b)
    (hs : ∀ x, foldedSetIterable iter X.env x = pure x := by intro _; rfl) : SV X (.For tg iter body [] pos) (sForR vs fi p b) :=
  ps_mono (ps_for hp hc hi hg hb hs) fun D σ H ⟨O, env, fl, envf, S, e, k⟩ => by
    unfold sForR at e
    obtain ⟨⟨ts, e1⟩, q1, e⟩ := Option.bind_eq_some_iff.mp e
    refine ⟨O, env, ts, e1, S, q1, fun J H1 O1 n1 S1 w => ?_⟩
    have e : forLR vs p b ts e1 = some (fl, envf) := e
    let Pv : Nat → L2.St → Hp → Prop := fun i σi Hi => ∃ envi Oi, RepS X.K Hi Oi σi envi ∧ Nx σ e1 H1 O1 σi envi Hi Oi ∧ forLR vs p b (ts.drop i) envi = some (fl, envf)
    refine ⟨fun i m σi Hi => m = ts.length - i ∧ i ≤ ts.length ∧ Pv i σi Hi, ⟨_, rfl, Nat.zero_le _, e1, O1, S1, .refl, by rw [List.drop_zero]; exact e⟩, ?_⟩
    rintro i m σi Hi ⟨rfl, hil, env0, Oi, S0, n0, fi⟩
    by_cases hlt : i < ts.length
    · -- what is forgotten ahead of a turn
      have hio : noIo env0 vs = true := by
        obtain ⟨t, ht⟩ : ∃ t, ts[i]? = some t := ⟨_, List.getElem?_eq_getElem hlt⟩
        rw [drop_cons ht] at fi
        unfold forLR at fi
        split at fi
        · assumption
        · cases fi
      obtain ⟨nf, Si⟩ := S0.forget hio
      have ni := n0.trans nf
      have gx : Ext (hid H1 O1) (hid Hi Oi) := S1.grow ni
      have gx2 : Ext (hid H1 O1) Hi := gx.trans (hid_ext _ _)
      refine .inr ⟨w.go i Hi hlt gx2, Pv (i + 1), fun σ' H' q => ⟨ts.length - (i + 1), by omega, rfl, hlt, q⟩, fun x H' y => ?_⟩
      obtain ⟨xx, y2⟩ := w.yld i Hi x H' hlt gx2 y
      obtain ⟨t, ht, rt⟩ := y2 Oi Si.dom gx
      rw [drop_cons ht] at fi
      unfold forLR at fi
      rw [if_pos hio] at fi
      obtain ⟨e2, q2, fi⟩ := Option.bind_eq_some_iff.mp fi
      obtain ⟨⟨f3, e3⟩, q3, fi⟩ := Option.bind_eq_some_iff.mp fi
      refine ⟨Oi, wipeE env0 vs, t, e2, Si.ext xx, rt, q2, fun σ2 n2 S2 _ => ⟨Oi, e2, f3, e3, S2, q3, fun σ3 H3 O3 n3 S3 => ?_⟩⟩
      have nn : Nx σ e1 H1 O1 σ3 e3 H3 O3 := ((ni.trans (.ext xx)).trans n2).trans n3
      cases f3 with
      | nx => exact ⟨e3, O3, S3, nn, fi⟩
      | ct => exact ⟨e3, O3, S3, nn, fi⟩
      | bk => cases fi; exact k σ3 H3 O3 (n1.trans nn) S3
      | ret t => cases fi; exact k σ3 H3 O3 (n1.trans nn) S3
    · have hi : i = ts.length := by omega
      subst hi
      rw [List.drop_length] at fi
      unfold forLR at fi
      split at fi
      · rename_i hio
        obtain ⟨nf, Si⟩ := S0.forget hio
        cases fi
        have ni := n0.trans nf
        have gx2 : Ext (hid H1 O1) Hi := (S1.grow ni).trans (hid_ext _ _)
        exact .inl ⟨w.stop Hi gx2, k σi Hi Oi (n1.trans ni) Si⟩
      · cases fi

/-! ### defs -/
section
variable {P : Program} {w : World} {K : PySem.W.Frag} {mg : Str → Option Value} {base : Heap}
theorem fn_ok {x qual : Str} {st : Stmt} {f : Addr} {fd : FuncData} {N ps : List Str} {k n nl : Nat} {g : SF} (F : Fun K x qual st f fd) (S : FnScope N ps (defScope st)) (hn : ps.length = n) (hl : N.length = nl) (hle : n ≤ nl)
    (hb : ∀ (cdv : Value) (A : Around) (outer : List Env) (s : Shared) (H : Hp) (E : XK), Room k (A.deeper (envOfC qual (defScope st) s.heap.objs.size f cdv)) → BV (cxOf CX0 P w K mg base N qual (defScope st) f cdv A outer s H E).nox (defBody st) g) :
    FnOk P w K mg base CX0 (k + 1) f fd ps (spF K n (runF nl g)) :=
  F.ok S (fun vs H Q E ⟨O, sls, t, sls', h, _⟩ => h.trans hn.symm) fun cdv A outer s H vs Q E hr h => ⟨tS K g, hb cdv A outer s H E hr, run_pure hl hle (fun _ _ _ z => z) vs H Q E h⟩
/-- a def that hands back a new list -/
@[simp] def isVal : Sl → Bool
  | .val _ => true
  | _ => false
@[simp] def runW (nl : Nat) (g : EF) : MF := fun sls => if sls.all isVal = true then (g (sls ++ List.replicate (nl - sls.length) .un)).map fun q => (q.1, sls) else none
def spW (K : PySem.W.Frag) (n : Nat) (m : MF) : Sp := fun vs H Q _ => ∃ O sls t sls', vs.length = n ∧ noOwn sls ∧ RepS K H O (vs.map some) sls ∧ m sls = some (t, sls') ∧
  ∀ p H' O', Nx (vs.map some) sls H O (vs.map some) sls' H' O' → RepS K H' O' (vs.map some) sls' → p ∈ O' → ¬ Owns (vs.map some) sls' p → H p = none → RepO K (hid H' O') H' p t → Q (.ref p) H'
theorem fn_okW {x qual : Str} {st : Stmt} {f : Addr} {fd : FuncData} {N ps : List Str} {k n nl : Nat} {g : EF} (F : Fun K x qual st f fd) (S : FnScope N ps (defScope st)) (hn : ps.length = n) (hl : N.length = nl) (hle : n ≤ nl)
    (hb : ∀ (cdv : Value) (A : Around) (outer : List Env) (s : Shared) (H : Hp) (E : XK), Room k (A.deeper (envOfC qual (defScope st) s.heap.objs.size f cdv)) → PSs (cxOf CX0 P w K mg base N qual (defScope st) f cdv A outer s H E).nox (defBody st) (tRet (tW K g))) :
    FnOk P w K mg base CX0 (k + 1) f fd ps (spW K n (runW nl g)) :=
  F.ok S (fun vs H Q E ⟨O, sls, t, sls', h, _⟩ => h.trans hn.symm) fun cdv A outer s H vs Q E hr h => ⟨_, hb cdv A outer s H E hr, by
    obtain ⟨O, sls, t, sls', hv, hno, S0, e, kk⟩ := h
    unfold runW at e
    split at e
    · rename_i hval
      obtain ⟨⟨t', envf⟩, q1, e⟩ := Option.map_eq_some_iff.mp e
      cases e
      have hsl : sls.length = n := by rw [S0.len, List.length_map, hv]
      have hlen : (sls ++ List.replicate (nl - sls.length) Sl.un).length = nl := by rw [List.length_append, List.length_replicate]; omega
      have stl : (L2.start N vs).length = nl := by unfold L2.start; rw [List.length_append, List.length_map, List.length_replicate]; omega
      have at1 : ∀ (i : Nat) (s : Sl), (sls ++ List.replicate (nl - sls.length) Sl.un)[i]? = some s → s ≠ .un → sls[i]? = some s ∧ i < n := fun i s h1 h2 => by
        by_cases hi : i < sls.length
        · rw [List.getElem?_append_left hi] at h1
          exact ⟨h1, by omega⟩
        · rw [List.getElem?_append_right (by omega), List.getElem?_replicate] at h1
          split at h1
          · exact (h2 (Option.some.inj h1).symm).elim
          · cases h1
      have sat : ∀ (i : Nat), i < n → (L2.start N vs)[i]? = (vs.map some)[i]? := fun i hi => by
        unfold L2.start
        rw [List.getElem?_append_left (by rw [List.length_map]; omega)]
      have nc0 : ∀ (i : Nat) (u : T), sls[i]?.bind Sl.cont ≠ some u := fun i u h => by
        cases hx : sls[i]? with
        | none => rw [hx] at h; cases h
        | some s =>
          rw [hx] at h
          have := List.all_eq_true.mp hval s (List.mem_of_getElem? hx)
          cases s with
          | val _ => cases h
          | _ => cases this
      have nc : ∀ (i : Nat) (u : T), (sls ++ List.replicate (nl - sls.length) Sl.un)[i]?.bind Sl.cont ≠ some u := fun i u h => by
        cases hx : (sls ++ List.replicate (nl - sls.length) Sl.un)[i]? with
        | none => rw [hx] at h; cases h
        | some s =>
          rw [hx] at h
          obtain ⟨h1, h2⟩ := at1 i s hx (by intro z; subst z; cases h)
          exact nc0 i u (by rw [h1]; exact h)
      have S1 : RepS K H O (L2.start N vs) (sls ++ List.replicate (nl - sls.length) .un) := by
        refine ⟨by rw [hlen, stl], S0.dom, fun i u h => ?_, fun i u h => (nc i u h).elim, fun i j u w p h1 _ _ _ => (nc i u h1).elim⟩
        obtain ⟨h1, h2⟩ := at1 i _ h (by intro z; cases z)
        rw [sat i h2]
        exact S0.val i u h1
      refine ⟨O, _, _, envf, S1, q1, fun p H1 O1 n1 S2 hp ho h0 r => ?_⟩
      have no : ∀ a, ¬ Owns (L2.start N vs) (sls ++ List.replicate (nl - sls.length) Sl.un) a := fun a ⟨i, u, h, _⟩ => nc i u h
      have no2 : ∀ a, ¬ Owns (vs.map some) sls a := fun a ⟨i, u, h, _⟩ => nc0 i u h
      refine kk p H1 O1 ⟨fun a o z _ => n1.fr a o z (no a), n1.dom, n1.sub, fun a z => ?_, fun a z => .inl z, fun i u z => ⟨⟨u, z⟩, rfl⟩, fun i u z => ⟨u, z⟩⟩ ⟨S0.len, S2.dom, fun i u z => ?_, fun i u z => (nc0 i u z).elim, fun i j u w q h1 _ _ _ => (nc0 i u h1).elim⟩ hp (no2 p) h0 r
      · rcases n1.sup a z with q | q | q
        · exact .inl q
        · exact (no a q).elim
        · exact .inr (.inr q)
      · obtain ⟨v, z1, z2⟩ := S0.val i u z
        exact ⟨v, z1, z2.mono (S1.grow n1)⟩
    · cases e⟩
end
section
variable {X : Cx} {k n : Nat} {f : Addr} {fd : FuncData} {ps : List Str} {m : MF} {x : Str} {p pos : Pos} {e : Expr} {es : List Expr} {fx : XF}
theorem ew_call (F : FnOk X.prog X.w X.K X.mg X.base CX0 k f fd ps (spW X.K n m)) (hr : Room k X.A) (hg : Gl X x) (hm : X.mg x = some (.ref f)) (hk : PySem.W.keepIn X.K (.ref f) = true) (hb : Binds X.K fd ps []) (hn : (e :: es).length = n)
    (ha : XA X (e :: es) fx) (hdb : (x == ("__debug__" : Str)) = false := by decide) (he : starEach (e :: es) X.env = (false, eval e X.env) :: starEach es X.env := by rfl) (hpl : (backTo pos (starEach es X.env)).any (·.1) = false := by rfl) (hlen : ∀ env as env', fx env = some (as, env') → as.length = (e :: es).length) :
    EW X (.Call (.Name x p) (e :: es) [] pos) (eCall m (xDef [] fx)) :=
  pe_mono (pe_call F hr hg hm hk hb .nil (E := E0) pass0 ha hdb he hpl) fun σ H Q ⟨O, env, t, env', S, e, kk⟩ => by
    unfold eCall xDef at e
    obtain ⟨⟨as, e1⟩, q1, e⟩ := Option.bind_eq_some_iff.mp e
    obtain ⟨⟨as0, e2⟩, q0, q1⟩ := Option.map_eq_some_iff.mp q1
    simp only [List.map_nil, List.append_nil, Prod.mk.injEq] at q1
    obtain ⟨rfl, rfl⟩ := q1
    refine ⟨O, env, as0, _, S, q0, fun vs H1 O1 n1 S1 pr => ?_⟩
    have hl : vs.length = as0.length := Paired.length pr
    have e : (if (ios as0).Nodup then (resolve e2 as0).bind fun sls => (m sls).map fun r => (r.1, writeB e2 as0 r.2) else none) = some (t, env') := e
    split at e
    · rename_i nd
      obtain ⟨sls, q1, e⟩ := Option.bind_eq_some_iff.mp e
      obtain ⟨⟨t', sls'⟩, q2, e⟩ := Option.map_eq_some_iff.mp e
      cases e
      show spW X.K n m (vs ++ []) H1 Q E0
      rw [List.append_nil]
      refine ⟨O1, sls, _, sls', by rw [hl, hlen _ _ _ q0, hn], resolve_noOwn q1, (S1.args pr q1 nd).1, q2, fun p H2 O2 n2 S2 hp ho h0 r => ?_⟩
      obtain ⟨n3, S3⟩ := S1.back pr q1 nd n2 S2
      refine kk p H2 O2 (n1.trans n3) S3 hp (fun z => ?_) (none_of_dom n1.dom h0) r
      rcases n3.own p z with q | q
      · have := S1.owns q
        obtain ⟨o, eo⟩ := S1.dom p this
        rw [h0] at eo; cases eo
      · -- what is owned behind was tracked ahead
        obtain ⟨i, u, g1, g2⟩ := z
        have hz : Owns σ e2 p := by
          by_cases hi : i ∈ ios as0
          · obtain ⟨j, hj⟩ := mem_ios hi
            obtain ⟨u2, e3, _⟩ := (resolve_get q1).2.2 j i hj
            exact ⟨i, u2, e3, g2⟩
          · rw [writeB_out hi] at g1
            exact ⟨i, u, g1, g2⟩
        have := S1.owns hz
        obtain ⟨o, eo⟩ := S1.dom p this
        rw [h0] at eo; cases eo
    · cases e
end
end Fx

/-! Fx 9: the law's end. -/
namespace Fx
open PySem PySem.Spec PyProof.Rows L2
/-- a list of at most 63 ints is handed in, True comes out -/
def spLaw (K : PySem.W.Frag) : Sp := fun vs H Q _ => ∃ (a : Addr) (ns : List Int), vs = [.ref a] ∧ SqL K H a (ns.map V.int) ∧ ns.length ≤ 63 ∧ ∀ H', Q (.bl true) H'
theorem reps_ints {K : PySem.W.Frag} {G : Hp} : ∀ ns : List Int, Reps K G (ns.map V.int) (ns.map T.int)
  | [] => .nil
  | n :: ns => .cons (.int n) (reps_ints ns)
theorem law_end {P : Program} {w : World} {K : PySem.W.Frag} {mg : Str → Option Value} {base : Heap} {k : Nat} {f : Addr} {fd : FuncData} {ps : List Str} {m : MF} (F : FnOk P w K mg base CX0 k f fd ps (spF K 1 m))
    (h : ∀ ns : List Int, ns.length ≤ 63 → ∃ sls', m [.val (.lsf (ns.map T.int))] = some (.bl true, sls')) : FnOk P w K mg base CX0 k f fd ps (spLaw K) :=
  F.imp fun vs H Q E ⟨a, ns, hv, hS, hl, q⟩ => by
    subst hv
    obtain ⟨sls', e⟩ := h ns hl
    refine ⟨[], _, _, sls', rfl, fun i u z => ?_, ⟨rfl, fun a z => (nomatch z), fun i u z => ?_, fun i u z => ?_, fun i j u v p z1 _ _ _ => ?_⟩, e, fun v H' O' _ _ r => by rw [r.inv_bl]; exact q H'⟩
    · match i, z with
      | 0, z => cases z
      | i + 1, z => simp at z
    · match i, z with
      | 0, z =>
        cases z
        exact ⟨.ref a, rfl, by rw [hid_nil]; exact .lsf hS (reps_ints ns)⟩
      | i + 1, z => simp at z
    · match i, z with
      | 0, z => cases z
      | i + 1, z => simp at z
    · match i, z1 with
      | 0, z => cases z
      | i + 1, z => simp at z
/-- a module's tuple of two ints -/
theorem repK_ii {K : PySem.W.Frag} {c : Addr} {i j : Int} {t u : Tok} {od : Option Addr} {n : Nat} {sl : Array (Option Value)} (h : K.lookup c = some ⟨.type "tuple", od, .seq #[.int i t, .int j u] n, sl⟩) : RepK K (.ref c) (.tup [.int i, .int j]) :=
  ⟨.ref c, rfl, fun G => .tup (.inr ⟨_, _, _, h, rfl, rfl, by show 2 ≤ sizeLine; decide, .cons (show RelV (.int i) _ from ⟨t, rfl⟩) (.cons (show RelV (.int j) _ from ⟨u, rfl⟩) .nil)⟩) (.cons (.int i) (.cons (.int j) .nil))⟩
theorem repK_int {K : PySem.W.Frag} {i : Int} {t : Tok} : RepK K (.int i t) (.int i) := ⟨.int i, ⟨t, rfl⟩, fun _ => .int i⟩
theorem repK_str {K : PySem.W.Frag} {i : Str} {t : Tok} : RepK K (.str i t) (.str i) := ⟨.str i, ⟨t, rfl⟩, fun _ => .str i⟩
end Fx

/-! RM: ratios as Rat, their sizes, Euclid's loop. -/
namespace Fx
open PySem PySem.Spec PyProof.Rows L2
/-- below 2 ^ n -/
def Bd (n : Nat) (i : Int) : Prop := i.natAbs < 2 ^ n
theorem Bd.mono {n m : Nat} {i : Int} (h : Bd n i) (l : n ≤ m) : Bd m i := Nat.lt_of_lt_of_le h (Nat.pow_le_pow_right (by decide) l)
theorem Bd.mul {n m : Nat} {i j : Int} (h : Bd n i) (h' : Bd m j) : Bd (n + m) (i * j) := by
  unfold Bd
  rw [Int.natAbs_mul, Nat.pow_add]
  exact Nat.mul_lt_mul'' h h'
theorem Bd.add {n : Nat} {i j : Int} (h : Bd n i) (h' : Bd n j) : Bd (n + 1) (i + j) := by
  unfold Bd at *
  rw [Nat.pow_succ]
  omega
theorem Bd.sub {n : Nat} {i j : Int} (h : Bd n i) (h' : Bd n j) : Bd (n + 1) (i - j) := by
  unfold Bd at *
  rw [Nat.pow_succ]
  omega
theorem Bd.neg {n : Nat} {i : Int} (h : Bd n i) : Bd n (-i) := by
  unfold Bd at *
  omega
theorem Bd.log {n : Nat} {i : Int} (h : Bd n i) (hn : 0 < n) : i.natAbs.log2 < n := by
  by_cases h0 : i.natAbs = 0
  · rw [h0]; simpa using hn
  · exact (Nat.log2_lt h0).mpr h
theorem Bd.le_log {n : Nat} {i : Int} (h : Bd n i) : i.natAbs.log2 ≤ n := by
  cases n with
  | zero =>
    unfold Bd at h
    have : i.natAbs = 0 := by simpa using h
    rw [this]; simp
  | succ n => exact Nat.le_of_lt (h.log (Nat.succ_pos _))
theorem Bd.mulOk {n m : Nat} {i j : Int} (h : Bd n i) (h' : Bd m j) (l : n + m < 1000000) : MulOk i j := by
  refine .inl ?_
  unfold CMulW
  have := h.le_log
  have := h'.le_log
  omega
theorem Bd.divOk {n : Nat} {j : Int} (h : Bd n j) (h0 : j ≠ 0) (l : n < 9000) : DivOk j := ⟨h0, by have := h.le_log; omega⟩
/-- a ratio as a tree -/
def rt (q : Rat) : T := .tup [.int q.num, .int q.den]
/-- a ratio's size -/
structure Sz (n : Nat) (q : Rat) : Prop where
  num : Bd n q.num
  den : Bd n q.den
theorem Sz.mono {n m : Nat} {q : Rat} (h : Sz n q) (l : n ≤ m) : Sz m q := ⟨h.num.mono l, h.den.mono l⟩
theorem den_pos (q : Rat) : (0 : Int) < q.den := by have := q.den_pos; omega
theorem den_ne (q : Rat) : (q.den : Int) ≠ 0 := by have := q.den_pos; omega
theorem gcd_pos {a b : Int} (h : b ≠ 0) : (0 : Int) < (Nat.gcd a.natAbs b.natAbs : Nat) := by
  have : 0 < Nat.gcd a.natAbs b.natAbs := Nat.gcd_pos_of_pos_right _ (by omega)
  omega
theorem gcd_bd {a b : Int} {n : Nat} (h : b ≠ 0) (hb : Bd n b) : Bd n (Nat.gcd a.natAbs b.natAbs : Nat) := by
  unfold Bd at *
  have := Nat.gcd_le_right a.natAbs (show 0 < b.natAbs by omega)
  rw [Int.natAbs_natCast]
  omega
theorem ig_eq (a b : Int) : b.gcd a = Nat.gcd a.natAbs b.natAbs := by
  unfold Int.gcd
  exact Nat.gcd_comm _ _
theorem num_pos {a b : Int} (h : 0 < b) : (Rat.divInt a b).num = a.fdiv (Nat.gcd a.natAbs b.natAbs : Nat) := by
  rw [Rat.num_divInt, ig_eq, Int.sign_eq_one_of_pos h, Int.one_mul, Int.fdiv_eq_ediv_of_nonneg _ (by omega)]
theorem num_neg {a b : Int} (h : b < 0) : (Rat.divInt a b).num = (-a).fdiv (Nat.gcd a.natAbs b.natAbs : Nat) := by
  rw [Rat.num_divInt, ig_eq, Int.sign_eq_neg_one_of_neg h, Int.fdiv_eq_ediv_of_nonneg _ (by omega)]
  congr 1
  omega
theorem den_posi {a b : Int} (h : 0 < b) : ((Rat.divInt a b).den : Int) = b.fdiv (Nat.gcd a.natAbs b.natAbs : Nat) := by
  rw [Rat.den_divInt, if_neg (by omega), ig_eq, Int.fdiv_eq_ediv_of_nonneg _ (by omega), Int.natCast_ediv, Int.natAbs_of_nonneg (by omega)]
theorem den_neg {a b : Int} (h : b < 0) : ((Rat.divInt a b).den : Int) = (-b).fdiv (Nat.gcd a.natAbs b.natAbs : Nat) := by
  rw [Rat.den_divInt, if_neg (by omega), ig_eq, Int.fdiv_eq_ediv_of_nonneg _ (by omega), Int.natCast_ediv, Int.ofNat_natAbs_of_nonpos (by omega)]
theorem sz_divInt {n : Nat} {a b : Int} (h0 : b ≠ 0) (ha : Bd n a) (hb : Bd n b) : Sz n (Rat.divInt a b) := by
  refine ⟨?_, ?_⟩
  · rw [Rat.num_divInt]
    unfold Bd at *
    have : (b.sign * a / ↑(b.gcd a)).natAbs ≤ a.natAbs := by
      have h1 : (b.sign * a / ↑(b.gcd a)).natAbs = (b.sign * a).natAbs / b.gcd a := by
        rw [Int.natAbs_ediv_of_dvd]
        · rfl
        · exact Int.dvd_mul_of_dvd_right (Int.gcd_dvd_right ..)
      rw [h1]
      refine Nat.le_trans (Nat.div_le_self _ _) ?_
      rw [Int.natAbs_mul, Int.natAbs_sign_of_ne_zero h0, Nat.one_mul]
      exact Nat.le_refl _
    omega
  · rw [Rat.den_divInt, if_neg h0]
    unfold Bd at *
    have := Nat.div_le_self b.natAbs (b.gcd a)
    rw [Int.natAbs_natCast]
    omega
theorem add_eq (p q : Rat) : Rat.divInt (p.num * q.den + q.num * p.den) (p.den * q.den) = p + q := by
  rw [← Rat.divInt_add_divInt _ _ (den_ne p) (den_ne q), Rat.num_divInt_den, Rat.num_divInt_den]
theorem sub_eq (p q : Rat) : Rat.divInt (p.num * q.den - q.num * p.den) (p.den * q.den) = p - q := by
  rw [← Rat.divInt_sub_divInt _ _ (den_ne p) (den_ne q), Rat.num_divInt_den, Rat.num_divInt_den]
theorem mul_eq (p q : Rat) : Rat.divInt (p.num * q.num) (p.den * q.den) = p * q := by
  rw [← Rat.divInt_mul_divInt, Rat.num_divInt_den, Rat.num_divInt_den]
theorem div_eq (p q : Rat) : Rat.divInt (p.num * q.den) (p.den * q.num) = p / q := by
  rw [Rat.div_def]
  have : q⁻¹ = Rat.divInt q.den q.num := by rw [← Rat.inv_divInt, Rat.num_divInt_den]
  rw [this]
  rw [← Rat.divInt_mul_divInt, Rat.num_divInt_den]
theorem Sz.add {n m : Nat} {p q : Rat} (h : Sz n p) (h' : Sz m q) : Sz (n + m + 1) (p + q) := by
  rw [← add_eq]
  refine sz_divInt (Int.mul_ne_zero (den_ne p) (den_ne q)) ((h.num.mul h'.den).add ?_) ((h.den.mul h'.den).mono (by omega))
  have := h'.num.mul h.den
  rw [Nat.add_comm] at this
  exact this
theorem Sz.sub {n m : Nat} {p q : Rat} (h : Sz n p) (h' : Sz m q) : Sz (n + m + 1) (p - q) := by
  rw [← sub_eq]
  refine sz_divInt (Int.mul_ne_zero (den_ne p) (den_ne q)) ((h.num.mul h'.den).sub ?_) ((h.den.mul h'.den).mono (by omega))
  have := h'.num.mul h.den
  rw [Nat.add_comm] at this
  exact this
theorem Sz.mul {n m : Nat} {p q : Rat} (h : Sz n p) (h' : Sz m q) : Sz (n + m) (p * q) := by
  rw [← mul_eq]
  exact sz_divInt (Int.mul_ne_zero (den_ne p) (den_ne q)) (h.num.mul h'.num) (h.den.mul h'.den)
theorem num_ne {q : Rat} (h : q ≠ 0) : q.num ≠ 0 := fun e => h (by rw [← Rat.num_divInt_den q, e, Rat.zero_divInt])
theorem Sz.div {n m : Nat} {p q : Rat} (h : Sz n p) (h' : Sz m q) (hq : q ≠ 0) : Sz (n + m) (p / q) := by
  rw [← div_eq]
  exact sz_divInt (Int.mul_ne_zero (den_ne p) (num_ne hq)) (h.num.mul h'.den) (h.den.mul h'.num)
theorem Sz.neg {n : Nat} {p : Rat} (h : Sz n p) : Sz n (-p) := ⟨by rw [Rat.neg_num]; exact h.num.neg, by rw [Rat.neg_den]; exact h.den⟩
theorem rt_inj {p q : Rat} (h : rt p = rt q) : p = q := by
  unfold rt at h
  injection h with h
  simp only [List.cons.injEq, T.int.injEq, and_true] at h
  exact Rat.ext h.1 (by omega)
theorem lt_num (p q : Rat) : decide (p.num * q.den < q.num * p.den) = decide (p < q) := by
  rw [decide_eq_decide]
  exact (Rat.lt_iff p q).symm
theorem le_num (p q : Rat) : decide (p.num * q.den ≤ q.num * p.den) = decide (p ≤ q) := by
  rw [decide_eq_decide]
  exact (Rat.le_iff p q).symm
/-! ### Euclid's loop -/
theorem mod_half {x y : Nat} (h : 0 < y) (h' : y ≤ x) : x % y ≤ x / 2 := by
  have h1 : x % y < y := Nat.mod_lt _ h
  by_cases c : y ≤ x / 2
  · omega
  · have : x % y = x - y := by
      rw [Nat.mod_eq_sub_mod h']
      exact Nat.mod_eq_of_lt (by omega)
    omega
theorem fmod_abs {a b : Int} (h : b ≠ 0) : (a.fmod b).natAbs < b.natAbs := by
  rcases Int.lt_or_gt_of_ne h with c | c
  · have h1 : a.fmod b = -((-a).fmod (-b)) := by
      rw [Int.neg_fmod_neg, Int.neg_neg]
    rw [h1, Int.natAbs_neg, Int.fmod_eq_emod_of_nonneg _ (by omega)]
    have h2 := Int.emod_nonneg (-a) (show -b ≠ 0 by omega)
    have h3 := Int.emod_lt_of_pos (-a) (show 0 < -b by omega)
    omega
  · rw [Int.fmod_eq_emod_of_nonneg _ (by omega)]
    have h2 := Int.emod_nonneg a (show b ≠ 0 by omega)
    have h3 := Int.emod_lt_of_pos a (show 0 < b by omega)
    omega
theorem fmod_gcd (a b : Int) : Nat.gcd b.natAbs (a.fmod b).natAbs = Nat.gcd a.natAbs b.natAbs := by
  have h : a.fmod b = a - b * a.fdiv b := by rw [Int.fmod_def]
  have : Int.gcd b (a.fmod b) = Int.gcd a b := by
    rw [h, Int.gcd_comm a b]
    have := Int.gcd_sub_mul_right_right (m := b) (n := a) (k := a.fdiv b)
    rw [Int.mul_comm b]
    exact this
  exact this
theorem fmod_half {a b : Int} (h : b ≠ 0) (h' : a.fmod b ≠ 0) : (b.fmod (a.fmod b)).natAbs ≤ b.natAbs / 2 := by
  have h1 := fmod_abs (a := a) h
  rcases Int.lt_or_gt_of_ne h with c | c
  · have e1 : a.fmod b = -((-a).fmod (-b)) := by
      rw [Int.neg_fmod_neg, Int.neg_neg]
    have e2 : (-a).fmod (-b) = (-a) % (-b) := Int.fmod_eq_emod_of_nonneg _ (by omega)
    have h2 := Int.emod_nonneg (-a) (show -b ≠ 0 by omega)
    have e3 : b.fmod (a.fmod b) = -((-b).fmod (-(a.fmod b))) := by
      rw [Int.neg_fmod_neg, Int.neg_neg]
    have h3 : 0 < -(a.fmod b) := by omega
    rw [e3, Int.natAbs_neg, Int.fmod_eq_emod_of_nonneg _ (by omega), Int.natAbs_emod_of_nonneg (by omega), Int.natAbs_neg, Int.natAbs_neg]
    exact mod_half (by omega) (by omega)
  · have e2 : a.fmod b = a % b := Int.fmod_eq_emod_of_nonneg _ (by omega)
    have h2 := Int.emod_nonneg a (show b ≠ 0 by omega)
    have h3 : 0 < a.fmod b := by omega
    rw [Int.fmod_eq_emod_of_nonneg b (show 0 ≤ a.fmod b by omega), Int.natAbs_emod_of_nonneg (by omega)]
    exact mod_half (by omega) (by omega)
/-! ### loops -/
theorem forL_run {p : Pat} {b : SF} (I : Nat → Sls → Prop) : ∀ (ts : List T) (n : Nat) (env : Sls), I n env → (∀ t n env, t ∈ ts → I n env → ∃ e1 env', bindP p t env = some e1 ∧ (b e1 = some (.nx, env') ∨ b e1 = some (.ct, env')) ∧ I (n + 1) env') →
    ∃ env', forL p b ts env = some (.nx, env') ∧ I (n + ts.length) env'
  | [], n, env, h, _ => ⟨env, rfl, h⟩
  | t :: r, n, env, h, hs => by
    obtain ⟨e1, e2, h1, h2, h3⟩ := hs t n env List.mem_cons_self h
    obtain ⟨e3, h4, h5⟩ := forL_run I r (n + 1) e2 h3 fun t n env ht => hs t n env (List.mem_cons_of_mem _ ht)
    refine ⟨e3, ?_, by rw [List.length_cons]; have : n + (r.length + 1) = n + 1 + r.length := by omega
                       rw [this]; exact h5⟩
    unfold forL
    rw [h1]
    rcases h2 with h2 | h2
    · simp only [Option.bind_some, h2]; exact h4
    · simp only [Option.bind_some, h2]; exact h4
/-! ### == -/
@[simp] theorem eqT_int (a b : Int) : eqT (.int a) (.int b) = some (a == b) := by
  simp [eqT, toD, SeqAt.shaped, PyData.canLay0, PyData.depth, PyData.eqv]
@[simp] theorem eqT_bl (a b : Bool) : eqT (.bl a) (.bl b) = some (a == b) := by
  simp [eqT, toD, SeqAt.shaped, PyData.canLay0, PyData.depth, PyData.eqv]
/-! ### steps -/
theorem bSeq_nx {g g' : SF} {env env1 : Sls} (h : g env = some (.nx, env1)) : bSeq g g' env = g' env1 := by simp [h]
theorem bSeq_ret {g g' : SF} {env env1 : Sls} {t : T} (h : g env = some (.ret t, env1)) : bSeq g g' env = some (.ret t, env1) := by simp [h]
theorem sFor_of {fi : AF} {p : Pat} {b : SF} {env env1 : Sls} {ts : List T} (h : fi env = some (ts, env1)) : sFor fi p b env = forL p b ts env1 := by simp [h]
theorem sIf_T {c : BF} {f g : SF} {env env1 : Sls} (h : c env = some (true, env1)) : sIf c f g env = f env1 := by simp [h]
theorem sIf_F {c : BF} {f g : SF} {env env1 : Sls} (h : c env = some (false, env1)) : sIf c f g env = g env1 := by simp [h]
theorem runF_ret {nl : Nat} {g : SF} {sls env1 sls' : Sls} {t : T} (h : g (sls ++ List.replicate (nl - sls.length) .un) = some (.ret t, env1)) (h' : backS sls env1 = sls') : runF nl g sls = some (t, sls') := by
  simp only [runF, h, Option.bind_some, h']
/-! ### lists of ints; the pen -/
theorem toDs_ints : ∀ ns : List Int, toDs (ns.map T.int) = some (ns.map PyData.int)
  | [] => rfl
  | n :: ns => by simp [toDs_ints ns]
theorem lay_ints : ∀ ns : List Int, PyData.canLayAll0 (ns.map PyData.int) = true
  | [] => rfl
  | n :: ns => by simp [PyData.canLayAll0, PyData.canLay0, lay_ints ns]
theorem depth_ints : ∀ ns : List Int, PyData.depthAll (ns.map PyData.int) = 0
  | [] => rfl
  | n :: ns => by simp [PyData.depthAll, PyData.depth, depth_ints ns]
theorem eqT_ints_nil (ns : List Int) : eqT (.lst (ns.map T.int)) (.lst []) = some ns.isEmpty := by
  simp only [eqT, toD, toDs_ints, Option.map_some, Option.bind_some, toDs, SeqAt.shaped, PyData.canLay0, lay_ints, PyData.depth, depth_ints, PyData.canLayAll0, PyData.depthAll]
  cases ns <;> simp [PyData.eqv, PyData.eqvAll]
theorem atI_ints {ns : List Int} {k : Int} (h0 : 0 ≤ k) (h : k < ns.length) : ∃ c, L2.atI (ns.map T.int) k = some (.int c) ∧ c ∈ ns := by
  have hk : k.toNat < ns.length := by omega
  refine ⟨ns[k.toNat], ?_, List.getElem_mem hk⟩
  unfold L2.atI ixN
  rw [List.length_map, if_pos h0, if_pos h]
  simp [hk]
/-- the pen: its cells, how many were begun, what is left -/
def pn (cs : List Int) (t r : Int) : T := .lst [.lst (cs.map T.int), .int t, .int r]
section
variable {α : Type} (a b c d e : α)
@[simp] theorem at_1_0 : L2.atI [a] 0 = some a := rfl
@[simp] theorem at_2_0 : L2.atI [a, b] 0 = some a := rfl
@[simp] theorem at_2_1 : L2.atI [a, b] 1 = some b := rfl
@[simp] theorem at_3_0 : L2.atI [a, b, c] 0 = some a := rfl
@[simp] theorem at_3_1 : L2.atI [a, b, c] 1 = some b := rfl
@[simp] theorem at_3_2 : L2.atI [a, b, c] 2 = some c := rfl
@[simp] theorem at_4_0 : L2.atI [a, b, c, d] 0 = some a := rfl
@[simp] theorem at_4_1 : L2.atI [a, b, c, d] 1 = some b := rfl
@[simp] theorem at_4_2 : L2.atI [a, b, c, d] 2 = some c := rfl
@[simp] theorem at_4_3 : L2.atI [a, b, c, d] 3 = some d := rfl
@[simp] theorem at_5_0 : L2.atI [a, b, c, d, e] 0 = some a := rfl
@[simp] theorem at_5_1 : L2.atI [a, b, c, d, e] 1 = some b := rfl
@[simp] theorem at_5_2 : L2.atI [a, b, c, d, e] 2 = some c := rfl
@[simp] theorem at_5_3 : L2.atI [a, b, c, d, e] 3 = some d := rfl
@[simp] theorem at_5_4 : L2.atI [a, b, c, d, e] 4 = some e := rfl
@[simp] theorem ixN_3_0 : ixN 3 0 = some 0 := rfl
@[simp] theorem ixN_3_1 : ixN 3 1 = some 1 := rfl
@[simp] theorem ixN_3_2 : ixN 3 2 = some 2 := rfl
end
/-! ### pens, lists of ratios -/
/-- a pen of which at most k numbers were begun -/
def Pen (k : Int) (P : T) : Prop := ∃ cs t r, P = pn cs t r ∧ cs.length ≤ 63 ∧ 0 ≤ t ∧ t ≤ k ∧ 0 ≤ r
theorem Pen.mono {k l : Int} {P : T} (h : Pen k P) (hl : k ≤ l) : Pen l P := by
  obtain ⟨cs, t, r, e, h1, h2, h3, h4⟩ := h
  exact ⟨cs, t, r, e, h1, h2, by omega, h4⟩
def okR (n : Nat) : T → Bool
  | .tup [.int a, .int b] => decide (0 < b) && decide (Nat.gcd a.natAbs b.natAbs = 1) && decide (a.natAbs < 2 ^ n) && decide (b.natAbs < 2 ^ n)
  | _ => false
theorem okR_rt {n : Nat} {x : T} (h : okR n x = true) : ∃ q, x = rt q ∧ Sz n q := by
  unfold okR at h
  split at h
  · rename_i a b
    simp only [Bool.and_eq_true, decide_eq_true_eq] at h
    obtain ⟨⟨⟨h1, h2⟩, h3⟩, h4⟩ := h
    refine ⟨⟨a, b.natAbs, by omega, h2⟩, ?_, h3, ?_⟩
    · unfold rt
      simp only
      rw [Int.natAbs_of_nonneg (by omega)]
    · show (b.natAbs : Int).natAbs < 2 ^ n
      rw [Int.natAbs_natCast]
      exact h4
  · cases h
theorem okRs_mem {n : Nat} {xs : List T} (h : xs.all (okR n) = true) {x : T} (hx : x ∈ xs) : ∃ q, x = rt q ∧ Sz n q := okR_rt (List.all_eq_true.mp h x hx)
theorem atI_mem {xs : List T} {k : Int} (h0 : 0 ≤ k) (h : k < xs.length) : ∃ c, L2.atI xs k = some c ∧ c ∈ xs := by
  have hk : k.toNat < xs.length := by omega
  refine ⟨xs[k.toNat], ?_, List.getElem_mem hk⟩
  unfold L2.atI ixN
  rw [if_pos h0, if_pos h]
  simp [hk]
theorem sz_int {n : Nat} {a : Int} (h : Bd n a) (hn : 0 < n) : Sz n (Rat.divInt a 1) := sz_divInt (by decide) h (by unfold Bd; have := Nat.pow_le_pow_right (show 0 < 2 by decide) hn; simp at this ⊢; omega)
theorem rt_int (a : Int) : rt (Rat.divInt a 1) = .tup [.int a, .int 1] := by
  unfold rt
  rw [num_pos (by decide), den_posi (by decide)]
  simp
end Fx

namespace K03
open PySem PySem.Spec PyProof.Rows L2 Fx
def top (i : Nat) : Stmt := PySem.Challenge.pw_allodds_k03_odds_along_lines.main.body.getD i (.Pass ⟨0, 0, 0, 0⟩)
abbrev s_is_integer : Stmt := top 2
abbrev N_is_integer : List Str := ["value"]
theorem sc_is_integer : FnScope N_is_integer ["value"] (defScope s_is_integer) := ⟨rfl, rfl, rfl, by decide +kernel, rfl, by decide +kernel, by decide +kernel⟩
abbrev s_is_listed : Stmt := top 3
abbrev N_is_listed : List Str := ["value"]
theorem sc_is_listed : FnScope N_is_listed ["value"] (defScope s_is_listed) := ⟨rfl, rfl, rfl, by decide +kernel, rfl, by decide +kernel, by decide +kernel⟩
abbrev s_is_pair : Stmt := top 4
abbrev N_is_pair : List Str := ["value"]
theorem sc_is_pair : FnScope N_is_pair ["value"] (defScope s_is_pair) := ⟨rfl, rfl, rfl, by decide +kernel, rfl, by decide +kernel, by decide +kernel⟩
abbrev s_lowest : Stmt := top 8
abbrev N_lowest : List Str := ["top", "bottom", "shared"]
theorem sc_lowest : FnScope N_lowest ["top", "bottom"] (defScope s_lowest) := ⟨rfl, rfl, rfl, by decide +kernel, rfl, by decide +kernel, by decide +kernel⟩
abbrev s_is_ratio : Stmt := top 9
abbrev N_is_ratio : List Str := ["value"]
theorem sc_is_ratio : FnScope N_is_ratio ["value"] (defScope s_is_ratio) := ⟨rfl, rfl, rfl, by decide +kernel, rfl, by decide +kernel, by decide +kernel⟩
abbrev s_plus : Stmt := top 10
abbrev N_plus : List Str := ["one", "other"]
theorem sc_plus : FnScope N_plus ["one", "other"] (defScope s_plus) := ⟨rfl, rfl, rfl, by decide +kernel, rfl, by decide +kernel, by decide +kernel⟩
abbrev s_minus : Stmt := top 11
abbrev N_minus : List Str := ["one", "other"]
theorem sc_minus : FnScope N_minus ["one", "other"] (defScope s_minus) := ⟨rfl, rfl, rfl, by decide +kernel, rfl, by decide +kernel, by decide +kernel⟩
abbrev s_negated : Stmt := top 12
abbrev N_negated : List Str := ["one"]
theorem sc_negated : FnScope N_negated ["one"] (defScope s_negated) := ⟨rfl, rfl, rfl, by decide +kernel, rfl, by decide +kernel, by decide +kernel⟩
abbrev s_times : Stmt := top 13
abbrev N_times : List Str := ["one", "other"]
theorem sc_times : FnScope N_times ["one", "other"] (defScope s_times) := ⟨rfl, rfl, rfl, by decide +kernel, rfl, by decide +kernel, by decide +kernel⟩
abbrev s_less : Stmt := top 14
abbrev N_less : List Str := ["one", "other"]
theorem sc_less : FnScope N_less ["one", "other"] (defScope s_less) := ⟨rfl, rfl, rfl, by decide +kernel, rfl, by decide +kernel, by decide +kernel⟩
abbrev s_at_most : Stmt := top 15
abbrev N_at_most : List Str := ["one", "other"]
theorem sc_at_most : FnScope N_at_most ["one", "other"] (defScope s_at_most) := ⟨rfl, rfl, rfl, by decide +kernel, rfl, by decide +kernel, by decide +kernel⟩
abbrev s_is_line : Stmt := top 17
abbrev N_is_line : List Str := ["value", "one"]
theorem sc_is_line : FnScope N_is_line ["value"] (defScope s_is_line) := ⟨rfl, rfl, rfl, by decide +kernel, rfl, by decide +kernel, by decide +kernel⟩
abbrev s_is_on : Stmt := top 18
abbrev N_is_on : List Str := ["line", "value"]
theorem sc_is_on : FnScope N_is_on ["line", "value"] (defScope s_is_on) := ⟨rfl, rfl, rfl, by decide +kernel, rfl, by decide +kernel, by decide +kernel⟩
abbrev s_odds_at : Stmt := top 19
abbrev N_odds_at : List Str := ["odds", "x"]
theorem sc_odds_at : FnScope N_odds_at ["odds", "x"] (defScope s_odds_at) := ⟨rfl, rfl, rfl, by decide +kernel, rfl, by decide +kernel, by decide +kernel⟩
abbrev s_are_odds : Stmt := top 20
abbrev N_are_odds : List Str := ["value", "line", "some", "one", "x"]
theorem sc_are_odds : FnScope N_are_odds ["value", "line"] (defScope s_are_odds) := ⟨rfl, rfl, rfl, by decide +kernel, rfl, by decide +kernel, by decide +kernel⟩
abbrev s_rest_of : Stmt := top 21
abbrev N_rest_of : List Str := ["odds"]
theorem sc_rest_of : FnScope N_rest_of ["odds"] (defScope s_rest_of) := ⟨rfl, rfl, rfl, by decide +kernel, rfl, by decide +kernel, by decide +kernel⟩
abbrev s__law_pen : Stmt := top 23
abbrev N__law_pen : List Str := ["script", "cell"]
theorem sc__law_pen : FnScope N__law_pen ["script"] (defScope s__law_pen) := ⟨rfl, rfl, rfl, by decide +kernel, rfl, by decide +kernel, by decide +kernel⟩
abbrev s__law_draw : Stmt := top 24
abbrev N__law_draw : List Str := ["pen", "many", "rest", "turn", "cell", "mixed"]
theorem sc__law_draw : FnScope N__law_draw ["pen", "many"] (defScope s__law_draw) := ⟨rfl, rfl, rfl, by decide +kernel, rfl, by decide +kernel, by decide +kernel⟩
abbrev s__law_pick : Stmt := top 25
abbrev N__law_pick : List Str := ["pen", "some"]
theorem sc__law_pick : FnScope N__law_pick ["pen", "some"] (defScope s__law_pick) := ⟨rfl, rfl, rfl, by decide +kernel, rfl, by decide +kernel, by decide +kernel⟩
abbrev s__law_shared : Stmt := top 26
abbrev N__law_shared : List Str := ["one", "other", "turn"]
theorem sc__law_shared : FnScope N__law_shared ["one", "other"] (defScope s__law_shared) := ⟨rfl, rfl, rfl, by decide +kernel, rfl, by decide +kernel, by decide +kernel⟩
abbrev s__law_lowest : Stmt := top 27
abbrev N__law_lowest : List Str := ["top", "bottom", "shared", "sign"]
theorem sc__law_lowest : FnScope N__law_lowest ["top", "bottom"] (defScope s__law_lowest) := ⟨rfl, rfl, rfl, by decide +kernel, rfl, by decide +kernel, by decide +kernel⟩
abbrev s__law_plus : Stmt := top 28
abbrev N__law_plus : List Str := ["one", "other"]
theorem sc__law_plus : FnScope N__law_plus ["one", "other"] (defScope s__law_plus) := ⟨rfl, rfl, rfl, by decide +kernel, rfl, by decide +kernel, by decide +kernel⟩
abbrev s__law_minus : Stmt := top 29
abbrev N__law_minus : List Str := ["one", "other"]
theorem sc__law_minus : FnScope N__law_minus ["one", "other"] (defScope s__law_minus) := ⟨rfl, rfl, rfl, by decide +kernel, rfl, by decide +kernel, by decide +kernel⟩
abbrev s__law_times : Stmt := top 30
abbrev N__law_times : List Str := ["one", "other"]
theorem sc__law_times : FnScope N__law_times ["one", "other"] (defScope s__law_times) := ⟨rfl, rfl, rfl, by decide +kernel, rfl, by decide +kernel, by decide +kernel⟩
abbrev s__law_over : Stmt := top 31
abbrev N__law_over : List Str := ["one", "other"]
theorem sc__law_over : FnScope N__law_over ["one", "other"] (defScope s__law_over) := ⟨rfl, rfl, rfl, by decide +kernel, rfl, by decide +kernel, by decide +kernel⟩
abbrev s__law_is_less : Stmt := top 32
abbrev N__law_is_less : List Str := ["one", "other"]
theorem sc__law_is_less : FnScope N__law_is_less ["one", "other"] (defScope s__law_is_less) := ⟨rfl, rfl, rfl, by decide +kernel, rfl, by decide +kernel, by decide +kernel⟩
abbrev s__law_drawn : Stmt := top 33
abbrev N__law_drawn : List Str := ["pen", "way"]
theorem sc__law_drawn : FnScope N__law_drawn ["pen"] (defScope s__law_drawn) := ⟨rfl, rfl, rfl, by decide +kernel, rfl, by decide +kernel, by decide +kernel⟩
abbrev s__law_line : Stmt := top 34
abbrev N__law_line : List Str := ["pen", "way", "low"]
theorem sc__law_line : FnScope N__law_line ["pen"] (defScope s__law_line) := ⟨rfl, rfl, rfl, by decide +kernel, rfl, by decide +kernel, by decide +kernel⟩
abbrev s__law_at : Stmt := top 35
abbrev N__law_at : List Str := ["odds", "x"]
theorem sc__law_at : FnScope N__law_at ["odds", "x"] (defScope s__law_at) := ⟨rfl, rfl, rfl, by decide +kernel, rfl, by decide +kernel, by decide +kernel⟩
abbrev s__law_odds_by : Stmt := top 36
abbrev N__law_odds_by : List Str := ["line", "one", "other", "slope"]
theorem sc__law_odds_by : FnScope N__law_odds_by ["line", "one", "other"] (defScope s__law_odds_by) := ⟨rfl, rfl, rfl, by decide +kernel, rfl, by decide +kernel, by decide +kernel⟩
abbrev s__law_odds : Stmt := top 37
abbrev N__law_odds : List Str := ["pen", "line", "some", "one"]
theorem sc__law_odds : FnScope N__law_odds ["pen", "line"] (defScope s__law_odds) := ⟨rfl, rfl, rfl, by decide +kernel, rfl, by decide +kernel, by decide +kernel⟩
abbrev s__law_rest : Stmt := top 38
abbrev N__law_rest : List Str := ["odds"]
theorem sc__law_rest : FnScope N__law_rest ["odds"] (defScope s__law_rest) := ⟨rfl, rfl, rfl, by decide +kernel, rfl, by decide +kernel, by decide +kernel⟩
abbrev s__law_x : Stmt := top 39
abbrev N__law_x : List Str := ["pen", "line", "way", "wide", "bottom"]
theorem sc__law_x : FnScope N__law_x ["pen", "line"] (defScope s__law_x) := ⟨rfl, rfl, rfl, by decide +kernel, rfl, by decide +kernel, by decide +kernel⟩
abbrev s_law : Stmt := top 40
abbrev N_law : List Str := ["script", "pen", "turn", "line", "odds", "x", "ends", "near", "step", "beyond", "odd", "parts", "lap", "one"]
theorem sc_law : FnScope N_law ["script"] (defScope s_law) := ⟨rfl, rfl, rfl, by decide +kernel, rfl, by decide +kernel, by decide +kernel⟩
def k_ONE : T := (.tup [(.int 1), (.int 1)])
def k_ZERO : T := (.tup [(.int 0), (.int 1)])
abbrev kw_odds_at_0_x_odds {α : Type} (us ws : List α) : List α := permG 0 2 [1, 0] us ws
abbrev kw_rest_of_0_odds {α : Type} (us ws : List α) : List α := permG 0 1 [0] us ws
abbrev kw_are_odds_0_line_value {α : Type} (us ws : List α) : List α := permG 0 2 [1, 0] us ws
abbrev kw_is_on_0_value_line {α : Type} (us ws : List α) : List α := permG 0 2 [1, 0] us ws
abbrev kw_is_line_0_value {α : Type} (us ws : List α) : List α := permG 0 1 [0] us ws
def g_is_integer : SF := (sRet (eAnd (eN bIsi (aC (eVar 0) (aC (eC (.ty .int)) aN))) (eNot (eN bIsi (aC (eVar 0) (aC (eC (.ty .bl)) aN))))))
def m_is_integer : MF := runF 1 g_is_integer
def g_is_listed : SF := (sRet (eN bIsi (aC (eVar 0) (aC (eN dTup (aC (eC (.ty .list)) (aC (eC (.ty .tup)) aN))) aN))))
def m_is_listed : MF := runF 1 g_is_listed
def g_is_pair : SF := (sRet (eAnd (eCall m_is_listed (xDef [] (xV (eVar 0) xN))) (e2 qEq (eN bLen (aC (eVar 0) aN)) (eC (.int 2)))))
def m_is_pair : MF := runF 1 g_is_pair
def g_lowest : SF := (bSeq (sAsg (.nm 2) (eN bGcd (aC (eVar 0) (aC (eVar 1) aN))))
    (bSeq (sIf (tB1 (e2 (iCmp fun i j => decide (i < j)) (eVar 1) (eC (.int 0)))) (sRet (eN dTup (aC (e2 iDiv (e1 nNeg (eVar 0)) (eVar 2)) (aC (e2 iDiv (e1 nNeg (eVar 1)) (eVar 2)) aN)))) bNil)
    (sRet (eN dTup (aC (e2 iDiv (eVar 0) (eVar 2)) (aC (e2 iDiv (eVar 1) (eVar 2)) aN))))))
def m_lowest : MF := runF 3 g_lowest
def g_is_ratio : SF := (bSeq (sIf (bOr (bNot (tB1 (eN bIsi (aC (eVar 0) (aC (eC (.ty .tup)) aN))))) (bOr (tB1 (e2 qNe (eN bLen (aC (eVar 0) aN)) (eC (.int 2)))) (bOr (bNot (tB1 (eCall m_is_integer (xDef [] (xV (e2 xIx (eVar 0) (eC (.int 0))) xN))))) (bNot (tB1 (eCall m_is_integer (xDef [] (xV (e2 xIx (eVar 0) (eC (.int 1))) xN)))))))) (sRet (eC (.bl false))) bNil)
    (sRet (eAnd (e2 (iCmp fun i j => decide (j ≤ i)) (e2 xIx (eVar 0) (eC (.int 1))) (eC (.int 1))) (e2 qEq (eN bGcd (aC (e2 xIx (eVar 0) (eC (.int 0))) (aC (e2 xIx (eVar 0) (eC (.int 1))) aN))) (eC (.int 1))))))
def m_is_ratio : MF := runF 1 g_is_ratio
def g_plus : SF := (sRet (eCall m_lowest (xDef [] (xV (e2 oAdd (e2 oMul (e2 xIx (eVar 0) (eC (.int 0))) (e2 xIx (eVar 1) (eC (.int 1)))) (e2 oMul (e2 xIx (eVar 1) (eC (.int 0))) (e2 xIx (eVar 0) (eC (.int 1))))) (xV (e2 oMul (e2 xIx (eVar 0) (eC (.int 1))) (e2 xIx (eVar 1) (eC (.int 1)))) xN)))))
def m_plus : MF := runF 2 g_plus
def g_minus : SF := (sRet (eCall m_lowest (xDef [] (xV (e2 iSub (e2 oMul (e2 xIx (eVar 0) (eC (.int 0))) (e2 xIx (eVar 1) (eC (.int 1)))) (e2 oMul (e2 xIx (eVar 1) (eC (.int 0))) (e2 xIx (eVar 0) (eC (.int 1))))) (xV (e2 oMul (e2 xIx (eVar 0) (eC (.int 1))) (e2 xIx (eVar 1) (eC (.int 1)))) xN)))))
def m_minus : MF := runF 2 g_minus
def g_negated : SF := (sRet (eN dTup (aC (e1 nNeg (e2 xIx (eVar 0) (eC (.int 0)))) (aC (e2 xIx (eVar 0) (eC (.int 1))) aN))))
def m_negated : MF := runF 1 g_negated
def g_times : SF := (sRet (eCall m_lowest (xDef [] (xV (e2 oMul (e2 xIx (eVar 0) (eC (.int 0))) (e2 xIx (eVar 1) (eC (.int 0)))) (xV (e2 oMul (e2 xIx (eVar 0) (eC (.int 1))) (e2 xIx (eVar 1) (eC (.int 1)))) xN)))))
def m_times : MF := runF 2 g_times
def g_less : SF := (sRet (e2 (iCmp fun i j => decide (i < j)) (e2 oMul (e2 xIx (eVar 0) (eC (.int 0))) (e2 xIx (eVar 1) (eC (.int 1)))) (e2 oMul (e2 xIx (eVar 1) (eC (.int 0))) (e2 xIx (eVar 0) (eC (.int 1))))))
def m_less : MF := runF 2 g_less
def g_at_most : SF := (sRet (e2 (iCmp fun i j => decide (i ≤ j)) (e2 oMul (e2 xIx (eVar 0) (eC (.int 0))) (e2 xIx (eVar 1) (eC (.int 1)))) (e2 oMul (e2 xIx (eVar 1) (eC (.int 0))) (e2 xIx (eVar 0) (eC (.int 1))))))
def m_at_most : MF := runF 2 g_at_most
def g_is_line : SF := (sRet (eAnd (eCall m_is_pair (xDef [] (xV (eVar 0) xN))) (eAnd (eN bAll (aC (eLc (itS (eVar 0)) (.nm 1) tYesF (eCall m_is_ratio (xDef [] (xV (eVar 1) xN))) [1]) aN)) (eCall m_less (xDef [] (xV (e2 xIx (eVar 0) (eC (.int 0))) (xV (e2 xIx (eVar 0) (eC (.int 1))) xN)))))))
def m_is_line : MF := runF 2 g_is_line
def g_is_on : SF := (sRet (eAnd (eCall m_is_ratio (xDef [] (xV (eVar 1) xN))) (eAnd (eCall m_at_most (xDef [] (xV (e2 xIx (eVar 0) (eC (.int 0))) (xV (eVar 1) xN)))) (eCall m_at_most (xDef [] (xV (eVar 1) (xV (e2 xIx (eVar 0) (eC (.int 1))) xN)))))))
def m_is_on : MF := runF 2 g_is_on
def g_odds_at : SF := (sRet (eCall m_plus (xDef [] (xV (e2 xIx (eVar 0) (eC (.int 0))) (xV (eCall m_times (xDef [] (xV (e2 xIx (eVar 0) (eC (.int 1))) (xV (eVar 1) xN)))) xN)))))
def m_odds_at : MF := runF 2 g_odds_at
def g_are_odds : SF := (bSeq (sIf (bOr (bNot (tB1 (eCall m_is_pair (xDef [] (xV (eVar 0) xN))))) (bNot (tB1 (eN bAll (aC (eLc (itS (eVar 0)) (.nm 3) tYesF (eCall m_is_ratio (xDef [] (xV (eVar 3) xN))) [3]) aN))))) (sRet (eC (.bl false))) bNil)
    (bSeq (sAsg (.nm 2) (eLc (itS (eVar 1)) (.nm 4) tYesF (eCall m_odds_at (xDef [] (xV (eVar 0) (xV (eVar 4) xN)))) [4]))
    (sRet (eNot (eN bAny (aC (eLc (itS (eVar 2)) (.nm 3) tYesF (eOr (eCall m_less (xDef [] (xV (eVar 3) (xV (eC k_ZERO) xN)))) (eCall m_less (xDef [] (xV (eC k_ONE) (xV (eVar 3) xN))))) [3]) aN))))))
def m_are_odds : MF := runF 5 g_are_odds
def g_rest_of : SF := (sRet (eN dTup (aC (eCall m_minus (xDef [] (xV (eC k_ONE) (xV (e2 xIx (eVar 0) (eC (.int 0))) xN)))) (aC (eCall m_negated (xDef [] (xV (e2 xIx (eVar 0) (eC (.int 1))) xN))) aN))))
def m_rest_of : MF := runF 1 g_rest_of
def g__law_pen : EF := (eN dLst (aC (eLc (itS (eSl (eVar 0) pNone (pSome (eC (.int 63))))) (.nm 1) tYesF (eN bInt (aC (eVar 1) aN)) [1]) (aC (eC (.int 0)) (aC (eC (.int 0)) aN))))
def m__law_pen : MF := runW 2 g__law_pen
def g__law_draw : SF := (bSeq (sIf (tB1 (e2 (iCmp fun i j => decide (j < i)) (ePkIx 0 (eC (.int 2))) (eC (.int 0)))) (bSeq (sAsg (.nm 2) (eN bInt (aC (ePkIx 0 (eC (.int 2))) aN)))
    (bSeq (sStore 0 (e2 iDiv (eVar 2) (eVar 1)) (eC (.int 2)))
    (sRet (e2 iMod (eN bInt (aC (eVar 2) aN)) (eVar 1))))) bNil)
    (bSeq (sAsg (.nm 3) (ePkIx 0 (eC (.int 1))))
    (bSeq (sStore 0 (e2 oAdd (eVar 3) (eC (.int 1))) (eC (.int 1)))
    (bSeq (sAsg (.nm 4) (e2 oAdd (e2 oMul (eC (.int 61139)) (eVar 3)) (eC (.int 8095))))
    (bSeq (sIf (tB1 (e2 qNe (ePkIx 0 (eC (.int 0))) (eN dLst aN))) (sAsg (.nm 4) (e2 xIx (ePkIx 0 (eC (.int 0))) (e2 iMod (eN bInt (aC (eVar 3) aN)) (eN bLen (aC (ePkIx 0 (eC (.int 0))) aN))))) bNil)
    (bSeq (sIf (bAnd (tB1 (e2 (iCmp fun i j => decide (i < j)) (eVar 3) (eN bLen (aC (ePkIx 0 (eC (.int 0))) aN)))) (tB1 (e2 (iCmp fun i j => decide (j ≤ i)) (eN bAbs (aC (eVar 4) aN)) (e2 iPow (eC (.int 10)) (eC (.int 18)))))) (bSeq (sAsg (.nm 2) (e2 oAdd (e2 oMul (eC (.int 2)) (e2 iSub (eN bAbs (aC (eVar 4) aN)) (e2 iPow (eC (.int 10)) (eC (.int 18))))) (eN bInt (aC (e2 (iCmp fun i j => decide (i < j)) (eVar 4) (eC (.int 0))) aN))))
    (bSeq (sStore 0 (e2 iDiv (eN bInt (aC (eVar 2) aN)) (eVar 1)) (eC (.int 2)))
    (sRet (e2 iMod (eN bInt (aC (eVar 2) aN)) (eVar 1))))) bNil)
    (bSeq (sAsg (.nm 5) (e2 iMod (eN bInt (aC (e2 iPow (e2 oAdd (e2 oAdd (e2 iMod (eN bInt (aC (eVar 4) aN)) (eC (.int 2147483549))) (e2 oMul (eC (.int 61139)) (eVar 3))) (eC (.int 8095))) (eC (.int 5))) aN)) (eC (.int 2147483629))))
    (bSeq (sAsg (.nm 5) (e2 iMod (eN bInt (aC (e2 iPow (e2 oAdd (e2 oAdd (e2 oMul (eVar 5) (e2 oAdd (e2 oMul (eC (.int 2)) (eVar 3)) (eC (.int 6215)))) (e2 oMul (e2 oMul (eC (.int 35137)) (eVar 3)) (eVar 3))) (eC (.int 61139))) (eC (.int 3))) aN)) (eC (.int 2147483587))))
    (sRet (e2 iMod (eN bInt (aC (e2 iDiv (eVar 5) (eC (.int 64))) aN)) (eVar 1)))))))))))
def m__law_draw : MF := runF 6 g__law_draw
def g__law_pick : SF := (sRet (e2 xIx (eVar 1) (eCall m__law_draw (xDef [] (xIo 0 (xV (eN bLen (aC (eVar 1) aN)) xN))))))
def m__law_pick : MF := runF 2 g__law_pick
def b__law_shared_1 : SF := (bSeq (sIf (tB1 (e2 qEq (eVar 1) (eC (.int 0)))) sBreak bNil)
    (sPar 0 1 (aC (eVar 1) (aC (e2 iMod (eN bInt (aC (eVar 0) aN)) (eVar 1)) aN))))
def g__law_shared : SF := (bSeq (sFor (itRange1 (aC (eC (.int 15000)) aN)) (.nm 2) b__law_shared_1)
    (sRet (eN bAbs (aC (eVar 0) aN))))
def m__law_shared : MF := runF 3 g__law_shared
def g__law_lowest : SF := (bSeq (sPar 2 3 (aC (eCall m__law_shared (xDef [] (xV (eVar 0) (xV (eVar 1) xN)))) (aC (eIf (tB1 (e2 (iCmp fun i j => decide (i < j)) (eVar 1) (eC (.int 0)))) (e1 nNeg (eC (.int 1))) (eC (.int 1))) aN)))
    (sRet (eN dTup (aC (e2 iDiv (e2 oMul (eVar 3) (eVar 0)) (eVar 2)) (aC (e2 iDiv (e2 oMul (eVar 3) (eVar 1)) (eVar 2)) aN)))))
def m__law_lowest : MF := runF 4 g__law_lowest
def g__law_plus : SF := (sRet (eCall m__law_lowest (xDef [] (xV (e2 oAdd (e2 oMul (e2 xIx (eVar 0) (eC (.int 0))) (e2 xIx (eVar 1) (eC (.int 1)))) (e2 oMul (e2 xIx (eVar 1) (eC (.int 0))) (e2 xIx (eVar 0) (eC (.int 1))))) (xV (e2 oMul (e2 xIx (eVar 0) (eC (.int 1))) (e2 xIx (eVar 1) (eC (.int 1)))) xN)))))
def m__law_plus : MF := runF 2 g__law_plus
def g__law_minus : SF := (sRet (eCall m__law_lowest (xDef [] (xV (e2 iSub (e2 oMul (e2 xIx (eVar 0) (eC (.int 0))) (e2 xIx (eVar 1) (eC (.int 1)))) (e2 oMul (e2 xIx (eVar 1) (eC (.int 0))) (e2 xIx (eVar 0) (eC (.int 1))))) (xV (e2 oMul (e2 xIx (eVar 0) (eC (.int 1))) (e2 xIx (eVar 1) (eC (.int 1)))) xN)))))
def m__law_minus : MF := runF 2 g__law_minus
def g__law_times : SF := (sRet (eCall m__law_lowest (xDef [] (xV (e2 oMul (e2 xIx (eVar 0) (eC (.int 0))) (e2 xIx (eVar 1) (eC (.int 0)))) (xV (e2 oMul (e2 xIx (eVar 0) (eC (.int 1))) (e2 xIx (eVar 1) (eC (.int 1)))) xN)))))
def m__law_times : MF := runF 2 g__law_times
def g__law_over : SF := (sRet (eCall m__law_lowest (xDef [] (xV (e2 oMul (e2 xIx (eVar 0) (eC (.int 0))) (e2 xIx (eVar 1) (eC (.int 1)))) (xV (e2 oMul (e2 xIx (eVar 0) (eC (.int 1))) (e2 xIx (eVar 1) (eC (.int 0)))) xN)))))
def m__law_over : MF := runF 2 g__law_over
def g__law_is_less : SF := (sRet (e2 (iCmp fun i j => decide (i < j)) (e2 oMul (e2 xIx (eVar 0) (eC (.int 0))) (e2 xIx (eVar 1) (eC (.int 1)))) (e2 oMul (e2 xIx (eVar 1) (eC (.int 0))) (e2 xIx (eVar 0) (eC (.int 1))))))
def m__law_is_less : MF := runF 2 g__law_is_less
def g__law_drawn : SF := (bSeq (sAsg (.nm 1) (eCall m__law_draw (xDef [] (xIo 0 (xV (eC (.int 5)) xN)))))
    (bSeq (sIf (tB1 (e2 qEq (eVar 1) (eC (.int 0)))) (sRet (eCall m__law_lowest (xDef [] (xV (e2 oAdd (e2 oMul (e2 iSub (eCall m__law_draw (xDef [] (xIo 0 (xV (eC (.int 2000)) xN)))) (eC (.int 1000))) (e2 iPow (eC (.int 10)) (eC (.int 40)))) (eCall m__law_draw (xDef [] (xIo 0 (xV (eC (.int 99)) xN))))) (xV (e2 oAdd (e2 iPow (eC (.int 10)) (eC (.int 30))) (eCall m__law_draw (xDef [] (xIo 0 (xV (e2 iPow (eC (.int 10)) (eC (.int 9))) xN))))) xN))))) bNil)
    (sRet (eIf (tB1 (e2 (iCmp fun i j => decide (j < i)) (eVar 1) (eC (.int 1)))) (eCall m__law_lowest (xDef [] (xV (e2 iSub (eCall m__law_draw (xDef [] (xIo 0 (xV (eC (.int 41)) xN)))) (eC (.int 20))) (xV (e2 oAdd (eC (.int 1)) (eCall m__law_draw (xDef [] (xIo 0 (xV (eC (.int 12)) xN))))) xN)))) (eN dTup (aC (e2 iSub (eCall m__law_draw (xDef [] (xIo 0 (xV (eC (.int 7)) xN)))) (eC (.int 3))) (aC (eC (.int 1)) aN)))))))
def m__law_drawn : MF := runF 2 g__law_drawn
def g__law_line : SF := (bSeq (sAsg (.nm 1) (eCall m__law_draw (xDef [] (xIo 0 (xV (eC (.int 4)) xN)))))
    (bSeq (sIf (tB1 (e2 (iCmp fun i j => decide (i < j)) (eVar 1) (eC (.int 2)))) (sRet (eN dTup (aC (eN dTup (aC (eC (.int 0)) (aC (eC (.int 1)) aN))) (aC (eN dTup (aC (eC (.int 1)) (aC (eC (.int 1)) aN))) aN)))) bNil)
    (bSeq (sIf (tB1 (e2 qEq (eVar 1) (eC (.int 2)))) (sRet (eCall m__law_pick (xDef [] (xIo 0 (xV (eN dLst (aC (eN dTup (aC (eN dTup (aC (eC (.int 0)) (aC (eC (.int 1)) aN))) (aC (eN dTup (aC (eC (.int 1)) (aC (eC (.int 2)) aN))) aN))) (aC (eN dTup (aC (eN dTup (aC (eC (.int 1)) (aC (eC (.int 4)) aN))) (aC (eN dTup (aC (eC (.int 3)) (aC (eC (.int 4)) aN))) aN))) (aC (eN dTup (aC (eN dTup (aC (e1 nNeg (eC (.int 1))) (aC (eC (.int 1)) aN))) (aC (eN dTup (aC (eC (.int 1)) (aC (eC (.int 1)) aN))) aN))) (aC (eN dTup (aC (eN dTup (aC (eC (.int 2)) (aC (eC (.int 1)) aN))) (aC (eN dTup (aC (eC (.int 5)) (aC (eC (.int 1)) aN))) aN))) (aC (eN dTup (aC (eN dTup (aC (e1 nNeg (eC (.int 7))) (aC (eC (.int 2)) aN))) (aC (eN dTup (aC (e1 nNeg (eC (.int 3))) (aC (eC (.int 1)) aN))) aN))) (aC (eN dTup (aC (eN dTup (aC (eC (.int 0)) (aC (eC (.int 1)) aN))) (aC (eN dTup (aC (eC (.int 1)) (aC (e2 iPow (eC (.int 10)) (eC (.int 20))) aN))) aN))) aN))))))) xN))))) bNil)
    (bSeq (sAsg (.nm 2) (eCall m__law_drawn (xDef [] (xIo 0 xN))))
    (sRet (eN dTup (aC (eVar 2) (aC (eCall m__law_plus (xDef [] (xV (eVar 2) (xV (eCall m__law_pick (xDef [] (xIo 0 (xV (eN dLst (aC (eN dTup (aC (eC (.int 1)) (aC (eC (.int 1)) aN))) (aC (eN dTup (aC (eC (.int 1)) (aC (eC (.int 7)) aN))) (aC (eN dTup (aC (eC (.int 3)) (aC (eC (.int 2)) aN))) (aC (eN dTup (aC (e2 iPow (eC (.int 10)) (eC (.int 12))) (aC (eC (.int 1)) aN))) aN))))) xN)))) xN)))) aN))))))))
def m__law_line : MF := runF 3 g__law_line
def g__law_at : SF := (sRet (eCall m__law_plus (xDef [] (xV (e2 xIx (eVar 0) (eC (.int 0))) (xV (eCall m__law_times (xDef [] (xV (e2 xIx (eVar 0) (eC (.int 1))) (xV (eVar 1) xN)))) xN)))))
def m__law_at : MF := runF 2 g__law_at
def g__law_odds_by : SF := (bSeq (sAsg (.nm 3) (eCall m__law_over (xDef [] (xV (eCall m__law_minus (xDef [] (xV (eVar 2) (xV (eVar 1) xN)))) (xV (eCall m__law_minus (xDef [] (xV (e2 xIx (eVar 0) (eC (.int 1))) (xV (e2 xIx (eVar 0) (eC (.int 0))) xN)))) xN)))))
    (sRet (eN dTup (aC (eCall m__law_minus (xDef [] (xV (eVar 1) (xV (eCall m__law_times (xDef [] (xV (eVar 3) (xV (e2 xIx (eVar 0) (eC (.int 0))) xN)))) xN)))) (aC (eVar 3) aN)))))
def m__law_odds_by : MF := runF 4 g__law_odds_by
def g__law_odds : SF := (bSeq (sAsg (.nm 2) (eN dLst (aC (eN dTup (aC (eC (.int 0)) (aC (eC (.int 1)) aN))) (aC (eN dTup (aC (eC (.int 1)) (aC (eC (.int 1)) aN))) (aC (eN dTup (aC (eC (.int 1)) (aC (eC (.int 2)) aN))) (aC (eN dTup (aC (eC (.int 1)) (aC (eC (.int 3)) aN))) (aC (eN dTup (aC (eC (.int 2)) (aC (eC (.int 3)) aN))) (aC (eN dTup (aC (eC (.int 1)) (aC (eC (.int 4)) aN))) (aC (eN dTup (aC (eC (.int 3)) (aC (eC (.int 4)) aN))) (aC (eN dTup (aC (eC (.int 1)) (aC (eC (.int 5)) aN))) (aC (eN dTup (aC (eC (.int 0)) (aC (eC (.int 1)) aN))) (aC (eN dTup (aC (eC (.int 1)) (aC (eC (.int 1)) aN))) aN))))))))))))
    (bSeq (sAsg (.nm 3) (eCall m__law_pick (xDef [] (xIo 0 (xV (eVar 2) xN)))))
    (sRet (eCall m__law_odds_by (xDef [] (xV (eVar 1) (xV (eVar 3) (xV (eIf (tB1 (e2 qEq (eCall m__law_draw (xDef [] (xIo 0 (xV (eC (.int 3)) xN)))) (eC (.int 0)))) (eVar 3) (eCall m__law_pick (xDef [] (xIo 0 (xV (eVar 2) xN))))) xN))))))))
def m__law_odds : MF := runF 4 g__law_odds
def g__law_rest : SF := (sRet (eN dTup (aC (eCall m__law_minus (xDef [] (xV (eN dTup (aC (eC (.int 1)) (aC (eC (.int 1)) aN))) (xV (e2 xIx (eVar 0) (eC (.int 0))) xN)))) (aC (eN dTup (aC (e1 nNeg (e2 xIx (e2 xIx (eVar 0) (eC (.int 1))) (eC (.int 0)))) (aC (e2 xIx (e2 xIx (eVar 0) (eC (.int 1))) (eC (.int 1))) aN))) aN))))
def m__law_rest : MF := runF 1 g__law_rest
def g__law_x : SF := (bSeq (sPar 2 3 (aC (eCall m__law_draw (xDef [] (xIo 0 (xV (eC (.int 4)) xN)))) (aC (eCall m__law_minus (xDef [] (xV (e2 xIx (eVar 1) (eC (.int 1))) (xV (e2 xIx (eVar 1) (eC (.int 0))) xN)))) aN)))
    (bSeq (sIf (tB1 (e2 qEq (eVar 2) (eC (.int 0)))) (sRet (eCall m__law_pick (xDef [] (xIo 0 (xV (eN bList (aC (eVar 1) aN)) xN))))) bNil)
    (bSeq (sAsg (.nm 4) (eIf (tB1 (e2 (iCmp fun i j => decide (i < j)) (eVar 2) (eC (.int 3)))) (e2 oAdd (eC (.int 2)) (eCall m__law_draw (xDef [] (xIo 0 (xV (eC (.int 9)) xN))))) (e2 oAdd (e2 iPow (eC (.int 10)) (eC (.int 9))) (eCall m__law_draw (xDef [] (xIo 0 (xV (eC (.int 99)) xN)))))))
    (sRet (eCall m__law_plus (xDef [] (xV (e2 xIx (eVar 1) (eC (.int 0))) (xV (eCall m__law_times (xDef [] (xV (eVar 3) (xV (eCall m__law_lowest (xDef [] (xV (eCall m__law_draw (xDef [] (xIo 0 (xV (e2 oAdd (eVar 4) (eC (.int 1))) xN)))) (xV (eVar 4) xN)))) xN)))) xN))))))))
def m__law_x : MF := runF 5 g__law_x
def b_law_1 : SF := (bSeq (sAsg (.nm 3) (eCall m__law_line (xDef [] (xIo 1 xN))))
    (bSeq (sPar 4 5 (aC (eCall m__law_odds (xDef [] (xIo 1 (xV (eVar 3) xN)))) (aC (eCall m__law_x (xDef [] (xIo 1 (xV (eVar 3) xN)))) aN)))
    (bSeq (sIf (bOr (tB1 (e2 qNe (eN dLst (aC (eCall m_odds_at (xDef [] (xV (eVar 4) (xV (eVar 5) xN)))) (aC (eCall m_odds_at (xKw kw_odds_at_0_x_odds xN (xV (eVar 5) (xV (eVar 4) xN)))) aN))) (e2 oMul (eN dLst (aC (eCall m__law_at (xDef [] (xV (eVar 4) (xV (eVar 5) xN)))) aN)) (eC (.int 2))))) (tB1 (e2 qNe (eN dLst (aC (eCall m_rest_of (xDef [] (xV (eVar 4) xN))) (aC (eCall m_rest_of (xKw kw_rest_of_0_odds xN (xV (eVar 4) xN))) aN))) (e2 oMul (eN dLst (aC (eCall m__law_rest (xDef [] (xV (eVar 4) xN))) aN)) (eC (.int 2)))))) (sRet (eC (.bl false))) bNil)
    (bSeq (sIf (bOr (tB1 (e2 qNis (eCall m_are_odds (xDef [] (xV (eVar 4) (xV (eVar 3) xN)))) (eC (.bl true)))) (bOr (tB1 (e2 qNis (eCall m_are_odds (xKw kw_are_odds_0_line_value xN (xV (eN bList (aC (eVar 3) aN)) (xV (eN bList (aC (eVar 4) aN)) xN)))) (eC (.bl true)))) (bOr (tB1 (e2 qNis (eCall m_is_on (xDef [] (xV (eVar 3) (xV (eVar 5) xN)))) (eC (.bl true)))) (tB1 (e2 qNis (eCall m_is_line (xDef [] (xV (eVar 3) xN))) (eC (.bl true))))))) (sRet (eC (.bl false))) bNil)
    (bSeq (sAsg (.nm 6) (eLc (itRange1 (aC (eC (.int 2)) aN)) (.nm 12) tYesF (eCall m__law_pick (xDef [] (xIo 1 (xV (eN dLst (aC (eN dTup (aC (eC (.int 0)) (aC (eC (.int 1)) aN))) (aC (eN dTup (aC (eC (.int 1)) (aC (eC (.int 1)) aN))) (aC (eN dTup (aC (e1 nNeg (eC (.int 1))) (aC (e2 iPow (eC (.int 10)) (eC (.int 9))) aN))) (aC (eN dTup (aC (e2 oAdd (e2 iPow (eC (.int 10)) (eC (.int 9))) (eC (.int 1))) (aC (e2 iPow (eC (.int 10)) (eC (.int 9))) aN))) (aC (eN dTup (aC (eC (.int 1)) (aC (eC (.int 2)) aN))) (aC (eN dTup (aC (e1 nNeg (eC (.int 1))) (aC (eC (.int 1)) aN))) (aC (eN dTup (aC (eC (.int 2)) (aC (eC (.int 1)) aN))) aN)))))))) xN)))) [12]))
    (bSeq (sAsg (.nm 7) (eCall m__law_odds_by (xDef [] (xV (eVar 3) (xV (e2 xIx (eVar 6) (eC (.int 0))) (xV (e2 xIx (eVar 6) (eC (.int 1))) xN))))))
    (bSeq (sIf (tB1 (e2 qNe (eN bRepr (aC (eCall m_are_odds (xDef [] (xV (eVar 7) (xV (eVar 3) xN)))) aN)) (eN bRepr (aC (e2 qEq (eLc (itS (eVar 6)) (.nm 13) (bOr (tB1 (eCall m__law_is_less (xDef [] (xV (eVar 13) (xV (eN dTup (aC (eC (.int 0)) (aC (eC (.int 1)) aN))) xN))))) (tB1 (eCall m__law_is_less (xDef [] (xV (eN dTup (aC (eC (.int 1)) (aC (eC (.int 1)) aN))) (xV (eVar 13) xN)))))) (eVar 13) [13]) (eN dLst aN)) aN)))) (sRet (eC (.bl false))) bNil)
    (bSeq (sAsg (.nm 8) (eCall m__law_pick (xDef [] (xIo 1 (xV (eN dLst (aC (eN dTup (aC (eC (.int 1)) (aC (eC (.int 1)) aN))) (aC (eN dTup (aC (eC (.int 1)) (aC (e2 iPow (eC (.int 10)) (eC (.int 30))) aN))) aN))) xN)))))
    (bSeq (sAsg (.nm 9) (eN dLst (aC (eCall m__law_minus (xDef [] (xV (e2 xIx (eVar 3) (eC (.int 0))) (xV (eVar 8) xN)))) (aC (eCall m__law_plus (xDef [] (xV (e2 xIx (eVar 3) (eC (.int 1))) (xV (eVar 8) xN)))) aN))))
    (bSeq (sIf (bOr (tB1 (e2 qNe (eLc (itS (eVar 9)) (.nm 13) tYesF (eCall m_is_on (xDef [] (xV (eVar 3) (xV (eVar 13) xN)))) [13]) (eN dLst (aC (eC (.bl false)) (aC (eC (.bl false)) aN))))) (tB1 (e2 qNe (eLc (itS (eVar 3)) (.nm 13) tYesF (eCall m_is_on (xKw kw_is_on_0_value_line xN (xV (eVar 13) (xV (eVar 3) xN)))) [13]) (eN dLst (aC (eC (.bl true)) (aC (eC (.bl true)) aN)))))) (sRet (eC (.bl false))) bNil)
    (bSeq (sAsg (.nm 10) (eCall m__law_pick (xDef [] (xIo 1 (xV (eN dLst (aC (eC .non) (aC (eC (.int 5)) (aC (eC (.str "1")) (aC (eN dTup aN) (aC (eN dLst (aC (eC (.int 1)) (aC (eC (.int 2)) aN))) (aC (eN dTup (aC (eC (.int 1)) (aC (eC (.int 0)) aN))) (aC (eN dTup (aC (eC (.int 2)) (aC (eC (.int 4)) aN))) (aC (eC (.bl true)) (aC (eC (.dic [] [])) (aC (eN dTup (aC (eC (.int 1)) (aC (eC (.int 2)) (aC (eC (.int 3)) aN)))) (aC (eN dLst (aC (eN dTup (aC (eC (.int 1)) (aC (eC (.int 2)) aN))) aN)) aN)))))))))))) xN)))))
    (bSeq (sIf (tB1 (e2 qNe (eN dLst (aC (eCall m_is_on (xDef [] (xV (eVar 3) (xV (eVar 10) xN)))) (aC (eCall m_are_odds (xDef [] (xV (eVar 10) (xV (eVar 3) xN)))) (aC (eCall m_are_odds (xDef [] (xV (eN dTup (aC (eVar 10) (aC (eN dTup (aC (eC (.int 0)) (aC (eC (.int 1)) aN))) aN))) (xV (eVar 3) xN)))) (aC (eCall m_are_odds (xDef [] (xV (eN dTup (aC (eN dTup (aC (eC (.int 1)) (aC (eC (.int 2)) aN))) (aC (eVar 10) aN))) (xV (eVar 3) xN)))) (aC (eCall m_are_odds (xDef [] (xV (e2 oAdd (eVar 4) (eSl (eVar 4) pNone (pSome (eC (.int 1))))) (xV (eVar 3) xN)))) aN)))))) (e2 oMul (eN dLst (aC (eC (.bl false)) aN)) (eC (.int 5))))) (sRet (eC (.bl false))) bNil)
    (bSeq (sIf (bOr (tB1 (e2 qNe (eN dLst (aC (eCall m_is_line (xDef [] (xV (eVar 10) xN))) (aC (eCall m_is_line (xDef [] (xV (eN dTup (aC (e2 xIx (eVar 3) (eC (.int 0))) (aC (eVar 10) aN))) xN))) (aC (eCall m_is_line (xDef [] (xV (eN dTup (aC (eVar 10) (aC (e2 xIx (eVar 3) (eC (.int 1))) aN))) xN))) (aC (eCall m_is_line (xDef [] (xV (eN dTup (aC (e2 xIx (eVar 3) (eC (.int 1))) (aC (e2 xIx (eVar 3) (eC (.int 0))) aN))) xN))) (aC (eCall m_is_line (xDef [] (xV (eN dTup (aC (eVar 5) (aC (eVar 5) aN))) xN))) (aC (eCall m_is_line (xDef [] (xV (e2 oAdd (eVar 3) (eVar 3)) xN))) aN))))))) (e2 oMul (eN dLst (aC (eC (.bl false)) aN)) (eC (.int 6))))) (tB1 (e2 qNis (eCall m_is_line (xKw kw_is_line_0_value xN (xV (eN bList (aC (eVar 3) aN)) xN))) (eC (.bl true))))) (sRet (eC (.bl false))) bNil)
    (bSeq (sAsg (.nm 11) (eLc (itRange1 (aC (eC (.int 2)) aN)) (.nm 12) tYesF (eCall m__law_x (xDef [] (xIo 1 (xV (eVar 3) xN)))) [12]))
    (sIf (tB1 (e2 qNe (eN bRepr (aC (eCall m_is_line (xDef [] (xV (eN bTup (aC (eVar 11) aN)) xN))) aN)) (eN bRepr (aC (eCall m__law_is_less (xDef [] (xV (e2 xIx (eVar 11) (eC (.int 0))) (xV (e2 xIx (eVar 11) (eC (.int 1))) xN)))) aN)))) (sRet (eC (.bl false))) bNil)))))))))))))))
def g_law : SF := (bSeq (sOwn 1 (eCall m__law_pen (xDef [] (xV (eVar 0) xN))))
    (bSeq (sForR [2, 3, 4, 5, 6, 7, 8, 9, 10, 11, 12, 13] (itRange1 (aC (eC (.int 10)) aN)) (.nm 2) b_law_1)
    (sRet (eC (.bl true)))))
def m_law : MF := runF 14 g_law
/-- where the defs stand -/
structure Ads where
  c_ZERO : Value
  c_ONE : Value
  a_is_integer : Addr
  d_is_integer : FuncData
  a_is_listed : Addr
  d_is_listed : FuncData
  a_is_pair : Addr
  d_is_pair : FuncData
  a_lowest : Addr
  d_lowest : FuncData
  a_is_ratio : Addr
  d_is_ratio : FuncData
  a_plus : Addr
  d_plus : FuncData
  a_minus : Addr
  d_minus : FuncData
  a_negated : Addr
  d_negated : FuncData
  a_times : Addr
  d_times : FuncData
  a_less : Addr
  d_less : FuncData
  a_at_most : Addr
  d_at_most : FuncData
  a_is_line : Addr
  d_is_line : FuncData
  a_is_on : Addr
  d_is_on : FuncData
  a_odds_at : Addr
  d_odds_at : FuncData
  a_are_odds : Addr
  d_are_odds : FuncData
  a_rest_of : Addr
  d_rest_of : FuncData
  a__law_pen : Addr
  d__law_pen : FuncData
  a__law_draw : Addr
  d__law_draw : FuncData
  a__law_pick : Addr
  d__law_pick : FuncData
  a__law_shared : Addr
  d__law_shared : FuncData
  a__law_lowest : Addr
  d__law_lowest : FuncData
  a__law_plus : Addr
  d__law_plus : FuncData
  a__law_minus : Addr
  d__law_minus : FuncData
  a__law_times : Addr
  d__law_times : FuncData
  a__law_over : Addr
  d__law_over : FuncData
  a__law_is_less : Addr
  d__law_is_less : FuncData
  a__law_drawn : Addr
  d__law_drawn : FuncData
  a__law_line : Addr
  d__law_line : FuncData
  a__law_at : Addr
  d__law_at : FuncData
  a__law_odds_by : Addr
  d__law_odds_by : FuncData
  a__law_odds : Addr
  d__law_odds : FuncData
  a__law_rest : Addr
  d__law_rest : FuncData
  a__law_x : Addr
  d__law_x : FuncData
  a_law : Addr
  d_law : FuncData
structure Txt (K : PySem.W.Frag) (mg : Str → Option Value) (A : Ads) : Prop where
  m_is_integer : mg "is_integer" = some (.ref A.a_is_integer)
  F_is_integer : Fun K "is_integer" "is_integer" s_is_integer A.a_is_integer A.d_is_integer
  i_is_integer : Binds K A.d_is_integer ["value"] []
  m_is_listed : mg "is_listed" = some (.ref A.a_is_listed)
  F_is_listed : Fun K "is_listed" "is_listed" s_is_listed A.a_is_listed A.d_is_listed
  i_is_listed : Binds K A.d_is_listed ["value"] []
  m_is_pair : mg "is_pair" = some (.ref A.a_is_pair)
  F_is_pair : Fun K "is_pair" "is_pair" s_is_pair A.a_is_pair A.d_is_pair
  i_is_pair : Binds K A.d_is_pair ["value"] []
  m_lowest : mg "lowest" = some (.ref A.a_lowest)
  F_lowest : Fun K "lowest" "lowest" s_lowest A.a_lowest A.d_lowest
  i_lowest : Binds K A.d_lowest ["top", "bottom"] []
  m_is_ratio : mg "is_ratio" = some (.ref A.a_is_ratio)
  F_is_ratio : Fun K "is_ratio" "is_ratio" s_is_ratio A.a_is_ratio A.d_is_ratio
  i_is_ratio : Binds K A.d_is_ratio ["value"] []
  m_plus : mg "plus" = some (.ref A.a_plus)
  F_plus : Fun K "plus" "plus" s_plus A.a_plus A.d_plus
  i_plus : Binds K A.d_plus ["one", "other"] []
  m_minus : mg "minus" = some (.ref A.a_minus)
  F_minus : Fun K "minus" "minus" s_minus A.a_minus A.d_minus
  i_minus : Binds K A.d_minus ["one", "other"] []
  m_negated : mg "negated" = some (.ref A.a_negated)
  F_negated : Fun K "negated" "negated" s_negated A.a_negated A.d_negated
  i_negated : Binds K A.d_negated ["one"] []
  m_times : mg "times" = some (.ref A.a_times)
  F_times : Fun K "times" "times" s_times A.a_times A.d_times
  i_times : Binds K A.d_times ["one", "other"] []
  m_less : mg "less" = some (.ref A.a_less)
  F_less : Fun K "less" "less" s_less A.a_less A.d_less
  i_less : Binds K A.d_less ["one", "other"] []
  m_at_most : mg "at_most" = some (.ref A.a_at_most)
  F_at_most : Fun K "at_most" "at_most" s_at_most A.a_at_most A.d_at_most
  i_at_most : Binds K A.d_at_most ["one", "other"] []
  m_is_line : mg "is_line" = some (.ref A.a_is_line)
  F_is_line : Fun K "is_line" "is_line" s_is_line A.a_is_line A.d_is_line
  i_is_line : Binds K A.d_is_line ["value"] []
  m_is_on : mg "is_on" = some (.ref A.a_is_on)
  F_is_on : Fun K "is_on" "is_on" s_is_on A.a_is_on A.d_is_on
  i_is_on : Binds K A.d_is_on ["line", "value"] []
  m_odds_at : mg "odds_at" = some (.ref A.a_odds_at)
  F_odds_at : Fun K "odds_at" "odds_at" s_odds_at A.a_odds_at A.d_odds_at
  i_odds_at : Binds K A.d_odds_at ["odds", "x"] []
  m_are_odds : mg "are_odds" = some (.ref A.a_are_odds)
  F_are_odds : Fun K "are_odds" "are_odds" s_are_odds A.a_are_odds A.d_are_odds
  i_are_odds : Binds K A.d_are_odds ["value", "line"] []
  m_rest_of : mg "rest_of" = some (.ref A.a_rest_of)
  F_rest_of : Fun K "rest_of" "rest_of" s_rest_of A.a_rest_of A.d_rest_of
  i_rest_of : Binds K A.d_rest_of ["odds"] []
  m__law_pen : mg "_law_pen" = some (.ref A.a__law_pen)
  F__law_pen : Fun K "_law_pen" "_law_pen" s__law_pen A.a__law_pen A.d__law_pen
  i__law_pen : Binds K A.d__law_pen ["script"] []
  m__law_draw : mg "_law_draw" = some (.ref A.a__law_draw)
  F__law_draw : Fun K "_law_draw" "_law_draw" s__law_draw A.a__law_draw A.d__law_draw
  i__law_draw : Binds K A.d__law_draw ["pen", "many"] []
  m__law_pick : mg "_law_pick" = some (.ref A.a__law_pick)
  F__law_pick : Fun K "_law_pick" "_law_pick" s__law_pick A.a__law_pick A.d__law_pick
  i__law_pick : Binds K A.d__law_pick ["pen", "some"] []
  m__law_shared : mg "_law_shared" = some (.ref A.a__law_shared)
  F__law_shared : Fun K "_law_shared" "_law_shared" s__law_shared A.a__law_shared A.d__law_shared
  i__law_shared : Binds K A.d__law_shared ["one", "other"] []
  m__law_lowest : mg "_law_lowest" = some (.ref A.a__law_lowest)
  F__law_lowest : Fun K "_law_lowest" "_law_lowest" s__law_lowest A.a__law_lowest A.d__law_lowest
  i__law_lowest : Binds K A.d__law_lowest ["top", "bottom"] []
  m__law_plus : mg "_law_plus" = some (.ref A.a__law_plus)
  F__law_plus : Fun K "_law_plus" "_law_plus" s__law_plus A.a__law_plus A.d__law_plus
  i__law_plus : Binds K A.d__law_plus ["one", "other"] []
  m__law_minus : mg "_law_minus" = some (.ref A.a__law_minus)
  F__law_minus : Fun K "_law_minus" "_law_minus" s__law_minus A.a__law_minus A.d__law_minus
  i__law_minus : Binds K A.d__law_minus ["one", "other"] []
  m__law_times : mg "_law_times" = some (.ref A.a__law_times)
  F__law_times : Fun K "_law_times" "_law_times" s__law_times A.a__law_times A.d__law_times
  i__law_times : Binds K A.d__law_times ["one", "other"] []
  m__law_over : mg "_law_over" = some (.ref A.a__law_over)
  F__law_over : Fun K "_law_over" "_law_over" s__law_over A.a__law_over A.d__law_over
  i__law_over : Binds K A.d__law_over ["one", "other"] []
  m__law_is_less : mg "_law_is_less" = some (.ref A.a__law_is_less)
  F__law_is_less : Fun K "_law_is_less" "_law_is_less" s__law_is_less A.a__law_is_less A.d__law_is_less
  i__law_is_less : Binds K A.d__law_is_less ["one", "other"] []
  m__law_drawn : mg "_law_drawn" = some (.ref A.a__law_drawn)
  F__law_drawn : Fun K "_law_drawn" "_law_drawn" s__law_drawn A.a__law_drawn A.d__law_drawn
  i__law_drawn : Binds K A.d__law_drawn ["pen"] []
  m__law_line : mg "_law_line" = some (.ref A.a__law_line)
  F__law_line : Fun K "_law_line" "_law_line" s__law_line A.a__law_line A.d__law_line
  i__law_line : Binds K A.d__law_line ["pen"] []
  m__law_at : mg "_law_at" = some (.ref A.a__law_at)
  F__law_at : Fun K "_law_at" "_law_at" s__law_at A.a__law_at A.d__law_at
  i__law_at : Binds K A.d__law_at ["odds", "x"] []
  m__law_odds_by : mg "_law_odds_by" = some (.ref A.a__law_odds_by)
  F__law_odds_by : Fun K "_law_odds_by" "_law_odds_by" s__law_odds_by A.a__law_odds_by A.d__law_odds_by
  i__law_odds_by : Binds K A.d__law_odds_by ["line", "one", "other"] []
  m__law_odds : mg "_law_odds" = some (.ref A.a__law_odds)
  F__law_odds : Fun K "_law_odds" "_law_odds" s__law_odds A.a__law_odds A.d__law_odds
  i__law_odds : Binds K A.d__law_odds ["pen", "line"] []
  m__law_rest : mg "_law_rest" = some (.ref A.a__law_rest)
  F__law_rest : Fun K "_law_rest" "_law_rest" s__law_rest A.a__law_rest A.d__law_rest
  i__law_rest : Binds K A.d__law_rest ["odds"] []
  m__law_x : mg "_law_x" = some (.ref A.a__law_x)
  F__law_x : Fun K "_law_x" "_law_x" s__law_x A.a__law_x A.d__law_x
  i__law_x : Binds K A.d__law_x ["pen", "line"] []
  m_law : mg "law" = some (.ref A.a_law)
  F_law : Fun K "law" "law" s_law A.a_law A.d_law
  i_law : Binds K A.d_law ["script"] []
  b_abs : mg "abs" = none
  b_all : mg "all" = none
  b_any : mg "any" = none
  b_bool : mg "bool" = none
  b_int : mg "int" = none
  b_isinstance : mg "isinstance" = none
  b_len : mg "len" = none
  b_list : mg "list" = none
  b_range : mg "range" = none
  b_repr : mg "repr" = none
  b_tuple : mg "tuple" = none
  g_ONE : mg "ONE" = some A.c_ONE
  r_ONE : RepK K A.c_ONE k_ONE
  g_ZERO : mg "ZERO" = some A.c_ZERO
  r_ZERO : RepK K A.c_ZERO k_ZERO
  g_gcd : mg "gcd" = some (.builtin "math.gcd")
section
variable {P : Program} {w : World} {K : PySem.W.Frag} {mg : Str → Option Value} {base : Heap} {A : Ads}
theorem kw_odds_at_0_x_odds_b {f : Addr} {fd : FuncData} (F : Fun K "odds_at" "odds_at" s_odds_at f fd) : KBn K fd ["odds", "x"] 0 ["x", "odds"] (fun us ws => kw_odds_at_0_x_odds us ws) (fun vs zs => kw_odds_at_0_x_odds vs zs) :=
  fun_kbn (g := kw_odds_at_0_x_odds) F (fun r q => permG_rel r q) fun _ _ _ _ _ _ us ws h1 h2 => match us, ws, h1, h2 with | [], [_, _], _, _ => rfl
theorem kw_odds_at_0_x_odds_r {R : V → Ar → Prop} {vs zs : List V} {as bs : List Ar} (h1 : vs.length = 0) (h2 : zs.length = 2) (p : Paired R vs as) (q : Paired R zs bs) : Paired R (kw_odds_at_0_x_odds vs zs) (kw_odds_at_0_x_odds as bs) ∧ (kw_odds_at_0_x_odds vs zs).length = 2 := permG_r (by decide) rfl h1 h2 p q
theorem kw_rest_of_0_odds_b {f : Addr} {fd : FuncData} (F : Fun K "rest_of" "rest_of" s_rest_of f fd) : KBn K fd ["odds"] 0 ["odds"] (fun us ws => kw_rest_of_0_odds us ws) (fun vs zs => kw_rest_of_0_odds vs zs) :=
  fun_kbn (g := kw_rest_of_0_odds) F (fun r q => permG_rel r q) fun _ _ _ _ _ _ us ws h1 h2 => match us, ws, h1, h2 with | [], [_], _, _ => rfl
theorem kw_rest_of_0_odds_r {R : V → Ar → Prop} {vs zs : List V} {as bs : List Ar} (h1 : vs.length = 0) (h2 : zs.length = 1) (p : Paired R vs as) (q : Paired R zs bs) : Paired R (kw_rest_of_0_odds vs zs) (kw_rest_of_0_odds as bs) ∧ (kw_rest_of_0_odds vs zs).length = 1 := permG_r (by decide) rfl h1 h2 p q
theorem kw_are_odds_0_line_value_b {f : Addr} {fd : FuncData} (F : Fun K "are_odds" "are_odds" s_are_odds f fd) : KBn K fd ["value", "line"] 0 ["line", "value"] (fun us ws => kw_are_odds_0_line_value us ws) (fun vs zs => kw_are_odds_0_line_value vs zs) :=
  fun_kbn (g := kw_are_odds_0_line_value) F (fun r q => permG_rel r q) fun _ _ _ _ _ _ us ws h1 h2 => match us, ws, h1, h2 with | [], [_, _], _, _ => rfl
theorem kw_are_odds_0_line_value_r {R : V → Ar → Prop} {vs zs : List V} {as bs : List Ar} (h1 : vs.length = 0) (h2 : zs.length = 2) (p : Paired R vs as) (q : Paired R zs bs) : Paired R (kw_are_odds_0_line_value vs zs) (kw_are_odds_0_line_value as bs) ∧ (kw_are_odds_0_line_value vs zs).length = 2 := permG_r (by decide) rfl h1 h2 p q
theorem kw_is_on_0_value_line_b {f : Addr} {fd : FuncData} (F : Fun K "is_on" "is_on" s_is_on f fd) : KBn K fd ["line", "value"] 0 ["value", "line"] (fun us ws => kw_is_on_0_value_line us ws) (fun vs zs => kw_is_on_0_value_line vs zs) :=
  fun_kbn (g := kw_is_on_0_value_line) F (fun r q => permG_rel r q) fun _ _ _ _ _ _ us ws h1 h2 => match us, ws, h1, h2 with | [], [_, _], _, _ => rfl
theorem kw_is_on_0_value_line_r {R : V → Ar → Prop} {vs zs : List V} {as bs : List Ar} (h1 : vs.length = 0) (h2 : zs.length = 2) (p : Paired R vs as) (q : Paired R zs bs) : Paired R (kw_is_on_0_value_line vs zs) (kw_is_on_0_value_line as bs) ∧ (kw_is_on_0_value_line vs zs).length = 2 := permG_r (by decide) rfl h1 h2 p q
theorem kw_is_line_0_value_b {f : Addr} {fd : FuncData} (F : Fun K "is_line" "is_line" s_is_line f fd) : KBn K fd ["value"] 0 ["value"] (fun us ws => kw_is_line_0_value us ws) (fun vs zs => kw_is_line_0_value vs zs) :=
  fun_kbn (g := kw_is_line_0_value) F (fun r q => permG_rel r q) fun _ _ _ _ _ _ us ws h1 h2 => match us, ws, h1, h2 with | [], [_], _, _ => rfl
theorem kw_is_line_0_value_r {R : V → Ar → Prop} {vs zs : List V} {as bs : List Ar} (h1 : vs.length = 0) (h2 : zs.length = 1) (p : Paired R vs as) (q : Paired R zs bs) : Paired R (kw_is_line_0_value vs zs) (kw_is_line_0_value as bs) ∧ (kw_is_line_0_value vs zs).length = 1 := permG_r (by decide) rfl h1 h2 p q
theorem ok_is_integer (T : Txt K mg A) : FnOk P w K mg base CX0 1 A.a_is_integer A.d_is_integer ["value"] (spF K 1 m_is_integer) :=
  fn_ok T.F_is_integer sc_is_integer rfl rfl (by decide) fun cdv A' outer s H E hr =>
    (bv_one (sv_ret (ev_and (ev_callB ct_isi (by rfl) T.b_isinstance (by decide +kernel) (ea_cons (ev_var (pv 0)) (ea_cons (ev_ty (n := .int) (by rfl) T.b_int (by decide +kernel)) ea_nil))) (ev_one (ev_not (ev_callB ct_isi (by rfl) T.b_isinstance (by decide +kernel) (ea_cons (ev_var (pv 0)) (ea_cons (ev_ty (n := .bl) (by rfl) T.b_bool (by decide +kernel)) ea_nil))))))))
theorem ok_is_listed (T : Txt K mg A) : FnOk P w K mg base CX0 1 A.a_is_listed A.d_is_listed ["value"] (spF K 1 m_is_listed) :=
  fn_ok T.F_is_listed sc_is_listed rfl rfl (by decide) fun cdv A' outer s H E hr =>
    (bv_one (sv_ret (ev_callB ct_isi (by rfl) T.b_isinstance (by decide +kernel) (ea_cons (ev_var (pv 0)) (ea_cons (ev_tup (ea_cons (ev_ty (n := .list) (by rfl) T.b_list (by decide +kernel)) (ea_cons (ev_ty (n := .tup) (by rfl) T.b_tuple (by decide +kernel)) ea_nil))) ea_nil)))))
theorem ok_is_pair (T : Txt K mg A) : FnOk P w K mg base CX0 2 A.a_is_pair A.d_is_pair ["value"] (spF K 1 m_is_pair) :=
  fn_ok T.F_is_pair sc_is_pair rfl rfl (by decide) fun cdv A' outer s H E hr =>
    (bv_one (sv_ret (ev_and (ev_call (ok_is_listed T) (hr.mono (by decide)) (by rfl) T.m_is_listed T.F_is_listed.kp T.i_is_listed .nil (fun _ => .nil) rfl (xa_val (ev_var (pv 0)) xa_nil) (hlen := xl_of (xl_val xl_nil))) (ev_one (ev_cmp (ot_eq hr.units) (ev_callB ct_len (by rfl) T.b_len (by decide +kernel) (ea_cons (ev_var (pv 0)) ea_nil)) ev_int (nomark _))))))
theorem ok_lowest (T : Txt K mg A) : FnOk P w K mg base CX0 1 A.a_lowest A.d_lowest ["top", "bottom"] (spF K 2 m_lowest) :=
  fn_ok T.F_lowest sc_lowest rfl rfl (by decide) fun cdv A' outer s H E hr =>
    (bv_cons (sv_set (i := 2) sc_lowest.nd rfl (by first | exact Or.inl rfl | exact Or.inr rfl) (ev_callG ct_gcd (by rfl) T.g_gcd (ea_cons (ev_var (pv 0)) (ea_cons (ev_var (pv 1)) ea_nil))))
    (bv_cons (sv_if (tv_cmp ot_iLt (ev_var (pv 1)) ev_int (nomark _)) (bv_one (sv_ret (ev_tup (ea_cons (ev_bin ot_iDiv (ev_un ut_neg (ev_var (pv 0))) (ev_var (pv 2))) (ea_cons (ev_bin ot_iDiv (ev_un ut_neg (ev_var (pv 1))) (ev_var (pv 2))) ea_nil))))) bv_nil)
    (bv_one (sv_ret (ev_tup (ea_cons (ev_bin ot_iDiv (ev_var (pv 0)) (ev_var (pv 2))) (ea_cons (ev_bin ot_iDiv (ev_var (pv 1)) (ev_var (pv 2))) ea_nil)))))))
theorem ok_is_ratio (T : Txt K mg A) : FnOk P w K mg base CX0 2 A.a_is_ratio A.d_is_ratio ["value"] (spF K 1 m_is_ratio) :=
  fn_ok T.F_is_ratio sc_is_ratio rfl rfl (by decide) fun cdv A' outer s H E hr =>
    (bv_cons (sv_if (tw_tv (tw_or (tv_not (tv_val (ev_callB ct_isi (by rfl) T.b_isinstance (by decide +kernel) (ea_cons (ev_var (pv 0)) (ea_cons (ev_ty (n := .tup) (by rfl) T.b_tuple (by decide +kernel)) ea_nil))))) (tw_or (tv_cmp (ot_ne hr.units) (ev_callB ct_len (by rfl) T.b_len (by decide +kernel) (ea_cons (ev_var (pv 0)) ea_nil)) ev_int (nomark _)) (tw_or (tv_not (tv_val (ev_call (ok_is_integer T) (hr.mono (by decide)) (by rfl) T.m_is_integer T.F_is_integer.kp T.i_is_integer .nil (fun _ => .nil) rfl (xa_val (ev_ix it_ix (ev_var (pv 0)) ev_int (fun _ _ => rfl)) xa_nil) (hlen := xl_of (xl_val xl_nil))))) (tw_or1 (tv_not (tv_val (ev_call (ok_is_integer T) (hr.mono (by decide)) (by rfl) T.m_is_integer T.F_is_integer.kp T.i_is_integer .nil (fun _ => .nil) rfl (xa_val (ev_ix it_ix (ev_var (pv 0)) ev_int (fun _ _ => rfl)) xa_nil) (hlen := xl_of (xl_val xl_nil)))))))))) (bv_one (sv_ret ev_bl)) bv_nil)
    (bv_one (sv_ret (ev_and (ev_cmp ot_iGe (ev_ix it_ix (ev_var (pv 0)) ev_int (fun _ _ => rfl)) ev_int (nomark _)) (ev_one (ev_cmp (ot_eq hr.units) (ev_callG ct_gcd (by rfl) T.g_gcd (ea_cons (ev_ix it_ix (ev_var (pv 0)) ev_int (fun _ _ => rfl)) (ea_cons (ev_ix it_ix (ev_var (pv 0)) ev_int (fun _ _ => rfl)) ea_nil))) ev_int (nomark _)))))))
theorem ok_plus (T : Txt K mg A) : FnOk P w K mg base CX0 2 A.a_plus A.d_plus ["one", "other"] (spF K 2 m_plus) :=
  fn_ok T.F_plus sc_plus rfl rfl (by decide) fun cdv A' outer s H E hr =>
    (bv_one (sv_ret (ev_call (ok_lowest T) (hr.mono (by decide)) (by rfl) T.m_lowest T.F_lowest.kp T.i_lowest .nil (fun _ => .nil) rfl (xa_val (ev_bin ot_add (ev_bin ot_mul (ev_ix it_ix (ev_var (pv 0)) ev_int (fun _ _ => rfl)) (ev_ix it_ix (ev_var (pv 1)) ev_int (fun _ _ => rfl))) (ev_bin ot_mul (ev_ix it_ix (ev_var (pv 1)) ev_int (fun _ _ => rfl)) (ev_ix it_ix (ev_var (pv 0)) ev_int (fun _ _ => rfl)))) (xa_val (ev_bin ot_mul (ev_ix it_ix (ev_var (pv 0)) ev_int (fun _ _ => rfl)) (ev_ix it_ix (ev_var (pv 1)) ev_int (fun _ _ => rfl))) xa_nil)) (hlen := xl_of (xl_val (xl_val xl_nil))))))
theorem ok_minus (T : Txt K mg A) : FnOk P w K mg base CX0 2 A.a_minus A.d_minus ["one", "other"] (spF K 2 m_minus) :=
  fn_ok T.F_minus sc_minus rfl rfl (by decide) fun cdv A' outer s H E hr =>
    (bv_one (sv_ret (ev_call (ok_lowest T) (hr.mono (by decide)) (by rfl) T.m_lowest T.F_lowest.kp T.i_lowest .nil (fun _ => .nil) rfl (xa_val (ev_bin ot_iSub (ev_bin ot_mul (ev_ix it_ix (ev_var (pv 0)) ev_int (fun _ _ => rfl)) (ev_ix it_ix (ev_var (pv 1)) ev_int (fun _ _ => rfl))) (ev_bin ot_mul (ev_ix it_ix (ev_var (pv 1)) ev_int (fun _ _ => rfl)) (ev_ix it_ix (ev_var (pv 0)) ev_int (fun _ _ => rfl)))) (xa_val (ev_bin ot_mul (ev_ix it_ix (ev_var (pv 0)) ev_int (fun _ _ => rfl)) (ev_ix it_ix (ev_var (pv 1)) ev_int (fun _ _ => rfl))) xa_nil)) (hlen := xl_of (xl_val (xl_val xl_nil))))))
theorem ok_negated (T : Txt K mg A) : FnOk P w K mg base CX0 1 A.a_negated A.d_negated ["one"] (spF K 1 m_negated) :=
  fn_ok T.F_negated sc_negated rfl rfl (by decide) fun cdv A' outer s H E hr =>
    (bv_one (sv_ret (ev_tup (ea_cons (ev_un ut_neg (ev_ix it_ix (ev_var (pv 0)) ev_int (fun _ _ => rfl))) (ea_cons (ev_ix it_ix (ev_var (pv 0)) ev_int (fun _ _ => rfl)) ea_nil)))))
theorem ok_times (T : Txt K mg A) : FnOk P w K mg base CX0 2 A.a_times A.d_times ["one", "other"] (spF K 2 m_times) :=
  fn_ok T.F_times sc_times rfl rfl (by decide) fun cdv A' outer s H E hr =>
    (bv_one (sv_ret (ev_call (ok_lowest T) (hr.mono (by decide)) (by rfl) T.m_lowest T.F_lowest.kp T.i_lowest .nil (fun _ => .nil) rfl (xa_val (ev_bin ot_mul (ev_ix it_ix (ev_var (pv 0)) ev_int (fun _ _ => rfl)) (ev_ix it_ix (ev_var (pv 1)) ev_int (fun _ _ => rfl))) (xa_val (ev_bin ot_mul (ev_ix it_ix (ev_var (pv 0)) ev_int (fun _ _ => rfl)) (ev_ix it_ix (ev_var (pv 1)) ev_int (fun _ _ => rfl))) xa_nil)) (hlen := xl_of (xl_val (xl_val xl_nil))))))
theorem ok_less (T : Txt K mg A) : FnOk P w K mg base CX0 1 A.a_less A.d_less ["one", "other"] (spF K 2 m_less) :=
  fn_ok T.F_less sc_less rfl rfl (by decide) fun cdv A' outer s H E hr =>
    (bv_one (sv_ret (ev_cmp ot_iLt (ev_bin ot_mul (ev_ix it_ix (ev_var (pv 0)) ev_int (fun _ _ => rfl)) (ev_ix it_ix (ev_var (pv 1)) ev_int (fun _ _ => rfl))) (ev_bin ot_mul (ev_ix it_ix (ev_var (pv 1)) ev_int (fun _ _ => rfl)) (ev_ix it_ix (ev_var (pv 0)) ev_int (fun _ _ => rfl))) (nomark _))))
theorem ok_at_most (T : Txt K mg A) : FnOk P w K mg base CX0 1 A.a_at_most A.d_at_most ["one", "other"] (spF K 2 m_at_most) :=
  fn_ok T.F_at_most sc_at_most rfl rfl (by decide) fun cdv A' outer s H E hr =>
    (bv_one (sv_ret (ev_cmp ot_iLe (ev_bin ot_mul (ev_ix it_ix (ev_var (pv 0)) ev_int (fun _ _ => rfl)) (ev_ix it_ix (ev_var (pv 1)) ev_int (fun _ _ => rfl))) (ev_bin ot_mul (ev_ix it_ix (ev_var (pv 1)) ev_int (fun _ _ => rfl)) (ev_ix it_ix (ev_var (pv 0)) ev_int (fun _ _ => rfl))) (nomark _))))
theorem ok_is_line (T : Txt K mg A) : FnOk P w K mg base CX0 3 A.a_is_line A.d_is_line ["value"] (spF K 1 m_is_line) :=
  fn_ok T.F_is_line sc_is_line rfl rfl (by decide) fun cdv A' outer s H E hr =>
    (bv_one (sv_ret (ev_and (ev_call (ok_is_pair T) (hr.mono (by decide)) (by rfl) T.m_is_pair T.F_is_pair.kp T.i_is_pair .nil (fun _ => .nil) rfl (xa_val (ev_var (pv 0)) xa_nil) (hlen := xl_of (xl_val xl_nil))) (ev_and (ev_callB (ct_all rfl) (by rfl) T.b_all (by decide +kernel) (ea_cons (ev_ew (ew_lc (own := [("one", 1)]) rfl sc_is_line.nd (iv_seq (ev_var (pv 0))) (blkOk_by (N := N_is_line) (sc := defScope s_is_line) (by decide +kernel)) (fun _ _ _ _ _ => (gv_name (i := 1) sc_is_line.nd rfl (by first | exact Or.inl rfl | exact Or.inr rfl))) (fun _ _ _ _ _ => tsv_nil) (fun _ _ _ _ _ => (ev_call (ok_is_ratio T) (hr.mono (by decide)) (by rfl) T.m_is_ratio T.F_is_ratio.kp T.i_is_ratio .nil (fun _ => .nil) rfl (xa_val (ev_var (pv 1)) xa_nil) (hlen := xl_of (xl_val xl_nil)))) (by decide))) ea_nil)) (ev_one (ev_call (ok_less T) (hr.mono (by decide)) (by rfl) T.m_less T.F_less.kp T.i_less .nil (fun _ => .nil) rfl (xa_val (ev_ix it_ix (ev_var (pv 0)) ev_int (fun _ _ => rfl)) (xa_val (ev_ix it_ix (ev_var (pv 0)) ev_int (fun _ _ => rfl)) xa_nil)) (hlen := xl_of (xl_val (xl_val xl_nil)))))))))
theorem ok_is_on (T : Txt K mg A) : FnOk P w K mg base CX0 3 A.a_is_on A.d_is_on ["line", "value"] (spF K 2 m_is_on) :=
  fn_ok T.F_is_on sc_is_on rfl rfl (by decide) fun cdv A' outer s H E hr =>
    (bv_one (sv_ret (ev_and (ev_call (ok_is_ratio T) (hr.mono (by decide)) (by rfl) T.m_is_ratio T.F_is_ratio.kp T.i_is_ratio .nil (fun _ => .nil) rfl (xa_val (ev_var (pv 1)) xa_nil) (hlen := xl_of (xl_val xl_nil))) (ev_and (ev_call (ok_at_most T) (hr.mono (by decide)) (by rfl) T.m_at_most T.F_at_most.kp T.i_at_most .nil (fun _ => .nil) rfl (xa_val (ev_ix it_ix (ev_var (pv 0)) ev_int (fun _ _ => rfl)) (xa_val (ev_var (pv 1)) xa_nil)) (hlen := xl_of (xl_val (xl_val xl_nil)))) (ev_one (ev_call (ok_at_most T) (hr.mono (by decide)) (by rfl) T.m_at_most T.F_at_most.kp T.i_at_most .nil (fun _ => .nil) rfl (xa_val (ev_var (pv 1)) (xa_val (ev_ix it_ix (ev_var (pv 0)) ev_int (fun _ _ => rfl)) xa_nil)) (hlen := xl_of (xl_val (xl_val xl_nil)))))))))
theorem ok_odds_at (T : Txt K mg A) : FnOk P w K mg base CX0 3 A.a_odds_at A.d_odds_at ["odds", "x"] (spF K 2 m_odds_at) :=
  fn_ok T.F_odds_at sc_odds_at rfl rfl (by decide) fun cdv A' outer s H E hr =>
    (bv_one (sv_ret (ev_call (ok_plus T) (hr.mono (by decide)) (by rfl) T.m_plus T.F_plus.kp T.i_plus .nil (fun _ => .nil) rfl (xa_val (ev_ix it_ix (ev_var (pv 0)) ev_int (fun _ _ => rfl)) (xa_val (ev_call (ok_times T) (hr.mono (by decide)) (by rfl) T.m_times T.F_times.kp T.i_times .nil (fun _ => .nil) rfl (xa_val (ev_ix it_ix (ev_var (pv 0)) ev_int (fun _ _ => rfl)) (xa_val (ev_var (pv 1)) xa_nil)) (hlen := xl_of (xl_val (xl_val xl_nil)))) xa_nil)) (hlen := xl_of (xl_val (xl_val xl_nil))))))
theorem ok_are_odds (T : Txt K mg A) : FnOk P w K mg base CX0 4 A.a_are_odds A.d_are_odds ["value", "line"] (spF K 2 m_are_odds) :=
  fn_ok T.F_are_odds sc_are_odds rfl rfl (by decide) fun cdv A' outer s H E hr =>
    (bv_cons (sv_if (tw_tv (tw_or (tv_not (tv_val (ev_call (ok_is_pair T) (hr.mono (by decide)) (by rfl) T.m_is_pair T.F_is_pair.kp T.i_is_pair .nil (fun _ => .nil) rfl (xa_val (ev_var (pv 0)) xa_nil) (hlen := xl_of (xl_val xl_nil))))) (tw_or1 (tv_not (tv_val (ev_callB (ct_all rfl) (by rfl) T.b_all (by decide +kernel) (ea_cons (ev_ew (ew_lc (own := [("one", 3)]) rfl sc_are_odds.nd (iv_seq (ev_var (pv 0))) (blkOk_by (N := N_are_odds) (sc := defScope s_are_odds) (by decide +kernel)) (fun _ _ _ _ _ => (gv_name (i := 3) sc_are_odds.nd rfl (by first | exact Or.inl rfl | exact Or.inr rfl))) (fun _ _ _ _ _ => tsv_nil) (fun _ _ _ _ _ => (ev_call (ok_is_ratio T) (hr.mono (by decide)) (by rfl) T.m_is_ratio T.F_is_ratio.kp T.i_is_ratio .nil (fun _ => .nil) rfl (xa_val (ev_var (pv 3)) xa_nil) (hlen := xl_of (xl_val xl_nil)))) (by decide))) ea_nil))))))) (bv_one (sv_ret ev_bl)) bv_nil)
    (bv_cons (sv_setLc (i := 2) (own := [("x", 4)]) rfl sc_are_odds.nd rfl rfl (sw_true rfl rfl rfl (by decide +kernel)) (iv_seq (ev_var (pv 1))) (blkOk_by (N := N_are_odds) (sc := defScope s_are_odds) (by decide +kernel)) (fun _ _ _ _ _ => (gv_name (i := 4) sc_are_odds.nd rfl (by first | exact Or.inl rfl | exact Or.inr rfl))) (fun _ _ _ _ _ => tsv_nil) (fun _ _ _ _ _ => (ev_call (ok_odds_at T) (hr.mono (by decide)) (by rfl) T.m_odds_at T.F_odds_at.kp T.i_odds_at .nil (fun _ => .nil) rfl (xa_val (ev_var (pv 0)) (xa_val (ev_var (pv 4)) xa_nil)) (hlen := xl_of (xl_val (xl_val xl_nil))))) (by decide))
    (bv_one (sv_ret (ev_not (ev_callB (ct_any rfl) (by rfl) T.b_any (by decide +kernel) (ea_cons (ev_ew (ew_lc (own := [("one", 3)]) rfl sc_are_odds.nd (iv_seq (ev_var (pv 2))) (blkOk_by (N := N_are_odds) (sc := defScope s_are_odds) (by decide +kernel)) (fun _ _ _ _ _ => (gv_name (i := 3) sc_are_odds.nd rfl (by first | exact Or.inl rfl | exact Or.inr rfl))) (fun _ _ _ _ _ => tsv_nil) (fun _ _ _ _ _ => (ev_or (ev_call (ok_less T) (hr.mono (by decide)) (by rfl) T.m_less T.F_less.kp T.i_less .nil (fun _ => .nil) rfl (xa_val (ev_var (pv 3)) (xa_val (ev_glob (by rfl) T.g_ZERO T.r_ZERO) xa_nil)) (hlen := xl_of (xl_val (xl_val xl_nil)))) (ev_one (ev_call (ok_less T) (hr.mono (by decide)) (by rfl) T.m_less T.F_less.kp T.i_less .nil (fun _ => .nil) rfl (xa_val (ev_glob (by rfl) T.g_ONE T.r_ONE) (xa_val (ev_var (pv 3)) xa_nil)) (hlen := xl_of (xl_val (xl_val xl_nil))))))) (by decide))) ea_nil)))))))
theorem ok_rest_of (T : Txt K mg A) : FnOk P w K mg base CX0 3 A.a_rest_of A.d_rest_of ["odds"] (spF K 1 m_rest_of) :=
  fn_ok T.F_rest_of sc_rest_of rfl rfl (by decide) fun cdv A' outer s H E hr =>
    (bv_one (sv_ret (ev_tup (ea_cons (ev_call (ok_minus T) (hr.mono (by decide)) (by rfl) T.m_minus T.F_minus.kp T.i_minus .nil (fun _ => .nil) rfl (xa_val (ev_glob (by rfl) T.g_ONE T.r_ONE) (xa_val (ev_ix it_ix (ev_var (pv 0)) ev_int (fun _ _ => rfl)) xa_nil)) (hlen := xl_of (xl_val (xl_val xl_nil)))) (ea_cons (ev_call (ok_negated T) (hr.mono (by decide)) (by rfl) T.m_negated T.F_negated.kp T.i_negated .nil (fun _ => .nil) rfl (xa_val (ev_ix it_ix (ev_var (pv 0)) ev_int (fun _ _ => rfl)) xa_nil) (hlen := xl_of (xl_val xl_nil))) ea_nil)))))
theorem ok__law_pen (T : Txt K mg A) : FnOk P w K mg base CX0 1 A.a__law_pen A.d__law_pen ["script"] (spW K 1 m__law_pen) :=
  fn_okW T.F__law_pen sc__law_pen rfl rfl (by decide) fun cdv A' outer s H E hr => pss_one (ps_ret (ew_lst (ea_cons (ev_ew (ew_lc (own := [("cell", 1)]) rfl sc__law_pen.nd (iv_seq (ev_slice (ev_var (pv 0)) pv_none (pv_some ev_int))) (blkOk_by (N := N__law_pen) (sc := defScope s__law_pen) (by decide +kernel)) (fun _ _ _ _ _ => (gv_name (i := 1) sc__law_pen.nd rfl (by first | exact Or.inl rfl | exact Or.inr rfl))) (fun _ _ _ _ _ => tsv_nil) (fun _ _ _ _ _ => (ev_callTy ct_int (by rfl) T.b_int (by decide +kernel) (ea_cons (ev_var (pv 1)) ea_nil))) (by decide))) (ea_cons ev_int (ea_cons ev_int ea_nil)))))
theorem ok__law_draw (T : Txt K mg A) : FnOk P w K mg base CX0 1 A.a__law_draw A.d__law_draw ["pen", "many"] (spF K 2 m__law_draw) :=
  fn_ok T.F__law_draw sc__law_draw rfl rfl (by decide) fun cdv A' outer s H E hr =>
    (bv_cons (sv_if (tv_cmp ot_iGt (ev_pkIx (pv 0) ev_int (fun _ _ => rfl)) ev_int (nomark _)) (bv_cons (sv_set (i := 2) sc__law_draw.nd rfl (by first | exact Or.inl rfl | exact Or.inr rfl) (ev_callTy ct_int (by rfl) T.b_int (by decide +kernel) (ea_cons (ev_pkIx (pv 0) ev_int (fun _ _ => rfl)) ea_nil)))
    (bv_cons (sv_store (pv 0) (ev_bin ot_iDiv (ev_var (pv 2)) (ev_var (pv 1))) ev_int)
    (bv_one (sv_ret (ev_bin ot_iMod (ev_callTy ct_int (by rfl) T.b_int (by decide +kernel) (ea_cons (ev_var (pv 2)) ea_nil)) (ev_var (pv 1))))))) bv_nil)
    (bv_cons (sv_set (i := 3) sc__law_draw.nd rfl (by first | exact Or.inl rfl | exact Or.inr rfl) (ev_pkIx (pv 0) ev_int (fun _ _ => rfl)))
    (bv_cons (sv_store (pv 0) (ev_bin ot_add (ev_var (pv 3)) ev_int) ev_int)
    (bv_cons (sv_set (i := 4) sc__law_draw.nd rfl (by first | exact Or.inl rfl | exact Or.inr rfl) (ev_bin ot_add (ev_bin ot_mul ev_int (ev_var (pv 3))) ev_int))
    (bv_cons (sv_if (tv_cmp (ot_ne hr.units) (ev_pkIx (pv 0) ev_int (fun _ _ => rfl)) (ev_lst ea_nil) (nomark _)) (bv_one (sv_set (i := 4) sc__law_draw.nd rfl (by first | exact Or.inl rfl | exact Or.inr rfl) (ev_ix it_ix (ev_pkIx (pv 0) ev_int (fun _ _ => rfl)) (ev_bin ot_iMod (ev_callTy ct_int (by rfl) T.b_int (by decide +kernel) (ea_cons (ev_var (pv 3)) ea_nil)) (ev_callB ct_len (by rfl) T.b_len (by decide +kernel) (ea_cons (ev_pkIx (pv 0) ev_int (fun _ _ => rfl)) ea_nil))) (fun _ _ => rfl)))) bv_nil)
    (bv_cons (sv_if (tw_tv (tw_and (tv_cmp ot_iLt (ev_var (pv 3)) (ev_callB ct_len (by rfl) T.b_len (by decide +kernel) (ea_cons (ev_pkIx (pv 0) ev_int (fun _ _ => rfl)) ea_nil)) (nomark _)) (tw_and1 (tv_cmp ot_iGe (ev_callB ct_abs (by rfl) T.b_abs (by decide +kernel) (ea_cons (ev_var (pv 4)) ea_nil)) (ev_bin ot_iPow ev_int ev_int) (nomark _))))) (bv_cons (sv_set (i := 2) sc__law_draw.nd rfl (by first | exact Or.inl rfl | exact Or.inr rfl) (ev_bin ot_add (ev_bin ot_mul ev_int (ev_bin ot_iSub (ev_callB ct_abs (by rfl) T.b_abs (by decide +kernel) (ea_cons (ev_var (pv 4)) ea_nil)) (ev_bin ot_iPow ev_int ev_int))) (ev_callTy ct_int (by rfl) T.b_int (by decide +kernel) (ea_cons (ev_cmp ot_iLt (ev_var (pv 4)) ev_int (nomark _)) ea_nil))))
    (bv_cons (sv_store (pv 0) (ev_bin ot_iDiv (ev_callTy ct_int (by rfl) T.b_int (by decide +kernel) (ea_cons (ev_var (pv 2)) ea_nil)) (ev_var (pv 1))) ev_int)
    (bv_one (sv_ret (ev_bin ot_iMod (ev_callTy ct_int (by rfl) T.b_int (by decide +kernel) (ea_cons (ev_var (pv 2)) ea_nil)) (ev_var (pv 1))))))) bv_nil)
    (bv_cons (sv_set (i := 5) sc__law_draw.nd rfl (by first | exact Or.inl rfl | exact Or.inr rfl) (ev_bin ot_iMod (ev_callTy ct_int (by rfl) T.b_int (by decide +kernel) (ea_cons (ev_bin ot_iPow (ev_bin ot_add (ev_bin ot_add (ev_bin ot_iMod (ev_callTy ct_int (by rfl) T.b_int (by decide +kernel) (ea_cons (ev_var (pv 4)) ea_nil)) ev_int) (ev_bin ot_mul ev_int (ev_var (pv 3)))) ev_int) ev_int) ea_nil)) ev_int))
    (bv_cons (sv_set (i := 5) sc__law_draw.nd rfl (by first | exact Or.inl rfl | exact Or.inr rfl) (ev_bin ot_iMod (ev_callTy ct_int (by rfl) T.b_int (by decide +kernel) (ea_cons (ev_bin ot_iPow (ev_bin ot_add (ev_bin ot_add (ev_bin ot_mul (ev_var (pv 5)) (ev_bin ot_add (ev_bin ot_mul ev_int (ev_var (pv 3))) ev_int)) (ev_bin ot_mul (ev_bin ot_mul ev_int (ev_var (pv 3))) (ev_var (pv 3)))) ev_int) ev_int) ea_nil)) ev_int))
    (bv_one (sv_ret (ev_bin ot_iMod (ev_callTy ct_int (by rfl) T.b_int (by decide +kernel) (ea_cons (ev_bin ot_iDiv (ev_var (pv 5)) ev_int) ea_nil)) (ev_var (pv 1)))))))))))))
theorem ok__law_pick (T : Txt K mg A) : FnOk P w K mg base CX0 2 A.a__law_pick A.d__law_pick ["pen", "some"] (spF K 2 m__law_pick) :=
  fn_ok T.F__law_pick sc__law_pick rfl rfl (by decide) fun cdv A' outer s H E hr =>
    (bv_one (sv_ret (ev_ix it_ix (ev_var (pv 1)) (ev_call (ok__law_draw T) (hr.mono (by decide)) (by rfl) T.m__law_draw T.F__law_draw.kp T.i__law_draw .nil (fun _ => .nil) rfl (xa_io (pv 0) (xa_val (ev_callB ct_len (by rfl) T.b_len (by decide +kernel) (ea_cons (ev_var (pv 1)) ea_nil)) xa_nil)) (hlen := xl_of (xl_io (xl_val xl_nil)))) (fun _ _ => rfl))))
theorem ok__law_shared (T : Txt K mg A) : FnOk P w K mg base CX0 1 A.a__law_shared A.d__law_shared ["one", "other"] (spF K 2 m__law_shared) :=
  fn_ok T.F__law_shared sc__law_shared rfl rfl (by decide) fun cdv A' outer s H E hr =>
    (bv_cons (sv_for PassesOwn.never rfl (iv_range1 (by rfl) T.b_range (ea_cons ev_int ea_nil)) (gv_name (i := 2) sc__law_shared.nd rfl (by first | exact Or.inl rfl | exact Or.inr rfl)) (bv_cons (sv_if (tv_cmp (ot_eq hr.units) (ev_var (pv 1)) ev_int (nomark _)) (bv_one sv_break) bv_nil)
    (bv_one (sv_par (i := 0) (j := 1) rfl sc__law_shared.nd rfl rfl (by decide) rfl rfl (ea_cons (ev_var (pv 1)) (ea_cons (ev_bin ot_iMod (ev_callTy ct_int (by rfl) T.b_int (by decide +kernel) (ea_cons (ev_var (pv 0)) ea_nil)) (ev_var (pv 1))) ea_nil)) (by rfl)))))
    (bv_one (sv_ret (ev_callB ct_abs (by rfl) T.b_abs (by decide +kernel) (ea_cons (ev_var (pv 0)) ea_nil)))))
theorem ok__law_lowest (T : Txt K mg A) : FnOk P w K mg base CX0 2 A.a__law_lowest A.d__law_lowest ["top", "bottom"] (spF K 2 m__law_lowest) :=
  fn_ok T.F__law_lowest sc__law_lowest rfl rfl (by decide) fun cdv A' outer s H E hr =>
    (bv_cons (sv_par (i := 2) (j := 3) rfl sc__law_lowest.nd rfl rfl (by decide) rfl rfl (ea_cons (ev_call (ok__law_shared T) (hr.mono (by decide)) (by rfl) T.m__law_shared T.F__law_shared.kp T.i__law_shared .nil (fun _ => .nil) rfl (xa_val (ev_var (pv 0)) (xa_val (ev_var (pv 1)) xa_nil)) (hlen := xl_of (xl_val (xl_val xl_nil)))) (ea_cons (ev_ifExp (tv_cmp ot_iLt (ev_var (pv 1)) ev_int (nomark _)) (ev_un ut_neg ev_int) ev_int) ea_nil)) (by rfl))
    (bv_one (sv_ret (ev_tup (ea_cons (ev_bin ot_iDiv (ev_bin ot_mul (ev_var (pv 3)) (ev_var (pv 0))) (ev_var (pv 2))) (ea_cons (ev_bin ot_iDiv (ev_bin ot_mul (ev_var (pv 3)) (ev_var (pv 1))) (ev_var (pv 2))) ea_nil))))))
theorem ok__law_plus (T : Txt K mg A) : FnOk P w K mg base CX0 3 A.a__law_plus A.d__law_plus ["one", "other"] (spF K 2 m__law_plus) :=
  fn_ok T.F__law_plus sc__law_plus rfl rfl (by decide) fun cdv A' outer s H E hr =>
    (bv_one (sv_ret (ev_call (ok__law_lowest T) (hr.mono (by decide)) (by rfl) T.m__law_lowest T.F__law_lowest.kp T.i__law_lowest .nil (fun _ => .nil) rfl (xa_val (ev_bin ot_add (ev_bin ot_mul (ev_ix it_ix (ev_var (pv 0)) ev_int (fun _ _ => rfl)) (ev_ix it_ix (ev_var (pv 1)) ev_int (fun _ _ => rfl))) (ev_bin ot_mul (ev_ix it_ix (ev_var (pv 1)) ev_int (fun _ _ => rfl)) (ev_ix it_ix (ev_var (pv 0)) ev_int (fun _ _ => rfl)))) (xa_val (ev_bin ot_mul (ev_ix it_ix (ev_var (pv 0)) ev_int (fun _ _ => rfl)) (ev_ix it_ix (ev_var (pv 1)) ev_int (fun _ _ => rfl))) xa_nil)) (hlen := xl_of (xl_val (xl_val xl_nil))))))
theorem ok__law_minus (T : Txt K mg A) : FnOk P w K mg base CX0 3 A.a__law_minus A.d__law_minus ["one", "other"] (spF K 2 m__law_minus) :=
  fn_ok T.F__law_minus sc__law_minus rfl rfl (by decide) fun cdv A' outer s H E hr =>
    (bv_one (sv_ret (ev_call (ok__law_lowest T) (hr.mono (by decide)) (by rfl) T.m__law_lowest T.F__law_lowest.kp T.i__law_lowest .nil (fun _ => .nil) rfl (xa_val (ev_bin ot_iSub (ev_bin ot_mul (ev_ix it_ix (ev_var (pv 0)) ev_int (fun _ _ => rfl)) (ev_ix it_ix (ev_var (pv 1)) ev_int (fun _ _ => rfl))) (ev_bin ot_mul (ev_ix it_ix (ev_var (pv 1)) ev_int (fun _ _ => rfl)) (ev_ix it_ix (ev_var (pv 0)) ev_int (fun _ _ => rfl)))) (xa_val (ev_bin ot_mul (ev_ix it_ix (ev_var (pv 0)) ev_int (fun _ _ => rfl)) (ev_ix it_ix (ev_var (pv 1)) ev_int (fun _ _ => rfl))) xa_nil)) (hlen := xl_of (xl_val (xl_val xl_nil))))))
theorem ok__law_times (T : Txt K mg A) : FnOk P w K mg base CX0 3 A.a__law_times A.d__law_times ["one", "other"] (spF K 2 m__law_times) :=
  fn_ok T.F__law_times sc__law_times rfl rfl (by decide) fun cdv A' outer s H E hr =>
    (bv_one (sv_ret (ev_call (ok__law_lowest T) (hr.mono (by decide)) (by rfl) T.m__law_lowest T.F__law_lowest.kp T.i__law_lowest .nil (fun _ => .nil) rfl (xa_val (ev_bin ot_mul (ev_ix it_ix (ev_var (pv 0)) ev_int (fun _ _ => rfl)) (ev_ix it_ix (ev_var (pv 1)) ev_int (fun _ _ => rfl))) (xa_val (ev_bin ot_mul (ev_ix it_ix (ev_var (pv 0)) ev_int (fun _ _ => rfl)) (ev_ix it_ix (ev_var (pv 1)) ev_int (fun _ _ => rfl))) xa_nil)) (hlen := xl_of (xl_val (xl_val xl_nil))))))
theorem ok__law_over (T : Txt K mg A) : FnOk P w K mg base CX0 3 A.a__law_over A.d__law_over ["one", "other"] (spF K 2 m__law_over) :=
  fn_ok T.F__law_over sc__law_over rfl rfl (by decide) fun cdv A' outer s H E hr =>
    (bv_one (sv_ret (ev_call (ok__law_lowest T) (hr.mono (by decide)) (by rfl) T.m__law_lowest T.F__law_lowest.kp T.i__law_lowest .nil (fun _ => .nil) rfl (xa_val (ev_bin ot_mul (ev_ix it_ix (ev_var (pv 0)) ev_int (fun _ _ => rfl)) (ev_ix it_ix (ev_var (pv 1)) ev_int (fun _ _ => rfl))) (xa_val (ev_bin ot_mul (ev_ix it_ix (ev_var (pv 0)) ev_int (fun _ _ => rfl)) (ev_ix it_ix (ev_var (pv 1)) ev_int (fun _ _ => rfl))) xa_nil)) (hlen := xl_of (xl_val (xl_val xl_nil))))))
theorem ok__law_is_less (T : Txt K mg A) : FnOk P w K mg base CX0 1 A.a__law_is_less A.d__law_is_less ["one", "other"] (spF K 2 m__law_is_less) :=
  fn_ok T.F__law_is_less sc__law_is_less rfl rfl (by decide) fun cdv A' outer s H E hr =>
    (bv_one (sv_ret (ev_cmp ot_iLt (ev_bin ot_mul (ev_ix it_ix (ev_var (pv 0)) ev_int (fun _ _ => rfl)) (ev_ix it_ix (ev_var (pv 1)) ev_int (fun _ _ => rfl))) (ev_bin ot_mul (ev_ix it_ix (ev_var (pv 1)) ev_int (fun _ _ => rfl)) (ev_ix it_ix (ev_var (pv 0)) ev_int (fun _ _ => rfl))) (nomark _))))
theorem ok__law_drawn (T : Txt K mg A) : FnOk P w K mg base CX0 3 A.a__law_drawn A.d__law_drawn ["pen"] (spF K 1 m__law_drawn) :=
  fn_ok T.F__law_drawn sc__law_drawn rfl rfl (by decide) fun cdv A' outer s H E hr =>
    (bv_cons (sv_set (i := 1) sc__law_drawn.nd rfl (by first | exact Or.inl rfl | exact Or.inr rfl) (ev_call (ok__law_draw T) (hr.mono (by decide)) (by rfl) T.m__law_draw T.F__law_draw.kp T.i__law_draw .nil (fun _ => .nil) rfl (xa_io (pv 0) (xa_val ev_int xa_nil)) (hlen := xl_of (xl_io (xl_val xl_nil)))))
    (bv_cons (sv_if (tv_cmp (ot_eq hr.units) (ev_var (pv 1)) ev_int (nomark _)) (bv_one (sv_ret (ev_call (ok__law_lowest T) (hr.mono (by decide)) (by rfl) T.m__law_lowest T.F__law_lowest.kp T.i__law_lowest .nil (fun _ => .nil) rfl (xa_val (ev_bin ot_add (ev_bin ot_mul (ev_bin ot_iSub (ev_call (ok__law_draw T) (hr.mono (by decide)) (by rfl) T.m__law_draw T.F__law_draw.kp T.i__law_draw .nil (fun _ => .nil) rfl (xa_io (pv 0) (xa_val ev_int xa_nil)) (hlen := xl_of (xl_io (xl_val xl_nil)))) ev_int) (ev_bin ot_iPow ev_int ev_int)) (ev_call (ok__law_draw T) (hr.mono (by decide)) (by rfl) T.m__law_draw T.F__law_draw.kp T.i__law_draw .nil (fun _ => .nil) rfl (xa_io (pv 0) (xa_val ev_int xa_nil)) (hlen := xl_of (xl_io (xl_val xl_nil))))) (xa_val (ev_bin ot_add (ev_bin ot_iPow ev_int ev_int) (ev_call (ok__law_draw T) (hr.mono (by decide)) (by rfl) T.m__law_draw T.F__law_draw.kp T.i__law_draw .nil (fun _ => .nil) rfl (xa_io (pv 0) (xa_val (ev_bin ot_iPow ev_int ev_int) xa_nil)) (hlen := xl_of (xl_io (xl_val xl_nil))))) xa_nil)) (hlen := xl_of (xl_val (xl_val xl_nil)))))) bv_nil)
    (bv_one (sv_ret (ev_ifExp (tv_cmp ot_iGt (ev_var (pv 1)) ev_int (nomark _)) (ev_call (ok__law_lowest T) (hr.mono (by decide)) (by rfl) T.m__law_lowest T.F__law_lowest.kp T.i__law_lowest .nil (fun _ => .nil) rfl (xa_val (ev_bin ot_iSub (ev_call (ok__law_draw T) (hr.mono (by decide)) (by rfl) T.m__law_draw T.F__law_draw.kp T.i__law_draw .nil (fun _ => .nil) rfl (xa_io (pv 0) (xa_val ev_int xa_nil)) (hlen := xl_of (xl_io (xl_val xl_nil)))) ev_int) (xa_val (ev_bin ot_add ev_int (ev_call (ok__law_draw T) (hr.mono (by decide)) (by rfl) T.m__law_draw T.F__law_draw.kp T.i__law_draw .nil (fun _ => .nil) rfl (xa_io (pv 0) (xa_val ev_int xa_nil)) (hlen := xl_of (xl_io (xl_val xl_nil))))) xa_nil)) (hlen := xl_of (xl_val (xl_val xl_nil)))) (ev_tup (ea_cons (ev_bin ot_iSub (ev_call (ok__law_draw T) (hr.mono (by decide)) (by rfl) T.m__law_draw T.F__law_draw.kp T.i__law_draw .nil (fun _ => .nil) rfl (xa_io (pv 0) (xa_val ev_int xa_nil)) (hlen := xl_of (xl_io (xl_val xl_nil)))) ev_int) (ea_cons ev_int ea_nil))))))))
theorem ok__law_line (T : Txt K mg A) : FnOk P w K mg base CX0 4 A.a__law_line A.d__law_line ["pen"] (spF K 1 m__law_line) :=
  fn_ok T.F__law_line sc__law_line rfl rfl (by decide) fun cdv A' outer s H E hr =>
    (bv_cons (sv_set (i := 1) sc__law_line.nd rfl (by first | exact Or.inl rfl | exact Or.inr rfl) (ev_call (ok__law_draw T) (hr.mono (by decide)) (by rfl) T.m__law_draw T.F__law_draw.kp T.i__law_draw .nil (fun _ => .nil) rfl (xa_io (pv 0) (xa_val ev_int xa_nil)) (hlen := xl_of (xl_io (xl_val xl_nil)))))
    (bv_cons (sv_if (tv_cmp ot_iLt (ev_var (pv 1)) ev_int (nomark _)) (bv_one (sv_ret (ev_tup (ea_cons (ev_tup (ea_cons ev_int (ea_cons ev_int ea_nil))) (ea_cons (ev_tup (ea_cons ev_int (ea_cons ev_int ea_nil))) ea_nil))))) bv_nil)
    (bv_cons (sv_if (tv_cmp (ot_eq hr.units) (ev_var (pv 1)) ev_int (nomark _)) (bv_one (sv_ret (ev_call (ok__law_pick T) (hr.mono (by decide)) (by rfl) T.m__law_pick T.F__law_pick.kp T.i__law_pick .nil (fun _ => .nil) rfl (xa_io (pv 0) (xa_val (ev_lst (ea_cons (ev_tup (ea_cons (ev_tup (ea_cons ev_int (ea_cons ev_int ea_nil))) (ea_cons (ev_tup (ea_cons ev_int (ea_cons ev_int ea_nil))) ea_nil))) (ea_cons (ev_tup (ea_cons (ev_tup (ea_cons ev_int (ea_cons ev_int ea_nil))) (ea_cons (ev_tup (ea_cons ev_int (ea_cons ev_int ea_nil))) ea_nil))) (ea_cons (ev_tup (ea_cons (ev_tup (ea_cons (ev_un ut_neg ev_int) (ea_cons ev_int ea_nil))) (ea_cons (ev_tup (ea_cons ev_int (ea_cons ev_int ea_nil))) ea_nil))) (ea_cons (ev_tup (ea_cons (ev_tup (ea_cons ev_int (ea_cons ev_int ea_nil))) (ea_cons (ev_tup (ea_cons ev_int (ea_cons ev_int ea_nil))) ea_nil))) (ea_cons (ev_tup (ea_cons (ev_tup (ea_cons (ev_un ut_neg ev_int) (ea_cons ev_int ea_nil))) (ea_cons (ev_tup (ea_cons (ev_un ut_neg ev_int) (ea_cons ev_int ea_nil))) ea_nil))) (ea_cons (ev_tup (ea_cons (ev_tup (ea_cons ev_int (ea_cons ev_int ea_nil))) (ea_cons (ev_tup (ea_cons ev_int (ea_cons (ev_bin ot_iPow ev_int ev_int) ea_nil))) ea_nil))) ea_nil))))))) xa_nil)) (hlen := xl_of (xl_io (xl_val xl_nil)))))) bv_nil)
    (bv_cons (sv_set (i := 2) sc__law_line.nd rfl (by first | exact Or.inl rfl | exact Or.inr rfl) (ev_call (ok__law_drawn T) (hr.mono (by decide)) (by rfl) T.m__law_drawn T.F__law_drawn.kp T.i__law_drawn .nil (fun _ => .nil) rfl (xa_io (pv 0) xa_nil) (hlen := xl_of (xl_io xl_nil))))
    (bv_one (sv_ret (ev_tup (ea_cons (ev_var (pv 2)) (ea_cons (ev_call (ok__law_plus T) (hr.mono (by decide)) (by rfl) T.m__law_plus T.F__law_plus.kp T.i__law_plus .nil (fun _ => .nil) rfl (xa_val (ev_var (pv 2)) (xa_val (ev_call (ok__law_pick T) (hr.mono (by decide)) (by rfl) T.m__law_pick T.F__law_pick.kp T.i__law_pick .nil (fun _ => .nil) rfl (xa_io (pv 0) (xa_val (ev_lst (ea_cons (ev_tup (ea_cons ev_int (ea_cons ev_int ea_nil))) (ea_cons (ev_tup (ea_cons ev_int (ea_cons ev_int ea_nil))) (ea_cons (ev_tup (ea_cons ev_int (ea_cons ev_int ea_nil))) (ea_cons (ev_tup (ea_cons (ev_bin ot_iPow ev_int ev_int) (ea_cons ev_int ea_nil))) ea_nil))))) xa_nil)) (hlen := xl_of (xl_io (xl_val xl_nil)))) xa_nil)) (hlen := xl_of (xl_val (xl_val xl_nil)))) ea_nil)))))))))
theorem ok__law_at (T : Txt K mg A) : FnOk P w K mg base CX0 4 A.a__law_at A.d__law_at ["odds", "x"] (spF K 2 m__law_at) :=
  fn_ok T.F__law_at sc__law_at rfl rfl (by decide) fun cdv A' outer s H E hr =>
    (bv_one (sv_ret (ev_call (ok__law_plus T) (hr.mono (by decide)) (by rfl) T.m__law_plus T.F__law_plus.kp T.i__law_plus .nil (fun _ => .nil) rfl (xa_val (ev_ix it_ix (ev_var (pv 0)) ev_int (fun _ _ => rfl)) (xa_val (ev_call (ok__law_times T) (hr.mono (by decide)) (by rfl) T.m__law_times T.F__law_times.kp T.i__law_times .nil (fun _ => .nil) rfl (xa_val (ev_ix it_ix (ev_var (pv 0)) ev_int (fun _ _ => rfl)) (xa_val (ev_var (pv 1)) xa_nil)) (hlen := xl_of (xl_val (xl_val xl_nil)))) xa_nil)) (hlen := xl_of (xl_val (xl_val xl_nil))))))
theorem ok__law_odds_by (T : Txt K mg A) : FnOk P w K mg base CX0 4 A.a__law_odds_by A.d__law_odds_by ["line", "one", "other"] (spF K 3 m__law_odds_by) :=
  fn_ok T.F__law_odds_by sc__law_odds_by rfl rfl (by decide) fun cdv A' outer s H E hr =>
    (bv_cons (sv_set (i := 3) sc__law_odds_by.nd rfl (by first | exact Or.inl rfl | exact Or.inr rfl) (ev_call (ok__law_over T) (hr.mono (by decide)) (by rfl) T.m__law_over T.F__law_over.kp T.i__law_over .nil (fun _ => .nil) rfl (xa_val (ev_call (ok__law_minus T) (hr.mono (by decide)) (by rfl) T.m__law_minus T.F__law_minus.kp T.i__law_minus .nil (fun _ => .nil) rfl (xa_val (ev_var (pv 2)) (xa_val (ev_var (pv 1)) xa_nil)) (hlen := xl_of (xl_val (xl_val xl_nil)))) (xa_val (ev_call (ok__law_minus T) (hr.mono (by decide)) (by rfl) T.m__law_minus T.F__law_minus.kp T.i__law_minus .nil (fun _ => .nil) rfl (xa_val (ev_ix it_ix (ev_var (pv 0)) ev_int (fun _ _ => rfl)) (xa_val (ev_ix it_ix (ev_var (pv 0)) ev_int (fun _ _ => rfl)) xa_nil)) (hlen := xl_of (xl_val (xl_val xl_nil)))) xa_nil)) (hlen := xl_of (xl_val (xl_val xl_nil)))))
    (bv_one (sv_ret (ev_tup (ea_cons (ev_call (ok__law_minus T) (hr.mono (by decide)) (by rfl) T.m__law_minus T.F__law_minus.kp T.i__law_minus .nil (fun _ => .nil) rfl (xa_val (ev_var (pv 1)) (xa_val (ev_call (ok__law_times T) (hr.mono (by decide)) (by rfl) T.m__law_times T.F__law_times.kp T.i__law_times .nil (fun _ => .nil) rfl (xa_val (ev_var (pv 3)) (xa_val (ev_ix it_ix (ev_var (pv 0)) ev_int (fun _ _ => rfl)) xa_nil)) (hlen := xl_of (xl_val (xl_val xl_nil)))) xa_nil)) (hlen := xl_of (xl_val (xl_val xl_nil)))) (ea_cons (ev_var (pv 3)) ea_nil))))))
theorem ok__law_odds (T : Txt K mg A) : FnOk P w K mg base CX0 5 A.a__law_odds A.d__law_odds ["pen", "line"] (spF K 2 m__law_odds) :=
  fn_ok T.F__law_odds sc__law_odds rfl rfl (by decide) fun cdv A' outer s H E hr =>
    (bv_cons (sv_set (i := 2) sc__law_odds.nd rfl (by first | exact Or.inl rfl | exact Or.inr rfl) (ev_lst (ea_cons (ev_tup (ea_cons ev_int (ea_cons ev_int ea_nil))) (ea_cons (ev_tup (ea_cons ev_int (ea_cons ev_int ea_nil))) (ea_cons (ev_tup (ea_cons ev_int (ea_cons ev_int ea_nil))) (ea_cons (ev_tup (ea_cons ev_int (ea_cons ev_int ea_nil))) (ea_cons (ev_tup (ea_cons ev_int (ea_cons ev_int ea_nil))) (ea_cons (ev_tup (ea_cons ev_int (ea_cons ev_int ea_nil))) (ea_cons (ev_tup (ea_cons ev_int (ea_cons ev_int ea_nil))) (ea_cons (ev_tup (ea_cons ev_int (ea_cons ev_int ea_nil))) (ea_cons (ev_tup (ea_cons ev_int (ea_cons ev_int ea_nil))) (ea_cons (ev_tup (ea_cons ev_int (ea_cons ev_int ea_nil))) ea_nil))))))))))))
    (bv_cons (sv_set (i := 3) sc__law_odds.nd rfl (by first | exact Or.inl rfl | exact Or.inr rfl) (ev_call (ok__law_pick T) (hr.mono (by decide)) (by rfl) T.m__law_pick T.F__law_pick.kp T.i__law_pick .nil (fun _ => .nil) rfl (xa_io (pv 0) (xa_val (ev_var (pv 2)) xa_nil)) (hlen := xl_of (xl_io (xl_val xl_nil)))))
    (bv_one (sv_ret (ev_call (ok__law_odds_by T) (hr.mono (by decide)) (by rfl) T.m__law_odds_by T.F__law_odds_by.kp T.i__law_odds_by .nil (fun _ => .nil) rfl (xa_val (ev_var (pv 1)) (xa_val (ev_var (pv 3)) (xa_val (ev_ifExp (tv_cmp (ot_eq hr.units) (ev_call (ok__law_draw T) (hr.mono (by decide)) (by rfl) T.m__law_draw T.F__law_draw.kp T.i__law_draw .nil (fun _ => .nil) rfl (xa_io (pv 0) (xa_val ev_int xa_nil)) (hlen := xl_of (xl_io (xl_val xl_nil)))) ev_int (nomark _)) (ev_var (pv 3)) (ev_call (ok__law_pick T) (hr.mono (by decide)) (by rfl) T.m__law_pick T.F__law_pick.kp T.i__law_pick .nil (fun _ => .nil) rfl (xa_io (pv 0) (xa_val (ev_var (pv 2)) xa_nil)) (hlen := xl_of (xl_io (xl_val xl_nil))))) xa_nil))) (hlen := xl_of (xl_val (xl_val (xl_val xl_nil)))))))))
theorem ok__law_rest (T : Txt K mg A) : FnOk P w K mg base CX0 4 A.a__law_rest A.d__law_rest ["odds"] (spF K 1 m__law_rest) :=
  fn_ok T.F__law_rest sc__law_rest rfl rfl (by decide) fun cdv A' outer s H E hr =>
    (bv_one (sv_ret (ev_tup (ea_cons (ev_call (ok__law_minus T) (hr.mono (by decide)) (by rfl) T.m__law_minus T.F__law_minus.kp T.i__law_minus .nil (fun _ => .nil) rfl (xa_val (ev_tup (ea_cons ev_int (ea_cons ev_int ea_nil))) (xa_val (ev_ix it_ix (ev_var (pv 0)) ev_int (fun _ _ => rfl)) xa_nil)) (hlen := xl_of (xl_val (xl_val xl_nil)))) (ea_cons (ev_tup (ea_cons (ev_un ut_neg (ev_ix it_ix (ev_ix it_ix (ev_var (pv 0)) ev_int (fun _ _ => rfl)) ev_int (fun _ _ => rfl))) (ea_cons (ev_ix it_ix (ev_ix it_ix (ev_var (pv 0)) ev_int (fun _ _ => rfl)) ev_int (fun _ _ => rfl)) ea_nil))) ea_nil)))))
theorem ok__law_x (T : Txt K mg A) : FnOk P w K mg base CX0 4 A.a__law_x A.d__law_x ["pen", "line"] (spF K 2 m__law_x) :=
  fn_ok T.F__law_x sc__law_x rfl rfl (by decide) fun cdv A' outer s H E hr =>
    (bv_cons (sv_par (i := 2) (j := 3) rfl sc__law_x.nd rfl rfl (by decide) rfl rfl (ea_cons (ev_call (ok__law_draw T) (hr.mono (by decide)) (by rfl) T.m__law_draw T.F__law_draw.kp T.i__law_draw .nil (fun _ => .nil) rfl (xa_io (pv 0) (xa_val ev_int xa_nil)) (hlen := xl_of (xl_io (xl_val xl_nil)))) (ea_cons (ev_call (ok__law_minus T) (hr.mono (by decide)) (by rfl) T.m__law_minus T.F__law_minus.kp T.i__law_minus .nil (fun _ => .nil) rfl (xa_val (ev_ix it_ix (ev_var (pv 1)) ev_int (fun _ _ => rfl)) (xa_val (ev_ix it_ix (ev_var (pv 1)) ev_int (fun _ _ => rfl)) xa_nil)) (hlen := xl_of (xl_val (xl_val xl_nil)))) ea_nil)) (by rfl))
    (bv_cons (sv_if (tv_cmp (ot_eq hr.units) (ev_var (pv 2)) ev_int (nomark _)) (bv_one (sv_ret (ev_call (ok__law_pick T) (hr.mono (by decide)) (by rfl) T.m__law_pick T.F__law_pick.kp T.i__law_pick .nil (fun _ => .nil) rfl (xa_io (pv 0) (xa_val (ev_callTy ct_list (by rfl) T.b_list (by decide +kernel) (ea_cons (ev_var (pv 1)) ea_nil)) xa_nil)) (hlen := xl_of (xl_io (xl_val xl_nil)))))) bv_nil)
    (bv_cons (sv_set (i := 4) sc__law_x.nd rfl (by first | exact Or.inl rfl | exact Or.inr rfl) (ev_ifExp (tv_cmp ot_iLt (ev_var (pv 2)) ev_int (nomark _)) (ev_bin ot_add ev_int (ev_call (ok__law_draw T) (hr.mono (by decide)) (by rfl) T.m__law_draw T.F__law_draw.kp T.i__law_draw .nil (fun _ => .nil) rfl (xa_io (pv 0) (xa_val ev_int xa_nil)) (hlen := xl_of (xl_io (xl_val xl_nil))))) (ev_bin ot_add (ev_bin ot_iPow ev_int ev_int) (ev_call (ok__law_draw T) (hr.mono (by decide)) (by rfl) T.m__law_draw T.F__law_draw.kp T.i__law_draw .nil (fun _ => .nil) rfl (xa_io (pv 0) (xa_val ev_int xa_nil)) (hlen := xl_of (xl_io (xl_val xl_nil)))))))
    (bv_one (sv_ret (ev_call (ok__law_plus T) (hr.mono (by decide)) (by rfl) T.m__law_plus T.F__law_plus.kp T.i__law_plus .nil (fun _ => .nil) rfl (xa_val (ev_ix it_ix (ev_var (pv 1)) ev_int (fun _ _ => rfl)) (xa_val (ev_call (ok__law_times T) (hr.mono (by decide)) (by rfl) T.m__law_times T.F__law_times.kp T.i__law_times .nil (fun _ => .nil) rfl (xa_val (ev_var (pv 3)) (xa_val (ev_call (ok__law_lowest T) (hr.mono (by decide)) (by rfl) T.m__law_lowest T.F__law_lowest.kp T.i__law_lowest .nil (fun _ => .nil) rfl (xa_val (ev_call (ok__law_draw T) (hr.mono (by decide)) (by rfl) T.m__law_draw T.F__law_draw.kp T.i__law_draw .nil (fun _ => .nil) rfl (xa_io (pv 0) (xa_val (ev_bin ot_add (ev_var (pv 4)) ev_int) xa_nil)) (hlen := xl_of (xl_io (xl_val xl_nil)))) (xa_val (ev_var (pv 4)) xa_nil)) (hlen := xl_of (xl_val (xl_val xl_nil)))) xa_nil)) (hlen := xl_of (xl_val (xl_val xl_nil)))) xa_nil)) (hlen := xl_of (xl_val (xl_val xl_nil)))))))))
theorem ok_law (T : Txt K mg A) : FnOk P w K mg base CX0 6 A.a_law A.d_law ["script"] (spF K 1 m_law) :=
  fn_ok T.F_law sc_law rfl rfl (by decide) fun cdv A' outer s H E hr =>
    (bv_cons (sv_own (i := 1) sc_law.nd rfl (by first | exact Or.inl rfl | exact Or.inr rfl) (ew_call (ok__law_pen T) (hr.mono (by decide)) (by rfl) T.m__law_pen T.F__law_pen.kp T.i__law_pen rfl (xa_val (ev_var (pv 0)) xa_nil) (hlen := xl_of (xl_val xl_nil))))
    (bv_cons (sv_forR [2, 3, 4, 5, 6, 7, 8, 9, 10, 11, 12, 13] PassesOwn.never rfl (iv_range1 (by rfl) T.b_range (ea_cons ev_int ea_nil)) (gv_name (i := 2) sc_law.nd rfl (by first | exact Or.inl rfl | exact Or.inr rfl)) (bv_cons (sv_set (i := 3) sc_law.nd rfl (by first | exact Or.inl rfl | exact Or.inr rfl) (ev_call (ok__law_line T) (hr.mono (by decide)) (by rfl) T.m__law_line T.F__law_line.kp T.i__law_line .nil (fun _ => .nil) rfl (xa_io (pv 1) xa_nil) (hlen := xl_of (xl_io xl_nil))))
    (bv_cons (sv_par (i := 4) (j := 5) rfl sc_law.nd rfl rfl (by decide) rfl rfl (ea_cons (ev_call (ok__law_odds T) (hr.mono (by decide)) (by rfl) T.m__law_odds T.F__law_odds.kp T.i__law_odds .nil (fun _ => .nil) rfl (xa_io (pv 1) (xa_val (ev_var (pv 3)) xa_nil)) (hlen := xl_of (xl_io (xl_val xl_nil)))) (ea_cons (ev_call (ok__law_x T) (hr.mono (by decide)) (by rfl) T.m__law_x T.F__law_x.kp T.i__law_x .nil (fun _ => .nil) rfl (xa_io (pv 1) (xa_val (ev_var (pv 3)) xa_nil)) (hlen := xl_of (xl_io (xl_val xl_nil)))) ea_nil)) (by rfl))
    (bv_cons (sv_if (tw_tv (tw_or (tv_cmp (ot_ne hr.units) (ev_lst (ea_cons (ev_call (ok_odds_at T) (hr.mono (by decide)) (by rfl) T.m_odds_at T.F_odds_at.kp T.i_odds_at .nil (fun _ => .nil) rfl (xa_val (ev_var (pv 4)) (xa_val (ev_var (pv 5)) xa_nil)) (hlen := xl_of (xl_val (xl_val xl_nil)))) (ea_cons (ev_callK0 (n := 2) (ks := ["x", "odds"]) (g := kw_odds_at_0_x_odds) (ok_odds_at T) (hr.mono (by decide)) (by rfl) T.m_odds_at T.F_odds_at.kp (kw_odds_at_0_x_odds_b T.F_odds_at) kw_odds_at_0_x_odds_r (xk_val (ev_var (pv 5)) (xk_val (ev_var (pv 4)) xk_nil)) (xl_of (xl_val (xl_val xl_nil)))) ea_nil))) (ev_bin ot_mul (ev_lst (ea_cons (ev_call (ok__law_at T) (hr.mono (by decide)) (by rfl) T.m__law_at T.F__law_at.kp T.i__law_at .nil (fun _ => .nil) rfl (xa_val (ev_var (pv 4)) (xa_val (ev_var (pv 5)) xa_nil)) (hlen := xl_of (xl_val (xl_val xl_nil)))) ea_nil)) ev_int) (nomark _)) (tw_or1 (tv_cmp (ot_ne hr.units) (ev_lst (ea_cons (ev_call (ok_rest_of T) (hr.mono (by decide)) (by rfl) T.m_rest_of T.F_rest_of.kp T.i_rest_of .nil (fun _ => .nil) rfl (xa_val (ev_var (pv 4)) xa_nil) (hlen := xl_of (xl_val xl_nil))) (ea_cons (ev_callK0 (n := 1) (ks := ["odds"]) (g := kw_rest_of_0_odds) (ok_rest_of T) (hr.mono (by decide)) (by rfl) T.m_rest_of T.F_rest_of.kp (kw_rest_of_0_odds_b T.F_rest_of) kw_rest_of_0_odds_r (xk_val (ev_var (pv 4)) xk_nil) (xl_of (xl_val xl_nil))) ea_nil))) (ev_bin ot_mul (ev_lst (ea_cons (ev_call (ok__law_rest T) (hr.mono (by decide)) (by rfl) T.m__law_rest T.F__law_rest.kp T.i__law_rest .nil (fun _ => .nil) rfl (xa_val (ev_var (pv 4)) xa_nil) (hlen := xl_of (xl_val xl_nil))) ea_nil)) ev_int) (nomark _))))) (bv_one (sv_ret ev_bl)) bv_nil)
    (bv_cons (sv_if (tw_tv (tw_or (tv_cmp ot_nis (ev_call (ok_are_odds T) (hr.mono (by decide)) (by rfl) T.m_are_odds T.F_are_odds.kp T.i_are_odds .nil (fun _ => .nil) rfl (xa_val (ev_var (pv 4)) (xa_val (ev_var (pv 3)) xa_nil)) (hlen := xl_of (xl_val (xl_val xl_nil)))) ev_bl (nomark _)) (tw_or (tv_cmp ot_nis (ev_callK0 (n := 2) (ks := ["line", "value"]) (g := kw_are_odds_0_line_value) (ok_are_odds T) (hr.mono (by decide)) (by rfl) T.m_are_odds T.F_are_odds.kp (kw_are_odds_0_line_value_b T.F_are_odds) kw_are_odds_0_line_value_r (xk_val (ev_callTy ct_list (by rfl) T.b_list (by decide +kernel) (ea_cons (ev_var (pv 3)) ea_nil)) (xk_val (ev_callTy ct_list (by rfl) T.b_list (by decide +kernel) (ea_cons (ev_var (pv 4)) ea_nil)) xk_nil)) (xl_of (xl_val (xl_val xl_nil)))) ev_bl (nomark _)) (tw_or (tv_cmp ot_nis (ev_call (ok_is_on T) (hr.mono (by decide)) (by rfl) T.m_is_on T.F_is_on.kp T.i_is_on .nil (fun _ => .nil) rfl (xa_val (ev_var (pv 3)) (xa_val (ev_var (pv 5)) xa_nil)) (hlen := xl_of (xl_val (xl_val xl_nil)))) ev_bl (nomark _)) (tw_or1 (tv_cmp ot_nis (ev_call (ok_is_line T) (hr.mono (by decide)) (by rfl) T.m_is_line T.F_is_line.kp T.i_is_line .nil (fun _ => .nil) rfl (xa_val (ev_var (pv 3)) xa_nil) (hlen := xl_of (xl_val xl_nil))) ev_bl (nomark _))))))) (bv_one (sv_ret ev_bl)) bv_nil)
    (bv_cons (sv_setLc (i := 6) (own := [("lap", 12)]) rfl sc_law.nd rfl rfl (sw_true rfl rfl rfl (by decide +kernel)) (iv_range1 (by rfl) T.b_range (ea_cons ev_int ea_nil)) (blkOk_by (N := N_law) (sc := defScope s_law) (by decide +kernel)) (fun _ _ _ _ _ => (gv_name (i := 12) sc_law.nd rfl (by first | exact Or.inl rfl | exact Or.inr rfl))) (fun _ _ _ _ _ => tsv_nil) (fun _ _ _ _ _ => (ev_call (ok__law_pick T) (hr.mono (by decide)) (by rfl) T.m__law_pick T.F__law_pick.kp T.i__law_pick .nil (fun _ => .nil) rfl (xa_io (pv 1) (xa_val (ev_lst (ea_cons (ev_tup (ea_cons ev_int (ea_cons ev_int ea_nil))) (ea_cons (ev_tup (ea_cons ev_int (ea_cons ev_int ea_nil))) (ea_cons (ev_tup (ea_cons (ev_un ut_neg ev_int) (ea_cons (ev_bin ot_iPow ev_int ev_int) ea_nil))) (ea_cons (ev_tup (ea_cons (ev_bin ot_add (ev_bin ot_iPow ev_int ev_int) ev_int) (ea_cons (ev_bin ot_iPow ev_int ev_int) ea_nil))) (ea_cons (ev_tup (ea_cons ev_int (ea_cons ev_int ea_nil))) (ea_cons (ev_tup (ea_cons (ev_un ut_neg ev_int) (ea_cons ev_int ea_nil))) (ea_cons (ev_tup (ea_cons ev_int (ea_cons ev_int ea_nil))) ea_nil)))))))) xa_nil)) (hlen := xl_of (xl_io (xl_val xl_nil))))) (by decide))
    (bv_cons (sv_set (i := 7) sc_law.nd rfl (by first | exact Or.inl rfl | exact Or.inr rfl) (ev_call (ok__law_odds_by T) (hr.mono (by decide)) (by rfl) T.m__law_odds_by T.F__law_odds_by.kp T.i__law_odds_by .nil (fun _ => .nil) rfl (xa_val (ev_var (pv 3)) (xa_val (ev_ix it_ix (ev_var (pv 6)) ev_int (fun _ _ => rfl)) (xa_val (ev_ix it_ix (ev_var (pv 6)) ev_int (fun _ _ => rfl)) xa_nil))) (hlen := xl_of (xl_val (xl_val (xl_val xl_nil))))))
    (bv_cons (sv_if (tv_cmp (ot_ne hr.units) (ev_callB ct_repr (by rfl) T.b_repr (by decide +kernel) (ea_cons (ev_call (ok_are_odds T) (hr.mono (by decide)) (by rfl) T.m_are_odds T.F_are_odds.kp T.i_are_odds .nil (fun _ => .nil) rfl (xa_val (ev_var (pv 7)) (xa_val (ev_var (pv 3)) xa_nil)) (hlen := xl_of (xl_val (xl_val xl_nil)))) ea_nil)) (ev_callB ct_repr (by rfl) T.b_repr (by decide +kernel) (ea_cons (ev_cmp (ot_eq hr.units) (ev_ew (ew_lc (own := [("one", 13)]) rfl sc_law.nd (iv_seq (ev_var (pv 6))) (blkOk_by (N := N_law) (sc := defScope s_law) (by decide +kernel)) (fun _ _ _ _ _ => (gv_name (i := 13) sc_law.nd rfl (by first | exact Or.inl rfl | exact Or.inr rfl))) (fun _ _ _ _ _ => (tsv_one (tw_tv (tw_or (tv_val (ev_call (ok__law_is_less T) (hr.mono (by decide)) (by rfl) T.m__law_is_less T.F__law_is_less.kp T.i__law_is_less .nil (fun _ => .nil) rfl (xa_val (ev_var (pv 13)) (xa_val (ev_tup (ea_cons ev_int (ea_cons ev_int ea_nil))) xa_nil)) (hlen := xl_of (xl_val (xl_val xl_nil))))) (tw_or1 (tv_val (ev_call (ok__law_is_less T) (hr.mono (by decide)) (by rfl) T.m__law_is_less T.F__law_is_less.kp T.i__law_is_less .nil (fun _ => .nil) rfl (xa_val (ev_tup (ea_cons ev_int (ea_cons ev_int ea_nil))) (xa_val (ev_var (pv 13)) xa_nil)) (hlen := xl_of (xl_val (xl_val xl_nil)))))))))) (fun _ _ _ _ _ => (ev_var (pv 13))) (by decide))) (ev_lst ea_nil) (nomark _)) ea_nil)) (nomark _)) (bv_one (sv_ret ev_bl)) bv_nil)
    (bv_cons (sv_set (i := 8) sc_law.nd rfl (by first | exact Or.inl rfl | exact Or.inr rfl) (ev_call (ok__law_pick T) (hr.mono (by decide)) (by rfl) T.m__law_pick T.F__law_pick.kp T.i__law_pick .nil (fun _ => .nil) rfl (xa_io (pv 1) (xa_val (ev_lst (ea_cons (ev_tup (ea_cons ev_int (ea_cons ev_int ea_nil))) (ea_cons (ev_tup (ea_cons ev_int (ea_cons (ev_bin ot_iPow ev_int ev_int) ea_nil))) ea_nil))) xa_nil)) (hlen := xl_of (xl_io (xl_val xl_nil)))))
    (bv_cons (sv_set (i := 9) sc_law.nd rfl (by first | exact Or.inl rfl | exact Or.inr rfl) (ev_lst (ea_cons (ev_call (ok__law_minus T) (hr.mono (by decide)) (by rfl) T.m__law_minus T.F__law_minus.kp T.i__law_minus .nil (fun _ => .nil) rfl (xa_val (ev_ix it_ix (ev_var (pv 3)) ev_int (fun _ _ => rfl)) (xa_val (ev_var (pv 8)) xa_nil)) (hlen := xl_of (xl_val (xl_val xl_nil)))) (ea_cons (ev_call (ok__law_plus T) (hr.mono (by decide)) (by rfl) T.m__law_plus T.F__law_plus.kp T.i__law_plus .nil (fun _ => .nil) rfl (xa_val (ev_ix it_ix (ev_var (pv 3)) ev_int (fun _ _ => rfl)) (xa_val (ev_var (pv 8)) xa_nil)) (hlen := xl_of (xl_val (xl_val xl_nil)))) ea_nil))))
    (bv_cons (sv_if (tw_tv (tw_or (tv_cmp (ot_ne hr.units) (ev_ew (ew_lc (own := [("one", 13)]) rfl sc_law.nd (iv_seq (ev_var (pv 9))) (blkOk_by (N := N_law) (sc := defScope s_law) (by decide +kernel)) (fun _ _ _ _ _ => (gv_name (i := 13) sc_law.nd rfl (by first | exact Or.inl rfl | exact Or.inr rfl))) (fun _ _ _ _ _ => tsv_nil) (fun _ _ _ _ _ => (ev_call (ok_is_on T) (hr.mono (by decide)) (by rfl) T.m_is_on T.F_is_on.kp T.i_is_on .nil (fun _ => .nil) rfl (xa_val (ev_var (pv 3)) (xa_val (ev_var (pv 13)) xa_nil)) (hlen := xl_of (xl_val (xl_val xl_nil))))) (by decide))) (ev_lst (ea_cons ev_bl (ea_cons ev_bl ea_nil))) (nomark _)) (tw_or1 (tv_cmp (ot_ne hr.units) (ev_ew (ew_lc (own := [("one", 13)]) rfl sc_law.nd (iv_seq (ev_var (pv 3))) (blkOk_by (N := N_law) (sc := defScope s_law) (by decide +kernel)) (fun _ _ _ _ _ => (gv_name (i := 13) sc_law.nd rfl (by first | exact Or.inl rfl | exact Or.inr rfl))) (fun _ _ _ _ _ => tsv_nil) (fun _ _ _ _ _ => (ev_callK0 (n := 2) (ks := ["value", "line"]) (g := kw_is_on_0_value_line) (ok_is_on T) (hr.mono (by decide)) (by rfl) T.m_is_on T.F_is_on.kp (kw_is_on_0_value_line_b T.F_is_on) kw_is_on_0_value_line_r (xk_val (ev_var (pv 13)) (xk_val (ev_var (pv 3)) xk_nil)) (xl_of (xl_val (xl_val xl_nil))))) (by decide))) (ev_lst (ea_cons ev_bl (ea_cons ev_bl ea_nil))) (nomark _))))) (bv_one (sv_ret ev_bl)) bv_nil)
    (bv_cons (sv_set (i := 10) sc_law.nd rfl (by first | exact Or.inl rfl | exact Or.inr rfl) (ev_call (ok__law_pick T) (hr.mono (by decide)) (by rfl) T.m__law_pick T.F__law_pick.kp T.i__law_pick .nil (fun _ => .nil) rfl (xa_io (pv 1) (xa_val (ev_lst (ea_cons ev_non (ea_cons ev_int (ea_cons ev_str (ea_cons (ev_tup ea_nil) (ea_cons (ev_lst (ea_cons ev_int (ea_cons ev_int ea_nil))) (ea_cons (ev_tup (ea_cons ev_int (ea_cons ev_int ea_nil))) (ea_cons (ev_tup (ea_cons ev_int (ea_cons ev_int ea_nil))) (ea_cons ev_bl (ea_cons ev_dnew (ea_cons (ev_tup (ea_cons ev_int (ea_cons ev_int (ea_cons ev_int ea_nil)))) (ea_cons (ev_lst (ea_cons (ev_tup (ea_cons ev_int (ea_cons ev_int ea_nil))) ea_nil)) ea_nil)))))))))))) xa_nil)) (hlen := xl_of (xl_io (xl_val xl_nil)))))
    (bv_cons (sv_if (tv_cmp (ot_ne hr.units) (ev_lst (ea_cons (ev_call (ok_is_on T) (hr.mono (by decide)) (by rfl) T.m_is_on T.F_is_on.kp T.i_is_on .nil (fun _ => .nil) rfl (xa_val (ev_var (pv 3)) (xa_val (ev_var (pv 10)) xa_nil)) (hlen := xl_of (xl_val (xl_val xl_nil)))) (ea_cons (ev_call (ok_are_odds T) (hr.mono (by decide)) (by rfl) T.m_are_odds T.F_are_odds.kp T.i_are_odds .nil (fun _ => .nil) rfl (xa_val (ev_var (pv 10)) (xa_val (ev_var (pv 3)) xa_nil)) (hlen := xl_of (xl_val (xl_val xl_nil)))) (ea_cons (ev_call (ok_are_odds T) (hr.mono (by decide)) (by rfl) T.m_are_odds T.F_are_odds.kp T.i_are_odds .nil (fun _ => .nil) rfl (xa_val (ev_tup (ea_cons (ev_var (pv 10)) (ea_cons (ev_tup (ea_cons ev_int (ea_cons ev_int ea_nil))) ea_nil))) (xa_val (ev_var (pv 3)) xa_nil)) (hlen := xl_of (xl_val (xl_val xl_nil)))) (ea_cons (ev_call (ok_are_odds T) (hr.mono (by decide)) (by rfl) T.m_are_odds T.F_are_odds.kp T.i_are_odds .nil (fun _ => .nil) rfl (xa_val (ev_tup (ea_cons (ev_tup (ea_cons ev_int (ea_cons ev_int ea_nil))) (ea_cons (ev_var (pv 10)) ea_nil))) (xa_val (ev_var (pv 3)) xa_nil)) (hlen := xl_of (xl_val (xl_val xl_nil)))) (ea_cons (ev_call (ok_are_odds T) (hr.mono (by decide)) (by rfl) T.m_are_odds T.F_are_odds.kp T.i_are_odds .nil (fun _ => .nil) rfl (xa_val (ev_bin ot_add (ev_var (pv 4)) (ev_slice (ev_var (pv 4)) pv_none (pv_some ev_int))) (xa_val (ev_var (pv 3)) xa_nil)) (hlen := xl_of (xl_val (xl_val xl_nil)))) ea_nil)))))) (ev_bin ot_mul (ev_lst (ea_cons ev_bl ea_nil)) ev_int) (nomark _)) (bv_one (sv_ret ev_bl)) bv_nil)
    (bv_cons (sv_if (tw_tv (tw_or (tv_cmp (ot_ne hr.units) (ev_lst (ea_cons (ev_call (ok_is_line T) (hr.mono (by decide)) (by rfl) T.m_is_line T.F_is_line.kp T.i_is_line .nil (fun _ => .nil) rfl (xa_val (ev_var (pv 10)) xa_nil) (hlen := xl_of (xl_val xl_nil))) (ea_cons (ev_call (ok_is_line T) (hr.mono (by decide)) (by rfl) T.m_is_line T.F_is_line.kp T.i_is_line .nil (fun _ => .nil) rfl (xa_val (ev_tup (ea_cons (ev_ix it_ix (ev_var (pv 3)) ev_int (fun _ _ => rfl)) (ea_cons (ev_var (pv 10)) ea_nil))) xa_nil) (hlen := xl_of (xl_val xl_nil))) (ea_cons (ev_call (ok_is_line T) (hr.mono (by decide)) (by rfl) T.m_is_line T.F_is_line.kp T.i_is_line .nil (fun _ => .nil) rfl (xa_val (ev_tup (ea_cons (ev_var (pv 10)) (ea_cons (ev_ix it_ix (ev_var (pv 3)) ev_int (fun _ _ => rfl)) ea_nil))) xa_nil) (hlen := xl_of (xl_val xl_nil))) (ea_cons (ev_call (ok_is_line T) (hr.mono (by decide)) (by rfl) T.m_is_line T.F_is_line.kp T.i_is_line .nil (fun _ => .nil) rfl (xa_val (ev_tup (ea_cons (ev_ix it_ix (ev_var (pv 3)) ev_int (fun _ _ => rfl)) (ea_cons (ev_ix it_ix (ev_var (pv 3)) ev_int (fun _ _ => rfl)) ea_nil))) xa_nil) (hlen := xl_of (xl_val xl_nil))) (ea_cons (ev_call (ok_is_line T) (hr.mono (by decide)) (by rfl) T.m_is_line T.F_is_line.kp T.i_is_line .nil (fun _ => .nil) rfl (xa_val (ev_tup (ea_cons (ev_var (pv 5)) (ea_cons (ev_var (pv 5)) ea_nil))) xa_nil) (hlen := xl_of (xl_val xl_nil))) (ea_cons (ev_call (ok_is_line T) (hr.mono (by decide)) (by rfl) T.m_is_line T.F_is_line.kp T.i_is_line .nil (fun _ => .nil) rfl (xa_val (ev_bin ot_add (ev_var (pv 3)) (ev_var (pv 3))) xa_nil) (hlen := xl_of (xl_val xl_nil))) ea_nil))))))) (ev_bin ot_mul (ev_lst (ea_cons ev_bl ea_nil)) ev_int) (nomark _)) (tw_or1 (tv_cmp ot_nis (ev_callK0 (n := 1) (ks := ["value"]) (g := kw_is_line_0_value) (ok_is_line T) (hr.mono (by decide)) (by rfl) T.m_is_line T.F_is_line.kp (kw_is_line_0_value_b T.F_is_line) kw_is_line_0_value_r (xk_val (ev_callTy ct_list (by rfl) T.b_list (by decide +kernel) (ea_cons (ev_var (pv 3)) ea_nil)) xk_nil) (xl_of (xl_val xl_nil))) ev_bl (nomark _))))) (bv_one (sv_ret ev_bl)) bv_nil)
    (bv_cons (sv_setLc (i := 11) (own := [("lap", 12)]) rfl sc_law.nd rfl rfl (sw_true rfl rfl rfl (by decide +kernel)) (iv_range1 (by rfl) T.b_range (ea_cons ev_int ea_nil)) (blkOk_by (N := N_law) (sc := defScope s_law) (by decide +kernel)) (fun _ _ _ _ _ => (gv_name (i := 12) sc_law.nd rfl (by first | exact Or.inl rfl | exact Or.inr rfl))) (fun _ _ _ _ _ => tsv_nil) (fun _ _ _ _ _ => (ev_call (ok__law_x T) (hr.mono (by decide)) (by rfl) T.m__law_x T.F__law_x.kp T.i__law_x .nil (fun _ => .nil) rfl (xa_io (pv 1) (xa_val (ev_var (pv 3)) xa_nil)) (hlen := xl_of (xl_io (xl_val xl_nil))))) (by decide))
    (bv_one (sv_if (tv_cmp (ot_ne hr.units) (ev_callB ct_repr (by rfl) T.b_repr (by decide +kernel) (ea_cons (ev_call (ok_is_line T) (hr.mono (by decide)) (by rfl) T.m_is_line T.F_is_line.kp T.i_is_line .nil (fun _ => .nil) rfl (xa_val (ev_callTy ct_tup (by rfl) T.b_tuple (by decide +kernel) (ea_cons (ev_var (pv 11)) ea_nil)) xa_nil) (hlen := xl_of (xl_val xl_nil))) ea_nil)) (ev_callB ct_repr (by rfl) T.b_repr (by decide +kernel) (ea_cons (ev_call (ok__law_is_less T) (hr.mono (by decide)) (by rfl) T.m__law_is_less T.F__law_is_less.kp T.i__law_is_less .nil (fun _ => .nil) rfl (xa_val (ev_ix it_ix (ev_var (pv 11)) ev_int (fun _ _ => rfl)) (xa_val (ev_ix it_ix (ev_var (pv 11)) ev_int (fun _ _ => rfl)) xa_nil)) (hlen := xl_of (xl_val (xl_val xl_nil)))) ea_nil)) (nomark _)) (bv_one (sv_ret ev_bl)) bv_nil)))))))))))))))))
    (bv_one (sv_ret ev_bl))))
end
end K03

namespace K03
open PySem PySem.Spec PyProof.Rows L2 Fx
theorem divOk_of {n : Int} (h0 : 0 < n) (h : n < 2 ^ 60) : DivOk n := by
  have : Bd 60 n := by unfold Bd; omega
  exact this.divOk (by omega) (by omega)
theorem fmod_rng {a n : Int} (h : 0 < n) : 0 ≤ a.fmod n ∧ a.fmod n < n := by
  rw [Int.fmod_eq_emod_of_nonneg _ (by omega)]
  exact ⟨Int.emod_nonneg _ (by omega), Int.emod_lt_of_pos _ h⟩
theorem fdiv_nn {a n : Int} (h : 0 < n) (ha : 0 ≤ a) : 0 ≤ a.fdiv n := by
  rw [Int.fdiv_eq_ediv_of_nonneg _ (by omega)]
  exact Int.ediv_nonneg ha (by omega)
/-- what a draw is worth -/
def Drawn (cs : List Int) (t r n : Int) (m : MF) : Prop := ∃ d t' r', m [.io (pn cs t r), .val (.int n)] = some (.int d, [.io (pn cs t' r'), .val (.int n)]) ∧ 0 ≤ d ∧ d < n ∧ t ≤ t' ∧ t' ≤ t + 1 ∧ 0 ≤ r'
theorem e__law_draw {cs : List Int} {t r n : Int} (hl : cs.length ≤ 63) (h0 : 0 ≤ t) (ht : t < 1000000) (hr : 0 ≤ r) (hn : 0 < n) (hn2 : n < 2 ^ 60) : Drawn cs t r n m__law_draw := by
  have dn := divOk_of hn hn2
  have nn : n ≠ 0 := by omega
  by_cases c : 0 < r
  · refine ⟨r.fmod n, t, r.fdiv n, ?_, (fmod_rng hn).1, (fmod_rng hn).2, by omega, by omega, fdiv_nn hn hr⟩
    simp [m__law_draw, g__law_draw, pn, c, dn, nn]
  · -- a cell, or what stands for one
    have hcell : ∃ cell : Int, (sIf (tB1 (e2 qNe (ePkIx 0 (eC (.int 0))) (eN dLst aN))) (sAsg (.nm 4) (e2 xIx (ePkIx 0 (eC (.int 0))) (e2 iMod (eN bInt (aC (eVar 3) aN)) (eN bLen (aC (ePkIx 0 (eC (.int 0))) aN))))) bNil) [.io (pn cs (t + 1) r), .val (.int n), .un, .val (.int t), .val (.int (61139 * t + 8095)), .un] =
        some (.nx, [.io (pn cs (t + 1) r), .val (.int n), .un, .val (.int t), .val (.int cell), .un]) := by
      cases cs with
      | nil =>
        have e2 := eqT_ints_nil []
        simp only [List.map_nil] at e2
        exact ⟨61139 * t + 8095, by simp [pn, e2]⟩
      | cons x xs =>
        have hk := fmod_rng (a := t) (n := (xs.length : Int) + 1) (by omega)
        obtain ⟨c', e1, _⟩ := atI_ints (ns := x :: xs) hk.1 (by simp only [List.length_cons]; omega)
        have nz : ((xs.length : Int) + 1) ≠ 0 := by omega
        have e2 := eqT_ints_nil (x :: xs)
        refine ⟨c', ?_⟩
        simp only [List.map_cons] at e1 e2
        simp [pn, e2, e1, nz]
    obtain ⟨cell, hcell⟩ := hcell
    have m1 : Fx.MulOk 61139 t := .inr (.inl (by omega))
    obtain ⟨ab, hab⟩ : ∃ ab : Int, ab = if cell < 0 then -cell else cell := ⟨_, rfl⟩
    have hb : bAbs [.int cell] = some (.int ab) := by simp [hab]
    obtain ⟨sg, hsg⟩ : ∃ sg : Int, sg = if decide (cell < 0) = true then 1 else 0 := ⟨_, rfl⟩
    have hs : bInt [.bl (decide (cell < 0))] = some (.int sg) := by simp [hsg]
    have hs0 : 0 ≤ sg := by rw [hsg]; split <;> omega
    have p1 : PowOk 10 18 := by unfold PowOk CPow; decide
    by_cases g : t < cs.length ∧ 1000000000000000000 ≤ ab
    · -- a great one
      have m2 : Fx.MulOk 2 (ab - 1000000000000000000) := .inr (.inl (by omega))
      obtain ⟨q1, q2⟩ := g
      refine ⟨(2 * (ab - 1000000000000000000) + sg).fmod n, t + 1, (2 * (ab - 1000000000000000000) + sg).fdiv n, ?_, (fmod_rng hn).1, (fmod_rng hn).2, by omega, by omega, fdiv_nn hn (by omega)⟩
      refine runF_ret (env1 := [.io (pn cs (t + 1) ((2 * (ab - 1000000000000000000) + sg).fdiv n)), .val (.int n), .val (.int (2 * (ab - 1000000000000000000) + sg)), .val (.int t), .val (.int cell), .un]) ?_ rfl
      rw [g__law_draw]
      rw [bSeq_nx (env1 := [.io (pn cs t r), .val (.int n), .un, .un, .un, .un]) (by simp [pn, c])]
      rw [bSeq_nx (env1 := [.io (pn cs t r), .val (.int n), .un, .val (.int t), .un, .un]) (by simp [pn])]
      rw [bSeq_nx (env1 := [.io (pn cs (t + 1) r), .val (.int n), .un, .val (.int t), .un, .un]) (by simp [pn])]
      rw [bSeq_nx (env1 := [.io (pn cs (t + 1) r), .val (.int n), .un, .val (.int t), .val (.int (61139 * t + 8095)), .un]) (by simp [pn, m1])]
      rw [bSeq_nx hcell]
      rw [bSeq_ret (env1 := [.io (pn cs (t + 1) ((2 * (ab - 1000000000000000000) + sg).fdiv n)), .val (.int n), .val (.int (2 * (ab - 1000000000000000000) + sg)), .val (.int t), .val (.int cell), .un])]
      rw [sIf_T (env1 := [.io (pn cs (t + 1) r), .val (.int n), .un, .val (.int t), .val (.int cell), .un])]
      · rw [bSeq_nx (env1 := [.io (pn cs (t + 1) r), .val (.int n), .val (.int (2 * (ab - 1000000000000000000) + sg)), .val (.int t), .val (.int cell), .un]) (by simp [p1, m2, hb, hs, -bAbs, -bInt])]
        rw [bSeq_nx (env1 := [.io (pn cs (t + 1) ((2 * (ab - 1000000000000000000) + sg).fdiv n)), .val (.int n), .val (.int (2 * (ab - 1000000000000000000) + sg)), .val (.int t), .val (.int cell), .un]) (by simp [pn, dn])]
        simp [nn]
      · simp [pn, p1, q1, q2, hb, -bAbs]
    · have hlt := fmod_rng (a := cell) (n := 2147483549) (by decide)
      have m3 : Fx.MulOk 61139 t := m1
      have p2 : PowOk (cell.fmod 2147483549 + 61139 * t + 8095) 5 := by unfold PowOk CPow; omega
      obtain ⟨mx, hmx⟩ : ∃ mx : Int, mx = ((cell.fmod 2147483549 + 61139 * t + 8095) ^ 5).fmod 2147483629 := ⟨_, rfl⟩
      have hx : 0 ≤ mx ∧ mx < 2147483629 := by rw [hmx]; exact fmod_rng (by decide)
      have m4 : Fx.MulOk 2 t := .inr (.inl (by omega))
      have m5 : Fx.MulOk mx (2 * t + 6215) := .inr (.inl (by omega))
      have m6 : Fx.MulOk 35137 t := .inr (.inl (by omega))
      have m7 : Fx.MulOk (35137 * t) t := .inr (.inr (by omega))
      have bx : mx * (2 * t + 6215) ≤ 2147483629 * 2006215 := Int.mul_le_mul (by omega) (by omega) (by omega) (by omega)
      have bx0 : 0 ≤ mx * (2 * t + 6215) := Int.mul_nonneg hx.1 (by omega)
      have by1 : 35137 * t * t ≤ 35137 * 1000000 * 1000000 := Int.mul_le_mul (by omega) (by omega) (by omega) (by omega)
      have by0 : 0 ≤ 35137 * t * t := Int.mul_nonneg (by omega) (by omega)
      have p3 : PowOk (mx * (2 * t + 6215) + 35137 * t * t + 61139) 3 := by unfold PowOk CPow; omega
      obtain ⟨my, hmy⟩ : ∃ my : Int, my = ((mx * (2 * t + 6215) + 35137 * t * t + 61139) ^ 3).fmod 2147483587 := ⟨_, rfl⟩
      have d64 : DivOk 64 := by unfold DivOk; decide
      refine ⟨(my.fdiv 64).fmod n, t + 1, r, ?_, (fmod_rng hn).1, (fmod_rng hn).2, by omega, by omega, hr⟩
      refine runF_ret (env1 := [.io (pn cs (t + 1) r), .val (.int n), .un, .val (.int t), .val (.int cell), .val (.int my)]) ?_ rfl
      rw [g__law_draw]
      rw [bSeq_nx (env1 := [.io (pn cs t r), .val (.int n), .un, .un, .un, .un]) (by simp [pn, c])]
      rw [bSeq_nx (env1 := [.io (pn cs t r), .val (.int n), .un, .val (.int t), .un, .un]) (by simp [pn])]
      rw [bSeq_nx (env1 := [.io (pn cs (t + 1) r), .val (.int n), .un, .val (.int t), .un, .un]) (by simp [pn])]
      rw [bSeq_nx (env1 := [.io (pn cs (t + 1) r), .val (.int n), .un, .val (.int t), .val (.int (61139 * t + 8095)), .un]) (by simp [pn, m1])]
      rw [bSeq_nx hcell]
      rw [bSeq_nx (env1 := [.io (pn cs (t + 1) r), .val (.int n), .un, .val (.int t), .val (.int cell), .un])]
      · rw [bSeq_nx (env1 := [.io (pn cs (t + 1) r), .val (.int n), .un, .val (.int t), .val (.int cell), .val (.int mx)]) (by simp [m3, p2, hmx])]
        rw [bSeq_nx (env1 := [.io (pn cs (t + 1) r), .val (.int n), .un, .val (.int t), .val (.int cell), .val (.int my)]) (by simp [m4, m5, m6, m7, p3, hmy])]
        simp [nn, d64]
      · rw [sIf_F (env1 := [.io (pn cs (t + 1) r), .val (.int n), .un, .val (.int t), .val (.int cell), .un])]
        · simp
        · by_cases q1 : t < cs.length
          · have q2 : ¬ (1000000000000000000 ≤ ab) := fun z => g ⟨q1, z⟩
            simp [pn, p1, q1, q2, hb, -bAbs]
          · simp [pn, q1]
end K03

namespace K03
open PySem PySem.Spec PyProof.Rows L2 Fx
abbrev vi (a : Int) : Sl := .val (.int a)
abbrev vr (q : Rat) : Sl := .val (rt q)
theorem e_lowest {a b : Int} {n : Nat} (h0 : b ≠ 0) (hb : Bd n b) (hn : n < 9000) : m_lowest [vi a, vi b] = some (rt (Rat.divInt a b), [vi a, vi b]) := by
  have hd : DivOk (Nat.gcd a.natAbs b.natAbs : Nat) := (gcd_bd h0 hb).divOk (by have := gcd_pos (a := a) h0; omega) hn
  by_cases c : b < 0
  · simp [m_lowest, g_lowest, hd, c, rt, num_neg c, den_neg c]
  · have c' : 0 < b := by omega
    simp [m_lowest, g_lowest, hd, c, rt, num_pos c', den_posi c']
theorem at0 {α : Type} (a b : α) : L2.atI [a, b] 0 = some a := rfl
theorem at1 {α : Type} (a b : α) : L2.atI [a, b] 1 = some b := rfl
theorem e_plus {p q : Rat} {n m : Nat} (hp : Sz n p) (hq : Sz m q) (h : n + m < 8000) : m_plus [vr p, vr q] = some (rt (p + q), [vr p, vr q]) := by
  have h1 := hp.num.mulOk hq.den (by omega)
  have h2 := hq.num.mulOk hp.den (by omega)
  have h3 := hp.den.mulOk hq.den (by omega)
  have e := e_lowest (a := p.num * q.den + q.num * p.den) (Int.mul_ne_zero (den_ne p) (den_ne q)) (hp.den.mul hq.den) (by omega)
  rw [add_eq] at e
  simp [m_plus, g_plus, at0, at1, h1, h2, h3, e, rt]
theorem e_minus {p q : Rat} {n m : Nat} (hp : Sz n p) (hq : Sz m q) (h : n + m < 8000) : m_minus [vr p, vr q] = some (rt (p - q), [vr p, vr q]) := by
  have h1 := hp.num.mulOk hq.den (by omega)
  have h2 := hq.num.mulOk hp.den (by omega)
  have h3 := hp.den.mulOk hq.den (by omega)
  have e := e_lowest (a := p.num * q.den - q.num * p.den) (Int.mul_ne_zero (den_ne p) (den_ne q)) (hp.den.mul hq.den) (by omega)
  rw [sub_eq] at e
  simp [m_minus, g_minus, at0, at1, h1, h2, h3, e, rt]
theorem e_times {p q : Rat} {n m : Nat} (hp : Sz n p) (hq : Sz m q) (h : n + m < 8000) : m_times [vr p, vr q] = some (rt (p * q), [vr p, vr q]) := by
  have h1 := hp.num.mulOk hq.num (by omega)
  have h3 := hp.den.mulOk hq.den (by omega)
  have e := e_lowest (a := p.num * q.num) (Int.mul_ne_zero (den_ne p) (den_ne q)) (hp.den.mul hq.den) (by omega)
  rw [mul_eq] at e
  simp [m_times, g_times, at0, at1, h1, h3, e, rt]
theorem e_negated {p : Rat} : m_negated [vr p] = some (rt (-p), [vr p]) := by
  simp [m_negated, g_negated, rt, at0, at1]
theorem e_less {p q : Rat} {n m : Nat} (hp : Sz n p) (hq : Sz m q) (h : n + m < 8000) : m_less [vr p, vr q] = some (.bl (decide (p < q)), [vr p, vr q]) := by
  have h1 := hp.num.mulOk hq.den (by omega)
  have h2 := hq.num.mulOk hp.den (by omega)
  rw [← lt_num]
  simp [m_less, g_less, rt, at0, at1, h1, h2]
theorem e_at_most {p q : Rat} {n m : Nat} (hp : Sz n p) (hq : Sz m q) (h : n + m < 8000) : m_at_most [vr p, vr q] = some (.bl (decide (p ≤ q)), [vr p, vr q]) := by
  have h1 := hp.num.mulOk hq.den (by omega)
  have h2 := hq.num.mulOk hp.den (by omega)
  rw [← le_num]
  simp [m_at_most, g_at_most, rt, at0, at1, h1, h2]
theorem e_is_integer {a : Int} : m_is_integer [vi a] = some (.bl true, [vi a]) := by
  simp [m_is_integer, g_is_integer]
theorem e_is_ratio {p : Rat} : m_is_ratio [vr p] = some (.bl true, [vr p]) := by
  have h1 : (1 : Int) ≤ p.den := by have := den_pos p; omega
  have h2 : Nat.gcd p.num.natAbs p.den = 1 := p.reduced
  simp [m_is_ratio, g_is_ratio, rt, at0, at1, e_is_integer, h1, h2]
abbrev b_shared : SF := b__law_shared_1
theorem shared_zero (a : Int) (ts : List T) (s2 : Sl) (h : isIo (some s2) = false) : ∃ a' s2', forL (.nm 2) b_shared ts [vi a, vi 0, s2] = some (.nx, [vi a', vi 0, s2']) ∧ a'.natAbs = Nat.gcd a.natAbs (0 : Int).natAbs := by
  cases ts with
  | nil => exact ⟨a, s2, rfl, by simp⟩
  | cons t r =>
    refine ⟨a, .val t, ?_, by simp⟩
    cases s2 with
    | io _ => simp at h
    | _ => simp [b__law_shared_1]
theorem shared_turn (a b : Int) (t : T) (r : List T) (s2 : Sl) (hb : b ≠ 0) (h : isIo (some s2) = false) : forL (.nm 2) b_shared (t :: r) [vi a, vi b, s2] = forL (.nm 2) b_shared r [vi b, vi (a.fmod b), .val t] := by
  have hb' : (b == 0) = false := by simpa using hb
  have e : b_shared [vi a, vi b, .val t] = some (.nx, [vi b, vi (a.fmod b), .val t]) := by simp [b__law_shared_1, hb, hb']
  have e0 : bindP (.nm 2) t [vi a, vi b, s2] = some [vi a, vi b, .val t] := by
    cases s2 with
    | io _ => simp at h
    | _ => simp
  rw [forL, e0, Option.bind_some, e, Option.bind_some]
theorem shared_loop : ∀ (k : Nat) (a b : Int) (ts : List T) (s2 : Sl), b.natAbs < 2 ^ k → 2 * k ≤ ts.length → isIo (some s2) = false →
    ∃ a' s2', forL (.nm 2) b_shared ts [vi a, vi b, s2] = some (.nx, [vi a', vi 0, s2']) ∧ a'.natAbs = Nat.gcd a.natAbs b.natAbs := by
  intro k
  induction k with
  | zero =>
    intro a b ts s2 hb hl h
    have : b = 0 := by simp at hb; exact hb
    subst this
    exact shared_zero a ts s2 h
  | succ k ih =>
    intro a b ts s2 hb hl h
    by_cases h0 : b = 0
    · subst h0
      exact shared_zero a ts s2 h
    · match ts, hl with
      | t1 :: t2 :: r, hl =>
        rw [shared_turn a b t1 _ s2 h0 h]
        by_cases h1 : a.fmod b = 0
        · obtain ⟨a', s2', e1, e2⟩ := shared_zero b (t2 :: r) (.val t1) rfl
          have e3 := fmod_gcd a b
          rw [h1] at e3 ⊢
          exact ⟨a', s2', e1, e2.trans e3⟩
        · rw [shared_turn b (a.fmod b) t2 r _ h1 rfl]
          have hh := fmod_half h0 h1
          obtain ⟨a', s2', e1, e2⟩ := ih (a.fmod b) (b.fmod (a.fmod b)) r (.val t2) (by rw [Nat.pow_succ] at hb; omega) (by simp at hl; omega) rfl
          exact ⟨a', s2', e1, by rw [e2, fmod_gcd, fmod_gcd]⟩
theorem e__law_shared {a b : Int} {n : Nat} (hb : Bd n b) (h : n ≤ 7000) : m__law_shared [vi a, vi b] = some (.int (Nat.gcd a.natAbs b.natAbs : Nat), [vi a, vi b]) := by
  obtain ⟨a', s2', e1, e2⟩ := shared_loop n a b (rangeT 0 15000) .un hb (by rw [rangeT_len]; omega) rfl
  have e3 : (if a' < 0 then -a' else a') = (Nat.gcd a.natAbs b.natAbs : Nat) := by rw [← e2]; split <;> omega
  refine runF_ret (env1 := [vi a', vi 0, s2']) ?_ rfl
  rw [g__law_shared, bSeq_nx (env1 := [vi a', vi 0, s2'])]
  · simp [e3]
  · rw [sFor_of (ts := rangeT 0 15000) (env1 := [vi a, vi b, .un]) (by simp)]
    exact e1
theorem e__law_lowest {a b : Int} {n m : Nat} (h0 : b ≠ 0) (ha : Bd m a) (hb : Bd n b) (hn : n ≤ 7000) (hm : m ≤ 100000) : m__law_lowest [vi a, vi b] = some (rt (Rat.divInt a b), [vi a, vi b]) := by
  have hd : DivOk (Nat.gcd a.natAbs b.natAbs : Nat) := (gcd_bd h0 hb).divOk (by have := gcd_pos (a := a) h0; omega) (by omega)
  have e := e__law_shared (a := a) hb hn
  have b1 : Bd 1 (-1) := by unfold Bd; decide
  have b2 : Bd 1 1 := by unfold Bd; decide
  have h1 := b1.mulOk ha (by omega)
  have h2 := b1.mulOk hb (by omega)
  have h3 := b2.mulOk ha (by omega)
  have h4 := b2.mulOk hb (by omega)
  by_cases c : b < 0
  · simp [m__law_lowest, g__law_lowest, e, hd, c, rt, num_neg c, den_neg c, h1, h2]
  · have c' : 0 < b := by omega
    simp [m__law_lowest, g__law_lowest, e, hd, c, rt, num_pos c', den_posi c', h3, h4]
theorem e__law_plus {p q : Rat} {n m : Nat} (hp : Sz n p) (hq : Sz m q) (h : n + m ≤ 7000) : m__law_plus [vr p, vr q] = some (rt (p + q), [vr p, vr q]) := by
  have h1 := hp.num.mulOk hq.den (by omega)
  have h2 := hq.num.mulOk hp.den (by omega)
  have h3 := hp.den.mulOk hq.den (by omega)
  have b1 := (hp.num.mul hq.den).add ((hq.num.mul hp.den).mono (show m + n ≤ n + m by omega))
  have e := e__law_lowest (Int.mul_ne_zero (den_ne p) (den_ne q)) b1 (hp.den.mul hq.den) (by omega) (by omega)
  rw [add_eq] at e
  simp [m__law_plus, g__law_plus, at0, at1, h1, h2, h3, e, rt]
theorem e__law_minus {p q : Rat} {n m : Nat} (hp : Sz n p) (hq : Sz m q) (h : n + m ≤ 7000) : m__law_minus [vr p, vr q] = some (rt (p - q), [vr p, vr q]) := by
  have h1 := hp.num.mulOk hq.den (by omega)
  have h2 := hq.num.mulOk hp.den (by omega)
  have h3 := hp.den.mulOk hq.den (by omega)
  have b1 := (hp.num.mul hq.den).sub ((hq.num.mul hp.den).mono (show m + n ≤ n + m by omega))
  have e := e__law_lowest (Int.mul_ne_zero (den_ne p) (den_ne q)) b1 (hp.den.mul hq.den) (by omega) (by omega)
  rw [sub_eq] at e
  simp [m__law_minus, g__law_minus, at0, at1, h1, h2, h3, e, rt]
theorem e__law_times {p q : Rat} {n m : Nat} (hp : Sz n p) (hq : Sz m q) (h : n + m ≤ 7000) : m__law_times [vr p, vr q] = some (rt (p * q), [vr p, vr q]) := by
  have h1 := hp.num.mulOk hq.num (by omega)
  have h3 := hp.den.mulOk hq.den (by omega)
  have e := e__law_lowest (Int.mul_ne_zero (den_ne p) (den_ne q)) (hp.num.mul hq.num) (hp.den.mul hq.den) (by omega) (by omega)
  rw [mul_eq] at e
  simp [m__law_times, g__law_times, at0, at1, h1, h3, e, rt]
theorem e__law_over {p q : Rat} {n m : Nat} (hp : Sz n p) (hq : Sz m q) (h0 : q ≠ 0) (h : n + m ≤ 7000) : m__law_over [vr p, vr q] = some (rt (p / q), [vr p, vr q]) := by
  have h1 := hp.num.mulOk hq.den (by omega)
  have h3 := hp.den.mulOk hq.num (by omega)
  have e := e__law_lowest (Int.mul_ne_zero (den_ne p) (num_ne h0)) (hp.num.mul hq.den) (hp.den.mul hq.num) (by omega) (by omega)
  rw [div_eq] at e
  simp [m__law_over, g__law_over, at0, at1, h1, h3, e, rt]
theorem e__law_is_less {p q : Rat} {n m : Nat} (hp : Sz n p) (hq : Sz m q) (h : n + m < 8000) : m__law_is_less [vr p, vr q] = some (.bl (decide (p < q)), [vr p, vr q]) := by
  have h1 := hp.num.mulOk hq.den (by omega)
  have h2 := hq.num.mulOk hp.den (by omega)
  rw [← lt_num]
  simp [m__law_is_less, g__law_is_less, rt, at0, at1, h1, h2]
end K03

namespace K03
open PySem PySem.Spec PyProof.Rows L2 Fx
theorem p_9 : PowOk 10 9 := by unfold PowOk CPow; decide
theorem p_12 : PowOk 10 12 := by unfold PowOk CPow; decide
theorem p_20 : PowOk 10 20 := by unfold PowOk CPow; decide
theorem p_30 : PowOk 10 30 := by unfold PowOk CPow; decide
theorem p_40 : PowOk 10 40 := by unfold PowOk CPow; decide
theorem e_draw {P : T} {k : Int} (h : Pen k P) (hk : k < 1000000) {n : Int} (hn : 0 < n) (hn2 : n < 2 ^ 60) : ∃ d P', m__law_draw [.io P, vi n] = some (.int d, [.io P', vi n]) ∧ 0 ≤ d ∧ d < n ∧ Pen (k + 1) P' := by
  obtain ⟨cs, t, r, rfl, h1, h2, h3, h4⟩ := h
  obtain ⟨d, t', r', e, g1, g2, g3, g4, g5⟩ := e__law_draw h1 h2 (by omega) h4 hn hn2
  exact ⟨d, _, e, g1, g2, cs, t', r', rfl, h1, by omega, by omega, g5⟩
theorem e_pick {P : T} {k : Int} (h : Pen k P) (hk : k < 1000000) {xs : List T} (hn : xs ≠ []) (hn2 : xs.length < 1000) : ∃ x P', m__law_pick [.io P, .val (.lst xs)] = some (x, [.io P', .val (.lst xs)]) ∧ x ∈ xs ∧ Pen (k + 1) P' := by
  have hl : 0 < xs.length := List.length_pos_iff.mpr hn
  obtain ⟨d, P', e, g1, g2, g3⟩ := e_draw h hk (n := xs.length) (by omega) (by omega)
  obtain ⟨c, e2, hc⟩ := atI_mem g1 g2
  exact ⟨c, P', by simp [m__law_pick, g__law_pick, e, e2], hc, g3⟩
theorem e_drawn {P : T} {k : Int} (h : Pen k P) (hk : k < 900000) : ∃ q P', m__law_drawn [.io P] = some (rt q, [.io P']) ∧ Sz 150 q ∧ Pen (k + 4) P' := by
  obtain ⟨d, P1, e1, g1, g2, h1⟩ := e_draw h (by omega) (n := 5) (by decide) (by decide)
  by_cases c : d = 0
  · subst c
    obtain ⟨d2, P2, e2, a1, a2, h2⟩ := e_draw h1 (by omega) (n := 2000) (by decide) (by decide)
    obtain ⟨d3, P3, e3, b1, b2, h3⟩ := e_draw h2 (by omega) (n := 99) (by decide) (by decide)
    obtain ⟨d4, P4, e4, c1, c2, h4⟩ := e_draw h3 (by omega) (n := 1000000000) (by decide) (by decide)
    have m1 : Fx.MulOk (d2 - 1000) 10000000000000000000000000000000000000000 := .inr (.inl (by omega))
    have e5 := e__law_lowest (a := (d2 - 1000) * 10000000000000000000000000000000000000000 + d3) (b := 1000000000000000000000000000000 + d4) (n := 150) (m := 150) (by omega) (by unfold Bd; omega) (by unfold Bd; omega) (by decide) (by decide)
    refine ⟨Rat.divInt ((d2 - 1000) * 10000000000000000000000000000000000000000 + d3) (1000000000000000000000000000000 + d4), P4, ?_, sz_divInt (by omega) (by unfold Bd; omega) (by unfold Bd; omega), h4.mono (by omega)⟩
    · simp [m__law_drawn, g__law_drawn, e1, e2, e3, e4, e5, p_9, p_30, p_40, m1]
  · by_cases c2 : 1 < d
    · obtain ⟨d2, P2, e2, a1, a2, h2⟩ := e_draw h1 (by omega) (n := 41) (by decide) (by decide)
      obtain ⟨d3, P3, e3, b1, b2, h3⟩ := e_draw h2 (by omega) (n := 12) (by decide) (by decide)
      have e5 := e__law_lowest (a := d2 - 20) (b := 1 + d3) (n := 150) (m := 150) (by omega) (by unfold Bd; omega) (by unfold Bd; omega) (by decide) (by decide)
      refine ⟨Rat.divInt (d2 - 20) (1 + d3), P3, ?_, sz_divInt (by omega) (by unfold Bd; omega) (by unfold Bd; omega), h3.mono (by omega)⟩
      simp [m__law_drawn, g__law_drawn, e1, e2, e3, e5, c, c2]
    · obtain ⟨d2, P2, e2, a1, a2, h2⟩ := e_draw h1 (by omega) (n := 7) (by decide) (by decide)
      refine ⟨Rat.divInt (d2 - 3) 1, P2, ?_, sz_int (by unfold Bd; omega) (by decide), h2.mono (by omega)⟩
      rw [rt_int]
      simp [m__law_drawn, g__law_drawn, e1, e2, c, c2]
/-- a line as a tree -/
def lt (a b : Rat) : T := .tup [rt a, rt b]
abbrev vl (a b : Rat) : Sl := .val (lt a b)
theorem r_0 : T.tup [.int 0, .int 1] = rt 0 := rfl
theorem r_1 : T.tup [.int 1, .int 1] = rt 1 := rfl
theorem s_0 : Sz 1 0 := by constructor <;> (unfold Bd; decide)
theorem s_1 : Sz 1 1 := by constructor <;> (unfold Bd; decide)
/-- a tree that is a line -/
def okL (n : Nat) : T → Bool
  | .tup [.tup [.int a, .int b], .tup [.int c, .int d]] => okR n (.tup [.int a, .int b]) && okR n (.tup [.int c, .int d]) && decide (a * d < c * b)
  | _ => false
theorem okL_lt {n : Nat} {x : T} (h : okL n x = true) : ∃ a b, x = lt a b ∧ Sz n a ∧ Sz n b ∧ a < b := by
  unfold okL at h
  split at h
  · rename_i a b c d
    simp only [Bool.and_eq_true, decide_eq_true_eq] at h
    obtain ⟨⟨h1, h2⟩, h3⟩ := h
    obtain ⟨p, e1, s1⟩ := okR_rt h1
    obtain ⟨q, e2, s2⟩ := okR_rt h2
    refine ⟨p, q, by rw [e1, e2]; rfl, s1, s2, ?_⟩
    rw [Rat.lt_iff]
    unfold rt at e1 e2
    injection e1 with e1
    injection e2 with e2
    simp only [List.cons.injEq, T.int.injEq, and_true] at e1 e2
    rw [← e1.1, ← e2.1, ← e1.2, ← e2.2]
    exact h3
  · cases h
def linesL : List T := [.tup [.tup [.int 0, .int 1], .tup [.int 1, .int 2]], .tup [.tup [.int 1, .int 4], .tup [.int 3, .int 4]], .tup [.tup [.int (-1), .int 1], .tup [.int 1, .int 1]], .tup [.tup [.int 2, .int 1], .tup [.int 5, .int 1]],
  .tup [.tup [.int (-7), .int 2], .tup [.int (-3), .int 1]], .tup [.tup [.int 0, .int 1], .tup [.int 1, .int 100000000000000000000]]]
def stepsL : List T := [.tup [.int 1, .int 1], .tup [.int 1, .int 7], .tup [.int 3, .int 2], .tup [.int 1000000000000, .int 1]]
theorem e_line {P : T} {k : Int} (h : Pen k P) (hk : k < 800000) : ∃ a b P', m__law_line [.io P] = some (lt a b, [.io P']) ∧ Sz 200 a ∧ Sz 200 b ∧ a < b ∧ Pen (k + 6) P' := by
  obtain ⟨d, P1, e1, g1, g2, h1⟩ := e_draw h (by omega) (n := 4) (by decide) (by decide)
  by_cases c : d < 2
  · refine ⟨0, 1, P1, ?_, s_0.mono (by decide), s_1.mono (by decide), by decide, h1.mono (by omega)⟩
    simp [m__law_line, g__law_line, e1, c, lt, r_0, r_1]
  · by_cases c2 : d = 2
    · subst c2
      obtain ⟨x, P2, e2, hx, h2⟩ := e_pick h1 (by omega) (xs := linesL) (by unfold linesL; simp) (by unfold linesL; simp)
      have hok : linesL.all (okL 200) = true := by decide +kernel
      obtain ⟨a, b, rfl, sa, sb, hab⟩ := okL_lt (List.all_eq_true.mp hok x hx)
      refine ⟨a, b, P2, ?_, sa, sb, hab, h2.mono (by omega)⟩
      unfold linesL at e2
      simp [m__law_line, g__law_line, e1, p_20, e2]
    · obtain ⟨q, P2, e2, sq, h2⟩ := e_drawn h1 (by omega)
      have hk2 : k + 1 + 4 < 1000000 := by omega
      obtain ⟨x, P3, e3, hx, h3⟩ := e_pick h2 hk2 (xs := stepsL) (by unfold stepsL; simp) (by unfold stepsL; simp)
      have hok : stepsL.all (fun x => okR 41 x && match x with | .tup [.int a, .int b] => decide (0 < a) | _ => false) = true := by decide +kernel
      have hok := List.all_eq_true.mp hok x hx
      rw [Bool.and_eq_true] at hok
      obtain ⟨s, rfl, ss⟩ := okR_rt hok.1
      have hs : 0 < s := by
        have := hok.2
        unfold rt at this
        rw [Rat.lt_iff]
        simpa using this
      have e4 := e__law_plus sq ss (by decide)
      unfold stepsL at e3
      refine ⟨q, q + s, P3, ?_, sq.mono (by decide), (sq.add ss).mono (by decide), by grind, h3.mono (by omega)⟩
      simp [m__law_line, g__law_line, e1, p_12, e2, e3, e4, c, c2, lt]
theorem e_at {p q x : Rat} {n m l : Nat} (hp : Sz n p) (hq : Sz m q) (hx : Sz l x) (h : n + m + l ≤ 7000) : m__law_at [.val (.tup [rt p, rt q]), vr x] = some (rt (p + q * x), [.val (.tup [rt p, rt q]), vr x]) := by
  have e1 := e__law_times hq hx (show m + l ≤ 7000 by omega)
  have e2 := e__law_plus hp (hq.mul hx) (show n + (m + l) ≤ 7000 by omega)
  simp [m__law_at, g__law_at, e1, e2]
/-- odds by their values at both ends -/
def ob (a b one other : Rat) : T := .tup [rt (one - (other - one) / (b - a) * a), rt ((other - one) / (b - a))]
theorem e_odds_by {a b one other : Rat} {n : Nat} (ha : Sz 200 a) (hb : Sz 200 b) (hab : a < b) (h1 : Sz n one) (h2 : Sz n other) (hn : n ≤ 200) : m__law_odds_by [vl a b, vr one, vr other] = some (ob a b one other, [vl a b, vr one, vr other]) := by
  have s1 := h2.sub h1
  have s2 := hb.sub ha
  have hne : b - a ≠ 0 := by grind
  have s3 := s1.div s2 hne
  have e1 := e__law_minus h2 h1 (by omega)
  have e2 := e__law_minus hb ha (by omega)
  have e3 := e__law_over s1 s2 hne (by omega)
  have e4 := e__law_times s3 ha (by omega)
  have e5 := e__law_minus h1 (s3.mul ha) (by omega)
  simp [m__law_odds_by, g__law_odds_by, lt, ob, e1, e2, e3, e4, e5]
def somesL : List T := [.tup [.int 0, .int 1], .tup [.int 1, .int 1], .tup [.int 1, .int 2], .tup [.int 1, .int 3], .tup [.int 2, .int 3], .tup [.int 1, .int 4], .tup [.int 3, .int 4], .tup [.int 1, .int 5], .tup [.int 0, .int 1], .tup [.int 1, .int 1]]
/-- a ratio from 0 to 1 -/
def okU (x : T) : Bool := okR 3 x && match x with
  | .tup [.int a, .int b] => decide (0 ≤ a) && decide (a ≤ b)
  | _ => false
theorem okU_rt {x : T} (h : okU x = true) : ∃ q, x = rt q ∧ Sz 3 q ∧ 0 ≤ q ∧ q ≤ 1 := by
  unfold okU at h
  rw [Bool.and_eq_true] at h
  obtain ⟨q, rfl, s⟩ := okR_rt h.1
  have := h.2
  unfold rt at this
  simp only [Bool.and_eq_true, decide_eq_true_eq] at this
  refine ⟨q, rfl, s, ?_, ?_⟩
  · rw [Rat.le_iff]; simpa using this.1
  · rw [Rat.le_iff]; simpa using this.2
theorem e_odds {P : T} {k : Int} (h : Pen k P) (hk : k < 900000) {a b : Rat} (ha : Sz 200 a) (hb : Sz 200 b) (hab : a < b) : ∃ u v P', m__law_odds [.io P, vl a b] = some (ob a b u v, [.io P', vl a b]) ∧ Sz 3 u ∧ Sz 3 v ∧ (0 ≤ u ∧ u ≤ 1) ∧ (0 ≤ v ∧ v ≤ 1) ∧ Pen (k + 3) P' := by
  have hok : somesL.all okU = true := by decide +kernel
  obtain ⟨x, P1, e1, hx, h1⟩ := e_pick h (by omega) (xs := somesL) (by unfold somesL; simp) (by unfold somesL; simp)
  obtain ⟨u, rfl, su, u0, u1⟩ := okU_rt (List.all_eq_true.mp hok x hx)
  obtain ⟨d, P2, e2, g1, g2, h2⟩ := e_draw h1 (by omega) (n := 3) (by decide) (by decide)
  unfold somesL at e1
  by_cases c : d = 0
  · subst c
    have e3 := e_odds_by ha hb hab su su (by decide)
    refine ⟨u, u, P2, ?_, su, su, ⟨u0, u1⟩, ⟨u0, u1⟩, h2.mono (by omega)⟩
    simp [m__law_odds, g__law_odds, e1, e2, e3]
  · obtain ⟨y, P3, e3, hy, h3⟩ := e_pick h2 (by omega) (xs := somesL) (by unfold somesL; simp) (by unfold somesL; simp)
    obtain ⟨v, rfl, sv, v0, v1⟩ := okU_rt (List.all_eq_true.mp hok y hy)
    unfold somesL at e3
    have e4 := e_odds_by ha hb hab su sv (by decide)
    refine ⟨u, v, P3, ?_, su, sv, ⟨u0, u1⟩, ⟨v0, v1⟩, h3.mono (by omega)⟩
    simp [m__law_odds, g__law_odds, e1, e2, e3, e4, c]
theorem e_rest {p q : Rat} {n : Nat} (hp : Sz n p) (h : n ≤ 6000) : m__law_rest [.val (.tup [rt p, rt q])] = some (.tup [rt (1 - p), rt (-q)], [.val (.tup [rt p, rt q])]) := by
  have e1 := e__law_minus s_1 hp (by omega)
  have e0 : vr (1 : Rat) = .val (.tup [.int 1, .int 1]) := rfl
  rw [e0] at e1
  simp [m__law_rest, g__law_rest, e1]
  simp [rt]
theorem e_x {P : T} {k : Int} (h : Pen k P) (hk : k < 900000) {a b : Rat} (ha : Sz 200 a) (hb : Sz 200 b) (hab : a < b) : ∃ x P', m__law_x [.io P, vl a b] = some (rt x, [.io P', vl a b]) ∧ Sz 700 x ∧ a ≤ x ∧ x ≤ b ∧ Pen (k + 3) P' := by
  obtain ⟨d, P1, e1, g1, g2, h1⟩ := e_draw h (by omega) (n := 4) (by decide) (by decide)
  have e2 := e__law_minus hb ha (by decide)
  have s2 := hb.sub ha
  by_cases c : d = 0
  · subst c
    obtain ⟨y, P2, e3, hy, h2⟩ := e_pick h1 (by omega) (xs := [rt a, rt b]) (by simp) (by simp)
    have : y = rt a ∨ y = rt b := by simpa using hy
    rcases this with rfl | rfl
    · refine ⟨a, P2, ?_, ha.mono (by decide), by grind, by grind, h2.mono (by omega)⟩
      simp [m__law_x, g__law_x, e1, e2, e3, lt]
    · refine ⟨b, P2, ?_, hb.mono (by decide), by grind, by grind, h2.mono (by omega)⟩
      simp [m__law_x, g__law_x, e1, e2, e3, lt]
  · -- the bottom, then the top
    have fin : ∀ (bt : Int) (P2 : T), Pen (k + 2) P2 → 0 < bt → bt < 2 ^ 40 → (∀ q P3, m__law_draw [.io P2, vi (bt + 1)] = some (.int q, [.io P3, vi (bt + 1)]) → True) → ∃ q P3, m__law_draw [.io P2, vi (bt + 1)] = some (.int q, [.io P3, vi (bt + 1)]) ∧ Pen (k + 3) P3 ∧
        m__law_lowest [vi q, vi bt] = some (rt (Rat.divInt q bt), [vi q, vi bt]) ∧ m__law_times [vr (b - a), vr (Rat.divInt q bt)] = some (rt ((b - a) * Rat.divInt q bt), [vr (b - a), vr (Rat.divInt q bt)]) ∧
        m__law_plus [vr a, vr ((b - a) * Rat.divInt q bt)] = some (rt (a + (b - a) * Rat.divInt q bt), [vr a, vr ((b - a) * Rat.divInt q bt)]) ∧ Sz 700 (a + (b - a) * Rat.divInt q bt) ∧ a ≤ a + (b - a) * Rat.divInt q bt ∧ a + (b - a) * Rat.divInt q bt ≤ b := by
      intro bt P2 h2 b0 b1 _
      obtain ⟨q, P3, e5, q0, q1, h3⟩ := e_draw h2 (by omega) (n := bt + 1) (by omega) (by omega)
      have e6 := e__law_lowest (a := q) (b := bt) (n := 40) (m := 41) (by omega) (by unfold Bd; omega) (by unfold Bd; omega) (by decide) (by decide)
      have s6 : Sz 40 (Rat.divInt q bt) := by
        by_cases z : q = bt
        · subst z
          have : Rat.divInt q q = 1 := Rat.divInt_self' (by omega)
          rw [this]
          exact s_1.mono (by decide)
        · exact sz_divInt (by omega) (by unfold Bd; omega) (by unfold Bd; omega)
      have e7 := e__law_times s2 s6 (by decide)
      have e8 := e__law_plus ha (s2.mul s6) (by decide)
      have r0 : 0 ≤ Rat.divInt q bt := Rat.divInt_nonneg q0 (by omega)
      have r1 : Rat.divInt q bt ≤ 1 := by
        have h1 : 0 ≤ Rat.divInt (bt - q) bt := Rat.divInt_nonneg (by omega) (by omega)
        have h2 : Rat.divInt (bt - q) bt = 1 - Rat.divInt q bt := by
          have e1 : (1 : Rat) = Rat.divInt bt bt := (Rat.divInt_self' (by omega)).symm
          rw [e1, Rat.divInt_sub_divInt _ _ (by omega) (by omega)]
          rw [← Int.sub_mul, Rat.divInt_mul_right (by omega)]
        grind
      have p1 := Rat.mul_nonneg (show 0 ≤ b - a by grind) r0
      have p2 := Rat.mul_nonneg (show 0 ≤ b - a by grind) (show 0 ≤ 1 - Rat.divInt q bt by grind)
      exact ⟨q, P3, e5, h3.mono (by omega), e6, e7, e8, (ha.add (s2.mul s6)).mono (by decide), by grind, by grind⟩
    by_cases c3 : d < 3
    · obtain ⟨d2, P2, e3, a1, a2, h2⟩ := e_draw h1 (by omega) (n := 9) (by decide) (by decide)
      obtain ⟨q, P3, e5, h3, e6, e7, e8, sx, x0, x1⟩ := fin (2 + d2) P2 (h2.mono (by omega)) (by omega) (by omega) (fun _ _ _ => trivial)
      refine ⟨_, P3, ?_, sx, x0, x1, h3⟩
      simp [m__law_x, g__law_x, e1, e2, c, c3, e3, e5, e6, e7, e8, lt]
    · obtain ⟨d2, P2, e3, a1, a2, h2⟩ := e_draw h1 (by omega) (n := 99) (by decide) (by decide)
      obtain ⟨q, P3, e5, h3, e6, e7, e8, sx, x0, x1⟩ := fin (1000000000 + d2) P2 (h2.mono (by omega)) (by omega) (by omega) (fun _ _ _ => trivial)
      refine ⟨_, P3, ?_, sx, x0, x1, h3⟩
      simp [m__law_x, g__law_x, e1, e2, c, c3, e3, e5, e6, e7, e8, lt, p_9]
end K03

namespace K03
open PySem PySem.Spec PyProof.Rows L2 Fx
theorem e_is_listed_tup {ts : List T} : m_is_listed [.val (.tup ts)] = some (.bl true, [.val (.tup ts)]) := by simp [m_is_listed, g_is_listed]
theorem e_is_listed_lst {ts : List T} : m_is_listed [.val (.lst ts)] = some (.bl true, [.val (.lst ts)]) := by simp [m_is_listed, g_is_listed]
theorem e_is_pair_tup {ts : List T} : m_is_pair [.val (.tup ts)] = some (.bl ((ts.length : Int) == 2), [.val (.tup ts)]) := by simp [m_is_pair, g_is_pair, e_is_listed_tup]
theorem e_is_pair_lst {ts : List T} : m_is_pair [.val (.lst ts)] = some (.bl ((ts.length : Int) == 2), [.val (.lst ts)]) := by simp [m_is_pair, g_is_pair, e_is_listed_lst]
/-- both are ratios -/
theorem e_is_line_tup {p q : Rat} {n m : Nat} (hp : Sz n p) (hq : Sz m q) (h : n + m < 8000) : m_is_line [.val (.tup [rt p, rt q])] = some (.bl (decide (p < q)), [.val (.tup [rt p, rt q])]) := by
  simp [m_is_line, g_is_line, e_is_pair_tup, e_is_ratio, e_less hp hq h]
theorem e_is_line_lst {p q : Rat} {n m : Nat} (hp : Sz n p) (hq : Sz m q) (h : n + m < 8000) : m_is_line [.val (.lst [rt p, rt q])] = some (.bl (decide (p < q)), [.val (.lst [rt p, rt q])]) := by
  simp [m_is_line, g_is_line, e_is_pair_lst, e_is_ratio, e_less hp hq h]
theorem e_is_on {a b x : Rat} {n m l : Nat} (ha : Sz n a) (hb : Sz m b) (hx : Sz l x) (h1 : n + l < 8000) (h2 : l + m < 8000) : m_is_on [vl a b, vr x] = some (.bl (decide (a ≤ x) && decide (x ≤ b)), [vl a b, vr x]) := by
  have e1 := e_at_most ha hx h1
  have e2 := e_at_most hx hb h2
  by_cases c : a ≤ x
  · simp [m_is_on, g_is_on, e_is_ratio, lt, e1, e2, c]
  · simp [m_is_on, g_is_on, e_is_ratio, lt, e1, e2, c]
theorem e_odds_at {p q x : Rat} {n m l : Nat} (hp : Sz n p) (hq : Sz m q) (hx : Sz l x) (h : n + m + l < 8000) : m_odds_at [.val (.tup [rt p, rt q]), vr x] = some (rt (p + q * x), [.val (.tup [rt p, rt q]), vr x]) := by
  have e1 := e_times hq hx (show m + l < 8000 by omega)
  have e2 := e_plus hp (hq.mul hx) (show n + (m + l) < 8000 by omega)
  simp [m_odds_at, g_odds_at, e1, e2]
theorem e_odds_at_l {p q x : Rat} {n m l : Nat} (hp : Sz n p) (hq : Sz m q) (hx : Sz l x) (h : n + m + l < 8000) : m_odds_at [.val (.lst [rt p, rt q]), vr x] = some (rt (p + q * x), [.val (.lst [rt p, rt q]), vr x]) := by
  have e1 := e_times hq hx (show m + l < 8000 by omega)
  have e2 := e_plus hp (hq.mul hx) (show n + (m + l) < 8000 by omega)
  simp [m_odds_at, g_odds_at, e1, e2]
theorem e_rest_of {p q : Rat} {n : Nat} (hp : Sz n p) (h : n < 7000) : m_rest_of [.val (.tup [rt p, rt q])] = some (.tup [rt (1 - p), rt (-q)], [.val (.tup [rt p, rt q])]) := by
  have e1 := e_minus s_1 hp (by omega)
  have e0 : vr (1 : Rat) = .val (.tup [.int 1, .int 1]) := rfl
  rw [e0] at e1
  simp [m_rest_of, g_rest_of, k_ONE, e1, e_negated]
/-- whether odds are odds -/
def inU (u v : Rat) : Bool := !((decide (u < 0) || decide (1 < u)) || (decide (v < 0) || decide (1 < v)))
theorem e_are_odds {p q a b : Rat} {n m l : Nat} (hp : Sz n p) (hq : Sz m q) (ha : Sz l a) (hb : Sz l b) (h : n + m + l < 7000) : m_are_odds [.val (.tup [rt p, rt q]), vl a b] = some (.bl (inU (p + q * a) (p + q * b)), [.val (.tup [rt p, rt q]), vl a b]) := by
  have e1 := e_odds_at hp hq ha (by omega)
  have e2 := e_odds_at hp hq hb (by omega)
  have sa := hp.add (hq.mul ha)
  have sb := hp.add (hq.mul hb)
  have l1 := e_less sa s_0 (by omega)
  have l2 := e_less s_1 sa (by omega)
  have l3 := e_less sb s_0 (by omega)
  have l4 := e_less s_1 sb (by omega)
  have z0 : vr (0 : Rat) = .val (.tup [.int 0, .int 1]) := rfl
  have z1 : vr (1 : Rat) = .val (.tup [.int 1, .int 1]) := rfl
  rw [z0] at l1 l3
  rw [z1] at l2 l4
  by_cases c1 : p + q * a < 0 <;> by_cases c2 : p + q * b < 0 <;> simp [m_are_odds, g_are_odds, e_is_pair_tup, e_is_ratio, lt, e1, e2, k_ZERO, k_ONE, l1, l2, l3, l4, c1, c2, inU]
theorem e_are_odds_l {p q a b : Rat} {n m l : Nat} (hp : Sz n p) (hq : Sz m q) (ha : Sz l a) (hb : Sz l b) (h : n + m + l < 7000) : m_are_odds [.val (.lst [rt p, rt q]), .val (.lst [rt a, rt b])] = some (.bl (inU (p + q * a) (p + q * b)), [.val (.lst [rt p, rt q]), .val (.lst [rt a, rt b])]) := by
  have e1 := e_odds_at_l hp hq ha (by omega)
  have e2 := e_odds_at_l hp hq hb (by omega)
  have sa := hp.add (hq.mul ha)
  have sb := hp.add (hq.mul hb)
  have l1 := e_less sa s_0 (by omega)
  have l2 := e_less s_1 sa (by omega)
  have l3 := e_less sb s_0 (by omega)
  have l4 := e_less s_1 sb (by omega)
  have z0 : vr (0 : Rat) = .val (.tup [.int 0, .int 1]) := rfl
  have z1 : vr (1 : Rat) = .val (.tup [.int 1, .int 1]) := rfl
  rw [z0] at l1 l3
  rw [z1] at l2 l4
  by_cases c1 : p + q * a < 0 <;> by_cases c2 : p + q * b < 0 <;> simp [m_are_odds, g_are_odds, e_is_pair_lst, e_is_ratio, e1, e2, k_ZERO, k_ONE, l1, l2, l3, l4, c1, c2, inU]
/-! values of other kinds -/
def odd : List T := [.non, .int 5, .str "1", .tup [], .lst [.int 1, .int 2], .tup [.int 1, .int 0], .tup [.int 2, .int 4], .bl true, .dic [] [], .tup [.int 1, .int 2, .int 3], .lst [.tup [.int 1, .int 2]]]
theorem o_ratio {x : T} (h : x ∈ odd) : m_is_ratio [.val x] = some (.bl false, [.val x]) := by
  simp only [odd, List.mem_cons, List.not_mem_nil, or_false] at h
  rcases h with rfl | rfl | rfl | rfl | rfl | rfl | rfl | rfl | rfl | rfl | rfl <;> rfl
theorem o_line {x : T} (h : x ∈ odd) : m_is_line [.val x] = some (.bl false, [.val x]) := by
  simp only [odd, List.mem_cons, List.not_mem_nil, or_false] at h
  rcases h with rfl | rfl | rfl | rfl | rfl | rfl | rfl | rfl | rfl | rfl | rfl <;> rfl
theorem o_odds {x : T} (h : x ∈ odd) (l : T) : m_are_odds [.val x, .val l] = some (.bl false, [.val x, .val l]) := by
  simp only [odd, List.mem_cons, List.not_mem_nil, or_false] at h
  rcases h with rfl | rfl | rfl | rfl | rfl | rfl | rfl | rfl | rfl | rfl | rfl <;> rfl
theorem o_on {x : T} (h : x ∈ odd) (l : T) : m_is_on [.val l, .val x] = some (.bl false, [.val l, .val x]) := by
  have e := o_ratio h
  simp [m_is_on, g_is_on, e]
theorem o_odds1 {x : T} (h : x ∈ odd) (l : T) : m_are_odds [.val (.tup [x, .tup [.int 0, .int 1]]), .val l] = some (.bl false, [.val (.tup [x, .tup [.int 0, .int 1]]), .val l]) := by
  have e := o_ratio h
  have e2 : m_is_ratio [.val (.tup [.int 0, .int 1])] = some (.bl true, [.val (.tup [.int 0, .int 1])]) := rfl
  simp [m_are_odds, g_are_odds, e_is_pair_tup, e, e2]
theorem o_odds2 {x : T} (h : x ∈ odd) (l : T) : m_are_odds [.val (.tup [.tup [.int 1, .int 2], x]), .val l] = some (.bl false, [.val (.tup [.tup [.int 1, .int 2], x]), .val l]) := by
  have e := o_ratio h
  have e2 : m_is_ratio [.val (.tup [.int 1, .int 2])] = some (.bl true, [.val (.tup [.int 1, .int 2])]) := rfl
  simp [m_are_odds, g_are_odds, e_is_pair_tup, e, e2]
theorem o_odds3 (x y z l : T) : m_are_odds [.val (.tup [x, y, z]), .val l] = some (.bl false, [.val (.tup [x, y, z]), .val l]) := by
  simp [m_are_odds, g_are_odds, e_is_pair_tup]
theorem o_line1 {x : T} (h : x ∈ odd) (p : Rat) : m_is_line [.val (.tup [rt p, x])] = some (.bl false, [.val (.tup [rt p, x])]) := by
  have e := o_ratio h
  simp [m_is_line, g_is_line, e_is_pair_tup, e, e_is_ratio]
theorem o_line2 {x : T} (h : x ∈ odd) (p : Rat) : m_is_line [.val (.tup [x, rt p])] = some (.bl false, [.val (.tup [x, rt p])]) := by
  have e := o_ratio h
  simp [m_is_line, g_is_line, e_is_pair_tup, e, e_is_ratio]
theorem o_line4 (x y z w : T) : m_is_line [.val (.tup [x, y, z, w])] = some (.bl false, [.val (.tup [x, y, z, w])]) := by
  simp [m_is_line, g_is_line, e_is_pair_tup]
end K03

namespace K03
open PySem PySem.Spec PyProof.Rows L2 Fx
theorem ob_a {a b u v : Rat} (h : a < b) : (u - (v - u) / (b - a) * a) + (v - u) / (b - a) * a = u := by grind
theorem ob_b {a b u v : Rat} (h : a < b) : (u - (v - u) / (b - a) * a) + (v - u) / (b - a) * b = v := by
  have h1 : b - a ≠ 0 := by grind
  have h2 : (v - u) / (b - a) * (b - a) = v - u := Rat.div_mul_cancel h1
  grind
theorem ob_sz {a b u v : Rat} {n : Nat} (ha : Sz 200 a) (hb : Sz 200 b) (hab : a < b) (h1 : Sz n u) (h2 : Sz n v) (hn : n ≤ 200) : Sz 1300 (u - (v - u) / (b - a) * a) ∧ Sz 1300 ((v - u) / (b - a)) := by
  have s1 := h2.sub h1
  have s2 := hb.sub ha
  have s3 := s1.div s2 (by grind)
  exact ⟨(h1.sub (s3.mul ha)).mono (by omega), s3.mono (by omega)⟩
def endsL : List T := [.tup [.int 0, .int 1], .tup [.int 1, .int 1], .tup [.int (-1), .int 1000000000], .tup [.int 1000000001, .int 1000000000], .tup [.int 1, .int 2], .tup [.int (-1), .int 1], .tup [.int 2, .int 1]]
def stepL : List T := [.tup [.int 1, .int 1], .tup [.int 1, .int 1000000000000000000000000000000]]
@[simp] theorem eqT_rt (p q : Rat) : eqT (rt p) (rt q) = some (decide (p = q)) := by
  simp [Fx.eqT, rt, SeqAt.shaped, PyData.canLay0, PyData.canLayAll0, PyData.depth, PyData.depthAll, PyData.eqv, PyData.eqvAll]
  rw [Bool.eq_iff_iff]
  simp only [Bool.and_eq_true, beq_iff_eq, decide_eq_true_eq]
  exact ⟨fun h => Rat.ext h.1 (by omega), fun h => by subst h; exact ⟨rfl, rfl⟩⟩
theorem dec_rat (p q : Rat) : (p.num == q.num && (p.den : Int) == q.den) = decide (p = q) := by
  rw [Bool.eq_iff_iff]
  simp only [Bool.and_eq_true, beq_iff_eq, decide_eq_true_eq]
  exact ⟨fun h => Rat.ext h.1 (by omega), fun h => by subst h; exact ⟨rfl, rfl⟩⟩
@[simp] theorem eqT_rt2 (p q r s : Rat) : eqT (.lst [rt p, rt q]) (.lst [rt r, rt s]) = some (decide (p = r) && decide (q = s)) := by
  rw [← dec_rat, ← dec_rat]
  simp [Fx.eqT, rt, SeqAt.shaped, PyData.canLay0, PyData.canLayAll0, PyData.depth, PyData.depthAll, PyData.eqv, PyData.eqvAll]
@[simp] theorem eqT_rt4 (p q r s p' q' r' s' : Rat) : eqT (.lst [.tup [rt p, rt q], .tup [rt r, rt s]]) (.lst [.tup [rt p', rt q'], .tup [rt r', rt s']]) = some ((decide (p = p') && decide (q = q')) && (decide (r = r') && decide (s = s'))) := by
  rw [← dec_rat, ← dec_rat, ← dec_rat, ← dec_rat]
  simp [Fx.eqT, rt, SeqAt.shaped, PyData.canLay0, PyData.canLayAll0, PyData.depth, PyData.depthAll, PyData.eqv, PyData.eqvAll]
@[simp] theorem eqT_bl2 (a b c d : Bool) : eqT (.lst [.bl a, .bl b]) (.lst [.bl c, .bl d]) = some (a == c && b == d) := by
  simp [Fx.eqT, SeqAt.shaped, PyData.canLay0, PyData.canLayAll0, PyData.depth, PyData.depthAll, PyData.eqv, PyData.eqvAll]
@[simp] theorem eqT_bl5 (a b c d e : Bool) (a' b' c' d' e' : Bool) : eqT (.lst [.bl a, .bl b, .bl c, .bl d, .bl e]) (.lst [.bl a', .bl b', .bl c', .bl d', .bl e']) = some (a == a' && (b == b' && (c == c' && (d == d' && e == e')))) := by
  simp [Fx.eqT, SeqAt.shaped, PyData.canLay0, PyData.canLayAll0, PyData.depth, PyData.depthAll, PyData.eqv, PyData.eqvAll]
@[simp] theorem eqT_bl6 (a b c d e f : Bool) (a' b' c' d' e' f' : Bool) : eqT (.lst [.bl a, .bl b, .bl c, .bl d, .bl e, .bl f]) (.lst [.bl a', .bl b', .bl c', .bl d', .bl e', .bl f']) = some (a == a' && (b == b' && (c == c' && (d == d' && (e == e' && f == f'))))) := by
  simp [Fx.eqT, SeqAt.shaped, PyData.canLay0, PyData.canLayAll0, PyData.depth, PyData.depthAll, PyData.eqv, PyData.eqvAll]
@[simp] theorem eqT_rt0 : eqT (.lst []) (.lst []) = some true := rfl
@[simp] theorem eqT_rt10 (p : Rat) : eqT (.lst [rt p]) (.lst []) = some false := by
  simp [Fx.eqT, rt, SeqAt.shaped, PyData.canLay0, PyData.canLayAll0, PyData.depth, PyData.depthAll, PyData.eqv, PyData.eqvAll]
@[simp] theorem eqT_rt20 (p q : Rat) : eqT (.lst [rt p, rt q]) (.lst []) = some false := by
  simp [Fx.eqT, rt, SeqAt.shaped, PyData.canLay0, PyData.canLayAll0, PyData.depth, PyData.depthAll, PyData.eqv, PyData.eqvAll]
theorem r2 : Fx.rangeT 0 2 = [.int 0, .int 1] := rfl
theorem c_1 : ¬ (HT.sIx 2 0 none = 0 ∧ HT.sIx 2 2 (some 1) = 2) := by decide
theorem c_2 (a b : T) : cutL [a, b] none (some 1) = [a] := rfl
@[simp] theorem eqT_FF : eqT (.str (Str.ofString "False")) (.str (Str.ofString "False")) = some true := by decide +kernel
@[simp] theorem eqT_TT : eqT (.str (Str.ofString "True")) (.str (Str.ofString "True")) = some true := by decide +kernel
theorem inU_in {u v : Rat} (hu : 0 ≤ u ∧ u ≤ 1) (hv : 0 ≤ v ∧ v ≤ 1) : inU u v = true := by
  unfold inU
  have h1 : ¬ u < 0 := by grind
  have h2 : ¬ 1 < u := by grind
  have h3 : ¬ v < 0 := by grind
  have h4 : ¬ 1 < v := by grind
  simp [h1, h2, h3, h4]
theorem e_turn {s0 : Sl} {P : T} {k : Int} (h : Pen k P) (hk : k < 700000) (t : T) : ∃ P' a3 a4 a5 a6 a7 a8 a9 a10 a11,
    b_law_1 [s0, .own P, .val t, .un, .un, .un, .un, .un, .un, .un, .un, .un, .un, .un] = some (.nx, [s0, .own P', .val t, .val a3, .val a4, .val a5, .val a6, .val a7, .val a8, .val a9, .val a10, .val a11, .un, .un]) ∧ Pen (k + 40) P' := by
  obtain ⟨a, b, P1, e1, sa, sb, hab, h1⟩ := e_line h (by omega)
  obtain ⟨u, v, P2, e2, su, sv, hu, hv, h2⟩ := e_odds h1 (by omega) sa sb hab
  obtain ⟨x, P3, e3, sx, x0, x1, h3⟩ := e_x h2 (by omega) sa sb hab
  obtain ⟨p, q, epq, sp, sq, ea, eb⟩ : ∃ p q, ob a b u v = .tup [rt p, rt q] ∧ Sz 1300 p ∧ Sz 1300 q ∧ p + q * a = u ∧ p + q * b = v := by
    obtain ⟨i1, i2⟩ := ob_sz sa sb hab su sv (by decide)
    exact ⟨_, _, rfl, i1, i2, ob_a hab, ob_b hab⟩
  rw [epq] at e2
  have hok : endsL.all (okR 31) = true := by decide +kernel
  obtain ⟨z0, P4, e4, hz0, h4⟩ := e_pick h3 (by omega) (xs := endsL) (by unfold endsL; simp) (by unfold endsL; simp)
  obtain ⟨z1, P5, e5, hz1, h5⟩ := e_pick h4 (by omega) (xs := endsL) (by unfold endsL; simp) (by unfold endsL; simp)
  obtain ⟨c, rfl, sc⟩ := okRs_mem hok hz0
  obtain ⟨d, rfl, sd⟩ := okRs_mem hok hz1
  have e6 := e_odds_by sa sb hab sc sd (by decide)
  obtain ⟨p2, q2, epq2, sp2, sq2, ea2, eb2⟩ : ∃ p q, ob a b c d = .tup [rt p, rt q] ∧ Sz 1300 p ∧ Sz 1300 q ∧ p + q * a = c ∧ p + q * b = d := by
    obtain ⟨i1, i2⟩ := ob_sz sa sb hab sc sd (by decide)
    exact ⟨_, _, rfl, i1, i2, ob_a hab, ob_b hab⟩
  rw [epq2] at e6
  have hok2 : stepL.all (fun x => okR 100 x && match x with | .tup [.int a, .int b] => decide (0 < a) | _ => false) = true := by decide +kernel
  obtain ⟨st, P6, e7, hst, h6⟩ := e_pick h5 (by omega) (xs := stepL) (by unfold stepL; simp) (by unfold stepL; simp)
  have hok2 := List.all_eq_true.mp hok2 st hst
  rw [Bool.and_eq_true] at hok2
  obtain ⟨s, rfl, ss⟩ := okR_rt hok2.1
  have hs : 0 < s := by
    have := hok2.2
    unfold rt at this
    rw [Rat.lt_iff]
    simpa using this
  obtain ⟨o, P7, e8, ho, h7⟩ := e_pick h6 (by omega) (xs := odd) (by unfold odd; simp) (by unfold odd; simp)
  obtain ⟨y, P8, e9, sy, -, -, h8⟩ := e_x h7 (by omega) sa sb hab
  obtain ⟨z, P9, e10, sz, -, -, h9⟩ := e_x h8 (by omega) sa sb hab
  have em := e__law_minus sa ss (by decide)
  have ep := e__law_plus sb ss (by decide)
  unfold endsL at e4 e5
  unfold stepL at e7
  unfold odd at e8
  refine ⟨P9, lt a b, .tup [rt p, rt q], rt x, .lst [rt c, rt d], .tup [rt p2, rt q2], rt s, .lst [rt (a - s), rt (b + s)], o, .lst [rt y, rt z], ?_, h9.mono (by omega)⟩
  rw [b_law_1]
  rw [bSeq_nx (env1 := [s0, .own P1, .val t, vl a b, .un, .un, .un, .un, .un, .un, .un, .un, .un, .un]) (by simp [e1])]
  rw [bSeq_nx (env1 := [s0, .own P3, .val t, vl a b, .val (.tup [rt p, rt q]), vr x, .un, .un, .un, .un, .un, .un, .un, .un]) (by simp [e2, e3])]
  rw [bSeq_nx (env1 := [s0, .own P3, .val t, vl a b, .val (.tup [rt p, rt q]), vr x, .un, .un, .un, .un, .un, .un, .un, .un])]
  rotate_left
  · have f1 := e_odds_at sp sq sx (by decide)
    have f2 := e_at sp sq sx (by decide)
    have f3 := e_rest_of (q := q) sp (by decide)
    have f4 := e_rest (q := q) sp (by decide)
    simp [f1, f2, f3, f4]
  rw [bSeq_nx (env1 := [s0, .own P3, .val t, vl a b, .val (.tup [rt p, rt q]), vr x, .un, .un, .un, .un, .un, .un, .un, .un])]
  rotate_left
  · have f1 := e_are_odds sp sq sa sb (by decide)
    have f2 := e_are_odds_l sp sq sa sb (by decide)
    have f3 := e_is_on sa sb sx (by decide) (by decide)
    have f4 := e_is_line_tup sa sb (by decide)
    rw [ea, eb, inU_in hu hv] at f1 f2
    simp only [x0, x1, hab, decide_true, Bool.and_self] at f3 f4
    simp only [vl, lt] at f1 f3 ⊢
    simp [f1, f2, f3, f4]
  rw [bSeq_nx (env1 := [s0, .own P5, .val t, vl a b, .val (.tup [rt p, rt q]), vr x, .val (.lst [rt c, rt d]), .un, .un, .un, .un, .un, .un, .un]) (by simp [p_9, e4, e5, r2])]
  rw [bSeq_nx (env1 := [s0, .own P5, .val t, vl a b, .val (.tup [rt p, rt q]), vr x, .val (.lst [rt c, rt d]), .val (.tup [rt p2, rt q2]), .un, .un, .un, .un, .un, .un]) (by simp [e6])]
  rw [bSeq_nx (env1 := [s0, .own P5, .val t, vl a b, .val (.tup [rt p, rt q]), vr x, .val (.lst [rt c, rt d]), .val (.tup [rt p2, rt q2]), .un, .un, .un, .un, .un, .un])]
  rotate_left
  · have f1 := e_are_odds sp2 sq2 sa sb (by decide)
    have g1 := e__law_is_less sc s_0 (by decide)
    have g2 := e__law_is_less s_1 sc (by decide)
    have g3 := e__law_is_less sd s_0 (by decide)
    have g4 := e__law_is_less s_1 sd (by decide)
    have z0 : rt (0 : Rat) = (.tup [.int 0, .int 1]) := rfl
    have z1 : rt (1 : Rat) = (.tup [.int 1, .int 1]) := rfl
    rw [ea2, eb2] at f1
    simp only [vl, vr, lt, z0, z1] at f1 g1 g2 g3 g4 ⊢
    by_cases c1 : c < 0 <;> by_cases c2 : 1 < c <;> by_cases c3 : d < 0 <;> by_cases c4 : 1 < d <;> simp [c1, c2, c3, c4, inU] at f1 g1 g2 g3 g4 ⊢ <;> simp [f1, g1, g2, g3, g4]
  rw [bSeq_nx (env1 := [s0, .own P6, .val t, vl a b, .val (.tup [rt p, rt q]), vr x, .val (.lst [rt c, rt d]), .val (.tup [rt p2, rt q2]), vr s, .un, .un, .un, .un, .un]) (by simp [e7, p_30])]
  rw [bSeq_nx (env1 := [s0, .own P6, .val t, vl a b, .val (.tup [rt p, rt q]), vr x, .val (.lst [rt c, rt d]), .val (.tup [rt p2, rt q2]), vr s, .val (.lst [rt (a - s), rt (b + s)]), .un, .un, .un, .un]) (by simp [em, ep, lt])]
  rw [bSeq_nx (env1 := [s0, .own P6, .val t, vl a b, .val (.tup [rt p, rt q]), vr x, .val (.lst [rt c, rt d]), .val (.tup [rt p2, rt q2]), vr s, .val (.lst [rt (a - s), rt (b + s)]), .un, .un, .un, .un])]
  rotate_left
  · have f1 := e_is_on sa sb (sa.sub ss) (by decide) (by decide)
    have f2 := e_is_on sa sb (sb.add ss) (by decide) (by decide)
    have f3 := e_is_on sa sb sa (by decide) (by decide)
    have f4 := e_is_on sa sb sb (by decide) (by decide)
    have n1 : ¬ a ≤ a - s := by grind
    have n2 : ¬ b + s ≤ b := by grind
    have n3 : a ≤ a := by grind
    have n4 : b ≤ b := by grind
    have n5 : a ≤ b := by grind
    simp only [n1, n2, n3, n4, n5, decide_true, decide_false, Bool.and_false, Bool.false_and, Bool.and_true] at f1 f2 f3 f4
    simp only [vl, vr, lt] at f1 f2 f3 f4 ⊢
    simp [f1, f2, f3, f4]
  rw [bSeq_nx (env1 := [s0, .own P7, .val t, vl a b, .val (.tup [rt p, rt q]), vr x, .val (.lst [rt c, rt d]), .val (.tup [rt p2, rt q2]), vr s, .val (.lst [rt (a - s), rt (b + s)]), .val o, .un, .un, .un]) (by simp [e8])]
  rw [bSeq_nx (env1 := [s0, .own P7, .val t, vl a b, .val (.tup [rt p, rt q]), vr x, .val (.lst [rt c, rt d]), .val (.tup [rt p2, rt q2]), vr s, .val (.lst [rt (a - s), rt (b + s)]), .val o, .un, .un, .un])]
  rotate_left
  · have f1 := o_on ho (lt a b)
    have f2 := o_odds ho (lt a b)
    have f3 := o_odds1 ho (lt a b)
    have f4 := o_odds2 ho (lt a b)
    have f5 := o_odds3 (rt p) (rt q) (rt p) (lt a b)
    simp [f1, f2, f3, f4, f5, c_2, show HT.sIx 2 2 (some 1) = 1 from rfl, show HT.sIx 2 0 none = 0 from rfl]
  rw [bSeq_nx (env1 := [s0, .own P7, .val t, vl a b, .val (.tup [rt p, rt q]), vr x, .val (.lst [rt c, rt d]), .val (.tup [rt p2, rt q2]), vr s, .val (.lst [rt (a - s), rt (b + s)]), .val o, .un, .un, .un])]
  rotate_left
  · have f1 := o_line ho
    have f2 := o_line1 ho a
    have f3 := o_line2 ho b
    have f4 := e_is_line_tup sb sa (by decide)
    have f5 := e_is_line_tup sx sx (by decide)
    have f6 := o_line4 (rt a) (rt b) (rt a) (rt b)
    have f7 := e_is_line_lst sa sb (by decide)
    have n1 : ¬ b < a := by grind
    have n2 : ¬ x < x := by grind
    simp only [n1, n2, hab, decide_true, decide_false] at f4 f5 f7
    simp only [vl, vr, lt]
    simp [f1, f2, f3, f4, f5, f6, f7]
  rw [bSeq_nx (env1 := [s0, .own P9, .val t, vl a b, .val (.tup [rt p, rt q]), vr x, .val (.lst [rt c, rt d]), .val (.tup [rt p2, rt q2]), vr s, .val (.lst [rt (a - s), rt (b + s)]), .val o, .val (.lst [rt y, rt z]), .un, .un]) (by simp [e9, e10, r2])]
  have f1 := e_is_line_tup sy sz (by decide)
  have f2 := e__law_is_less sy sz (by decide)
  by_cases c1 : y < z <;> simp only [c1, decide_true, decide_false] at f1 f2 <;> simp [f1, f2]
/-- the turns -/
theorem e_turns {s0 : Sl} : ∀ (ts : List T) (P : T) (k : Int) (env : Sls), Pen k P → k + 40 * ts.length < 700000 → noIo env [2, 3, 4, 5, 6, 7, 8, 9, 10, 11, 12, 13] = true →
    wipeE env [2, 3, 4, 5, 6, 7, 8, 9, 10, 11, 12, 13] = [s0, .own P, .un, .un, .un, .un, .un, .un, .un, .un, .un, .un, .un, .un] → ∃ env', forLR [2, 3, 4, 5, 6, 7, 8, 9, 10, 11, 12, 13] (.nm 2) b_law_1 ts env = some (.nx, env')
  | [], P, k, env, h, hk, n, w => by
    unfold forLR
    rw [if_pos n]
    exact ⟨_, rfl⟩
  | t :: ts, P, k, env, h, hk, n, w => by
    obtain ⟨P', a3, a4, a5, a6, a7, a8, a9, a10, a11, e, h'⟩ := e_turn (s0 := s0) h (by omega) t
    obtain ⟨env2, e2⟩ := e_turns (s0 := s0) ts P' (k + 40) [s0, .own P', .val t, .val a3, .val a4, .val a5, .val a6, .val a7, .val a8, .val a9, .val a10, .val a11, .un, .un] h' (by simp at hk; omega) (by simp) (by simp)
    refine ⟨env2, ?_⟩
    rw [← e2]
    rw [forLR, if_pos n, w]
    have e0 : bindP (.nm 2) t [s0, .own P, .un, .un, .un, .un, .un, .un, .un, .un, .un, .un, .un, .un] = some [s0, .own P, .val t, .un, .un, .un, .un, .un, .un, .un, .un, .un, .un, .un] := by simp
    rw [e0, Option.bind_some, e, Option.bind_some]
end K03

namespace K03
open PySem PySem.Spec PyProof.Rows L2 Fx
theorem lc_ints (x : Sl) (h : isVal x = true) : ∀ (ns : List Int) (s1 : Sl), isIo (some s1) = false → ∃ env', lcL (.nm 1) tYesF (eN bInt (aC (eVar 1) aN)) [1] (ns.map T.int) [x, s1] = some (ns.map T.int, env')
  | [], s1, h1 => ⟨_, rfl⟩
  | n :: ns, s1, h1 => by
    obtain ⟨env', e⟩ := lc_ints x h ns .un rfl
    refine ⟨env', ?_⟩
    cases s1 with
    | io _ => simp at h1
    | _ => simp [e]
theorem e__law_pen (ns : List Int) (hl : ns.length ≤ 63) : ∃ P, m__law_pen [.val (.lsf (ns.map T.int))] = some (P, [.val (.lsf (ns.map T.int))]) ∧ Pen 0 P := by
  refine ⟨pn ns 0 0, ?_, ns, 0, 0, rfl, hl, by decide, by decide, by decide⟩
  obtain ⟨env', e⟩ := lc_ints (.val (.lsf (ns.map T.int))) rfl ns .un rfl
  have hc : cutL (ns.map T.int) none (some 63) = ns.map T.int := by
    unfold cutL
    have h0 : HT.sIx (ns.map T.int).length 0 none = 0 := rfl
    rw [h0, List.drop_zero]
    refine List.take_of_length_le ?_
    simp [HT.sIx]
    omega
  have hl2 : ns.length ≤ 100000 := by omega
  simp [m__law_pen, g__law_pen, hc, e, pn, hl2]
  try omega
theorem law_true : ∀ ns : List Int, ns.length ≤ 63 → ∃ sls', m_law [.val (.lsf (ns.map Fx.T.int))] = some (.bl true, sls') := by
  intro ns hl
  obtain ⟨P, e1, h1⟩ := e__law_pen ns hl
  have e3 : (Fx.rangeT 0 10).length = 10 := by decide
  obtain ⟨env', e2⟩ := e_turns (s0 := .val (.lsf (ns.map T.int))) (Fx.rangeT 0 10) P 0 [.val (.lsf (ns.map T.int)), .own P, .un, .un, .un, .un, .un, .un, .un, .un, .un, .un, .un, .un] h1 (by rw [e3]; decide) (by simp) (by simp)
  refine ⟨_, runF_ret (env1 := env') ?_ rfl⟩
  rw [g_law]
  rw [bSeq_nx (env1 := [.val (.lsf (ns.map T.int)), .own P, .un, .un, .un, .un, .un, .un, .un, .un, .un, .un, .un, .un]) (by simp [e1])]
  rw [bSeq_nx (env1 := env')]
  · simp
  · unfold sForR
    have e0 : itRange1 (aC (eC (.int 10)) aN) [.val (.lsf (ns.map T.int)), .own P, .un, .un, .un, .un, .un, .un, .un, .un, .un, .un, .un, .un] = some (Fx.rangeT 0 10, [.val (.lsf (ns.map T.int)), .own P, .un, .un, .un, .un, .un, .un, .un, .un, .un, .un, .un, .un]) := by simp
    rw [e0, Option.bind_some]
    exact e2
end K03

namespace K03
open PySem PySem.Spec PyProof.Rows L2 Fx
theorem all_mk {l : PySem.W.OpenLaw} {w : World} {K : PySem.W.Frag} {h : Heap} {mg : Str → Option Value} {fa f0 f1 f2 f3 f4 f5 f6 f7 f8 f9 f10 f11 f12 f13 f14 f15 f16 f17 f18 f19 f20 f21 f22 f23 f24 f25 f26 f27 f28 f29 f30 f31 f32 f33 : Addr} (X : K.In h) (G : h.Ns mainGlobals mg) (hfa : mg "law" = some (.ref fa))
    {od0 an0 : Option Addr} {sl0 : Array (Option Value)} {oc0 kV0 dc0 pm0 cd0 ct0 : Value}
    {od1 an1 : Option Addr} {sl1 : Array (Option Value)} {oc1 kV1 dc1 pm1 cd1 ct1 : Value}
    {od2 an2 : Option Addr} {sl2 : Array (Option Value)} {oc2 kV2 dc2 pm2 cd2 ct2 : Value}
    {od3 an3 : Option Addr} {sl3 : Array (Option Value)} {oc3 kV3 dc3 pm3 cd3 ct3 : Value}
    {od4 an4 : Option Addr} {sl4 : Array (Option Value)} {oc4 kV4 dc4 pm4 cd4 ct4 : Value}
    {od5 an5 : Option Addr} {sl5 : Array (Option Value)} {oc5 kV5 dc5 pm5 cd5 ct5 : Value}
    {od6 an6 : Option Addr} {sl6 : Array (Option Value)} {oc6 kV6 dc6 pm6 cd6 ct6 : Value}
    {od7 an7 : Option Addr} {sl7 : Array (Option Value)} {oc7 kV7 dc7 pm7 cd7 ct7 : Value}
    {od8 an8 : Option Addr} {sl8 : Array (Option Value)} {oc8 kV8 dc8 pm8 cd8 ct8 : Value}
    {od9 an9 : Option Addr} {sl9 : Array (Option Value)} {oc9 kV9 dc9 pm9 cd9 ct9 : Value}
    {od10 an10 : Option Addr} {sl10 : Array (Option Value)} {oc10 kV10 dc10 pm10 cd10 ct10 : Value}
    {od11 an11 : Option Addr} {sl11 : Array (Option Value)} {oc11 kV11 dc11 pm11 cd11 ct11 : Value}
    {od12 an12 : Option Addr} {sl12 : Array (Option Value)} {oc12 kV12 dc12 pm12 cd12 ct12 : Value}
    {od13 an13 : Option Addr} {sl13 : Array (Option Value)} {oc13 kV13 dc13 pm13 cd13 ct13 : Value}
    {od14 an14 : Option Addr} {sl14 : Array (Option Value)} {oc14 kV14 dc14 pm14 cd14 ct14 : Value}
    {od15 an15 : Option Addr} {sl15 : Array (Option Value)} {oc15 kV15 dc15 pm15 cd15 ct15 : Value}
    {od16 an16 : Option Addr} {sl16 : Array (Option Value)} {oc16 kV16 dc16 pm16 cd16 ct16 : Value}
    {od17 an17 : Option Addr} {sl17 : Array (Option Value)} {oc17 kV17 dc17 pm17 cd17 ct17 : Value}
    {od18 an18 : Option Addr} {sl18 : Array (Option Value)} {oc18 kV18 dc18 pm18 cd18 ct18 : Value}
    {od19 an19 : Option Addr} {sl19 : Array (Option Value)} {oc19 kV19 dc19 pm19 cd19 ct19 : Value}
    {od20 an20 : Option Addr} {sl20 : Array (Option Value)} {oc20 kV20 dc20 pm20 cd20 ct20 : Value}
    {od21 an21 : Option Addr} {sl21 : Array (Option Value)} {oc21 kV21 dc21 pm21 cd21 ct21 : Value}
    {od22 an22 : Option Addr} {sl22 : Array (Option Value)} {oc22 kV22 dc22 pm22 cd22 ct22 : Value}
    {od23 an23 : Option Addr} {sl23 : Array (Option Value)} {oc23 kV23 dc23 pm23 cd23 ct23 : Value}
    {od24 an24 : Option Addr} {sl24 : Array (Option Value)} {oc24 kV24 dc24 pm24 cd24 ct24 : Value}
    {od25 an25 : Option Addr} {sl25 : Array (Option Value)} {oc25 kV25 dc25 pm25 cd25 ct25 : Value}
    {od26 an26 : Option Addr} {sl26 : Array (Option Value)} {oc26 kV26 dc26 pm26 cd26 ct26 : Value}
    {od27 an27 : Option Addr} {sl27 : Array (Option Value)} {oc27 kV27 dc27 pm27 cd27 ct27 : Value}
    {od28 an28 : Option Addr} {sl28 : Array (Option Value)} {oc28 kV28 dc28 pm28 cd28 ct28 : Value}
    {od29 an29 : Option Addr} {sl29 : Array (Option Value)} {oc29 kV29 dc29 pm29 cd29 ct29 : Value}
    {od30 an30 : Option Addr} {sl30 : Array (Option Value)} {oc30 kV30 dc30 pm30 cd30 ct30 : Value}
    {od31 an31 : Option Addr} {sl31 : Array (Option Value)} {oc31 kV31 dc31 pm31 cd31 ct31 : Value}
    {od32 an32 : Option Addr} {sl32 : Array (Option Value)} {oc32 kV32 dc32 pm32 cd32 ct32 : Value}
    {od33 an33 : Option Addr} {sl33 : Array (Option Value)} {oc33 kV33 dc33 pm33 cd33 ct33 : Value}
    {cc_ONE : Addr} {t_ONE u_ONE : Tok} {od_ONE : Option Addr} {n_ONE : Nat} {sl_ONE : Array (Option Value)}
    {cc_ZERO : Addr} {t_ZERO u_ZERO : Tok} {od_ZERO : Option Addr} {n_ZERO : Nat} {sl_ZERO : Array (Option Value)}
    (a0 : PySem.W.nsIn K mainGlobals "is_integer" = some (some (.ref f0))) (l0 : K.lookup f0 = some ⟨oc0, od0, .func (PySem.W.fnOf "is_integer" "is_integer" (defArgs s_is_integer) (defBody s_is_integer) (defScope s_is_integer) .none kV0 dc0 pm0 an0 cd0 ct0), sl0⟩) (c0 : PySem.W.codeIn K cd0 "is_integer" = true) (k0 : PySem.W.keepIn K (.ref f0) = true)
    (a1 : PySem.W.nsIn K mainGlobals "is_listed" = some (some (.ref f1))) (l1 : K.lookup f1 = some ⟨oc1, od1, .func (PySem.W.fnOf "is_listed" "is_listed" (defArgs s_is_listed) (defBody s_is_listed) (defScope s_is_listed) .none kV1 dc1 pm1 an1 cd1 ct1), sl1⟩) (c1 : PySem.W.codeIn K cd1 "is_listed" = true) (k1 : PySem.W.keepIn K (.ref f1) = true)
    (a2 : PySem.W.nsIn K mainGlobals "is_pair" = some (some (.ref f2))) (l2 : K.lookup f2 = some ⟨oc2, od2, .func (PySem.W.fnOf "is_pair" "is_pair" (defArgs s_is_pair) (defBody s_is_pair) (defScope s_is_pair) .none kV2 dc2 pm2 an2 cd2 ct2), sl2⟩) (c2 : PySem.W.codeIn K cd2 "is_pair" = true) (k2 : PySem.W.keepIn K (.ref f2) = true)
    (a3 : PySem.W.nsIn K mainGlobals "lowest" = some (some (.ref f3))) (l3 : K.lookup f3 = some ⟨oc3, od3, .func (PySem.W.fnOf "lowest" "lowest" (defArgs s_lowest) (defBody s_lowest) (defScope s_lowest) .none kV3 dc3 pm3 an3 cd3 ct3), sl3⟩) (c3 : PySem.W.codeIn K cd3 "lowest" = true) (k3 : PySem.W.keepIn K (.ref f3) = true)
    (a4 : PySem.W.nsIn K mainGlobals "is_ratio" = some (some (.ref f4))) (l4 : K.lookup f4 = some ⟨oc4, od4, .func (PySem.W.fnOf "is_ratio" "is_ratio" (defArgs s_is_ratio) (defBody s_is_ratio) (defScope s_is_ratio) .none kV4 dc4 pm4 an4 cd4 ct4), sl4⟩) (c4 : PySem.W.codeIn K cd4 "is_ratio" = true) (k4 : PySem.W.keepIn K (.ref f4) = true)
    (a5 : PySem.W.nsIn K mainGlobals "plus" = some (some (.ref f5))) (l5 : K.lookup f5 = some ⟨oc5, od5, .func (PySem.W.fnOf "plus" "plus" (defArgs s_plus) (defBody s_plus) (defScope s_plus) .none kV5 dc5 pm5 an5 cd5 ct5), sl5⟩) (c5 : PySem.W.codeIn K cd5 "plus" = true) (k5 : PySem.W.keepIn K (.ref f5) = true)
    (a6 : PySem.W.nsIn K mainGlobals "minus" = some (some (.ref f6))) (l6 : K.lookup f6 = some ⟨oc6, od6, .func (PySem.W.fnOf "minus" "minus" (defArgs s_minus) (defBody s_minus) (defScope s_minus) .none kV6 dc6 pm6 an6 cd6 ct6), sl6⟩) (c6 : PySem.W.codeIn K cd6 "minus" = true) (k6 : PySem.W.keepIn K (.ref f6) = true)
    (a7 : PySem.W.nsIn K mainGlobals "negated" = some (some (.ref f7))) (l7 : K.lookup f7 = some ⟨oc7, od7, .func (PySem.W.fnOf "negated" "negated" (defArgs s_negated) (defBody s_negated) (defScope s_negated) .none kV7 dc7 pm7 an7 cd7 ct7), sl7⟩) (c7 : PySem.W.codeIn K cd7 "negated" = true) (k7 : PySem.W.keepIn K (.ref f7) = true)
    (a8 : PySem.W.nsIn K mainGlobals "times" = some (some (.ref f8))) (l8 : K.lookup f8 = some ⟨oc8, od8, .func (PySem.W.fnOf "times" "times" (defArgs s_times) (defBody s_times) (defScope s_times) .none kV8 dc8 pm8 an8 cd8 ct8), sl8⟩) (c8 : PySem.W.codeIn K cd8 "times" = true) (k8 : PySem.W.keepIn K (.ref f8) = true)
    (a9 : PySem.W.nsIn K mainGlobals "less" = some (some (.ref f9))) (l9 : K.lookup f9 = some ⟨oc9, od9, .func (PySem.W.fnOf "less" "less" (defArgs s_less) (defBody s_less) (defScope s_less) .none kV9 dc9 pm9 an9 cd9 ct9), sl9⟩) (c9 : PySem.W.codeIn K cd9 "less" = true) (k9 : PySem.W.keepIn K (.ref f9) = true)
    (a10 : PySem.W.nsIn K mainGlobals "at_most" = some (some (.ref f10))) (l10 : K.lookup f10 = some ⟨oc10, od10, .func (PySem.W.fnOf "at_most" "at_most" (defArgs s_at_most) (defBody s_at_most) (defScope s_at_most) .none kV10 dc10 pm10 an10 cd10 ct10), sl10⟩) (c10 : PySem.W.codeIn K cd10 "at_most" = true) (k10 : PySem.W.keepIn K (.ref f10) = true)
    (a11 : PySem.W.nsIn K mainGlobals "is_line" = some (some (.ref f11))) (l11 : K.lookup f11 = some ⟨oc11, od11, .func (PySem.W.fnOf "is_line" "is_line" (defArgs s_is_line) (defBody s_is_line) (defScope s_is_line) .none kV11 dc11 pm11 an11 cd11 ct11), sl11⟩) (c11 : PySem.W.codeIn K cd11 "is_line" = true) (k11 : PySem.W.keepIn K (.ref f11) = true)
    (a12 : PySem.W.nsIn K mainGlobals "is_on" = some (some (.ref f12))) (l12 : K.lookup f12 = some ⟨oc12, od12, .func (PySem.W.fnOf "is_on" "is_on" (defArgs s_is_on) (defBody s_is_on) (defScope s_is_on) .none kV12 dc12 pm12 an12 cd12 ct12), sl12⟩) (c12 : PySem.W.codeIn K cd12 "is_on" = true) (k12 : PySem.W.keepIn K (.ref f12) = true)
    (a13 : PySem.W.nsIn K mainGlobals "odds_at" = some (some (.ref f13))) (l13 : K.lookup f13 = some ⟨oc13, od13, .func (PySem.W.fnOf "odds_at" "odds_at" (defArgs s_odds_at) (defBody s_odds_at) (defScope s_odds_at) .none kV13 dc13 pm13 an13 cd13 ct13), sl13⟩) (c13 : PySem.W.codeIn K cd13 "odds_at" = true) (k13 : PySem.W.keepIn K (.ref f13) = true)
    (a14 : PySem.W.nsIn K mainGlobals "are_odds" = some (some (.ref f14))) (l14 : K.lookup f14 = some ⟨oc14, od14, .func (PySem.W.fnOf "are_odds" "are_odds" (defArgs s_are_odds) (defBody s_are_odds) (defScope s_are_odds) .none kV14 dc14 pm14 an14 cd14 ct14), sl14⟩) (c14 : PySem.W.codeIn K cd14 "are_odds" = true) (k14 : PySem.W.keepIn K (.ref f14) = true)
    (a15 : PySem.W.nsIn K mainGlobals "rest_of" = some (some (.ref f15))) (l15 : K.lookup f15 = some ⟨oc15, od15, .func (PySem.W.fnOf "rest_of" "rest_of" (defArgs s_rest_of) (defBody s_rest_of) (defScope s_rest_of) .none kV15 dc15 pm15 an15 cd15 ct15), sl15⟩) (c15 : PySem.W.codeIn K cd15 "rest_of" = true) (k15 : PySem.W.keepIn K (.ref f15) = true)
    (a16 : PySem.W.nsIn K mainGlobals "_law_pen" = some (some (.ref f16))) (l16 : K.lookup f16 = some ⟨oc16, od16, .func (PySem.W.fnOf "_law_pen" "_law_pen" (defArgs s__law_pen) (defBody s__law_pen) (defScope s__law_pen) .none kV16 dc16 pm16 an16 cd16 ct16), sl16⟩) (c16 : PySem.W.codeIn K cd16 "_law_pen" = true) (k16 : PySem.W.keepIn K (.ref f16) = true)
    (a17 : PySem.W.nsIn K mainGlobals "_law_draw" = some (some (.ref f17))) (l17 : K.lookup f17 = some ⟨oc17, od17, .func (PySem.W.fnOf "_law_draw" "_law_draw" (defArgs s__law_draw) (defBody s__law_draw) (defScope s__law_draw) .none kV17 dc17 pm17 an17 cd17 ct17), sl17⟩) (c17 : PySem.W.codeIn K cd17 "_law_draw" = true) (k17 : PySem.W.keepIn K (.ref f17) = true)
    (a18 : PySem.W.nsIn K mainGlobals "_law_pick" = some (some (.ref f18))) (l18 : K.lookup f18 = some ⟨oc18, od18, .func (PySem.W.fnOf "_law_pick" "_law_pick" (defArgs s__law_pick) (defBody s__law_pick) (defScope s__law_pick) .none kV18 dc18 pm18 an18 cd18 ct18), sl18⟩) (c18 : PySem.W.codeIn K cd18 "_law_pick" = true) (k18 : PySem.W.keepIn K (.ref f18) = true)
    (a19 : PySem.W.nsIn K mainGlobals "_law_shared" = some (some (.ref f19))) (l19 : K.lookup f19 = some ⟨oc19, od19, .func (PySem.W.fnOf "_law_shared" "_law_shared" (defArgs s__law_shared) (defBody s__law_shared) (defScope s__law_shared) .none kV19 dc19 pm19 an19 cd19 ct19), sl19⟩) (c19 : PySem.W.codeIn K cd19 "_law_shared" = true) (k19 : PySem.W.keepIn K (.ref f19) = true)
    (a20 : PySem.W.nsIn K mainGlobals "_law_lowest" = some (some (.ref f20))) (l20 : K.lookup f20 = some ⟨oc20, od20, .func (PySem.W.fnOf "_law_lowest" "_law_lowest" (defArgs s__law_lowest) (defBody s__law_lowest) (defScope s__law_lowest) .none kV20 dc20 pm20 an20 cd20 ct20), sl20⟩) (c20 : PySem.W.codeIn K cd20 "_law_lowest" = true) (k20 : PySem.W.keepIn K (.ref f20) = true)
    (a21 : PySem.W.nsIn K mainGlobals "_law_plus" = some (some (.ref f21))) (l21 : K.lookup f21 = some ⟨oc21, od21, .func (PySem.W.fnOf "_law_plus" "_law_plus" (defArgs s__law_plus) (defBody s__law_plus) (defScope s__law_plus) .none kV21 dc21 pm21 an21 cd21 ct21), sl21⟩) (c21 : PySem.W.codeIn K cd21 "_law_plus" = true) (k21 : PySem.W.keepIn K (.ref f21) = true)
    (a22 : PySem.W.nsIn K mainGlobals "_law_minus" = some (some (.ref f22))) (l22 : K.lookup f22 = some ⟨oc22, od22, .func (PySem.W.fnOf "_law_minus" "_law_minus" (defArgs s__law_minus) (defBody s__law_minus) (defScope s__law_minus) .none kV22 dc22 pm22 an22 cd22 ct22), sl22⟩) (c22 : PySem.W.codeIn K cd22 "_law_minus" = true) (k22 : PySem.W.keepIn K (.ref f22) = true)
    (a23 : PySem.W.nsIn K mainGlobals "_law_times" = some (some (.ref f23))) (l23 : K.lookup f23 = some ⟨oc23, od23, .func (PySem.W.fnOf "_law_times" "_law_times" (defArgs s__law_times) (defBody s__law_times) (defScope s__law_times) .none kV23 dc23 pm23 an23 cd23 ct23), sl23⟩) (c23 : PySem.W.codeIn K cd23 "_law_times" = true) (k23 : PySem.W.keepIn K (.ref f23) = true)
    (a24 : PySem.W.nsIn K mainGlobals "_law_over" = some (some (.ref f24))) (l24 : K.lookup f24 = some ⟨oc24, od24, .func (PySem.W.fnOf "_law_over" "_law_over" (defArgs s__law_over) (defBody s__law_over) (defScope s__law_over) .none kV24 dc24 pm24 an24 cd24 ct24), sl24⟩) (c24 : PySem.W.codeIn K cd24 "_law_over" = true) (k24 : PySem.W.keepIn K (.ref f24) = true)
    (a25 : PySem.W.nsIn K mainGlobals "_law_is_less" = some (some (.ref f25))) (l25 : K.lookup f25 = some ⟨oc25, od25, .func (PySem.W.fnOf "_law_is_less" "_law_is_less" (defArgs s__law_is_less) (defBody s__law_is_less) (defScope s__law_is_less) .none kV25 dc25 pm25 an25 cd25 ct25), sl25⟩) (c25 : PySem.W.codeIn K cd25 "_law_is_less" = true) (k25 : PySem.W.keepIn K (.ref f25) = true)
    (a26 : PySem.W.nsIn K mainGlobals "_law_drawn" = some (some (.ref f26))) (l26 : K.lookup f26 = some ⟨oc26, od26, .func (PySem.W.fnOf "_law_drawn" "_law_drawn" (defArgs s__law_drawn) (defBody s__law_drawn) (defScope s__law_drawn) .none kV26 dc26 pm26 an26 cd26 ct26), sl26⟩) (c26 : PySem.W.codeIn K cd26 "_law_drawn" = true) (k26 : PySem.W.keepIn K (.ref f26) = true)
    (a27 : PySem.W.nsIn K mainGlobals "_law_line" = some (some (.ref f27))) (l27 : K.lookup f27 = some ⟨oc27, od27, .func (PySem.W.fnOf "_law_line" "_law_line" (defArgs s__law_line) (defBody s__law_line) (defScope s__law_line) .none kV27 dc27 pm27 an27 cd27 ct27), sl27⟩) (c27 : PySem.W.codeIn K cd27 "_law_line" = true) (k27 : PySem.W.keepIn K (.ref f27) = true)
    (a28 : PySem.W.nsIn K mainGlobals "_law_at" = some (some (.ref f28))) (l28 : K.lookup f28 = some ⟨oc28, od28, .func (PySem.W.fnOf "_law_at" "_law_at" (defArgs s__law_at) (defBody s__law_at) (defScope s__law_at) .none kV28 dc28 pm28 an28 cd28 ct28), sl28⟩) (c28 : PySem.W.codeIn K cd28 "_law_at" = true) (k28 : PySem.W.keepIn K (.ref f28) = true)
    (a29 : PySem.W.nsIn K mainGlobals "_law_odds_by" = some (some (.ref f29))) (l29 : K.lookup f29 = some ⟨oc29, od29, .func (PySem.W.fnOf "_law_odds_by" "_law_odds_by" (defArgs s__law_odds_by) (defBody s__law_odds_by) (defScope s__law_odds_by) .none kV29 dc29 pm29 an29 cd29 ct29), sl29⟩) (c29 : PySem.W.codeIn K cd29 "_law_odds_by" = true) (k29 : PySem.W.keepIn K (.ref f29) = true)
    (a30 : PySem.W.nsIn K mainGlobals "_law_odds" = some (some (.ref f30))) (l30 : K.lookup f30 = some ⟨oc30, od30, .func (PySem.W.fnOf "_law_odds" "_law_odds" (defArgs s__law_odds) (defBody s__law_odds) (defScope s__law_odds) .none kV30 dc30 pm30 an30 cd30 ct30), sl30⟩) (c30 : PySem.W.codeIn K cd30 "_law_odds" = true) (k30 : PySem.W.keepIn K (.ref f30) = true)
    (a31 : PySem.W.nsIn K mainGlobals "_law_rest" = some (some (.ref f31))) (l31 : K.lookup f31 = some ⟨oc31, od31, .func (PySem.W.fnOf "_law_rest" "_law_rest" (defArgs s__law_rest) (defBody s__law_rest) (defScope s__law_rest) .none kV31 dc31 pm31 an31 cd31 ct31), sl31⟩) (c31 : PySem.W.codeIn K cd31 "_law_rest" = true) (k31 : PySem.W.keepIn K (.ref f31) = true)
    (a32 : PySem.W.nsIn K mainGlobals "_law_x" = some (some (.ref f32))) (l32 : K.lookup f32 = some ⟨oc32, od32, .func (PySem.W.fnOf "_law_x" "_law_x" (defArgs s__law_x) (defBody s__law_x) (defScope s__law_x) .none kV32 dc32 pm32 an32 cd32 ct32), sl32⟩) (c32 : PySem.W.codeIn K cd32 "_law_x" = true) (k32 : PySem.W.keepIn K (.ref f32) = true)
    (a33 : PySem.W.nsIn K mainGlobals "law" = some (some (.ref f33))) (l33 : K.lookup f33 = some ⟨oc33, od33, .func (PySem.W.fnOf "law" "law" (defArgs s_law) (defBody s_law) (defScope s_law) .none kV33 dc33 pm33 an33 cd33 ct33), sl33⟩) (c33 : PySem.W.codeIn K cd33 "law" = true) (k33 : PySem.W.keepIn K (.ref f33) = true)
    (g_ONE : PySem.W.nsIn K mainGlobals "ONE" = some (some (.ref cc_ONE))) (h_ONE : K.lookup cc_ONE = some ⟨.type "tuple", od_ONE, .seq #[.int 1 t_ONE, .int 1 u_ONE] n_ONE, sl_ONE⟩)
    (g_ZERO : PySem.W.nsIn K mainGlobals "ZERO" = some (some (.ref cc_ZERO))) (h_ZERO : K.lookup cc_ZERO = some ⟨.type "tuple", od_ZERO, .seq #[.int 0 t_ZERO, .int 1 u_ZERO] n_ZERO, sl_ZERO⟩)
    (g_gcd : PySem.W.nsIn K mainGlobals "gcd" = some (some (.builtin "math.gcd")))
    (z_abs : PySem.W.nsIn K mainGlobals "abs" = some none)
    (z_all : PySem.W.nsIn K mainGlobals "all" = some none)
    (z_any : PySem.W.nsIn K mainGlobals "any" = some none)
    (z_bool : PySem.W.nsIn K mainGlobals "bool" = some none)
    (z_int : PySem.W.nsIn K mainGlobals "int" = some none)
    (z_isinstance : PySem.W.nsIn K mainGlobals "isinstance" = some none)
    (z_len : PySem.W.nsIn K mainGlobals "len" = some none)
    (z_list : PySem.W.nsIn K mainGlobals "list" = some none)
    (z_range : PySem.W.nsIn K mainGlobals "range" = some none)
    (z_repr : PySem.W.nsIn K mainGlobals "repr" = some none)
    (z_tuple : PySem.W.nsIn K mainGlobals "tuple" = some none)
    : ∃ fd : FuncData, (∀ (s : Shared) (v : Value), BindsTo s fd ⟨[v], []⟩ [("script", v)]) ∧ ∀ base : Heap, K.In base → base.Ns mainGlobals mg → FnOk l.prog w K mg base CX0 6 fa fd ["script"] (spLaw K) := by
  have e := hfa.symm.trans (PySem.W.mg_of X G a33)
  cases e
  have F0 := fun_mk (st := s_is_integer) l0 c0 k0
  have F1 := fun_mk (st := s_is_listed) l1 c1 k1
  have F2 := fun_mk (st := s_is_pair) l2 c2 k2
  have F3 := fun_mk (st := s_lowest) l3 c3 k3
  have F4 := fun_mk (st := s_is_ratio) l4 c4 k4
  have F5 := fun_mk (st := s_plus) l5 c5 k5
  have F6 := fun_mk (st := s_minus) l6 c6 k6
  have F7 := fun_mk (st := s_negated) l7 c7 k7
  have F8 := fun_mk (st := s_times) l8 c8 k8
  have F9 := fun_mk (st := s_less) l9 c9 k9
  have F10 := fun_mk (st := s_at_most) l10 c10 k10
  have F11 := fun_mk (st := s_is_line) l11 c11 k11
  have F12 := fun_mk (st := s_is_on) l12 c12 k12
  have F13 := fun_mk (st := s_odds_at) l13 c13 k13
  have F14 := fun_mk (st := s_are_odds) l14 c14 k14
  have F15 := fun_mk (st := s_rest_of) l15 c15 k15
  have F16 := fun_mk (st := s__law_pen) l16 c16 k16
  have F17 := fun_mk (st := s__law_draw) l17 c17 k17
  have F18 := fun_mk (st := s__law_pick) l18 c18 k18
  have F19 := fun_mk (st := s__law_shared) l19 c19 k19
  have F20 := fun_mk (st := s__law_lowest) l20 c20 k20
  have F21 := fun_mk (st := s__law_plus) l21 c21 k21
  have F22 := fun_mk (st := s__law_minus) l22 c22 k22
  have F23 := fun_mk (st := s__law_times) l23 c23 k23
  have F24 := fun_mk (st := s__law_over) l24 c24 k24
  have F25 := fun_mk (st := s__law_is_less) l25 c25 k25
  have F26 := fun_mk (st := s__law_drawn) l26 c26 k26
  have F27 := fun_mk (st := s__law_line) l27 c27 k27
  have F28 := fun_mk (st := s__law_at) l28 c28 k28
  have F29 := fun_mk (st := s__law_odds_by) l29 c29 k29
  have F30 := fun_mk (st := s__law_odds) l30 c30 k30
  have F31 := fun_mk (st := s__law_rest) l31 c31 k31
  have F32 := fun_mk (st := s__law_x) l32 c32 k32
  have F33 := fun_mk (st := s_law) l33 c33 k33
  have T : Txt K mg { a_is_integer := f0, d_is_integer := _, a_is_listed := f1, d_is_listed := _, a_is_pair := f2, d_is_pair := _, a_lowest := f3, d_lowest := _, a_is_ratio := f4, d_is_ratio := _, a_plus := f5, d_plus := _, a_minus := f6, d_minus := _, a_negated := f7, d_negated := _, a_times := f8, d_times := _, a_less := f9, d_less := _, a_at_most := f10, d_at_most := _, a_is_line := f11, d_is_line := _, a_is_on := f12, d_is_on := _, a_odds_at := f13, d_odds_at := _, a_are_odds := f14, d_are_odds := _, a_rest_of := f15, d_rest_of := _, a__law_pen := f16, d__law_pen := _, a__law_draw := f17, d__law_draw := _, a__law_pick := f18, d__law_pick := _, a__law_shared := f19, d__law_shared := _, a__law_lowest := f20, d__law_lowest := _, a__law_plus := f21, d__law_plus := _, a__law_minus := f22, d__law_minus := _, a__law_times := f23, d__law_times := _, a__law_over := f24, d__law_over := _, a__law_is_less := f25, d__law_is_less := _, a__law_drawn := f26, d__law_drawn := _, a__law_line := f27, d__law_line := _, a__law_at := f28, d__law_at := _, a__law_odds_by := f29, d__law_odds_by := _, a__law_odds := f30, d__law_odds := _, a__law_rest := f31, d__law_rest := _, a__law_x := f32, d__law_x := _, a_law := fa, d_law := _, c_ONE := _, c_ZERO := _ } := {
    m_is_integer := PySem.W.mg_of X G a0, F_is_integer := F0, i_is_integer := F0.binds (ps := ["value"]) fun _ _ _ _ _ _ us hl => match us, hl with | [_], _ => rfl,
    m_is_listed := PySem.W.mg_of X G a1, F_is_listed := F1, i_is_listed := F1.binds (ps := ["value"]) fun _ _ _ _ _ _ us hl => match us, hl with | [_], _ => rfl,
    m_is_pair := PySem.W.mg_of X G a2, F_is_pair := F2, i_is_pair := F2.binds (ps := ["value"]) fun _ _ _ _ _ _ us hl => match us, hl with | [_], _ => rfl,
    m_lowest := PySem.W.mg_of X G a3, F_lowest := F3, i_lowest := F3.binds (ps := ["top", "bottom"]) fun _ _ _ _ _ _ us hl => match us, hl with | [_, _], _ => rfl,
    m_is_ratio := PySem.W.mg_of X G a4, F_is_ratio := F4, i_is_ratio := F4.binds (ps := ["value"]) fun _ _ _ _ _ _ us hl => match us, hl with | [_], _ => rfl,
    m_plus := PySem.W.mg_of X G a5, F_plus := F5, i_plus := F5.binds (ps := ["one", "other"]) fun _ _ _ _ _ _ us hl => match us, hl with | [_, _], _ => rfl,
    m_minus := PySem.W.mg_of X G a6, F_minus := F6, i_minus := F6.binds (ps := ["one", "other"]) fun _ _ _ _ _ _ us hl => match us, hl with | [_, _], _ => rfl,
    m_negated := PySem.W.mg_of X G a7, F_negated := F7, i_negated := F7.binds (ps := ["one"]) fun _ _ _ _ _ _ us hl => match us, hl with | [_], _ => rfl,
    m_times := PySem.W.mg_of X G a8, F_times := F8, i_times := F8.binds (ps := ["one", "other"]) fun _ _ _ _ _ _ us hl => match us, hl with | [_, _], _ => rfl,
    m_less := PySem.W.mg_of X G a9, F_less := F9, i_less := F9.binds (ps := ["one", "other"]) fun _ _ _ _ _ _ us hl => match us, hl with | [_, _], _ => rfl,
    m_at_most := PySem.W.mg_of X G a10, F_at_most := F10, i_at_most := F10.binds (ps := ["one", "other"]) fun _ _ _ _ _ _ us hl => match us, hl with | [_, _], _ => rfl,
    m_is_line := PySem.W.mg_of X G a11, F_is_line := F11, i_is_line := F11.binds (ps := ["value"]) fun _ _ _ _ _ _ us hl => match us, hl with | [_], _ => rfl,
    m_is_on := PySem.W.mg_of X G a12, F_is_on := F12, i_is_on := F12.binds (ps := ["line", "value"]) fun _ _ _ _ _ _ us hl => match us, hl with | [_, _], _ => rfl,
    m_odds_at := PySem.W.mg_of X G a13, F_odds_at := F13, i_odds_at := F13.binds (ps := ["odds", "x"]) fun _ _ _ _ _ _ us hl => match us, hl with | [_, _], _ => rfl,
    m_are_odds := PySem.W.mg_of X G a14, F_are_odds := F14, i_are_odds := F14.binds (ps := ["value", "line"]) fun _ _ _ _ _ _ us hl => match us, hl with | [_, _], _ => rfl,
    m_rest_of := PySem.W.mg_of X G a15, F_rest_of := F15, i_rest_of := F15.binds (ps := ["odds"]) fun _ _ _ _ _ _ us hl => match us, hl with | [_], _ => rfl,
    m__law_pen := PySem.W.mg_of X G a16, F__law_pen := F16, i__law_pen := F16.binds (ps := ["script"]) fun _ _ _ _ _ _ us hl => match us, hl with | [_], _ => rfl,
    m__law_draw := PySem.W.mg_of X G a17, F__law_draw := F17, i__law_draw := F17.binds (ps := ["pen", "many"]) fun _ _ _ _ _ _ us hl => match us, hl with | [_, _], _ => rfl,
    m__law_pick := PySem.W.mg_of X G a18, F__law_pick := F18, i__law_pick := F18.binds (ps := ["pen", "some"]) fun _ _ _ _ _ _ us hl => match us, hl with | [_, _], _ => rfl,
    m__law_shared := PySem.W.mg_of X G a19, F__law_shared := F19, i__law_shared := F19.binds (ps := ["one", "other"]) fun _ _ _ _ _ _ us hl => match us, hl with | [_, _], _ => rfl,
    m__law_lowest := PySem.W.mg_of X G a20, F__law_lowest := F20, i__law_lowest := F20.binds (ps := ["top", "bottom"]) fun _ _ _ _ _ _ us hl => match us, hl with | [_, _], _ => rfl,
    m__law_plus := PySem.W.mg_of X G a21, F__law_plus := F21, i__law_plus := F21.binds (ps := ["one", "other"]) fun _ _ _ _ _ _ us hl => match us, hl with | [_, _], _ => rfl,
    m__law_minus := PySem.W.mg_of X G a22, F__law_minus := F22, i__law_minus := F22.binds (ps := ["one", "other"]) fun _ _ _ _ _ _ us hl => match us, hl with | [_, _], _ => rfl,
    m__law_times := PySem.W.mg_of X G a23, F__law_times := F23, i__law_times := F23.binds (ps := ["one", "other"]) fun _ _ _ _ _ _ us hl => match us, hl with | [_, _], _ => rfl,
    m__law_over := PySem.W.mg_of X G a24, F__law_over := F24, i__law_over := F24.binds (ps := ["one", "other"]) fun _ _ _ _ _ _ us hl => match us, hl with | [_, _], _ => rfl,
    m__law_is_less := PySem.W.mg_of X G a25, F__law_is_less := F25, i__law_is_less := F25.binds (ps := ["one", "other"]) fun _ _ _ _ _ _ us hl => match us, hl with | [_, _], _ => rfl,
    m__law_drawn := PySem.W.mg_of X G a26, F__law_drawn := F26, i__law_drawn := F26.binds (ps := ["pen"]) fun _ _ _ _ _ _ us hl => match us, hl with | [_], _ => rfl,
    m__law_line := PySem.W.mg_of X G a27, F__law_line := F27, i__law_line := F27.binds (ps := ["pen"]) fun _ _ _ _ _ _ us hl => match us, hl with | [_], _ => rfl,
    m__law_at := PySem.W.mg_of X G a28, F__law_at := F28, i__law_at := F28.binds (ps := ["odds", "x"]) fun _ _ _ _ _ _ us hl => match us, hl with | [_, _], _ => rfl,
    m__law_odds_by := PySem.W.mg_of X G a29, F__law_odds_by := F29, i__law_odds_by := F29.binds (ps := ["line", "one", "other"]) fun _ _ _ _ _ _ us hl => match us, hl with | [_, _, _], _ => rfl,
    m__law_odds := PySem.W.mg_of X G a30, F__law_odds := F30, i__law_odds := F30.binds (ps := ["pen", "line"]) fun _ _ _ _ _ _ us hl => match us, hl with | [_, _], _ => rfl,
    m__law_rest := PySem.W.mg_of X G a31, F__law_rest := F31, i__law_rest := F31.binds (ps := ["odds"]) fun _ _ _ _ _ _ us hl => match us, hl with | [_], _ => rfl,
    m__law_x := PySem.W.mg_of X G a32, F__law_x := F32, i__law_x := F32.binds (ps := ["pen", "line"]) fun _ _ _ _ _ _ us hl => match us, hl with | [_, _], _ => rfl,
    m_law := PySem.W.mg_of X G a33, F_law := F33, i_law := F33.binds (ps := ["script"]) fun _ _ _ _ _ _ us hl => match us, hl with | [_], _ => rfl,
    b_abs := PySem.W.mg_none_of X G z_abs,
    b_all := PySem.W.mg_none_of X G z_all,
    b_any := PySem.W.mg_none_of X G z_any,
    b_bool := PySem.W.mg_none_of X G z_bool,
    b_int := PySem.W.mg_none_of X G z_int,
    b_isinstance := PySem.W.mg_none_of X G z_isinstance,
    b_len := PySem.W.mg_none_of X G z_len,
    b_list := PySem.W.mg_none_of X G z_list,
    b_range := PySem.W.mg_none_of X G z_range,
    b_repr := PySem.W.mg_none_of X G z_repr,
    b_tuple := PySem.W.mg_none_of X G z_tuple,
    g_ONE := PySem.W.mg_of X G g_ONE, r_ONE := repK_ii h_ONE,
    g_ZERO := PySem.W.mg_of X G g_ZERO, r_ZERO := repK_ii h_ZERO,
    g_gcd := PySem.W.mg_of X G g_gcd }
  exact ⟨_, fun s v => .of_eq rfl, fun base _ _ => law_end (ok_law T) law_true⟩
end K03
open PySem PySem.W PyProof.Rows
theorem PySem.Challenge.cw_allodds_k03_odds_along_lines_holds : PySem.Challenge.rw_allodds_k03_odds_along_lines.Holds := by
  w_on; o_law; k_head; (case hw => w_witness2)
  k_fill
  refine L2.walk_of (l := PySem.Challenge.rw_allodds_k03_odds_along_lines) (n := 63) (k := 6) (x := "script") (CX := fun _ => L2.CX0) (sp := fun w => Fx.spLaw _) rfl (by decide) rfl ⟨rfl, by decide, by decide⟩ (fun w h Y => PySem.W.kIn_of Y) ?F (fun _ _ a ns hl _ hS => ⟨a, ns, rfl, hS, hl, fun _ => rfl⟩) (fun _ _ _ _ _ h => h)
  case F =>
    intro w mg fa h KX G hmg
    refine' K03.all_mk KX G hmg ?a0 ?l0 ?c0 ?k0 ?a1 ?l1 ?c1 ?k1 ?a2 ?l2 ?c2 ?k2 ?a3 ?l3 ?c3 ?k3 ?a4 ?l4 ?c4 ?k4 ?a5 ?l5 ?c5 ?k5 ?a6 ?l6 ?c6 ?k6 ?a7 ?l7 ?c7 ?k7 ?a8 ?l8 ?c8 ?k8 ?a9 ?l9 ?c9 ?k9 ?a10 ?l10 ?c10 ?k10 ?a11 ?l11 ?c11 ?k11 ?a12 ?l12 ?c12 ?k12 ?a13 ?l13 ?c13 ?k13 ?a14 ?l14 ?c14 ?k14 ?a15 ?l15 ?c15 ?k15 ?a16 ?l16 ?c16 ?k16 ?a17 ?l17 ?c17 ?k17 ?a18 ?l18 ?c18 ?k18 ?a19 ?l19 ?c19 ?k19 ?a20 ?l20 ?c20 ?k20 ?a21 ?l21 ?c21 ?k21 ?a22 ?l22 ?c22 ?k22 ?a23 ?l23 ?c23 ?k23 ?a24 ?l24 ?c24 ?k24 ?a25 ?l25 ?c25 ?k25 ?a26 ?l26 ?c26 ?k26 ?a27 ?l27 ?c27 ?k27 ?a28 ?l28 ?c28 ?k28 ?a29 ?l29 ?c29 ?k29 ?a30 ?l30 ?c30 ?k30 ?a31 ?l31 ?c31 ?k31 ?a32 ?l32 ?c32 ?k32 ?a33 ?l33 ?c33 ?k33 ?g_ONE ?h_ONE ?g_ZERO ?h_ZERO ?g_gcd ?z_abs ?z_all ?z_any ?z_bool ?z_int ?z_isinstance ?z_len ?z_list ?z_range ?z_repr ?z_tuple
    (case a0 => k_is)
    (case l0 => k_is)
    (case c0 => k_is)
    (case k0 => k_is)
    (case a1 => k_is)
    (case l1 => k_is)
    (case c1 => k_is)
    (case k1 => k_is)
    (case a2 => k_is)
    (case l2 => k_is)
    (case c2 => k_is)
    (case k2 => k_is)
    (case a3 => k_is)
    (case l3 => k_is)
    (case c3 => k_is)
    (case k3 => k_is)
    (case a4 => k_is)
    (case l4 => k_is)
    (case c4 => k_is)
    (case k4 => k_is)
    (case a5 => k_is)
    (case l5 => k_is)
    (case c5 => k_is)
    (case k5 => k_is)
    (case a6 => k_is)
    (case l6 => k_is)
    (case c6 => k_is)
    (case k6 => k_is)
    (case a7 => k_is)
    (case l7 => k_is)
    (case c7 => k_is)
    (case k7 => k_is)
    (case a8 => k_is)
    (case l8 => k_is)
    (case c8 => k_is)
    (case k8 => k_is)
    (case a9 => k_is)
    (case l9 => k_is)
    (case c9 => k_is)
    (case k9 => k_is)
    (case a10 => k_is)
    (case l10 => k_is)
    (case c10 => k_is)
    (case k10 => k_is)
    (case a11 => k_is)
    (case l11 => k_is)
    (case c11 => k_is)
    (case k11 => k_is)
    (case a12 => k_is)
    (case l12 => k_is)
    (case c12 => k_is)
    (case k12 => k_is)
    (case a13 => k_is)
    (case l13 => k_is)
    (case c13 => k_is)
    (case k13 => k_is)
    (case a14 => k_is)
    (case l14 => k_is)
    (case c14 => k_is)
    (case k14 => k_is)
    (case a15 => k_is)
    (case l15 => k_is)
    (case c15 => k_is)
    (case k15 => k_is)
    (case a16 => k_is)
    (case l16 => k_is)
    (case c16 => k_is)
    (case k16 => k_is)
    (case a17 => k_is)
    (case l17 => k_is)
    (case c17 => k_is)
    (case k17 => k_is)
    (case a18 => k_is)
    (case l18 => k_is)
    (case c18 => k_is)
    (case k18 => k_is)
    (case a19 => k_is)
    (case l19 => k_is)
    (case c19 => k_is)
    (case k19 => k_is)
    (case a20 => k_is)
    (case l20 => k_is)
    (case c20 => k_is)
    (case k20 => k_is)
    (case a21 => k_is)
    (case l21 => k_is)
    (case c21 => k_is)
    (case k21 => k_is)
    (case a22 => k_is)
    (case l22 => k_is)
    (case c22 => k_is)
    (case k22 => k_is)
    (case a23 => k_is)
    (case l23 => k_is)
    (case c23 => k_is)
    (case k23 => k_is)
    (case a24 => k_is)
    (case l24 => k_is)
    (case c24 => k_is)
    (case k24 => k_is)
    (case a25 => k_is)
    (case l25 => k_is)
    (case c25 => k_is)
    (case k25 => k_is)
    (case a26 => k_is)
    (case l26 => k_is)
    (case c26 => k_is)
    (case k26 => k_is)
    (case a27 => k_is)
    (case l27 => k_is)
    (case c27 => k_is)
    (case k27 => k_is)
    (case a28 => k_is)
    (case l28 => k_is)
    (case c28 => k_is)
    (case k28 => k_is)
    (case a29 => k_is)
    (case l29 => k_is)
    (case c29 => k_is)
    (case k29 => k_is)
    (case a30 => k_is)
    (case l30 => k_is)
    (case c30 => k_is)
    (case k30 => k_is)
    (case a31 => k_is)
    (case l31 => k_is)
    (case c31 => k_is)
    (case k31 => k_is)
    (case a32 => k_is)
    (case l32 => k_is)
    (case c32 => k_is)
    (case k32 => k_is)
    (case a33 => k_is)
    (case l33 => k_is)
    (case c33 => k_is)
    (case k33 => k_is)
    (case g_ONE => k_is)
    (case h_ONE => k_is)
    (case g_ZERO => k_is)
    (case h_ZERO => k_is)
    (case g_gcd => k_is)
    (case z_abs => k_is)
    (case z_all => k_is)
    (case z_any => k_is)
    (case z_bool => k_is)
    (case z_int => k_is)
    (case z_isinstance => k_is)
    (case z_len => k_is)
    (case z_list => k_is)
    (case z_range => k_is)
    (case z_repr => k_is)
    (case z_tuple => k_is)

