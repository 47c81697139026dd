import PyProof.Rows.All
import Wide.All
import OpenK.AllK
import Wide.FinOn
import HandS.ForMost
import HandS.Defaults
import KE.DataEq
import HandS.TupAny
import HandS.IsInst
import HandS.Gcd
import HandS.Style
import HandS.Wide
import HandS.RaiseMore
import KE.GoesEnum
import HandS.Zip
import PyProof.ReprReads
import PyProof.StrHeap
import PyProof.SumAnyB
import PyProof.FitsInt
import PySem.Challenge.RW_allodds_k21_polynomials_moved
set_option Elab.async false
set_option linter.all false
set_option maxRecDepth 100000
set_option maxHeartbeats 4000000
/-! Fx 1: trees for Python's values, slots, what a heap holds of them. -/
namespace Fx
open PySem PySem.Spec PyProof.Rows L2

/-- built-in classes as values -/
inductive Ty where
  | int | bl | str | list | tup | dic
  deriving DecidableEq
def Ty.name : Ty → String
  | .int => "int"
  | .bl => "bool"
  | .str => "str"
  | .list => "list"
  | .tup => "tuple"
  | .dic => "dict"
/-- a value with all that it holds -/
inductive T where
  | ty (n : Ty) | non | bl (b : Bool) | int (i : Int) | str (x : Str) | ref (a : Addr)
  | tup (ts : List T) | lst (ts : List T) | lsf (ts : List T) | dic (ks : List Key) (ts : List T)

/-- a slot: nothing, a value that stays, a list of one's own, a caller's list that is changed here -/
inductive Sl where
  | un | val (t : T) | own (t : T) | io (t : T)
abbrev Sls := List Sl
@[simp] def Sl.cont : Sl → Option T
  | .own t => some t
  | .io t => some t
  | _ => none
def Sl.tree : Sl → Option T
  | .val t => some t
  | .own t => some t
  | .io t => some t
  | .un => none

mutual
inductive Rep (K : PySem.W.Frag) (G : Hp) : V → T → Prop
  | non : Rep K G .non .non
  | bl (b : Bool) : Rep K G (.bl b) (.bl b)
  | int (i : Int) : Rep K G (.int i) (.int i)
  | str (x : Str) : Rep K G (.str x) (.str x)
  | ref (a : Addr) : Rep K G (.ref a) (.ref a)
  | ty (n : Ty) : Rep K G (.ty n.name) (.ty n)
  | tup {a : Addr} {xs : List V} {ts : List T} : SqT K G a xs → Reps K G xs ts → Rep K G (.ref a) (.tup ts)
  | lst {a : Addr} {xs : List V} {ts : List T} : G a = some (.lst xs) → Reps K G xs ts → Rep K G (.ref a) (.lst ts)
  | lsf {a : Addr} {xs : List V} {ts : List T} : SqL K G a xs → Reps K G xs ts → Rep K G (.ref a) (.lsf ts)
  | dic {a : Addr} {kvs : List (Key × V)} {ts : List T} : G a = some (.dK kvs) → Reps K G (kvs.map (·.2)) ts → Rep K G (.ref a) (.dic (kvs.map (·.1)) ts)
inductive Reps (K : PySem.W.Frag) (G : Hp) : List V → List T → Prop
  | nil : Reps K G [] []
  | cons {v : V} {vs : List V} {t : T} {ts : List T} : Rep K G v t → Reps K G vs ts → Reps K G (v :: vs) (t :: ts)
end

/-- all that was tracked stands -/
def Ext (H H' : Hp) : Prop := ∀ a o, H a = some o → H' a = some o
theorem Ext.refl (H : Hp) : Ext H H := fun _ _ e => e
theorem Ext.trans {H H1 H2 : Hp} (a : Ext H H1) (b : Ext H1 H2) : Ext H H2 := fun c o e => b c o (a c o e)
theorem Ext.new {H : Hp} {p : Addr} {o : HO} (n : H p = none) : Ext H (upd H p o) := fun a u e => by rw [upd_ne (ne_of_none e n)]; exact e
theorem Ext.sqL {K : PySem.W.Frag} {G G' : Hp} (x : Ext G G') {a : Addr} {xs : List V} (h : SqL K G a xs) : SqL K G' a xs := by
  rcases h with h | h
  · rcases h with h | ⟨o, h⟩
    · exact .inl (.inl (x _ _ h))
    · exact .inl (.inr ⟨o, x _ _ h⟩)
  · exact .inr h
theorem Ext.sqT {K : PySem.W.Frag} {G G' : Hp} (x : Ext G G') {a : Addr} {xs : List V} (h : SqT K G a xs) : SqT K G' a xs := by
  rcases h with h | h
  · rcases h with h | ⟨o, h⟩
    · exact .inl (.inl (x _ _ h))
    · exact .inl (.inr ⟨o, x _ _ h⟩)
  · exact .inr h
section
variable {K : PySem.W.Frag} {G G' : Hp}
mutual
theorem Rep.mono (x : Ext G G') : ∀ {v : V} {t : T}, Rep K G v t → Rep K G' v t
  | _, _, .non => .non
  | _, _, .bl b => .bl b
  | _, _, .int i => .int i
  | _, _, .str z => .str z
  | _, _, .ref a => .ref a
  | _, _, .ty n => .ty n
  | _, _, .tup h r => .tup (x.sqT h) (Reps.mono x r)
  | _, _, .lst h r => .lst (x _ _ h) (Reps.mono x r)
  | _, _, .lsf h r => .lsf (x.sqL h) (Reps.mono x r)
  | _, _, .dic h r => .dic (x _ _ h) (Reps.mono x r)
theorem Reps.mono (x : Ext G G') : ∀ {vs : List V} {ts : List T}, Reps K G vs ts → Reps K G' vs ts
  | _, _, .nil => .nil
  | _, _, .cons h r => .cons (Rep.mono x h) (Reps.mono x r)
end
theorem Reps.length : ∀ {vs : List V} {ts : List T}, Reps K G vs ts → vs.length = ts.length
  | _, _, .nil => rfl
  | _, _, .cons _ r => by simp [Reps.length r]
theorem Reps.get : ∀ {vs : List V} {ts : List T} {i : Nat} {t : T}, Reps K G vs ts → ts[i]? = some t → ∃ v, vs[i]? = some v ∧ Rep K G v t
  | _, _, i, _, .nil, e => by simp at e
  | _, _, 0, _, .cons h _, e => by simp at e; subst e; exact ⟨_, rfl, h⟩
  | _, _, i + 1, _, .cons _ r, e => by
    obtain ⟨v, h1, h2⟩ := Reps.get (i := i) r (by simpa using e)
    exact ⟨v, by simpa using h1, h2⟩
theorem Reps.getV : ∀ {vs : List V} {ts : List T} {i : Nat} {v : V}, Reps K G vs ts → vs[i]? = some v → ∃ t, ts[i]? = some t ∧ Rep K G v t
  | _, _, i, _, .nil, e => by simp at e
  | _, _, 0, _, .cons h _, e => by simp at e; subst e; exact ⟨_, rfl, h⟩
  | _, _, i + 1, _, .cons _ r, e => by
    obtain ⟨v, h1, h2⟩ := Reps.getV (i := i) r (by simpa using e)
    exact ⟨v, by simpa using h1, h2⟩
theorem Reps.append : ∀ {vs ws : List V} {ts us : List T}, Reps K G vs ts → Reps K G ws us → Reps K G (vs ++ ws) (ts ++ us)
  | _, _, _, _, .nil, s => s
  | _, _, _, _, .cons h r, s => .cons h (Reps.append r s)
theorem Reps.set {v : V} {t : T} (h : Rep K G v t) : ∀ {vs : List V} {ts : List T} (i : Nat), Reps K G vs ts → Reps K G (vs.set i v) (ts.set i t)
  | _, _, _, .nil => .nil
  | _, _, 0, .cons _ r => .cons h r
  | _, _, i + 1, .cons q r => .cons q (Reps.set h i r)
theorem Reps.take : ∀ {vs : List V} {ts : List T} (n : Nat), Reps K G vs ts → Reps K G (vs.take n) (ts.take n)
  | _, _, 0, _ => .nil
  | _, _, _ + 1, .nil => .nil
  | _, _, n + 1, .cons h r => .cons h (Reps.take n r)
theorem Reps.drop : ∀ {vs : List V} {ts : List T} (n : Nat), Reps K G vs ts → Reps K G (vs.drop n) (ts.drop n)
  | _, _, 0, r => r
  | _, _, _ + 1, .nil => .nil
  | _, _, n + 1, .cons _ r => Reps.drop n r
theorem Reps.inv_nil {vs : List V} (r : Reps K G vs []) : vs = [] := by cases r; rfl
theorem Reps.inv_cons {vs : List V} {t : T} {ts : List T} (r : Reps K G vs (t :: ts)) : ∃ v ws, vs = v :: ws ∧ Rep K G v t ∧ Reps K G ws ts := by
  cases r with
  | cons h r => exact ⟨_, _, rfl, h, r⟩
theorem Rep.inv_int {v : V} {i : Int} (r : Rep K G v (.int i)) : v = .int i := by cases r; rfl
theorem Rep.inv_bl {v : V} {b : Bool} (r : Rep K G v (.bl b)) : v = .bl b := by cases r; rfl
theorem Rep.inv_str {v : V} {z : Str} (r : Rep K G v (.str z)) : v = .str z := by cases r; rfl
theorem Rep.inv_non {v : V} (r : Rep K G v .non) : v = .non := by cases r; rfl
theorem Rep.inv_ref {v : V} {a : Addr} (r : Rep K G v (.ref a)) : v = .ref a := by cases r; rfl
theorem Rep.inv_ty {v : V} {n : Ty} (r : Rep K G v (.ty n)) : v = .ty n.name := by cases r; rfl
theorem Rep.inv_tup {v : V} {ts : List T} (r : Rep K G v (.tup ts)) : ∃ a xs, v = .ref a ∧ SqT K G a xs ∧ Reps K G xs ts := by
  cases r with
  | tup h r => exact ⟨_, _, rfl, h, r⟩
theorem Rep.inv_lst {v : V} {ts : List T} (r : Rep K G v (.lst ts)) : ∃ a xs, v = .ref a ∧ G a = some (.lst xs) ∧ Reps K G xs ts := by
  cases r with
  | lst h r => exact ⟨_, _, rfl, h, r⟩
theorem Rep.inv_lsf {v : V} {ts : List T} (r : Rep K G v (.lsf ts)) : ∃ a xs, v = .ref a ∧ SqL K G a xs ∧ Reps K G xs ts := by
  cases r with
  | lsf h r => exact ⟨_, _, rfl, h, r⟩
end

/-- the heap without the lists that are changed -/
def hid (H : Hp) (O : List Addr) : Hp := fun a => if a ∈ O then none else H a
theorem hid_of {H : Hp} {O : List Addr} {a : Addr} (h : a ∉ O) : hid H O a = H a := by unfold hid; rw [if_neg h]
theorem of_hid {H : Hp} {O : List Addr} {a : Addr} {o : HO} (h : hid H O a = some o) : a ∉ O ∧ H a = some o := by
  unfold hid at h
  split at h
  · cases h
  · exact ⟨by assumption, h⟩
theorem hid_ext (H : Hp) (O : List Addr) : Ext (hid H O) H := fun _ _ e => (of_hid e).2
theorem hid_nil (H : Hp) : hid H [] = H := by funext a; unfold hid; simp
theorem Ext.hid {H H' : Hp} (x : Ext H H') (O : List Addr) : Ext (hid H O) (hid H' O) := fun a o e => by
  obtain ⟨h1, h2⟩ := of_hid e
  rw [hid_of h1]; exact x a o h2
theorem hid_new {H : Hp} {O : List Addr} {p : Addr} {o : HO} (hp : p ∉ O) : hid (upd H p o) O p = some o := by rw [hid_of hp, upd_same]
theorem hid_upd {H : Hp} {O : List Addr} {p : Addr} {o : HO} (hp : p ∈ O) : hid (upd H p o) O = hid H O := by
  funext a
  unfold Fx.hid
  by_cases h : a ∈ O
  · rw [if_pos h, if_pos h]
  · rw [if_neg h, if_neg h, upd_ne]
    rintro rfl
    exact h hp

/-- what an owned list holds -/
def RepO (K : PySem.W.Frag) (G H : Hp) (p : Addr) : T → Prop
  | .lst ts => ∃ vs, H p = some (.lst vs) ∧ Reps K G vs ts
  | .dic ks ts => ∃ kvs : List (Key × V), H p = some (.dK kvs) ∧ kvs.map (·.1) = ks ∧ Reps K G (kvs.map (·.2)) ts
  | _ => False
theorem RepO.mono {K : PySem.W.Frag} {G G' H H' : Hp} {p : Addr} {t : T} (h : RepO K G H p t) (x : Ext G G') (e : H' p = H p) : RepO K G' H' p t := by
  cases t with
  | lst ts =>
    obtain ⟨vs, h1, h2⟩ := h
    exact ⟨vs, e.trans h1, h2.mono x⟩
  | dic ks ts =>
    obtain ⟨kvs, h1, h2, h3⟩ := h
    exact ⟨kvs, e.trans h1, h2, h3.mono x⟩
  | _ => exact h.elim
theorem RepO.there {K : PySem.W.Frag} {G H : Hp} {p : Addr} {t : T} (h : RepO K G H p t) : ∃ o, H p = some o := by
  cases t with
  | lst ts => obtain ⟨vs, h1, _⟩ := h; exact ⟨_, h1⟩
  | dic ks ts => obtain ⟨vs, h1, _⟩ := h; exact ⟨_, h1⟩
  | _ => exact h.elim

/-- the address of an owned slot -/
def Owns (σ : L2.St) (env : Sls) (a : Addr) : Prop := ∃ (i : Nat) (t : T), env[i]?.bind Sl.cont = some t ∧ σ[i]? = some (some (V.ref a))

/-- slots and heap hold what env tells; O: what is hidden of the heap (all owned lists, and whatever else) -/
structure RepS (K : PySem.W.Frag) (H : Hp) (O : List Addr) (σ : L2.St) (env : Sls) : Prop where
  len : env.length = σ.length
  dom : ∀ a ∈ O, ∃ o, H a = some o
  val : ∀ (i : Nat) (t : T), env[i]? = some (Sl.val t) → ∃ v : V, σ[i]? = some (some v) ∧ Rep K (hid H O) v t
  own : ∀ (i : Nat) (t : T), env[i]?.bind Sl.cont = some t → ∃ p : Addr, σ[i]? = some (some (V.ref p)) ∧ p ∈ O ∧ RepO K (hid H O) H p t
  inj : ∀ (i j : Nat) (t u : T) (p : Addr), env[i]?.bind Sl.cont = some t → env[j]?.bind Sl.cont = some u → σ[i]? = some (some (V.ref p)) → σ[j]? = some (some (V.ref p)) → i = j

/-- a step: what is owned may change; what was tracked stands else -/
structure Nx (σ : L2.St) (env : Sls) (H : Hp) (O : List Addr) (σ' : L2.St) (env' : Sls) (H' : Hp) (O' : List Addr) : Prop where
  fr : ∀ a o, H a = some o → ¬ Owns σ env a → H' a = some o
  dom : ∀ a o, H a = some o → ∃ o', H' a = some o'
  sub : ∀ a ∈ O', a ∈ O ∨ H a = none
  sup : ∀ a ∈ O, a ∈ O' ∨ Owns σ env a ∨ H a = none
  own : ∀ a, Owns σ' env' a → Owns σ env a ∨ H a = none
  io : ∀ (i : Nat) (t : T), env[i]? = some (Sl.io t) → (∃ t', env'[i]? = some (Sl.io t')) ∧ σ'[i]? = σ[i]?
  ion : ∀ (i : Nat) (t' : T), env'[i]? = some (Sl.io t') → ∃ t, env[i]? = some (Sl.io t)

section
variable {K : PySem.W.Frag} {H H1 H2 H' : Hp} {O O1 O2 O' : List Addr} {σ σ1 σ2 σ' : L2.St} {env env1 env2 env' : Sls}
theorem RepS.owns (S : RepS K H O σ env) {a : Addr} (h : Owns σ env a) : a ∈ O := by
  obtain ⟨i, t, h1, h2⟩ := h
  obtain ⟨p, h3, h4, _⟩ := S.own i t h1
  rw [h2] at h3
  cases h3
  exact h4
theorem RepS.fresh (S : RepS K H O σ env) {p : Addr} (n : H p = none) : p ∉ O := fun h => by
  obtain ⟨o, e⟩ := S.dom p h
  rw [n] at e; cases e
theorem Nx.refl : Nx σ env H O σ env H O := ⟨fun _ _ e _ => e, fun _ o e => ⟨o, e⟩, fun _ h => .inl h, fun _ h => .inl h, fun _ h => .inl h, fun _ t h => ⟨⟨t, h⟩, rfl⟩, fun _ t h => ⟨t, h⟩⟩
theorem Nx.ext (x : Ext H H') : Nx σ env H O σ env H' O := ⟨fun a o e _ => x a o e, fun a o e => ⟨o, x a o e⟩, fun _ h => .inl h, fun _ h => .inl h, fun _ h => .inl h, fun _ t h => ⟨⟨t, h⟩, rfl⟩, fun _ t h => ⟨t, h⟩⟩
theorem none_of_dom (d : ∀ a o, H a = some o → ∃ o', H1 a = some o') {a : Addr} (n : H1 a = none) : H a = none := by
  cases e : H a with
  | none => rfl
  | some o =>
    obtain ⟨o', q⟩ := d a o e
    rw [n] at q; cases q
theorem Nx.trans (a : Nx σ env H O σ1 env1 H1 O1) (b : Nx σ1 env1 H1 O1 σ2 env2 H2 O2) : Nx σ env H O σ2 env2 H2 O2 where
  fr := fun c o e n => b.fr c o (a.fr c o e n) fun q => by
    rcases a.own c q with h | h
    · exact n h
    · rw [e] at h; cases h
  dom := fun c o e => by
    obtain ⟨o1, q⟩ := a.dom c o e
    exact b.dom c o1 q
  sub := fun c h => by
    rcases b.sub c h with h | h
    · exact a.sub c h
    · exact .inr (none_of_dom a.dom h)
  sup := fun c h => by
    rcases a.sup c h with h1 | h1
    · rcases b.sup c h1 with h2 | h2 | h2
      · exact .inl h2
      · rcases a.own c h2 with h3 | h3
        · exact .inr (.inl h3)
        · exact .inr (.inr h3)
      · exact .inr (.inr (none_of_dom a.dom h2))
    · exact .inr h1
  own := fun c h => by
    rcases b.own c h with h | h
    · exact a.own c h
    · exact .inr (none_of_dom a.dom h)
  io := fun i t h => by
    obtain ⟨⟨t1, h1⟩, e1⟩ := a.io i t h
    obtain ⟨⟨t2, h2⟩, e2⟩ := b.io i t1 h1
    exact ⟨⟨t2, h2⟩, e2.trans e1⟩
  ion := fun i t h => by
    obtain ⟨t1, h1⟩ := b.ion i t h
    exact a.ion i t1 h1
end
end Fx

/-! Fx 2: expressions as functions of the slots. -/
namespace Fx
open PySem PySem.Spec PyProof.Rows L2

section
variable {K : PySem.W.Frag} {H H1 H2 H' : Hp} {O O1 O2 O' : List Addr} {σ σ1 σ2 σ' : L2.St} {env env1 env2 env' : Sls}
/-- what is frozen stands -/
theorem RepS.grow (S : RepS K H O σ env) (n : Nx σ env H O σ' env' H' O') : Ext (hid H O) (hid H' O') := fun a o e => by
  obtain ⟨h1, h2⟩ := of_hid e
  have h3 : ¬ Owns σ env a := fun q => h1 (S.owns q)
  have h4 : a ∉ O' := fun q => by
    rcases n.sub a q with z | z
    · exact h1 z
    · rw [h2] at z; cases z
  rw [hid_of h4]
  exact n.fr a o h2 h3
theorem RepS.ext (S : RepS K H O σ env) (x : Ext H H') : RepS K H' O σ env where
  len := S.len
  dom := fun a h => by
    obtain ⟨o, e⟩ := S.dom a h
    exact ⟨o, x a o e⟩
  val := fun i t h => by
    obtain ⟨v, h1, h2⟩ := S.val i t h
    exact ⟨v, h1, h2.mono (x.hid O)⟩
  own := fun i t h => by
    obtain ⟨p, h1, h2, h3⟩ := S.own i t h
    obtain ⟨o, e⟩ := h3.there
    exact ⟨p, h1, h2, h3.mono (x.hid O) ((x p o e).trans e.symm)⟩
  inj := S.inj
end

/-- an expression's function: the slots give a tree and the slots behind -/
abbrev EF := Sls → Option (T × Sls)
abbrev AF := Sls → Option (List T × Sls)
abbrev BF := Sls → Option (Bool × Sls)
def tV (K : PySem.W.Frag) (f : EF) : TE := fun σ H Q => ∃ O env t env', RepS K H O σ env ∧ f env = some (t, env') ∧ ∀ v H' O', Nx σ env H O σ env' H' O' → RepS K H' O' σ env' → Rep K (hid H' O') v t → Q v H'
def tVs (K : PySem.W.Frag) (f : AF) : TA := fun σ H Q => ∃ O env ts env', RepS K H O σ env ∧ f env = some (ts, env') ∧ ∀ vs H' O', Nx σ env H O σ env' H' O' → RepS K H' O' σ env' → Reps K (hid H' O') vs ts → Q vs H'
def tTt (K : PySem.W.Frag) (f : BF) : TT := fun σ H Q => ∃ O env b env', RepS K H O σ env ∧ f env = some (b, env') ∧ ∀ H' O', Nx σ env H O σ env' H' O' → RepS K H' O' σ env' → Q b H'
def EV (X : Cx) (e : Expr) (f : EF) : Prop := PE X e (tV X.K f)
def EA (X : Cx) (es : List Expr) (f : AF) : Prop := PA X es (tVs X.K f)
def TV (X : Cx) (e : Expr) (f : BF) : Prop := PT X e (tTt X.K f)

theorem pe_mono {X : Cx} {e : Expr} {t t' : TE} (h : PE X e t) (m : ∀ σ H Q, t' σ H Q → t σ H Q) : PE X e t' := ⟨fun pins s σ H Q I q => h.run pins s σ H Q I (m _ _ _ q)⟩
theorem pa_mono {X : Cx} {e : List Expr} {t t' : TA} (h : PA X e t) (m : ∀ σ H Q, t' σ H Q → t σ H Q) : PA X e t' := ⟨fun pos pins s σ H Q I q => h.run pos pins s σ H Q I (m _ _ _ q)⟩
theorem pt_mono {X : Cx} {e : Expr} {t t' : TT} (h : PT X e t) (m : ∀ σ H Q, t' σ H Q → t σ H Q) : PT X e t' := ⟨fun pins s σ H Q I q => h.run pins s σ H Q I (m _ _ _ q)⟩
theorem pw_mono {X : Cx} {e : Expr} {t t' : TT} (h : PW X e t) (m : ∀ σ H Q, t' σ H Q → t σ H Q) : PW X e t' := ⟨fun wh pins s σ H Q I q => h.run wh pins s σ H Q I (m _ _ _ q)⟩

/-! ### operators by values -/
abbrev O2 := T → T → Option T
abbrev O1' := T → Option T
abbrev ON := List T → Option T
def rT (K : PySem.W.Frag) (g : O2) : R2 := fun x y H Q => ∃ O a b c, (∀ q ∈ O, ∃ o : HO, H q = some o) ∧ Rep K (hid H O) x a ∧ Rep K (hid H O) y b ∧ g a b = some c ∧ ∀ v H', Ext H H' → Rep K (hid H' O) v c → Q v H'
def rT1 (K : PySem.W.Frag) (g : O1') : V → Hp → VK → Prop := fun x H Q => ∃ O a c, (∀ q ∈ O, ∃ o : HO, H q = some o) ∧ Rep K (hid H O) x a ∧ g a = some c ∧ ∀ v H', Ext H H' → Rep K (hid H' O) v c → Q v H'
def rTN (K : PySem.W.Frag) (g : ON) : List V → Hp → VK → Prop := fun xs H Q => ∃ O as c, (∀ q ∈ O, ∃ o : HO, H q = some o) ∧ Reps K (hid H O) xs as ∧ g as = some c ∧ ∀ v H', Ext H H' → Rep K (hid H' O) v c → Q v H'
def OpT (X : Cx) (f : Value → Value → Sem Value) (g : O2) : Prop := OpR X f (rT X.K g)
def UnT (X : Cx) (f : Value → Sem Value) (g : O1') : Prop := UnR X f (rT1 X.K g)
def CallT (X : Cx) (f : Value) (g : ON) : Prop := CallR X f (rTN X.K g)
def IxT (X : Cx) (g : O2) : Prop := IxR X (rT X.K g)

@[simp] def orO (g g' : O2) : O2 := fun a b => match g a b with
  | some c => some c
  | none => g' a b
def orN (g g' : ON) : ON := fun a => match g a with
  | some c => some c
  | none => g' a
theorem OpR.mono {X : Cx} {f : Value → Value → Sem Value} {r r' : R2} (h : OpR X f r) (m : ∀ x y H Q, r' x y H Q → r x y H Q) : OpR X f r' := by
  intro pins s σ H x y v u Q I rx ry q
  exact h pins s σ H x y v u Q I rx ry (m _ _ _ _ q)
theorem UnR.mono {X : Cx} {f : Value → Sem Value} {r r' : V → Hp → VK → Prop} (h : UnR X f r) (m : ∀ x H Q, r' x H Q → r x H Q) : UnR X f r' := by
  intro pins s σ H x v Q I rx q
  exact h pins s σ H x v Q I rx (m _ _ _ q)
theorem CallR.mono {X : Cx} {f : Value} {r r' : List V → Hp → VK → Prop} (h : CallR X f r) (m : ∀ x H Q, r' x H Q → r x H Q) : CallR X f r' := fun pins s σ H vs us Q I rx q => h pins s σ H vs us Q I rx (m _ _ _ q)
theorem CallR.or {X : Cx} {f : Value} {r r' : List V → Hp → VK → Prop} (h : CallR X f r) (h' : CallR X f r') : CallR X f (fun x H Q => r x H Q ∨ r' x H Q) := fun pins s σ H vs us Q I rx q => by
  rcases q with q | q
  · exact h pins s σ H vs us Q I rx q
  · exact h' pins s σ H vs us Q I rx q
theorem IxR.mono {X : Cx} {r r' : R2} (h : IxR X r) (m : ∀ x y H Q, r' x y H Q → r x y H Q) : IxR X r' := by
  intro value slice pins s σ H x y v u Q I rx ry q hs
  exact h value slice pins s σ H x y v u Q I rx ry (m _ _ _ _ q) hs
theorem OpT.or {X : Cx} {f : Value → Value → Sem Value} {g g' : O2} (h : OpT X f g) (h' : OpT X f g') : OpT X f (orO g g') :=
  OpR.mono (L2.OpR.or h h') fun x y H Q ⟨O, a, b, c, d, ra, rb, e, k⟩ => by
    unfold orO at e
    cases q : g a b with
    | some z =>
      rw [q] at e
      cases e
      exact .inl ⟨O, a, b, _, d, ra, rb, q, k⟩
    | none =>
      rw [q] at e
      exact .inr ⟨O, a, b, c, d, ra, rb, e, k⟩
theorem CallT.or {X : Cx} {f : Value} {g g' : ON} (h : CallT X f g) (h' : CallT X f g') : CallT X f (orN g g') :=
  CallR.mono (CallR.or h h') fun x H Q ⟨O, a, c, d, ra, e, k⟩ => by
    unfold orN at e
    cases q : g a with
    | some z =>
      rw [q] at e
      cases e
      exact .inl ⟨O, a, _, d, ra, q, k⟩
    | none =>
      rw [q] at e
      exact .inr ⟨O, a, c, d, ra, e, k⟩
theorem IxT.or {X : Cx} {g g' : O2} (h : IxT X g) (h' : IxT X g') : IxT X (orO g g') :=
  IxR.mono (L2.IxR.or h h') fun x y H Q ⟨O, a, b, c, d, ra, rb, e, k⟩ => by
    unfold orO at e
    cases q : g a b with
    | some z =>
      rw [q] at e
      cases e
      exact .inl ⟨O, a, b, _, d, ra, rb, q, k⟩
    | none =>
      rw [q] at e
      exact .inr ⟨O, a, b, c, d, ra, rb, e, k⟩

/-! ### expressions -/
@[simp] def eC (t : T) : EF := fun env => some (t, env)
@[simp] def e2 (g : O2) (fa fb : EF) : EF := fun env => (fa env).bind fun p => (fb p.2).bind fun q => (g p.1 q.1).map fun z => (z, q.2)
@[simp] def e1 (g : O1') (fa : EF) : EF := fun env => (fa env).bind fun p => (g p.1).map fun z => (z, p.2)
@[simp] def aN : AF := fun env => some ([], env)
@[simp] def aC (fa : EF) (fr : AF) : AF := fun env => (fa env).bind fun p => (fr p.2).map fun q => (p.1 :: q.1, q.2)
@[simp] def eN (g : ON) (fa : AF) : EF := fun env => (fa env).bind fun p => (g p.1).map fun z => (z, p.2)
/-- a slot is read; what is owned stays so no longer -/
@[simp] def eVar (i : Nat) : EF := fun env => match env[i]? with
  | some (.val t) => some (t, env)
  | some (.own t) => some (t, env.set i (.val t))
  | _ => none
section
variable {X : Cx} {a b : Expr} {es : List Expr} {fa fb : EF} {fr : AF} {pos : Pos}
theorem ev_const {e : Expr} {v : V} {t : T} (h : PE X e (tC v)) (r : ∀ G, Rep X.K G v t) : EV X e (eC t) :=
  pe_mono h fun σ H Q ⟨O, env, t', env', S, e, k⟩ => by
    cases e
    exact k v H O .refl S (r _)
theorem ev_int {i j} : EV X (.Constant (.int i) j pos) (eC (.int i)) := ev_const pe_int fun _ => .int i
theorem ev_bl {i j} : EV X (.Constant (.bool i) j pos) (eC (.bl i)) := ev_const pe_bl fun _ => .bl i
theorem ev_str {i j} : EV X (.Constant (.str i) j pos) (eC (.str i)) := ev_const pe_str fun _ => .str i
theorem ev_non {j} : EV X (.Constant .none j pos) (eC .non) := ev_const pe_non fun _ => .non
theorem set_same {σ : L2.St} {env : Sls} {i : Nat} {x : Sl} {j : Nat} (h : i ≠ j) : (env.set i x)[j]? = env[j]? := by rw [List.getElem?_set_ne h]
/-- an owned list is owned no longer -/
theorem RepS.freeze {K : PySem.W.Frag} {H : Hp} {O : List Addr} {σ : L2.St} {env : Sls} {i : Nat} {t : T} (S : RepS K H O σ env) (h : env[i]? = some (.own t)) :
    ∃ v O', σ[i]? = some (some v) ∧ Rep K (hid H O') v t ∧ Nx σ env H O σ (env.set i (.val t)) H O' ∧ RepS K H O' σ (env.set i (.val t)) := by
  have hc : env[i]?.bind Sl.cont = some t := by rw [h]; rfl
  have hil : i < env.length := (List.getElem?_eq_some_iff.mp h).1
  obtain ⟨p, h1, h2, h3⟩ := S.own i t hc
  have gx : Ext (hid H O) (hid H (O.filter fun a => decide (a ≠ p))) := fun a o e => by
    obtain ⟨q1, q2⟩ := of_hid e
    rw [hid_of (fun z => q1 (List.mem_filter.mp z).1)]
    exact q2
  have hp : hid H (O.filter fun a => decide (a ≠ p)) p = H p := hid_of (fun z => by
    have := (List.mem_filter.mp z).2
    simp at this)
  refine ⟨.ref p, O.filter (fun a => decide (a ≠ p)), h1, ?_, ?_, ?_⟩
  · cases t with
    | lst ts =>
      obtain ⟨vs, q1, q2⟩ := h3
      exact .lst (hp.trans q1) (q2.mono gx)
    | dic ks ts =>
      obtain ⟨kvs, q1, q2, q3⟩ := h3
      subst q2
      exact .dic (hp.trans q1) (q3.mono gx)
    | _ => exact h3.elim
  · have hne : ∀ j x, i ≠ j → (env.set i x)[j]? = env[j]? := fun j x z => by rw [List.getElem?_set_ne z]
    have hie : (env.set i (Sl.val t))[i]? = some (.val t) := by rw [List.getElem?_set_self hil]
    refine ⟨fun _ _ e _ => e, fun _ o e => ⟨o, e⟩, fun a z => .inl (List.mem_filter.mp z).1, fun a z => ?_, fun a z => ?_, fun j u z => ?_, fun j u z => ?_⟩
    · by_cases q : a = p
      · subst q
        exact .inr (.inl ⟨i, t, hc, h1⟩)
      · exact .inl (List.mem_filter.mpr ⟨z, by simpa using q⟩)
    · obtain ⟨j, u, z1, z2⟩ := z
      by_cases q : i = j
      · subst q
        rw [hie] at z1
        cases z1
      · rw [hne j _ q] at z1
        exact .inl ⟨j, u, z1, z2⟩
    · by_cases q : i = j
      · subst q
        rw [h] at z; cases z
      · rw [hne j _ q]
        exact ⟨⟨u, z⟩, rfl⟩
    · by_cases q : i = j
      · subst q
        rw [hie] at z; cases z
      · rw [hne j _ q] at z
        exact ⟨u, z⟩
  · have hne : ∀ j x, i ≠ j → (env.set i x)[j]? = env[j]? := fun j x z => by rw [List.getElem?_set_ne z]
    have hie : (env.set i (Sl.val t))[i]? = some (.val t) := by rw [List.getElem?_set_self hil]
    refine ⟨by simpa using S.len, fun a z => S.dom a (List.mem_filter.mp z).1, fun j u z => ?_, fun j u z => ?_, fun j k u w q z1 z2 z3 z4 => ?_⟩
    · by_cases q : i = j
      · subst q
        rw [hie] at z; cases z
        refine ⟨.ref p, h1, ?_⟩
        cases t with
        | lst ts =>
          obtain ⟨vs, q1, q2⟩ := h3
          exact .lst (hp.trans q1) (q2.mono gx)
        | dic ks ts =>
          obtain ⟨kvs, q1, q2, q3⟩ := h3
          subst q2
          exact .dic (hp.trans q1) (q3.mono gx)
        | _ => exact h3.elim
      · rw [hne j _ q] at z
        obtain ⟨v, z1, z2⟩ := S.val j u z
        exact ⟨v, z1, z2.mono gx⟩
    · by_cases q : i = j
      · subst q
        rw [hie] at z; cases z
      · rw [hne j _ q] at z
        obtain ⟨r, z1, z2, z3⟩ := S.own j u z
        have hr : r ≠ p := fun e => by
          subst e
          exact q (S.inj i j t u r hc z h1 z1)
        exact ⟨r, z1, List.mem_filter.mpr ⟨z2, by simpa using hr⟩, z3.mono gx rfl⟩
    · have back : ∀ j u, (env.set i (Sl.val t))[j]?.bind Sl.cont = some u → env[j]?.bind Sl.cont = some u := fun j u z => by
        by_cases q : i = j
        · subst q
          rw [hie] at z; cases z
        · rw [hne j _ q] at z
          exact z
      exact S.inj j k u w q (back _ _ z1) (back _ _ z2) z3 z4
theorem ev_var {i : Nat} {x : Str} (h : PE X (.Name x pos) (tVar i)) : EV X (.Name x pos) (eVar i) :=
  pe_mono h fun σ H Q ⟨O, env, t, env', S, e, k⟩ => by
    unfold eVar at e
    split at e
    · rename_i u q
      cases e
      obtain ⟨v, h1, h2⟩ := S.val i _ q
      exact ⟨v, h1, k v H O .refl S h2⟩
    · rename_i u q
      cases e
      obtain ⟨v, O', h1, h2, h3, h4⟩ := S.freeze q
      exact ⟨v, h1, k v H O' h3 h4 h2⟩
    · cases e
theorem ev_bin {op : Operator} {g : O2} (ho : OpT X (binaryOp op) g) (ha : EV X a fa) (hb : EV X b fb) : EV X (.BinOp a op b pos) (e2 g fa fb) :=
  pe_mono (pe_op ho ha hb) fun σ H Q ⟨O, env, t, env', S, e, k⟩ => by
    unfold Fx.e2 at e
    obtain ⟨⟨x, e1⟩, q1, e⟩ := Option.bind_eq_some_iff.mp e
    obtain ⟨⟨y, e2⟩, q2, e⟩ := Option.bind_eq_some_iff.mp e
    obtain ⟨z, q3, e⟩ := Option.map_eq_some_iff.mp e
    cases e
    refine ⟨O, env, x, e1, S, q1, fun v H1 O1 n1 S1 r1 => ⟨O1, e1, y, _, S1, q2, fun u H2 O2 n2 S2 r2 => ⟨O2, x, y, t, S2.dom, r1.mono (S1.grow n2), r2, q3, fun w H3 x3 r3 => ?_⟩⟩⟩
    exact k w H3 O2 ((n1.trans n2).trans (.ext x3)) (S2.ext x3) r3
theorem ev_cmp {op : CmpOp} {g : O2} (ho : OpT X (compareOp op) g) (ha : EV X a fa) (hb : EV X b fb) (hm : behindInMarks op b = false) : EV X (.Compare a [op] [b] pos) (e2 g fa fb) :=
  pe_mono (pe_cmpR ho ha hb hm) fun σ H Q ⟨O, env, t, env', S, e, k⟩ => by
    unfold Fx.e2 at e
    obtain ⟨⟨x, e1⟩, q1, e⟩ := Option.bind_eq_some_iff.mp e
    obtain ⟨⟨y, e2⟩, q2, e⟩ := Option.bind_eq_some_iff.mp e
    obtain ⟨z, q3, e⟩ := Option.map_eq_some_iff.mp e
    cases e
    refine ⟨O, env, x, e1, S, q1, fun v H1 O1 n1 S1 r1 => ⟨O1, e1, y, _, S1, q2, fun u H2 O2 n2 S2 r2 => ⟨O2, x, y, t, S2.dom, r1.mono (S1.grow n2), r2, q3, fun w H3 x3 r3 => ?_⟩⟩⟩
    exact k w H3 O2 ((n1.trans n2).trans (.ext x3)) (S2.ext x3) r3
theorem ev_ix {g : O2} (ho : IxT X g) (ha : EV X a fa) (hb : EV X b fb) (hs : PlainIx b) : EV X (.Subscript a b pos) (e2 g fa fb) :=
  pe_mono (pe_ix ho ha hb hs) fun σ H Q ⟨O, env, t, env', S, e, k⟩ => by
    unfold Fx.e2 at e
    obtain ⟨⟨x, e1⟩, q1, e⟩ := Option.bind_eq_some_iff.mp e
    obtain ⟨⟨y, e2⟩, q2, e⟩ := Option.bind_eq_some_iff.mp e
    obtain ⟨z, q3, e⟩ := Option.map_eq_some_iff.mp e
    cases e
    refine ⟨O, env, x, e1, S, q1, fun v H1 O1 n1 S1 r1 => ⟨O1, e1, y, _, S1, q2, fun u H2 O2 n2 S2 r2 => ⟨O2, x, y, t, S2.dom, r1.mono (S1.grow n2), r2, q3, fun w H3 x3 r3 => ?_⟩⟩⟩
    exact k w H3 O2 ((n1.trans n2).trans (.ext x3)) (S2.ext x3) r3
theorem ev_un {op : UnaryOp} {g : O1'} (ho : UnT X (unaryOp op) g) (ha : EV X a fa) : EV X (.UnaryOp op a pos) (e1 g fa) :=
  pe_mono (pe_un ho ha) fun σ H Q ⟨O, env, t, env', S, e, k⟩ => by
    unfold Fx.e1 at e
    obtain ⟨⟨x, e1⟩, q1, e⟩ := Option.bind_eq_some_iff.mp e
    obtain ⟨z, q3, e⟩ := Option.map_eq_some_iff.mp e
    cases e
    refine ⟨O, env, x, _, S, q1, fun v H1 O1 n1 S1 r1 => ⟨O1, x, t, S1.dom, r1, q3, fun w H3 x3 r3 => ?_⟩⟩
    exact k w H3 O1 (n1.trans (.ext x3)) (S1.ext x3) r3
theorem ea_nil : EA X [] aN := pa_mono pa_nil fun σ H Q ⟨O, env, t, env', S, e, k⟩ => by
  cases e
  exact k [] H O .refl S .nil
theorem ea_cons (ha : EV X a fa) (hr : EA X es fr) (hs : starEach (a :: es) X.env = (false, eval a X.env) :: starEach es X.env := by rfl) : EA X (a :: es) (aC fa fr) :=
  pa_mono (pa_cons ha hr hs) fun σ H Q ⟨O, env, t, env', S, e, k⟩ => by
    unfold aC at e
    obtain ⟨⟨x, e1⟩, q1, e⟩ := Option.bind_eq_some_iff.mp e
    obtain ⟨⟨z, e2⟩, q3, e⟩ := Option.map_eq_some_iff.mp e
    cases e
    exact ⟨O, env, x, e1, S, q1, fun v H1 O1 n1 S1 r1 => ⟨O1, e1, z, _, S1, q3, fun vs H2 O2 n2 S2 r2 => k _ H2 O2 (n1.trans n2) S2 (.cons (r1.mono (S1.grow n2)) r2)⟩⟩
/-- a display -/
@[simp] def dTup : ON := fun ts => if ts.length ≤ 100000 then some (.tup ts) else none
@[simp] def dLst : ON := fun ts => if ts.length ≤ 100000 then some (.lst ts) else none
theorem ev_tup {x1} (h : EA X es fr) : EV X (.Tuple es x1 pos) (eN dTup fr) :=
  pe_mono (pe_tup h) fun σ H Q ⟨O, env, t, env', S, e, k⟩ => by
    unfold eN at e
    obtain ⟨⟨x, e1⟩, q1, e⟩ := Option.bind_eq_some_iff.mp e
    obtain ⟨z, q3, e⟩ := Option.map_eq_some_iff.mp e
    cases e
    refine ⟨O, env, x, _, S, q1, fun vs H1 O1 n1 S1 r1 => ?_⟩
    have q3 : (if x.length ≤ 100000 then some (T.tup x) else none) = some t := q3
    split at q3
    · rename_i hl
      cases q3
      refine ⟨by rw [r1.length, sizeLine_eq]; have : x.length ≤ 100000 := hl; omega, fun p hp => ?_⟩
      exact k _ _ O1 (n1.trans (.ext (.new hp))) (S1.ext (.new hp)) (.tup (.inl (.inl (hid_new (S1.fresh hp)))) (r1.mono ((Ext.new hp).hid O1)))
    · cases q3
theorem ev_lst (h : EA X es fr) : EV X (.List es pos) (eN dLst fr) :=
  pe_mono (pe_lst h) fun σ H Q ⟨O, env, t, env', S, e, k⟩ => by
    unfold eN at e
    obtain ⟨⟨x, e1⟩, q1, e⟩ := Option.bind_eq_some_iff.mp e
    obtain ⟨z, q3, e⟩ := Option.map_eq_some_iff.mp e
    cases e
    refine ⟨O, env, x, _, S, q1, fun vs H1 O1 n1 S1 r1 => ?_⟩
    have q3 : (if x.length ≤ 100000 then some (T.lst x) else none) = some t := q3
    split at q3
    · rename_i hl
      cases q3
      refine ⟨by rw [r1.length, sizeLine_eq]; have : x.length ≤ 100000 := hl; omega, fun p hp => ?_⟩
      exact k _ _ O1 (n1.trans (.ext (.new hp))) (S1.ext (.new hp)) (.lst (hid_new (S1.fresh hp)) (r1.mono ((Ext.new hp).hid O1)))
    · cases q3
/-- a built-in called by its name -/
theorem ev_callB {x : Str} {p : Pos} {id : String} {g : ON} {e : Expr} (hc : CallT X (.builtin id) g) (hg : Gl X x) (hm : X.mg x = none) (hv : bootBuiltins x = some (.builtin id)) (ha : EA X (e :: es) fr) (hn : x ≠ "__name__" := by decide) (hdb : (x == ("__debug__" : Str)) = false := by decide)
    (he : starEach (e :: es) X.env = (false, eval e X.env) :: starEach es X.env := by rfl) (hpl : (backTo pos (starEach es X.env)).any (·.1) = false := by rfl) : EV X (.Call (.Name x p) (e :: es) [] pos) (eN g fr) :=
  pe_mono (pe_callB hc hg hm hv ha hn hdb he hpl) fun σ H Q ⟨O, env, t, env', S, e, k⟩ => by
    unfold eN at e
    obtain ⟨⟨x, e1⟩, q1, e⟩ := Option.bind_eq_some_iff.mp e
    obtain ⟨z, q3, e⟩ := Option.map_eq_some_iff.mp e
    cases e
    exact ⟨O, env, x, _, S, q1, fun vs H1 O1 n1 S1 r1 => ⟨O1, x, _, S1.dom, r1, q3, fun w H3 x3 r3 => k w H3 O1 (n1.trans (.ext x3)) (S1.ext x3) r3⟩⟩
theorem ev_callTy {x : Str} {p : Pos} {id : String} {g : ON} {e : Expr} (hc : CallT X (.type id) g) (hg : Gl X x) (hm : X.mg x = none) (hv : bootBuiltins x = some (.type id)) (ha : EA X (e :: es) fr) (hn : x ≠ "__name__" := by decide) (hdb : (x == ("__debug__" : Str)) = false := by decide)
    (he : starEach (e :: es) X.env = (false, eval e X.env) :: starEach es X.env := by rfl) (hpl : (backTo pos (starEach es X.env)).any (·.1) = false := by rfl) : EV X (.Call (.Name x p) (e :: es) [] pos) (eN g fr) :=
  pe_mono (pe_callTy hc hg hm hv ha hn hdb he hpl) fun σ H Q ⟨O, env, t, env', S, e, k⟩ => by
    unfold eN at e
    obtain ⟨⟨x, e1⟩, q1, e⟩ := Option.bind_eq_some_iff.mp e
    obtain ⟨z, q3, e⟩ := Option.map_eq_some_iff.mp e
    cases e
    exact ⟨O, env, x, _, S, q1, fun vs H1 O1 n1 S1 r1 => ⟨O1, x, _, S1.dom, r1, q3, fun w H3 x3 r3 => k w H3 O1 (n1.trans (.ext x3)) (S1.ext x3) r3⟩⟩

/-! ### tests, and, or, not, if -/
@[simp] def tB1 (fa : EF) : BF := fun env => (fa env).bind fun p => match p.1 with
  | .bl b => some (b, p.2)
  | _ => none
theorem tB1_some {fa : EF} {env : Sls} {b : Bool} {env' : Sls} (h : tB1 fa env = some (b, env')) : fa env = some (.bl b, env') := by
  unfold tB1 at h
  obtain ⟨⟨x, e1⟩, q1, e⟩ := Option.bind_eq_some_iff.mp h
  cases x <;> first | (cases e; exact q1) | cases e
/-- an expression of another form than a comparison, and, or, not -/
theorem tv_val (h : EV X a fa) (he : ∀ whole, isTrue a X.env whole = (do let v ← whole; standAt a.pos; holding [v] (truthy v)) := by intro _; rfl) : TV X a (tB1 fa) :=
  pt_mono (pt_val h he) fun σ H Q ⟨O, env, b, env', S, e, k⟩ =>
    ⟨O, env, .bl b, env', S, tB1_some e, fun v H1 O1 n1 S1 r1 => ⟨b, r1.inv_bl, k H1 O1 n1 S1⟩⟩
theorem tv_cmp {op : CmpOp} {g : O2} (ho : OpT X (compareOp op) g) (ha : EV X a fa) (hb : EV X b fb) (hm : behindInMarks op b = false) : TV X (.Compare a [op] [b] pos) (tB1 (e2 g fa fb)) :=
  pt_mono (pt_cmpR ho ha hb hm) fun σ H Q ⟨O, env, c, env', S, e, k⟩ => by
    have e := tB1_some e
    unfold Fx.e2 at e
    obtain ⟨⟨x, e1⟩, q1, e⟩ := Option.bind_eq_some_iff.mp e
    obtain ⟨⟨y, e2⟩, q2, e⟩ := Option.bind_eq_some_iff.mp e
    obtain ⟨z, q3, e⟩ := Option.map_eq_some_iff.mp e
    cases e
    refine ⟨O, env, x, e1, S, q1, fun v H1 O1 n1 S1 r1 => ⟨O1, e1, y, _, S1, q2, fun u H2 O2 n2 S2 r2 => ⟨O2, x, y, _, S2.dom, r1.mono (S1.grow n2), r2, q3, fun w H3 x3 r3 => ⟨c, r3.inv_bl, ?_⟩⟩⟩⟩
    exact k H3 O2 ((n1.trans n2).trans (.ext x3)) (S2.ext x3)
@[simp] def bAnd (f g : BF) : BF := fun env => (f env).bind fun p => if p.1 = true then g p.2 else some (false, p.2)
@[simp] def bOr (f g : BF) : BF := fun env => (f env).bind fun p => if p.1 = true then some (true, p.2) else g p.2
@[simp] def bNot (f : BF) : BF := fun env => (f env).map fun p => (!p.1, p.2)
variable {tf tg : BF} {rest : List Expr}
def TW (X : Cx) (e : Expr) (f : BF) : Prop := PW X e (tTt X.K f)
theorem tw_tv (h : TW X a tf) : TV X a tf := h.pt
theorem tw_and1 (h : TV X a tf) : TW X (.BoolOp .And [a] pos) tf := pw_and1 h
theorem tw_or1 (h : TV X a tf) : TW X (.BoolOp .Or [a] pos) tf := pw_or1 h
theorem tw_and (ha : TV X a tf) (hb : TW X (.BoolOp .And (b :: rest) pos) tg) : TW X (.BoolOp .And (a :: b :: rest) pos) (bAnd tf tg) :=
  pw_mono (pw_and ha hb) fun σ H Q ⟨O, env, c, env', S, e, k⟩ => by
    unfold bAnd at e
    obtain ⟨⟨x, e1⟩, q1, e⟩ := Option.bind_eq_some_iff.mp e
    refine ⟨O, env, x, e1, S, q1, fun H1 O1 n1 S1 => ?_⟩
    cases x with
    | true =>
      rw [if_pos rfl] at e
      rw [if_pos rfl]
      exact ⟨O1, e1, c, env', S1, e, fun H2 O2 n2 S2 => k H2 O2 (n1.trans n2) S2⟩
    | false =>
      rw [if_neg Bool.false_ne_true] at e
      rw [if_neg Bool.false_ne_true]
      cases e
      exact k H1 O1 n1 S1
theorem tw_or (ha : TV X a tf) (hb : TW X (.BoolOp .Or (b :: rest) pos) tg) : TW X (.BoolOp .Or (a :: b :: rest) pos) (bOr tf tg) :=
  pw_mono (pw_or ha hb) fun σ H Q ⟨O, env, c, env', S, e, k⟩ => by
    unfold bOr at e
    obtain ⟨⟨x, e1⟩, q1, e⟩ := Option.bind_eq_some_iff.mp e
    refine ⟨O, env, x, e1, S, q1, fun H1 O1 n1 S1 => ?_⟩
    cases x with
    | false =>
      rw [if_neg Bool.false_ne_true] at e
      rw [if_neg Bool.false_ne_true]
      exact ⟨O1, e1, c, env', S1, e, fun H2 O2 n2 S2 => k H2 O2 (n1.trans n2) S2⟩
    | true =>
      rw [if_pos rfl] at e
      rw [if_pos rfl]
      cases e
      exact k H1 O1 n1 S1
theorem tv_not (ha : TV X a tf) : TV X (.UnaryOp .Not a pos) (bNot tf) :=
  pt_mono (pt_not ha) fun σ H Q ⟨O, env, c, env', S, e, k⟩ => by
    unfold bNot at e
    obtain ⟨⟨z, e2⟩, q3, e⟩ := Option.map_eq_some_iff.mp e
    cases e
    exact ⟨O, env, z, _, S, q3, k⟩
/-- .. as values -/
@[simp] def eAnd (f g : EF) : EF := fun env => (tB1 f env).bind fun p => if p.1 = true then g p.2 else some (.bl false, p.2)
@[simp] def eOr (f g : EF) : EF := fun env => (tB1 f env).bind fun p => if p.1 = true then some (.bl true, p.2) else g p.2
@[simp] def eNot (f : EF) : EF := fun env => (tB1 f env).map fun p => (.bl (!p.1), p.2)
theorem ev_one {op} (h : EV X a fa) : EV X (.BoolOp op [a] pos) fa := pe_one h
theorem ev_and (ha : EV X a fa) (hb : EV X (.BoolOp .And (b :: rest) pos) fb) : EV X (.BoolOp .And (a :: b :: rest) pos) (eAnd fa fb) :=
  pe_mono (pe_and ha hb) fun σ H Q ⟨O, env, t, env', S, e, k⟩ => by
    unfold eAnd at e
    obtain ⟨⟨x, e1⟩, q1, e⟩ := Option.bind_eq_some_iff.mp e
    refine ⟨O, env, .bl x, e1, S, tB1_some q1, fun v H1 O1 n1 S1 r1 => ⟨x, r1.inv_bl, ?_⟩⟩
    cases x with
    | true =>
      rw [if_pos rfl] at e
      rw [if_pos rfl]
      exact ⟨O1, e1, t, env', S1, e, fun v H2 O2 n2 S2 r2 => k v H2 O2 (n1.trans n2) S2 r2⟩
    | false =>
      rw [if_neg Bool.false_ne_true] at e
      rw [if_neg Bool.false_ne_true]
      cases e
      exact k _ H1 O1 n1 S1 (.bl false)
theorem ev_or (ha : EV X a fa) (hb : EV X (.BoolOp .Or (b :: rest) pos) fb) : EV X (.BoolOp .Or (a :: b :: rest) pos) (eOr fa fb) :=
  pe_mono (pe_or ha hb) fun σ H Q ⟨O, env, t, env', S, e, k⟩ => by
    unfold eOr at e
    obtain ⟨⟨x, e1⟩, q1, e⟩ := Option.bind_eq_some_iff.mp e
    refine ⟨O, env, .bl x, e1, S, tB1_some q1, fun v H1 O1 n1 S1 r1 => ⟨x, r1.inv_bl, ?_⟩⟩
    cases x with
    | false =>
      rw [if_neg Bool.false_ne_true] at e
      rw [if_neg Bool.false_ne_true]
      exact ⟨O1, e1, t, env', S1, e, fun v H2 O2 n2 S2 r2 => k v H2 O2 (n1.trans n2) S2 r2⟩
    | true =>
      rw [if_pos rfl] at e
      rw [if_pos rfl]
      cases e
      exact k _ H1 O1 n1 S1 (.bl true)
theorem ev_not (ha : EV X a fa) : EV X (.UnaryOp .Not a pos) (eNot fa) :=
  pe_mono (pe_not ha) fun σ H Q ⟨O, env, t, env', S, e, k⟩ => by
    unfold eNot at e
    obtain ⟨⟨z, e2⟩, q3, e⟩ := Option.map_eq_some_iff.mp e
    cases e
    exact ⟨O, env, .bl z, _, S, tB1_some q3, fun v H1 O1 n1 S1 r1 => ⟨z, r1.inv_bl, k _ H1 O1 n1 S1 (.bl _)⟩⟩
@[simp] def eIf (c : BF) (f g : EF) : EF := fun env => (c env).bind fun p => if p.1 = true then f p.2 else g p.2
theorem ev_ifExp {c : Expr} (hc : TV X c tf) (ha : EV X a fa) (hb : EV X b fb) : EV X (.IfExp c a b pos) (eIf tf fa fb) :=
  pe_mono (pe_ifExp hc ha hb) fun σ H Q ⟨O, env, t, env', S, e, k⟩ => by
    unfold eIf at e
    obtain ⟨⟨x, e1⟩, q1, e⟩ := Option.bind_eq_some_iff.mp e
    refine ⟨O, env, x, e1, S, q1, fun H1 O1 n1 S1 => ?_⟩
    cases x with
    | true =>
      rw [if_pos rfl] at e
      rw [if_pos rfl]
      exact ⟨O1, e1, t, env', S1, e, fun v H2 O2 n2 S2 r2 => k v H2 O2 (n1.trans n2) S2 r2⟩
    | false =>
      rw [if_neg Bool.false_ne_true] at e
      rw [if_neg Bool.false_ne_true]
      exact ⟨O1, e1, t, env', S1, e, fun v H2 O2 n2 S2 r2 => k v H2 O2 (n1.trans n2) S2 r2⟩
end
end Fx

/-! Fx 3: statements, targets, loops, comprehensions as functions of the slots. -/
namespace Fx
open PySem PySem.Spec PyProof.Rows L2

inductive Fl where
  | nx | bk | ct | ret (t : T)
abbrev SF := Sls → Option (Fl × Sls)
def SPost (K : PySem.W.Frag) (σ : L2.St) (env : Sls) (H : Hp) (O : List Addr) (env' : Sls) (fl : Fl) (D : Ends) : Prop :=
  ∀ σ' H' O', Nx σ env H O σ' env' H' O' → RepS K H' O' σ' env' → match fl with
    | .nx => D.nx σ' H'
    | .bk => D.bk σ' H'
    | .ct => D.ct σ' H'
    | .ret t => ∀ v, Rep K (hid H' O') v t → D.rt v H'
def tS (K : PySem.W.Frag) (g : SF) : TS := fun D σ H => ∃ O env fl env', RepS K H O σ env ∧ g env = some (fl, env') ∧ SPost K σ env H O env' fl D
def SV (X : Cx) (st : Stmt) (g : SF) : Prop := PS X st (tS X.K g)
def BV (X : Cx) (sts : List Stmt) (g : SF) : Prop := PSs X sts (tS X.K g)
theorem ps_mono {X : Cx} {e : Stmt} {t t' : TS} (h : PS X e t) (m : ∀ D σ H, t' D σ H → t D σ H) : PS X e t' := ⟨fun pins s σ H Q I q => h.run pins s σ H Q I (m _ _ _ q)⟩
theorem pss_mono {X : Cx} {e : List Stmt} {t t' : TS} (h : PSs X e t) (m : ∀ D σ H, t' D σ H → t D σ H) : PSs X e t' := ⟨fun pins s σ H Q I q => h.run pins s σ H Q I (m _ _ _ q)⟩
theorem pg_mono {X : Cx} {e : Expr} {t t' : TG} (h : PG X e t) (m : ∀ v σ H Q, t' v σ H Q → t v σ H Q) : PG X e t' := ⟨fun pins s σ H v u Q I r q => h.run pins s σ H v u Q I r (m _ _ _ _ q)⟩
theorem pgs_mono {X : Cx} {e : List Expr} {t t' : TGs} (h : PGs X e t) (m : ∀ v σ H Q, t' v σ H Q → t v σ H Q) : PGs X e t' := ⟨fun pins s σ H v u Q I r q => h.run pins s σ H v u Q I r (m _ _ _ _ q)⟩
theorem pi_mono {X : Cx} {tg e : Expr} {t t' : TI} (h : PI X tg e t) (m : ∀ σ H Q, t' σ H Q → t σ H Q) : PI X tg e t' := ⟨fun pins s σ H Q I q => h.run pins s σ H Q I (m _ _ _ q)⟩
theorem pi_or {X : Cx} {tg e : Expr} {t t' : TI} (h : PI X tg e t) (h' : PI X tg e t') : PI X tg e (fun σ H Q => t σ H Q ∨ t' σ H Q) := ⟨fun pins s σ H Q I q => by
  rcases q with q | q
  · exact h.run pins s σ H Q I q
  · exact h'.run pins s σ H Q I q⟩

section
variable {X : Cx} {e : Expr} {st : Stmt} {rest a b : List Stmt} {fa : EF} {g g' : SF} {pos : Pos}
@[simp] def bNil : SF := fun env => some (.nx, env)
@[simp] def bSeq (g g' : SF) : SF := fun env => (g env).bind fun p => match p.1 with
  | .nx => g' p.2
  | .bk => some (.bk, p.2)
  | .ct => some (.ct, p.2)
  | .ret t => some (.ret t, p.2)
theorem bv_nil : BV X [] bNil := pss_mono pss_nil fun D σ H ⟨O, env, fl, env', S, e, k⟩ => by
  cases e
  exact k σ H O .refl S
theorem bv_cons (h : SV X st g) (h' : BV X rest g') : BV X (st :: rest) (bSeq g g') := pss_mono (pss_cons h h') fun D σ H ⟨O, env, fl, env', S, e, k⟩ => by
  unfold bSeq at e
  obtain ⟨⟨f1, e1⟩, q1, e⟩ := Option.bind_eq_some_iff.mp e
  refine ⟨O, env, f1, e1, S, q1, fun σ1 H1 O1 n1 S1 => ?_⟩
  cases f1 with
  | nx => exact ⟨O1, e1, fl, env', S1, e, fun σ2 H2 O2 n2 S2 => k σ2 H2 O2 (n1.trans n2) S2⟩
  | bk => cases e; exact k σ1 H1 O1 n1 S1
  | ct => cases e; exact k σ1 H1 O1 n1 S1
  | ret t => cases e; exact k σ1 H1 O1 n1 S1
theorem bv_one (h : SV X st g) : BV X [st] g := pss_one h
@[simp] def sPass : SF := fun env => some (.nx, env)
@[simp] def sBreak : SF := fun env => some (.bk, env)
@[simp] def sCont : SF := fun env => some (.ct, env)
theorem sv_pass : SV X (.Pass pos) sPass := ps_mono ps_pass fun D σ H ⟨O, env, fl, env', S, e, k⟩ => by
  cases e
  exact k σ H O .refl S
theorem sv_break : SV X (.Break pos) sBreak := ps_mono ps_break fun D σ H ⟨O, env, fl, env', S, e, k⟩ => by
  cases e
  exact k σ H O .refl S
theorem sv_cont : SV X (.Continue pos) sCont := ps_mono ps_continue fun D σ H ⟨O, env, fl, env', S, e, k⟩ => by
  cases e
  exact k σ H O .refl S
@[simp] def sRet (f : EF) : SF := fun env => (f env).map fun p => (.ret p.1, p.2)
theorem sv_ret (h : EV X e fa) : SV X (.Return (some e) pos) (sRet fa) := ps_mono (ps_ret h) fun D σ H ⟨O, env, fl, env', S, e, k⟩ => by
  unfold sRet at e
  obtain ⟨⟨t, e1⟩, q1, e⟩ := Option.map_eq_some_iff.mp e
  cases e
  exact ⟨O, env, t, _, S, q1, fun v H1 O1 n1 S1 r1 => k σ H1 O1 n1 S1 v r1⟩
@[simp] def sRetN : SF := fun env => some (.ret .non, env)
theorem sv_retN : SV X (.Return none pos) sRetN := ps_mono ps_retN fun D σ H ⟨O, env, fl, env', S, e, k⟩ => by
  cases e
  exact k σ H O .refl S _ .non
@[simp] def sExpr (f : EF) : SF := fun env => (f env).map fun p => (.nx, p.2)
theorem sv_expr (h : EV X e fa) (hs : swapsWith e none pos.line X.env = pure false := by rfl) : SV X (.Expr e pos) (sExpr fa) := ps_mono (ps_expr h hs) fun D σ H ⟨O, env, fl, env', S, e, k⟩ => by
  unfold sExpr at e
  obtain ⟨⟨t, e1⟩, q1, e⟩ := Option.map_eq_some_iff.mp e
  cases e
  exact ⟨O, env, t, _, S, q1, fun v H1 O1 n1 S1 r1 => k σ H1 O1 n1 S1⟩
@[simp] def sIf (c : BF) (f g : SF) : SF := fun env => (c env).bind fun p => if p.1 = true then f p.2 else g p.2
theorem sv_if {c : Expr} {tc : BF} (hc : TV X c tc) (ha : BV X a g) (hb : BV X b g') : SV X (.If c a b pos) (sIf tc g g') := ps_mono (ps_if hc ha hb) fun D σ H ⟨O, env, fl, env', S, e, k⟩ => by
  unfold sIf at e
  obtain ⟨⟨x, e1⟩, q1, e⟩ := Option.bind_eq_some_iff.mp e
  refine ⟨O, env, x, e1, S, q1, fun H1 O1 n1 S1 => ?_⟩
  cases x with
  | true =>
    rw [if_pos rfl] at e
    rw [if_pos rfl]
    exact ⟨O1, e1, fl, env', S1, e, fun σ2 H2 O2 n2 S2 => k σ2 H2 O2 (n1.trans n2) S2⟩
  | false =>
    rw [if_neg Bool.false_ne_true] at e
    rw [if_neg Bool.false_ne_true]
    exact ⟨O1, e1, fl, env', S1, e, fun σ2 H2 O2 n2 S2 => k σ2 H2 O2 (n1.trans n2) S2⟩
end

/-! ### targets -/
inductive Pat where
  | nm (i : Nat) | tup (ps : List Pat)
@[simp] def isIo : Option Sl → Bool
  | some (.io _) => true
  | _ => false
@[simp] def putS (i : Nat) (t : T) (env : Sls) : Option Sls := if isIo env[i]? = true then none else some (env.set i (.val t))
mutual
def bindP : Pat → T → Sls → Option Sls
  | .nm i, t, env => putS i t env
  | .tup ps, .tup ts, env => bindPs ps ts env
  | .tup ps, .lst ts, env => none
  | .tup _, _, _ => none
def bindPs : List Pat → List T → Sls → Option Sls
  | [], [], env => some env
  | p :: ps, t :: ts, env => (bindP p t env).bind fun e => bindPs ps ts e
  | _, _, _ => none
end
@[simp] theorem bindP_nm (i : Nat) (t : T) (env : Sls) : bindP (.nm i) t env = putS i t env := by rw [bindP]
@[simp] theorem bindP_tup (ps : List Pat) (ts : List T) (env : Sls) : bindP (.tup ps) (.tup ts) env = bindPs ps ts env := by rw [bindP]
@[simp] theorem bindPs_nil (env : Sls) : bindPs [] [] env = some env := by rw [bindPs]
@[simp] theorem bindPs_cons (p : Pat) (ps : List Pat) (t : T) (ts : List T) (env : Sls) : bindPs (p :: ps) (t :: ts) env = (bindP p t env).bind fun e => bindPs ps ts e := by rw [bindPs]
mutual
@[simp] def Pat.slots : Pat → List Nat
  | .nm i => [i]
  | .tup ps => slotsAll ps
@[simp] def slotsAll : List Pat → List Nat
  | [] => []
  | p :: ps => p.slots ++ slotsAll ps
end
def tG (K : PySem.W.Frag) (p : Pat) : TG := fun v σ H Q => ∃ O env t env', RepS K H O σ env ∧ Rep K (hid H O) v t ∧ bindP p t env = some env' ∧ ∀ σ', Nx σ env H O σ' env' H O → RepS K H O σ' env' → (∀ vs, (∀ i ∈ p.slots, i ∈ vs) → wipe σ' vs = wipe σ vs) → Q σ' H
def tGs (K : PySem.W.Frag) (p : List Pat) : TGs := fun xs σ H Q => ∃ O env ts env', RepS K H O σ env ∧ Reps K (hid H O) xs ts ∧ bindPs p ts env = some env' ∧ ∀ σ', Nx σ env H O σ' env' H O → RepS K H O σ' env' → (∀ vs, (∀ i ∈ slotsAll p, i ∈ vs) → wipe σ' vs = wipe σ vs) → Q σ' H
def GV (X : Cx) (tg : Expr) (p : Pat) : Prop := PG X tg (tG X.K p)
def GVs (X : Cx) (tgs : List Expr) (p : List Pat) : Prop := PGs X tgs (tGs X.K p)

theorem wipe_set {σ : L2.St} {x : Option V} {i : Nat} : ∀ {vs : List Nat}, i ∈ vs → wipe (σ.set i x) vs = wipe σ vs
  | v :: vs, h => by
    unfold wipe
    by_cases e : i = v
    · subst e
      by_cases h2 : i ∈ vs
      · rw [wipe_set h2]
      · have : ∀ (ws : List Nat), i ∉ ws → wipe (σ.set i x) ws = (wipe σ ws).set i x := fun ws => by
          induction ws with
          | nil => intro _; rfl
          | cons w ws ih =>
            intro hn
            have hw : i ≠ w := fun z => hn (by rw [z]; exact List.mem_cons_self)
            unfold wipe
            rw [ih fun z => hn (List.mem_cons_of_mem _ z), List.set_comm _ _ hw]
        rw [this vs h2, List.set_set]
    · have h2 : i ∈ vs := by
        rcases List.mem_cons.mp h with z | z
        · exact absurd z e
        · exact z
      rw [wipe_set h2]
section
variable {K : PySem.W.Frag} {H H1 H2 H' : Hp} {O O1 O2 O' : List Addr} {σ σ1 σ2 σ' : L2.St} {env env1 env2 env' : Sls}
/-- a value is put into a slot -/
theorem RepS.put {i : Nat} {v : V} {t : T} (S : RepS K H O σ env) (r : Rep K (hid H O) v t) (hi : isIo env[i]? = false) : Nx σ env H O (σ.set i (some v)) (env.set i (.val t)) H O ∧ RepS K H O (σ.set i (some v)) (env.set i (.val t)) := by
  have hl := S.len
  have ne1 : ∀ {j : Nat}, i ≠ j → (env.set i (Sl.val t))[j]? = env[j]? := fun z => by rw [List.getElem?_set_ne z]
  have ns1 : ∀ {j : Nat}, i ≠ j → (σ.set i (some v))[j]? = σ[j]? := fun z => by rw [List.getElem?_set_ne z]
  have at1 : ∀ {u : Sl}, (env.set i (Sl.val t))[i]? = some u → u = .val t ∧ i < env.length := fun {u} z => by
    by_cases h : i < env.length
    · rw [List.getElem?_set_self h] at z
      cases z
      exact ⟨rfl, h⟩
    · rw [List.getElem?_eq_none (by simpa using h)] at z
      cases z
  have back : ∀ {j : Nat} {u : T}, (env.set i (Sl.val t))[j]?.bind Sl.cont = some u → i ≠ j ∧ env[j]?.bind Sl.cont = some u := fun {j u} z => by
    by_cases q : i = j
    · subst q
      cases hz : (env.set i (Sl.val t))[i]? with
      | none => rw [hz] at z; cases z
      | some w =>
        obtain ⟨e, _⟩ := at1 hz
        subst e
        rw [hz] at z; cases z
    · exact ⟨q, by rw [ne1 q] at z; exact z⟩
  refine ⟨⟨fun _ _ e _ => e, fun _ o e => ⟨o, e⟩, fun _ h => .inl h, fun _ h => .inl h, fun a h => ?_, fun j u h => ?_, fun j u h => ?_⟩, ⟨by simpa using hl, S.dom, fun j u h => ?_, fun j u h => ?_, fun j k u w p h1 h2 h3 h4 => ?_⟩⟩
  · obtain ⟨j, u, h1, h2⟩ := h
    obtain ⟨q, h1⟩ := back h1
    rw [ns1 q] at h2
    exact .inl ⟨j, u, h1, h2⟩
  · have q : i ≠ j := fun z => by
      subst z
      rw [h] at hi; cases hi
    exact ⟨⟨u, by rw [ne1 q]; exact h⟩, ns1 q⟩
  · by_cases q : i = j
    · subst q
      obtain ⟨e, _⟩ := at1 h
      cases e
    · exact ⟨u, by rw [ne1 q] at h; exact h⟩
  · by_cases q : i = j
    · subst q
      obtain ⟨e, hlt⟩ := at1 h
      cases e
      exact ⟨v, by rw [List.getElem?_set_self (by omega)], r⟩
    · rw [ne1 q] at h
      obtain ⟨w, h1, h2⟩ := S.val j u h
      exact ⟨w, by rw [ns1 q]; exact h1, h2⟩
  · obtain ⟨q, h⟩ := back h
    obtain ⟨p, h1, h2⟩ := S.own j u h
    exact ⟨p, by rw [ns1 q]; exact h1, h2⟩
  · obtain ⟨q1, h1⟩ := back h1
    obtain ⟨q2, h2⟩ := back h2
    rw [ns1 q1] at h3
    rw [ns1 q2] at h4
    exact S.inj j k u w p h1 h2 h3 h4
/-- a new list of one's own is put into a slot -/
theorem RepS.putOwn {i : Nat} {p : Addr} {t : T} (S : RepS K H O σ env) (hp : p ∈ O) (hn : ¬ Owns σ env p) (r : RepO K (hid H O) H p t) (hi : isIo env[i]? = false) :
    RepS K H O (σ.set i (some (.ref p))) (env.set i (.own t)) ∧ (∀ a, Owns (σ.set i (some (.ref p))) (env.set i (.own t)) a → Owns σ env a ∨ a = p) ∧
    (∀ (j : Nat) (u : T), env[j]? = some (Sl.io u) → (env.set i (.own t))[j]? = some (Sl.io u) ∧ (σ.set i (some (V.ref p)))[j]? = σ[j]?) ∧ (∀ (j : Nat) (u : T), (env.set i (.own t))[j]? = some (Sl.io u) → env[j]? = some (Sl.io u)) := by
  have hl := S.len
  have ne1 : ∀ {j : Nat}, i ≠ j → (env.set i (Sl.own t))[j]? = env[j]? := fun z => by rw [List.getElem?_set_ne z]
  have ns1 : ∀ {j : Nat}, i ≠ j → (σ.set i (some (V.ref p)))[j]? = σ[j]? := fun z => by rw [List.getElem?_set_ne z]
  have at1 : ∀ {u : Sl}, (env.set i (Sl.own t))[i]? = some u → u = .own t ∧ i < env.length := fun {u} z => by
    by_cases h : i < env.length
    · rw [List.getElem?_set_self h] at z
      cases z
      exact ⟨rfl, h⟩
    · rw [List.getElem?_eq_none (by simpa using h)] at z
      cases z
  have sat : i < env.length → (σ.set i (some (V.ref p)))[i]? = some (some (V.ref p)) := fun h => by rw [List.getElem?_set_self (by omega)]
  have cas : ∀ {j : Nat} {u : T}, (env.set i (Sl.own t))[j]?.bind Sl.cont = some u → (i = j ∧ u = t ∧ i < env.length) ∨ (i ≠ j ∧ env[j]?.bind Sl.cont = some u) := fun {j u} z => by
    by_cases q : i = j
    · subst q
      cases hz : (env.set i (Sl.own t))[i]? with
      | none => rw [hz] at z; cases z
      | some w =>
        obtain ⟨e, h⟩ := at1 hz
        subst e
        rw [hz] at z; cases z
        exact .inl ⟨rfl, rfl, h⟩
    · exact .inr ⟨q, by rw [ne1 q] at z; exact z⟩
  refine ⟨⟨by simpa using hl, S.dom, fun j u h => ?_, fun j u h => ?_, fun j k u w q h1 h2 h3 h4 => ?_⟩, fun a h => ?_, fun j u h => ?_, fun j u h => ?_⟩
  · by_cases q : i = j
    · subst q
      obtain ⟨e, _⟩ := at1 h
      cases e
    · rw [ne1 q] at h
      obtain ⟨w, h1, h2⟩ := S.val j u h
      exact ⟨w, by rw [ns1 q]; exact h1, h2⟩
  · rcases cas h with ⟨rfl, rfl, hlt⟩ | ⟨q, h⟩
    · exact ⟨p, sat hlt, hp, r⟩
    · obtain ⟨p, h1, h2⟩ := S.own j u h
      exact ⟨p, by rw [ns1 q]; exact h1, h2⟩
  · rcases cas h1 with ⟨e1, _, hlt⟩ | ⟨q1, g1⟩
    · subst e1
      rcases cas h2 with ⟨e2, _, _⟩ | ⟨q2, g2⟩
      · exact e2
      · rw [sat hlt] at h3
        cases h3
        rw [ns1 q2] at h4
        exact (hn ⟨k, w, g2, h4⟩).elim
    · rw [ns1 q1] at h3
      rcases cas h2 with ⟨e2, _, hlt⟩ | ⟨q2, g2⟩
      · subst e2
        rw [sat hlt] at h4
        cases h4
        exact (hn ⟨j, u, g1, h3⟩).elim
      · rw [ns1 q2] at h4
        exact S.inj j k u w q g1 g2 h3 h4
  · obtain ⟨j, u, h1, h2⟩ := h
    rcases cas h1 with ⟨rfl, rfl, hlt⟩ | ⟨q1, h1⟩
    · rw [sat hlt] at h2
      cases h2
      exact .inr rfl
    · rw [ns1 q1] at h2
      exact .inl ⟨j, u, h1, h2⟩
  · have q : i ≠ j := fun z => by
      subst z
      rw [h] at hi; cases hi
    exact ⟨by rw [ne1 q]; exact h, ns1 q⟩
  · by_cases q : i = j
    · subst q
      obtain ⟨e, _⟩ := at1 h
      cases e
    · rw [ne1 q] at h
      exact h
end
section
variable {X : Cx} {pos : Pos} {tg : Expr} {tgs : List Expr} {p : Pat} {ps : List Pat}
theorem gv_name {i : Nat} {x : Str} (hN : X.N.Nodup) (hi : X.N[i]? = some x) (hx : Loc X.env.scope x) (hf : X.fn x = true ∨ X.env.scope.names.lookup x = some .local := by first | exact .inl rfl | exact .inr rfl | assumption) : GV X (.Name x pos) (.nm i) :=
  pg_mono (pg_name hN hi hx hf) fun v σ H Q ⟨O, env, t, env', S, r, e, k⟩ => by
    have e : putS i t env = some env' := by
      unfold bindP at e
      exact e
    unfold putS at e
    split at e
    · cases e
    · rename_i h
      cases e
      obtain ⟨n, S'⟩ := S.put r (by simpa using h)
      exact k _ n S' fun vs hv => wipe_set (hv i (by simp [Pat.slots]))
theorem gvs_nil : GVs X [] [] := pgs_mono pgs_nil fun v σ H Q ⟨O, env, ts, env', S, r, e, k⟩ => by
  cases r with
  | nil =>
    unfold bindPs at e
    cases e
    exact ⟨rfl, k σ .refl S fun _ _ => rfl⟩
  | cons _ _ =>
    unfold bindPs at e
    cases e
theorem gvs_cons (h1 : GV X tg p) (h2 : GVs X tgs ps) (hs : (assignEach (tg :: tgs) X.env).map (·.2) = assign tg X.env :: (assignEach tgs X.env).map (·.2) := by rfl) : GVs X (tg :: tgs) (p :: ps) :=
  pgs_mono (pgs_cons h1 h2 hs) fun v σ H Q ⟨O, env, ts, env', S, r, e, k⟩ => by
    cases r with
    | nil =>
      unfold bindPs at e
      cases e
    | cons r1 rs =>
      unfold bindPs at e
      obtain ⟨e1, q1, e⟩ := Option.bind_eq_some_iff.mp e
      refine ⟨_, _, rfl, O, env, _, e1, S, r1, q1, fun σ1 n1 S1 w1 => ⟨O, e1, _, env', S1, rs, e, fun σ2 n2 S2 w2 => k σ2 (n1.trans n2) S2 fun vs hv => ?_⟩⟩
      rw [w2 vs fun i hi => hv i (by unfold slotsAll; exact List.mem_append_right _ hi), w1 vs fun i hi => hv i (by unfold slotsAll; exact List.mem_append_left _ hi)]
theorem gv_tup {k : Nat} (hc : X.calm = true) (h : GVs X tgs ps) (hn : (assignEach tgs X.env).length = ps.length := by rfl) (hst : (assignEach tgs X.env).findIdx? (·.1) = none := by rfl) : GV X (.Tuple tgs k pos) (.tup ps) :=
  pg_mono (pg_tup hc h hn hst) fun v σ H Q ⟨O, env, t, env', S, r, e, k⟩ => by
    cases r with
    | tup hq rs =>
      unfold bindP at e
      refine ⟨_, _, rfl, ?_, ?_, O, env, _, env', S, rs, e, fun σ' n S' w => k σ' n S' fun vs hv => w vs fun i hi => hv i (by unfold Pat.slots; exact hi)⟩
      · exact (hid_ext H O).sqT hq
      · have : ∀ (ps : List Pat) (ts : List T) (e e' : Sls), bindPs ps ts e = some e' → ts.length = ps.length := fun ps => by
          induction ps with
          | nil =>
            intro ts e e' h
            cases ts with
            | nil => rfl
            | cons _ _ => unfold bindPs at h; cases h
          | cons p ps ih =>
            intro ts e e' h
            cases ts with
            | nil => unfold bindPs at h; cases h
            | cons t ts =>
              unfold bindPs at h
              obtain ⟨e1, _, h⟩ := Option.bind_eq_some_iff.mp h
              simp [ih ts e1 e' h]
        rw [rs.length]
        exact this _ _ _ _ e
    | _ =>
      unfold bindP at e
      cases e
/-- target = value -/
@[simp] def sAsg (p : Pat) (f : EF) : SF := fun env => (f env).bind fun q => (bindP p q.1 q.2).map fun e => (.nx, e)
theorem sv_asg {e : Expr} {fa : EF} (he : EV X e fa) (hg : GV X tg p) (hs : swapsWithSole [tg] e pos.line X.env = pure false := by rfl) (hw : swappedStores [tg] e X.env = pure none := by rfl)
    (h1 : (assignEach [tg] X.env).map (·.2) = [assign tg X.env] := by rfl) : SV X (.Assign [tg] e pos) (sAsg p fa) :=
  ps_mono (ps_asg he hg hs hw h1) fun D σ H ⟨O, env, fl, env', S, e, k⟩ => by
    unfold sAsg at e
    obtain ⟨⟨t, e1⟩, q1, e⟩ := Option.bind_eq_some_iff.mp e
    obtain ⟨e2, q2, e⟩ := Option.map_eq_some_iff.mp e
    cases e
    exact ⟨O, env, t, e1, S, q1, fun v H1 O1 n1 S1 r1 => ⟨O1, e1, t, _, S1, r1, q2, fun σ2 n2 S2 _ => k σ2 H1 O1 (n1.trans n2) S2⟩⟩
/-- name = value -/
theorem sv_set {i : Nat} {x : Str} {e : Expr} {fa : EF} {pos' : Pos} (hN : X.N.Nodup) (hi : X.N[i]? = some x) (hx : Loc X.env.scope x) (he : EV X e fa) (hs : swapsWith e (some (.Name x pos')) pos.line X.env = pure false := by rfl) (hf : X.fn x = true ∨ X.env.scope.names.lookup x = some .local := by first | exact .inl rfl | exact .inr rfl | assumption) :
    SV X (.Assign [.Name x pos'] e pos) (sAsg (.nm i) fa) :=
  ps_mono (ps_set hN hi hx he hs hf) fun D σ H ⟨O, env, fl, env', S, e, k⟩ => by
    unfold sAsg at e
    obtain ⟨⟨t, e1⟩, q1, e⟩ := Option.bind_eq_some_iff.mp e
    obtain ⟨e2, q2, e⟩ := Option.map_eq_some_iff.mp e
    cases e
    have q2 : putS i t e1 = some env' := by unfold bindP at q2; exact q2
    unfold putS at q2
    split at q2
    · cases q2
    · rename_i h
      cases q2
      refine ⟨O, env, t, e1, S, q1, fun v H1 O1 n1 S1 r1 => ?_⟩
      obtain ⟨n, S'⟩ := S1.put r1 (by simpa using h)
      exact k _ H1 O1 (n1.trans n) S'
/-- a, b = x, y with plain local names -/
@[simp] def sPar (i j : Nat) (f : AF) : SF := fun env => (f env).bind fun q => match q.1 with
  | [t, u] => (putS i t q.2).bind fun e1 => (putS j u e1).map fun e2 => (.nx, e2)
  | _ => none
theorem sv_par {i j : Nat} {x y : Str} {a b : Expr} {fa : AF} {px py pt : Pos} {kt k2 pt2} (hc : X.calm = true) (hN : X.N.Nodup) (hi : X.N[i]? = some x) (hj : X.N[j]? = some y) (hij : i ≠ j)
    (hx : X.env.scope.names.lookup x = some .local) (hy : X.env.scope.names.lookup y = some .local) (ha : EA X [a, b] fa)
    (hw : swappedStores [.Tuple [.Name x px, .Name y py] kt pt] (.Tuple [a, b] k2 pt2) X.env = pure (some [x, y]))
    (hs : swapsWithSole [.Tuple [.Name x px, .Name y py] kt pt] (.Tuple [a, b] k2 pt2) pos.line X.env = pure false := by rfl) :
    SV X (.Assign [.Tuple [.Name x px, .Name y py] kt pt] (.Tuple [a, b] k2 pt2) pos) (sPar i j fa) :=
  ps_mono (ps_par hc hN hi hj hij hx hy ha hw hs) fun D σ H ⟨O, env, fl, env', S, e, k⟩ => by
    unfold sPar at e
    obtain ⟨⟨ts, e1⟩, q1, e⟩ := Option.bind_eq_some_iff.mp e
    refine ⟨O, env, ts, e1, S, q1, fun vs H1 O1 n1 S1 r1 => ?_⟩
    cases r1 with
    | nil => cases e
    | cons r1 r2 =>
      cases r2 with
      | nil => cases e
      | cons r2 r3 =>
        cases r3 with
        | cons _ _ => cases e
        | nil =>
          obtain ⟨e2, q2, e⟩ := Option.bind_eq_some_iff.mp e
          obtain ⟨e3, q3, e⟩ := Option.map_eq_some_iff.mp e
          cases e
          unfold putS at q2
          split at q2
          · cases q2
          · rename_i h
            cases q2
            unfold putS at q3
            split at q3
            · cases q3
            · rename_i h'
              cases q3
              obtain ⟨n, S'⟩ := S1.put r1 (by simpa using h)
              obtain ⟨n2, S2⟩ := S'.put r2 (by simpa using h')
              exact ⟨_, _, rfl, k _ H1 O1 ((n1.trans n).trans n2) S2⟩
end

/-! ### what a loop walks -/
structure WkT (K : PySem.W.Frag) (J : It) (ts : List T) (G0 : Hp) : Prop where
  go : ∀ i H, i < ts.length → Ext G0 H → J.go i H
  stop : ∀ H, Ext G0 H → J.stop ts.length H
  yld : ∀ i H x H', i < ts.length → Ext G0 H → J.yld i H x H' → Ext H H' ∧ ∀ O, (∀ q ∈ O, ∃ o : HO, H q = some o) → Ext G0 (hid H O) → ∃ t, ts[i]? = some t ∧ Rep K (hid H' O) x t
def tI (K : PySem.W.Frag) (f : AF) : TI := fun σ H R => ∃ O env ts env', RepS K H O σ env ∧ f env = some (ts, env') ∧ ∀ J H' O', Nx σ env H O σ env' H' O' → RepS K H' O' σ env' → WkT K J ts (hid H' O') → R J H'
def IV (X : Cx) (tg iter : Expr) (f : AF) : Prop := PI X tg iter (tI X.K f)
@[simp] def itS (f : EF) : AF := fun env => (f env).bind fun p => match p.1 with
  | .tup ts => some (ts, p.2)
  | .lst ts => some (ts, p.2)
  | .lsf ts => some (ts, p.2)
  | _ => none
section
variable {K : PySem.W.Frag} {G : Hp} {a : Addr} {xs : List V} {ts : List T}
theorem wk_list (h : SqL K G a xs) (r : Reps K G xs ts) : WkT K (Itl K a) ts G where
  go := fun i H hi x => by
    have h2 : i < xs.length := by rw [r.length]; exact hi
    exact ⟨xs, _, x.sqL h, List.getElem?_eq_getElem h2⟩
  stop := fun H x => ⟨xs, x.sqL h, by rw [r.length]; exact Nat.le_refl _⟩
  yld := fun i H v H' hi x y => by
    obtain ⟨rfl, y⟩ := y
    obtain ⟨t, h1, h2⟩ := r.getV (y xs (x.sqL h))
    exact ⟨.refl _, fun O _ x2 => ⟨t, h1, h2.mono x2⟩⟩
theorem wk_tup (h : SqT K G a xs) (r : Reps K G xs ts) : WkT K (Itt K a) ts G where
  go := fun i H hi x => by
    have h2 : i < xs.length := by rw [r.length]; exact hi
    exact ⟨xs, _, x.sqT h, List.getElem?_eq_getElem h2⟩
  stop := fun H x => ⟨xs, x.sqT h, by rw [r.length]; exact Nat.le_refl _⟩
  yld := fun i H v H' hi x y => by
    obtain ⟨rfl, y⟩ := y
    obtain ⟨t, h1, h2⟩ := r.getV (y xs (x.sqT h))
    exact ⟨.refl _, fun O _ x2 => ⟨t, h1, h2.mono x2⟩⟩
def rangeT (lo : Int) (n : Nat) : List T := (List.range n).map fun i => .int (lo + (i : Nat))
theorem rangeT_len {lo : Int} {n : Nat} : (rangeT lo n).length = n := by simp [rangeT]
theorem rangeT_get {lo : Int} {n i : Nat} (h : i < n) : (rangeT lo n)[i]? = some (.int (lo + (i : Nat))) := by simp [rangeT, h]
theorem wk_range {lo : Int} {n : Nat} : WkT K (Itr lo n) (rangeT lo n) G where
  go := fun i H hi x => by
    rw [rangeT_len] at hi
    exact hi
  stop := fun H x => by
    rw [rangeT_len]
    exact Nat.le_refl _
  yld := fun i H v H' hi x y => by
    obtain ⟨rfl, rfl⟩ := y
    rw [rangeT_len] at hi
    exact ⟨.refl _, fun O _ _ => ⟨_, rangeT_get hi, .int _⟩⟩
end
section
variable {X : Cx} {pos : Pos} {tg e : Expr} {es : List Expr}
/-- a list or a tuple is walked -/
theorem iv_seq {f : EF} (h : EV X e f) : IV X tg e (itS f) :=
  pi_mono (pi_or (pi_list (tg := tg) h) (pi_tup (tg := tg) h)) fun σ H R ⟨O, env, ts, env', S, e, k⟩ => by
    unfold itS at e
    obtain ⟨⟨t, e1⟩, q1, e⟩ := Option.bind_eq_some_iff.mp e
    cases t with
    | lst us =>
      cases e
      refine .inl ⟨O, env, _, e1, S, q1, fun v H1 O1 n1 S1 r1 => ?_⟩
      obtain ⟨a, xs, rfl, h1, h2⟩ := r1.inv_lst
      exact ⟨a, rfl, ⟨xs, (hid_ext H1 O1).sqL (.of h1)⟩, k _ H1 O1 n1 S1 (wk_list (.of h1) h2)⟩
    | lsf us =>
      cases e
      refine .inl ⟨O, env, _, e1, S, q1, fun v H1 O1 n1 S1 r1 => ?_⟩
      obtain ⟨a, xs, rfl, h1, h2⟩ := r1.inv_lsf
      exact ⟨a, rfl, ⟨xs, (hid_ext H1 O1).sqL h1⟩, k _ H1 O1 n1 S1 (wk_list h1 h2)⟩
    | tup us =>
      cases e
      refine .inr ⟨O, env, _, e1, S, q1, fun v H1 O1 n1 S1 r1 => ?_⟩
      obtain ⟨a, xs, rfl, h1, h2⟩ := r1.inv_tup
      exact ⟨a, rfl, ⟨xs, (hid_ext H1 O1).sqT h1⟩, k _ H1 O1 n1 S1 (wk_tup h1 h2)⟩
    | _ => cases e
@[simp] def itRange1 (f : AF) : AF := fun env => (f env).bind fun p => match p.1 with
  | [.int n] => if -1000000000 < n ∧ n < 1000000000 then some (rangeT 0 n.toNat, p.2) else none
  | _ => none
@[simp] def itRange2 (f : AF) : AF := fun env => (f env).bind fun p => match p.1 with
  | [.int m, .int n] => if (-1000000000 < n ∧ n < 1000000000) ∧ (-1000000000 < m ∧ m < 1000000000) then some (rangeT m (n - m).toNat, p.2) else none
  | _ => none
end

/-! ### for -/
@[simp] def forL (p : Pat) (b : SF) : List T → Sls → Option (Fl × Sls)
  | [], env => some (.nx, env)
  | t :: r, env => (bindP p t env).bind fun e1 => (b e1).bind fun q => match q.1 with
    | .nx => forL p b r q.2
    | .ct => forL p b r q.2
    | .bk => some (.nx, q.2)
    | .ret t => some (.ret t, q.2)
@[simp] def sFor (fi : AF) (p : Pat) (b : SF) : SF := fun env => (fi env).bind fun q => forL p b q.1 q.2
theorem drop_cons {α : Type} {l : List α} {i : Nat} {x : α} (h : l[i]? = some x) : l.drop i = x :: l.drop (i + 1) := by
  obtain ⟨h1, h2⟩ := List.getElem?_eq_some_iff.mp h
  rw [List.drop_eq_getElem_cons h1, h2]
theorem sv_for {X : Cx} {tg iter : Expr} {body : List Stmt} {fi : AF} {p : Pat} {b : SF} {pos : Pos} (hp : PassesOwn (model X.prog X.w) X.A X.env X.xe) (hc : X.calm = true) (hi : IV X tg iter fi) (hg : GV X tg p) (hb : BV X body b)
    (hs : ∀ x, foldedSetIterable iter X.env x = pure x := by intro _; rfl) : SV X (.For tg iter body [] pos) (sFor fi p b) :=
  ps_mono (ps_for hp hc hi hg hb hs) fun D σ H ⟨O, env, fl, envf, S, e, k⟩ => by
    unfold sFor at e
    obtain ⟨⟨ts, e1⟩, q1, e⟩ := Option.bind_eq_some_iff.mp e
    refine ⟨O, env, ts, e1, S, q1, fun J H1 O1 n1 S1 w => ?_⟩
    have e : forL p b ts e1 = some (fl, envf) := e
    let Pv : Nat → L2.St → Hp → Prop := fun i σi Hi => ∃ envi Oi, RepS X.K Hi Oi σi envi ∧ Nx σ e1 H1 O1 σi envi Hi Oi ∧ forL p b (ts.drop i) envi = some (fl, envf)
    refine ⟨fun i m σi Hi => m = ts.length - i ∧ i ≤ ts.length ∧ Pv i σi Hi, ⟨_, rfl, Nat.zero_le _, e1, O1, S1, .refl, by rw [List.drop_zero]; exact e⟩, ?_⟩
    rintro i m σi Hi ⟨rfl, hil, envi, Oi, Si, ni, fi⟩
    have gx : Ext (hid H1 O1) (hid Hi Oi) := S1.grow ni
    have gx2 : Ext (hid H1 O1) Hi := gx.trans (hid_ext _ _)
    by_cases hlt : i < ts.length
    · refine .inr ⟨w.go i Hi hlt gx2, Pv (i + 1), fun σ' H' q => ⟨ts.length - (i + 1), by omega, rfl, hlt, q⟩, fun x H' y => ?_⟩
      obtain ⟨xx, y2⟩ := w.yld i Hi x H' hlt gx2 y
      obtain ⟨t, ht, rt⟩ := y2 Oi Si.dom gx
      rw [drop_cons ht] at fi
      unfold forL at fi
      obtain ⟨e2, q2, fi⟩ := Option.bind_eq_some_iff.mp fi
      obtain ⟨⟨f3, e3⟩, q3, fi⟩ := Option.bind_eq_some_iff.mp fi
      refine ⟨Oi, envi, t, e2, Si.ext xx, rt, q2, fun σ2 n2 S2 _ => ⟨Oi, e2, f3, e3, S2, q3, fun σ3 H3 O3 n3 S3 => ?_⟩⟩
      have nn : Nx σ e1 H1 O1 σ3 e3 H3 O3 := ((ni.trans (.ext xx)).trans n2).trans n3
      cases f3 with
      | nx => exact ⟨e3, O3, S3, nn, fi⟩
      | ct => exact ⟨e3, O3, S3, nn, fi⟩
      | bk => cases fi; exact k σ3 H3 O3 (n1.trans nn) S3
      | ret t => cases fi; exact k σ3 H3 O3 (n1.trans nn) S3
    · have hi : i = ts.length := by omega
      subst hi
      rw [List.drop_length] at fi
      cases fi
      exact .inl ⟨w.stop Hi gx2, k σi Hi Oi (n1.trans ni) Si⟩

/-! ### while -/
def whileL (c : BF) (b : SF) : Nat → Sls → Option (Fl × Sls)
  | 0, _ => none
  | n + 1, env => (c env).bind fun p => if p.1 = true then (b p.2).bind fun q => match q.1 with
      | .nx => whileL c b n q.2
      | .ct => whileL c b n q.2
      | .bk => some (.nx, q.2)
      | .ret t => some (.ret t, q.2)
    else some (.nx, p.2)
def sWhile (n : Nat) (c : BF) (b : SF) : SF := whileL c b n
theorem sv_while {X : Cx} {c : Expr} {body : List Stmt} {tc : BF} {b : SF} {pos : Pos} (n : Nat) (hp : PassesOwn (model X.prog X.w) X.A X.env X.xe) (hc : TV X c tc) (hb : BV X body b) : SV X (.While c body [] pos) (sWhile n tc b) :=
  ps_mono (ps_while hp hc hb) fun D σ H ⟨O, env, fl, envf, S, e, k⟩ => by
    have e : whileL tc b n env = some (fl, envf) := e
    refine ⟨fun m σi Hi => ∃ envi Oi, RepS X.K Hi Oi σi envi ∧ Nx σ env H O σi envi Hi Oi ∧ whileL tc b m envi = some (fl, envf), ⟨n, env, O, S, .refl, e⟩, ?_⟩
    rintro m σi Hi ⟨envi, Oi, Si, ni, fi⟩
    cases m with
    | zero => unfold whileL at fi; cases fi
    | succ m =>
      unfold whileL at fi
      obtain ⟨⟨x, e1⟩, q1, fi⟩ := Option.bind_eq_some_iff.mp fi
      refine ⟨Oi, envi, x, e1, Si, q1, fun H1 O1 n1 S1 => ?_⟩
      cases x with
      | false =>
        rw [if_neg Bool.false_ne_true] at fi
        rw [if_neg Bool.false_ne_true]
        cases fi
        exact k σi H1 O1 (ni.trans n1) S1
      | true =>
        rw [if_pos rfl] at fi
        rw [if_pos rfl]
        obtain ⟨⟨f3, e3⟩, q3, fi⟩ := Option.bind_eq_some_iff.mp fi
        refine ⟨fun σ' H' => ∃ envi Oi, RepS X.K H' Oi σ' envi ∧ Nx σ env H O σ' envi H' Oi ∧ whileL tc b m envi = some (fl, envf), fun σ' H' q => ⟨m, Nat.lt_succ_self _, q⟩, O1, e1, f3, e3, S1, q3, fun σ3 H3 O3 n3 S3 => ?_⟩
        have nn : Nx σ env H O σ3 e3 H3 O3 := (ni.trans n1).trans n3
        cases f3 with
        | nx => exact ⟨e3, O3, S3, nn, fi⟩
        | ct => exact ⟨e3, O3, S3, nn, fi⟩
        | bk => cases fi; exact k σ3 H3 O3 nn S3
        | ret t => cases fi; exact k σ3 H3 O3 nn S3
end Fx

/-! Fx 4: new lists of one's own, comprehensions, what is done to own lists, calls of own defs. -/
namespace Fx
open PySem PySem.Spec PyProof.Rows L2

/-- an expression that makes a list (a dict) that nobody else has -/
def tW (K : PySem.W.Frag) (f : EF) : TE := fun σ H Q => ∃ O env t env', RepS K H O σ env ∧ f env = some (t, env') ∧
  ∀ p H' O', Nx σ env H O σ env' H' O' → RepS K H' O' σ env' → p ∈ O' → ¬ Owns σ env' p → H p = none → RepO K (hid H' O') H' p t → Q (.ref p) H'
def EW (X : Cx) (e : Expr) (f : EF) : Prop := PE X e (tW X.K f)

section
variable {K : PySem.W.Frag} {H H1 H2 H' : Hp} {O O1 O2 O' : List Addr} {σ σ1 σ2 σ' : L2.St} {env env1 env2 env' : Sls}
/-- a list that nobody else has is shown -/
theorem RepS.unhide {p : Addr} {t : T} {H0 : Hp} {O0 : List Addr} {env0 : Sls} {σ0 : L2.St} (n : Nx σ0 env0 H0 O0 σ env H O) (S : RepS K H O σ env) (hp : p ∈ O) (hn : ¬ Owns σ env p) (h0 : H0 p = none) (r : RepO K (hid H O) H p t) :
    ∃ O', Nx σ0 env0 H0 O0 σ env H O' ∧ RepS K H O' σ env ∧ Rep K (hid H O') (.ref p) t := by
  have gx : Ext (hid H O) (hid H (O.filter fun a => decide (a ≠ p))) := fun a o e => by
    obtain ⟨q1, q2⟩ := of_hid e
    rw [hid_of (fun z => q1 (List.mem_filter.mp z).1)]
    exact q2
  have hp2 : hid H (O.filter fun a => decide (a ≠ p)) p = H p := hid_of (fun z => by
    have := (List.mem_filter.mp z).2
    simp at this)
  refine ⟨O.filter (fun a => decide (a ≠ p)), ⟨n.fr, n.dom, fun a z => n.sub a (List.mem_filter.mp z).1, fun a z => ?_, n.own, n.io, n.ion⟩, ⟨S.len, fun a z => S.dom a (List.mem_filter.mp z).1, fun j u z => ?_, fun j u z => ?_, S.inj⟩, ?_⟩
  · rcases n.sup a z with h | h
    · by_cases q : a = p
      · subst q
        exact .inr (.inr h0)
      · exact .inl (List.mem_filter.mpr ⟨h, by simpa using q⟩)
    · exact .inr h
  · obtain ⟨v, h1, h2⟩ := S.val j u z
    exact ⟨v, h1, h2.mono gx⟩
  · obtain ⟨q, h1, h2, h3⟩ := S.own j u z
    have hq : q ≠ p := fun e => by
      subst e
      exact hn ⟨j, u, z, h1⟩
    exact ⟨q, h1, List.mem_filter.mpr ⟨h2, by simpa using hq⟩, h3.mono gx rfl⟩
  · cases t with
    | lst ts =>
      obtain ⟨vs, q1, q2⟩ := r
      exact .lst (hp2.trans q1) (q2.mono gx)
    | dic ks ts =>
      obtain ⟨kvs, q1, q2, q3⟩ := r
      subst q2
      exact .dic (hp2.trans q1) (q3.mono gx)
    | _ => exact r.elim
/-- a new list is hidden -/
theorem RepS.hideNew {p : Addr} {o : HO} (S : RepS K H O σ env) (hp : H p = none) : Nx σ env H O σ env (upd H p o) (p :: O) ∧ RepS K (upd H p o) (p :: O) σ env ∧ ¬ Owns σ env p ∧ hid (upd H p o) (p :: O) = hid H O := by
  have hpO : p ∉ O := S.fresh hp
  have hno : ¬ Owns σ env p := fun z => hpO (S.owns z)
  have eh : hid (upd H p o) (p :: O) = hid H O := by
    funext a
    unfold Fx.hid
    by_cases h : a ∈ O
    · rw [if_pos (List.mem_cons_of_mem _ h), if_pos h]
    · by_cases q : a = p
      · subst q
        rw [if_pos List.mem_cons_self, if_neg h, hp]
      · rw [if_neg (by simp [q, h]), if_neg h, upd_ne q]
  have x : Ext H (upd H p o) := .new hp
  refine ⟨⟨fun a u e _ => x a u e, fun a u e => ⟨u, x a u e⟩, fun a z => ?_, fun a z => .inl (List.mem_cons_of_mem _ z), fun a z => .inl z, fun j u z => ⟨⟨u, z⟩, rfl⟩, fun j u z => ⟨u, z⟩⟩, ⟨S.len, fun a z => ?_, fun j u z => ?_, fun j u z => ?_, S.inj⟩, hno, eh⟩
  · rcases List.mem_cons.mp z with q | q
    · subst q
      exact .inr hp
    · exact .inl q
  · rcases List.mem_cons.mp z with q | q
    · subst q
      exact ⟨o, upd_same⟩
    · obtain ⟨u, e⟩ := S.dom a q
      exact ⟨u, x a u e⟩
  · rw [eh]
    exact S.val j u z
  · obtain ⟨q, h1, h2, h3⟩ := S.own j u z
    rw [eh]
    obtain ⟨w, e⟩ := h3.there
    exact ⟨q, h1, List.mem_cons_of_mem _ h2, h3.mono (.refl _) ((x q w e).trans e.symm)⟩
/-- something hidden that is no slot's changes -/
theorem RepS.other {p : Addr} {o : HO} (S : RepS K H O σ env) (hp : p ∈ O) (hn : ¬ Owns σ env p) : RepS K (upd H p o) O σ env := by
  have eh : hid (upd H p o) O = hid H O := hid_upd hp
  refine ⟨S.len, fun a z => ?_, fun j u z => ?_, fun j u z => ?_, S.inj⟩
  · by_cases q : a = p
    · subst q
      exact ⟨o, upd_same⟩
    · rw [upd_ne q]
      exact S.dom a z
  · rw [eh]
    exact S.val j u z
  · obtain ⟨q, h1, h2, h3⟩ := S.own j u z
    rw [eh]
    have hq : q ≠ p := fun e => by
      subst e
      exact hn ⟨j, u, z, h1⟩
    exact ⟨q, h1, h2, h3.mono (.refl _) (upd_ne hq)⟩
/-- an own list changes -/
theorem RepS.change {i : Nat} {p : Addr} {o : HO} {t t' : T} (S : RepS K H O σ env) (hi : env[i]?.bind Sl.cont = some t) (hs : σ[i]? = some (some (.ref p))) (r : RepO K (hid H O) (upd H p o) p t')
    {x : Sl} (hx : (env[i]? = some (.own t) ∧ x = .own t') ∨ (env[i]? = some (.io t) ∧ x = .io t')) : Nx σ env H O σ (env.set i x) (upd H p o) O ∧ RepS K (upd H p o) O σ (env.set i x) := by
  obtain ⟨p', h1, hp, h3⟩ := S.own i t hi
  rw [hs] at h1
  cases h1
  have eh : hid (upd H p o) O = hid H O := hid_upd hp
  have hil : i < env.length := by
    rcases hx with h | h
    · exact (List.getElem?_eq_some_iff.mp h.1).1
    · exact (List.getElem?_eq_some_iff.mp h.1).1
  have xc : x.cont = some t' := by rcases hx with ⟨_, rfl⟩ | ⟨_, rfl⟩ <;> rfl
  have ne1 : ∀ {j : Nat}, i ≠ j → (env.set i x)[j]? = env[j]? := fun z => by rw [List.getElem?_set_ne z]
  have at1 : (env.set i x)[i]? = some x := by rw [List.getElem?_set_self hil]
  have cas : ∀ {j : Nat} {u : T}, (env.set i x)[j]?.bind Sl.cont = some u → (i = j ∧ u = t') ∨ (i ≠ j ∧ env[j]?.bind Sl.cont = some u) := fun {j u} z => by
    by_cases q : i = j
    · subst q
      rw [at1] at z
      have z : x.cont = some u := z
      rw [xc] at z
      exact .inl ⟨rfl, (Option.some.inj z).symm⟩
    · exact .inr ⟨q, by rw [ne1 q] at z; exact z⟩
  refine ⟨⟨fun a u e n => ?_, fun a u e => ?_, fun a z => .inl z, fun a z => .inl z, fun a z => ?_, fun j u z => ?_, fun j u z => ?_⟩, ⟨by simpa using S.len, fun a z => ?_, fun j u z => ?_, fun j u z => ?_, fun j k u w q h1 h2 h3 h4 => ?_⟩⟩
  · have q : a ≠ p := fun z => by
      subst z
      exact n ⟨i, t, hi, hs⟩
    rw [upd_ne q]
    exact e
  · by_cases q : a = p
    · subst q
      exact ⟨o, upd_same⟩
    · rw [upd_ne q]
      exact ⟨u, e⟩
  · obtain ⟨j, u, h1, h2⟩ := z
    rcases cas h1 with ⟨e, _⟩ | ⟨_, g⟩
    · subst e
      exact .inl ⟨i, t, hi, h2⟩
    · exact .inl ⟨j, u, g, h2⟩
  · by_cases q : i = j
    · subst q
      rcases hx with ⟨h, _⟩ | ⟨h, e⟩
      · rw [h] at z; cases z
      · subst e
        exact ⟨⟨t', at1⟩, rfl⟩
    · exact ⟨⟨u, by rw [ne1 q]; exact z⟩, rfl⟩
  · by_cases q : i = j
    · subst q
      rw [at1] at z
      rcases hx with ⟨_, e⟩ | ⟨h, e⟩
      · subst e; cases z
      · exact ⟨t, h⟩
    · rw [ne1 q] at z
      exact ⟨u, z⟩
  · by_cases q : a = p
    · subst q
      exact ⟨o, upd_same⟩
    · rw [upd_ne q]
      exact S.dom a z
  · rw [eh]
    by_cases q : i = j
    · subst q
      rw [at1] at z
      rcases hx with ⟨_, e⟩ | ⟨_, e⟩ <;> (subst e; cases z)
    · rw [ne1 q] at z
      exact S.val j u z
  · rw [eh]
    rcases cas z with ⟨e, e2⟩ | ⟨q, g⟩
    · subst e e2
      exact ⟨p, hs, hp, r⟩
    · obtain ⟨r', g1, g2, g3⟩ := S.own j u g
      have hq : r' ≠ p := fun e => by
        subst e
        exact q (S.inj i j t u _ hi g hs g1)
      exact ⟨r', g1, g2, g3.mono (.refl _) (upd_ne hq)⟩
  · have h1' : ∃ u', env[j]?.bind Sl.cont = some u' := by
      rcases cas h1 with ⟨e, _⟩ | ⟨_, g⟩
      · subst e; exact ⟨t, hi⟩
      · exact ⟨u, g⟩
    have h2' : ∃ u', env[k]?.bind Sl.cont = some u' := by
      rcases cas h2 with ⟨e, _⟩ | ⟨_, g⟩
      · subst e; exact ⟨t, hi⟩
      · exact ⟨w, g⟩
    obtain ⟨u1, g1⟩ := h1'
    obtain ⟨u2, g2⟩ := h2'
    exact S.inj j k u1 u2 q g1 g2 h3 h4
end
section
variable {X : Cx} {e : Expr} {es : List Expr} {f : EF} {fr : AF} {pos : Pos}
theorem ev_ew (h : EW X e f) : EV X e f := pe_mono h fun σ H Q ⟨O, env, t, env', S, e, k⟩ => ⟨O, env, t, env', S, e, fun p H1 O1 n1 S1 hp hn h0 r => by
  obtain ⟨O2, n2, S2, r2⟩ := S1.unhide n1 hp hn h0 r
  exact k _ H1 O2 n2 S2 r2⟩
/-- name = a new list, kept as one's own -/
@[simp] def sOwn (i : Nat) (f : EF) : SF := fun env => (f env).bind fun q => if isIo q.2[i]? = true then none else some (.nx, q.2.set i (.own q.1))
theorem sv_own {i : Nat} {x : Str} {pos' : Pos} (hN : X.N.Nodup) (hi : X.N[i]? = some x) (hx : Loc X.env.scope x) (he : EW X e f) (hs : swapsWith e (some (.Name x pos')) pos.line X.env = pure false := by rfl) (hf : X.fn x = true ∨ X.env.scope.names.lookup x = some .local := by first | exact .inl rfl | exact .inr rfl | assumption) :
    SV X (.Assign [.Name x pos'] e pos) (sOwn i f) :=
  ps_mono (ps_set hN hi hx he hs hf) fun D σ H ⟨O, env, fl, env', S, e, k⟩ => by
    unfold sOwn at e
    obtain ⟨⟨t, e1⟩, q1, e⟩ := Option.bind_eq_some_iff.mp e
    refine ⟨O, env, t, e1, S, q1, fun p H1 O1 n1 S1 hp hn h0 r => ?_⟩
    split at e
    · cases e
    · rename_i hio
      cases e
      obtain ⟨S2, o2, io2, ion2⟩ := S1.putOwn hp hn r (by simpa using hio)
      refine k _ H1 O1 ⟨n1.fr, n1.dom, n1.sub, n1.sup, fun a z => ?_, fun j u z => ?_, fun j u z => ?_⟩ S2
      · rcases o2 a z with q | q
        · exact n1.own a q
        · subst q
          exact .inr h0
      · obtain ⟨⟨t1, g1⟩, g2⟩ := n1.io j u z
        obtain ⟨g3, g4⟩ := io2 j t1 g1
        exact ⟨⟨t1, g3⟩, g4.trans g2⟩
      · exact n1.ion j u (ion2 j u z)
theorem ew_lst (h : EA X es fr) : EW X (.List es pos) (eN dLst fr) :=
  pe_mono (pe_lst h) fun σ H Q ⟨O, env, t, env', S, e, k⟩ => by
    unfold eN at e
    obtain ⟨⟨x, e1⟩, q1, e⟩ := Option.bind_eq_some_iff.mp e
    obtain ⟨z, q3, e⟩ := Option.map_eq_some_iff.mp e
    cases e
    refine ⟨O, env, x, _, S, q1, fun vs H1 O1 n1 S1 r1 => ?_⟩
    have q3 : (if x.length ≤ 100000 then some (T.lst x) else none) = some t := q3
    split at q3
    · rename_i hl
      cases q3
      refine ⟨by rw [r1.length, sizeLine_eq]; have : x.length ≤ 100000 := hl; omega, fun p hp => ?_⟩
      obtain ⟨n2, S2, no, eh⟩ := S1.hideNew (o := .lst vs) hp
      have h0 : H p = none := none_of_dom n1.dom hp
      exact k p _ _ (n1.trans n2) S2 List.mem_cons_self no h0 ⟨vs, upd_same, by rw [eh]; exact r1⟩
    · cases q3

/-! ### comprehensions -/
@[simp] def wipeE (env : Sls) : List Nat → Sls
  | [] => env
  | v :: vs => (wipeE env vs).set v .un
@[simp] def noIo (env : Sls) (vs : List Nat) : Bool := vs.all fun v => !isIo env[v]?
theorem wipeE_len (env : Sls) : ∀ vs, (wipeE env vs).length = env.length
  | [] => rfl
  | v :: vs => by unfold wipeE; rw [List.length_set, wipeE_len env vs]
theorem wipeE_in {env : Sls} {i : Nat} : ∀ {vs : List Nat}, i ∈ vs → (wipeE env vs)[i]? = none ∨ (wipeE env vs)[i]? = some .un
  | v :: vs, h => by
    unfold wipeE
    by_cases e : v = i
    · subst e
      by_cases hl : v < (wipeE env vs).length
      · rw [List.getElem?_set_self hl]; exact .inr rfl
      · rw [List.getElem?_eq_none (by simpa using hl)]; exact .inl rfl
    · rw [List.getElem?_set_ne e]
      rcases List.mem_cons.mp h with z | z
      · exact absurd z.symm e
      · exact wipeE_in z
theorem wipeE_out {env : Sls} {i : Nat} : ∀ {vs : List Nat}, i ∉ vs → (wipeE env vs)[i]? = env[i]?
  | [], _ => rfl
  | v :: vs, h => by
    unfold wipeE
    have e : v ≠ i := fun z => h (by rw [z]; exact List.mem_cons_self)
    rw [List.getElem?_set_ne e]
    exact wipeE_out fun z => h (List.mem_cons_of_mem _ z)
theorem wipe_keep {σ : L2.St} {i : Nat} {v : V} : ∀ {vs : List Nat}, i ∉ vs → σ[i]? = some (some v) → (wipe σ vs)[i]? = some (some v)
  | [], _, h => h
  | w :: vs, hi, h => by
    unfold wipe
    have e : w ≠ i := fun z => hi (by rw [z]; exact List.mem_cons_self)
    rw [List.getElem?_set_ne e]
    exact wipe_keep (fun z => hi (List.mem_cons_of_mem _ z)) h
section
variable {K : PySem.W.Frag} {H H1 H2 H' : Hp} {O O1 O2 O' : List Addr} {σ σ1 σ2 σ' : L2.St} {env env1 env2 env' : Sls} {vs : List Nat}
theorem wipeE_at {i : Nat} {x : Sl} (h : (wipeE env vs)[i]? = some x) (hx : x ≠ .un) : i ∉ vs ∧ env[i]? = some x := by
  by_cases q : i ∈ vs
  · rcases wipeE_in (env := env) q with z | z
    · rw [z] at h; cases h
    · rw [z] at h; cases h; exact (hx rfl).elim
  · exact ⟨q, by rw [wipeE_out q] at h; exact h⟩
theorem wipeE_cont {i : Nat} {t : T} (h : (wipeE env vs)[i]?.bind Sl.cont = some t) : i ∉ vs ∧ env[i]?.bind Sl.cont = some t := by
  cases e : (wipeE env vs)[i]? with
  | none => rw [e] at h; cases h
  | some x =>
    rw [e] at h
    have hx : x ≠ .un := fun z => by subst z; cases h
    obtain ⟨h1, h2⟩ := wipeE_at e hx
    exact ⟨h1, by rw [h2]; exact h⟩
theorem wiped_owns {a : Addr} (h : Owns (wipe σ vs) (wipeE env vs) a) : Owns σ env a := by
  obtain ⟨i, t, h1, h2⟩ := h
  obtain ⟨h3, h4⟩ := wipeE_cont h1
  exact ⟨i, t, h4, (wipe_some h2).1⟩
theorem RepS.wiped (S : RepS K H O σ env) : RepS K H O (wipe σ vs) (wipeE env vs) where
  len := by rw [wipeE_len, wipe_length]; exact S.len
  dom := S.dom
  val := fun i t h => by
    obtain ⟨h1, h2⟩ := wipeE_at h (by intro z; cases z)
    obtain ⟨v, h3, h4⟩ := S.val i t h2
    exact ⟨v, wipe_keep h1 h3, h4⟩
  own := fun i t h => by
    obtain ⟨h1, h2⟩ := wipeE_cont h
    obtain ⟨p, h3, h4⟩ := S.own i t h2
    exact ⟨p, wipe_keep h1 h3, h4⟩
  inj := fun i j t u p h1 h2 h3 h4 => S.inj i j t u p (wipeE_cont h1).2 (wipeE_cont h2).2 (wipe_some h3).1 (wipe_some h4).1
theorem Nx.wiped (hn : noIo env vs = true) : Nx σ env H O (wipe σ vs) (wipeE env vs) H O ∨ True := .inr trivial
/-- the slots of a block are left -/
theorem RepS.unwipe (S : RepS K H O (wipe σ vs) env) (hl : env.length = σ.length) : RepS K H O σ (wipeE env vs) where
  len := by rw [wipeE_len]; exact hl
  dom := S.dom
  val := fun i t h => by
    obtain ⟨h1, h2⟩ := wipeE_at h (by intro z; cases z)
    obtain ⟨v, h3, h4⟩ := S.val i t h2
    exact ⟨v, (wipe_some h3).1, h4⟩
  own := fun i t h => by
    obtain ⟨h1, h2⟩ := wipeE_cont h
    obtain ⟨p, h3, h4⟩ := S.own i t h2
    exact ⟨p, (wipe_some h3).1, h4⟩
  inj := fun i j t u p h1 h2 h3 h4 => by
    obtain ⟨g1, g2⟩ := wipeE_cont h1
    obtain ⟨g3, g4⟩ := wipeE_cont h2
    exact S.inj i j t u p g2 g4 (wipe_keep g1 h3) (wipe_keep g3 h4)
end
@[simp] def lcL (p : Pat) (tt : BF) (fe : EF) (vs : List Nat) : List T → Sls → Option (List T × Sls)
  | [], env => some ([], env)
  | t :: r, env => (bindP p t env).bind fun e1 => (tt e1).bind fun q => if q.1 = true then (fe q.2).bind fun y => if noIo y.2 vs = true then (lcL p tt fe vs r (wipeE y.2 vs)).map fun z => (y.1 :: z.1, z.2) else none
      else if noIo q.2 vs = true then lcL p tt fe vs r (wipeE q.2 vs) else none
@[simp] def eLc (fi : AF) (p : Pat) (tt : BF) (fe : EF) (vs : List Nat) : EF := fun env => (fi env).bind fun q => if noIo q.2 vs = true ∧ q.1.length ≤ 100000 then (lcL p tt fe vs q.1 (wipeE q.2 vs)).map fun z => (.lst z.1, z.2) else none
theorem lcL_len {p : Pat} {tt : BF} {fe : EF} {vs : List Nat} : ∀ {ts : List T} {env : Sls} {ys : List T} {env' : Sls}, lcL p tt fe vs ts env = some (ys, env') → ys.length ≤ ts.length
  | [], env, ys, env', h => by cases h; exact Nat.le_refl _
  | t :: r, env, ys, env', h => by
    unfold lcL at h
    obtain ⟨e1, _, h⟩ := Option.bind_eq_some_iff.mp h
    obtain ⟨⟨b, e2⟩, _, h⟩ := Option.bind_eq_some_iff.mp h
    cases b with
    | true =>
      rw [if_pos rfl] at h
      obtain ⟨⟨y, e3⟩, _, h⟩ := Option.bind_eq_some_iff.mp h
      split at h
      · obtain ⟨⟨zs, e4⟩, q, h⟩ := Option.map_eq_some_iff.mp h
        cases h
        have := lcL_len q
        simp only [List.length_cons]
        omega
      · cases h
    | false =>
      rw [if_neg Bool.false_ne_true] at h
      split at h
      · have := lcL_len h
        simp only [List.length_cons]
        omega
      · cases h
@[simp] def tYesF : BF := fun env => some (true, env)
def TsV (X : Cx) (ifs : List Expr) (f : BF) : Prop := PTs X ifs (tTt X.K f)
theorem tsv_nil : TsV X [] tYesF := ⟨fun pins s σ H Q I ⟨O, env, b, env', S, e, k⟩ => pts_nil.run pins s σ H Q I (by cases e; exact k H O .refl S)⟩
theorem tsv_one {c : Expr} {t : BF} (h : TV X c t) : TsV X [c] t := pts_one h
end

theorem lc_pure {K : PySem.W.Frag} {fi : AF} {p : Pat} {tt : BF} {fe : EF} {vs : List Nat} (hv : ∀ i ∈ p.slots, i ∈ vs) (σ : L2.St) (H : Hp) (Q : VK) (h : tW K (eLc fi p tt fe vs) σ H Q) :
    tLc (tI K fi) (tG K p) (tTt K tt) (tV K fe) vs σ H Q := by
  obtain ⟨O, env, t, envf, S, e, k⟩ := h
  unfold eLc at e
  obtain ⟨⟨ts, e1⟩, q1, e⟩ := Option.bind_eq_some_iff.mp e
  refine ⟨O, env, ts, e1, S, q1, fun J H1 O1 n1 S1 w D hD => ?_⟩
  split at e
  · rename_i hio
    obtain ⟨hio, hlen⟩ := hio
    have hlen : ts.length ≤ 100000 := hlen
    obtain ⟨⟨ys, ef⟩, q2, e⟩ := Option.map_eq_some_iff.mp e
    cases e
    have q2 : lcL p tt fe vs ts (wipeE e1 vs) = some (ys, ef) := q2
    have S1w : RepS K H1 O1 (wipe σ vs) (wipeE e1 vs) := S1.wiped
    -- the state behind i turns
    let Pv : Nat → Hp → Prop := fun i Hi => ∃ envi Oi acc done, RepS K Hi Oi (wipe σ vs) envi ∧ (∀ a o, H1 a = some o → ¬ Owns σ e1 a → Hi a = some o) ∧ (∀ a o, H1 a = some o → ∃ o', Hi a = some o') ∧ (∀ a ∈ Oi, a ∈ O1 ∨ H1 a = none) ∧ (∀ a ∈ O1, a ∈ Oi ∨ Owns σ e1 a ∨ H1 a = none) ∧
      (∀ a, Owns (wipe σ vs) envi a → Owns σ e1 a ∨ H1 a = none) ∧ (∀ (j : Nat) (u : T), e1[j]? = some (Sl.io u) → ∃ u', envi[j]? = some (Sl.io u')) ∧ (∀ (j : Nat) (u : T), envi[j]? = some (Sl.io u) → ∃ u', e1[j]? = some (Sl.io u')) ∧
      (∀ j ∈ vs, envi[j]? = none ∨ envi[j]? = some .un) ∧ D ∈ Oi ∧ ¬ Owns (wipe σ vs) envi D ∧ Hi D = some (.lst acc) ∧ Reps K (hid Hi Oi) acc done ∧ done.length ≤ i ∧ (lcL p tt fe vs (ts.drop i) envi).map (fun z => (done ++ z.1, z.2)) = some (ys, ef)
    obtain ⟨nD, SD, noD, ehD⟩ := S1w.hideNew (o := .lst []) hD
    refine ⟨fun i m Hi => m = ts.length - i ∧ i ≤ ts.length ∧ Pv i Hi, ⟨_, rfl, Nat.zero_le _, wipeE e1 vs, D :: O1, [], [], SD, fun a o e n => ?_, nD.dom, nD.sub, fun a z => .inl (List.mem_cons_of_mem _ z), fun a z => .inl (wiped_owns z), fun j u z => ?_, fun j u z => ?_, fun j z => wipeE_in z, List.mem_cons_self, noD, upd_same, .nil, Nat.le_refl _, ?_⟩, ?_⟩
    · exact Ext.new hD a o e
    · have hj : j ∉ vs := fun q => by
        have := List.all_eq_true.mp hio j q
        simp only [z] at this
        simp [isIo] at this
      exact ⟨u, by rw [wipeE_out hj]; exact z⟩
    · exact ⟨u, (wipeE_at z (by intro q; cases q)).2⟩
    · rw [List.drop_zero, q2]; rfl
    · rintro i m Hi ⟨rfl, hil, envi, Oi, acc, done, Si, ifr, idom, isub, isup, iown, iio, iion, iun, iD, inD, iacc, irep, idl, ilc⟩
      have gx : Ext (hid H1 O1) (hid Hi Oi) := fun a o z => by
        obtain ⟨h1, h2⟩ := of_hid z
        have h3 : ¬ Owns σ e1 a := fun q => h1 (S1.owns q)
        have h4 : a ∉ Oi := fun q => by
          rcases isub a q with z | z
          · exact h1 z
          · rw [h2] at z; cases z
        rw [hid_of h4]
        exact ifr a o h2 h3
      have gx2 : Ext (hid H1 O1) Hi := gx.trans (hid_ext _ _)
      by_cases hlt : i < ts.length
      · refine .inr ⟨w.go i Hi hlt gx2, Pv (i + 1), fun H' q => ⟨ts.length - (i + 1), by omega, rfl, hlt, q⟩, fun x H' y => ?_⟩
        obtain ⟨xx, y2⟩ := w.yld i Hi x H' hlt gx2 y
        obtain ⟨tr, ht, rt⟩ := y2 Oi Si.dom gx
        rw [drop_cons ht] at ilc
        obtain ⟨⟨zs, ez⟩, il0, iz⟩ := Option.map_eq_some_iff.mp ilc
        clear ilc
        simp only [Prod.mk.injEq] at iz
        obtain ⟨iz1, iz2⟩ := iz
        subst iz1
        subst iz2
        unfold lcL at il0
        obtain ⟨e2, q2, il1⟩ := Option.bind_eq_some_iff.mp il0
        obtain ⟨⟨b, e3⟩, q3, ilc⟩ := Option.bind_eq_some_iff.mp il1
        clear il0 il1
        refine ⟨Oi, envi, tr, e2, Si.ext xx, rt, q2, fun σ2 n2 S2 wp => ⟨?_, Oi, e2, b, e3, S2, q3, fun H3 O3 n3 S3 => ?_⟩⟩
        · have := wp vs hv
          rw [this]
          -- wiping twice is wiping once
          have tw : ∀ (us : List Nat) (τ : L2.St), (∀ j ∈ us, τ[j]? = none ∨ τ[j]? = some none) → wipe τ us = τ := fun us => by
            induction us with
            | nil => intro τ _; rfl
            | cons u us ih =>
              intro τ hj
              unfold wipe
              rw [ih τ fun j h => hj j (List.mem_cons_of_mem _ h)]
              apply List.ext_getElem?
              intro j
              by_cases q : u = j
              · subst q
                by_cases hl : u < τ.length
                · rw [List.getElem?_set_self hl]
                  rcases hj u List.mem_cons_self with z | z
                  · rw [List.getElem?_eq_none_iff] at z
                    omega
                  · exact z.symm
                · rw [List.getElem?_eq_none (by simpa using hl), List.getElem?_eq_none (by simpa using hl)]
              · rw [List.getElem?_set_ne q]
          refine tw vs _ fun j hj => ?_
          cases q : (wipe σ vs)[j]? with
          | none => exact .inl rfl
          | some z =>
            cases z with
            | none => exact .inr rfl
            | some z => exact ((wipe_some q).2 hj).elim
        · have wp2 : wipe σ2 vs = wipe σ vs := by
            have := wp vs hv
            rw [this]
            have tw : ∀ (us : List Nat) (τ : L2.St), (∀ j ∈ us, τ[j]? = none ∨ τ[j]? = some none) → wipe τ us = τ := fun us => by
              induction us with
              | nil => intro τ _; rfl
              | cons u us ih =>
                intro τ hj
                unfold wipe
                rw [ih τ fun j h => hj j (List.mem_cons_of_mem _ h)]
                apply List.ext_getElem?
                intro j
                by_cases q : u = j
                · subst q
                  by_cases hl : u < τ.length
                  · rw [List.getElem?_set_self hl]
                    rcases hj u List.mem_cons_self with z | z
                    · rw [List.getElem?_eq_none_iff] at z
                      omega
                    · exact z.symm
                  · rw [List.getElem?_eq_none (by simpa using hl), List.getElem?_eq_none (by simpa using hl)]
                · rw [List.getElem?_set_ne q]
            refine tw vs _ fun j hj => ?_
            cases q : (wipe σ vs)[j]? with
            | none => exact .inl rfl
            | some z =>
              cases z with
              | none => exact .inr rfl
              | some z => exact ((wipe_some q).2 hj).elim
          have nn : Nx (wipe σ vs) envi Hi Oi σ2 e3 H3 O3 := ((Nx.ext xx).trans n2).trans n3
          -- what a turn leaves for the next one
          have step : ∀ (e4 : Sls) (H4 : Hp) (O4 : List Addr) (acc' : List V) (done' : List T) (H5 : Hp), Nx (wipe σ vs) envi Hi Oi σ2 e4 H4 O4 → RepS K H4 O4 σ2 e4 → noIo e4 vs = true → (∀ a, a ≠ D → H5 a = H4 a) → H5 D = some (.lst acc') → Reps K (hid H4 O4) acc' done' → done'.length ≤ i + 1 →
              (lcL p tt fe vs (ts.drop (i + 1)) (wipeE e4 vs)).map (fun z => (done' ++ z.1, z.2)) = some (done ++ zs, ez) → Pv (i + 1) H5 := by
            intro e4 H4 O4 acc' done' H5 n4 S4 hio4 h5 h5D r5 l5 lc5
            have hDH4 : H4 D = some (.lst acc) := n4.fr D _ iacc inD
            have hD4 : D ∈ O4 := by
              rcases n4.sup D iD with z | z | z
              · exact z
              · exact (inD z).elim
              · rw [iacc] at z; cases z
            have noD4 : ¬ Owns σ2 e4 D := fun z => by
              rcases n4.own D z with q | q
              · exact inD q
              · rw [iacc] at q; cases q
            have e5 : H5 = upd H4 D (.lst acc') := by
              funext a
              by_cases q : a = D
              · subst q; rw [upd_same]; exact h5D
              · rw [upd_ne q]; exact h5 a q
            have S4w : RepS K H4 O4 (wipe σ vs) (wipeE e4 vs) := by
              rw [← wp2]
              exact S4.wiped
            have noD4w : ¬ Owns (wipe σ vs) (wipeE e4 vs) D := fun z => noD4 (wiped_owns (σ := σ2) (vs := vs) (by rw [wp2]; exact z))
            subst e5
            have n0 : H1 D = none := hD
            refine ⟨wipeE e4 vs, O4, acc', done', S4w.other hD4 noD4w, fun a o z n => ?_, fun a o z => ?_, fun a z => ?_, fun a z => ?_, fun a z => ?_, fun j u z => ?_, fun j u z => ?_, fun j z => wipeE_in z, hD4, noD4w, upd_same, by rw [hid_upd hD4]; exact r5, l5, lc5⟩
            · have q : a ≠ D := fun e => by subst e; rw [n0] at z; cases z
              rw [upd_ne q]
              refine n4.fr a o (ifr a o z n) fun q2 => ?_
              rcases iown a q2 with q3 | q3
              · exact n q3
              · rw [z] at q3; cases q3
            · have q : a ≠ D := fun e => by subst e; rw [n0] at z; cases z
              obtain ⟨o', z'⟩ := idom a o z
              obtain ⟨o'', z''⟩ := n4.dom a o' z'
              exact ⟨o'', by rw [upd_ne q]; exact z''⟩
            · rcases n4.sub a z with q | q
              · exact isub a q
              · exact .inr (none_of_dom idom q)
            · rcases isup a z with q | q
              · rcases n4.sup a q with q2 | q2 | q2
                · exact .inl q2
                · exact .inr (iown a q2)
                · exact .inr (.inr (none_of_dom idom q2))
              · exact .inr q
            · have z2 : Owns σ2 e4 a := wiped_owns (vs := vs) (by rw [wp2]; exact z)
              rcases n4.own a z2 with q | q
              · exact iown a q
              · exact .inr (none_of_dom idom q)
            · obtain ⟨u1, g1⟩ := iio j u z
              obtain ⟨⟨u2, g2⟩, _⟩ := n4.io j u1 g1
              have hj : j ∉ vs := fun q => by
                have := List.all_eq_true.mp hio4 j q
                simp only [g2] at this
                simp [isIo] at this
              exact ⟨u2, by rw [wipeE_out hj]; exact g2⟩
            · obtain ⟨u1, g1⟩ := n4.ion j u (wipeE_at z (by intro q; cases q)).2
              exact iion j u1 g1
          cases b with
          | false =>
            rw [if_neg Bool.false_ne_true] at ilc
            show Pv (i + 1) H3
            split at ilc
            · rename_i hio3
              refine step e3 H3 O3 acc done H3 nn S3 hio3 (fun _ _ => rfl) (nn.fr D _ iacc inD) (irep.mono (Si.grow nn)) (by omega) ?_
              rw [ilc]; rfl
            · cases ilc
          | true =>
            rw [if_pos rfl] at ilc
            obtain ⟨⟨yt, e4⟩, q4, ilc⟩ := Option.bind_eq_some_iff.mp ilc
            refine ⟨O3, e3, yt, e4, S3, q4, fun yv H4 O4 n4 S4 r4 => ?_⟩
            have nn4 : Nx (wipe σ vs) envi Hi Oi σ2 e4 H4 O4 := nn.trans n4
            have hDH4 : H4 D = some (.lst acc) := nn4.fr D _ iacc inD
            refine ⟨acc, hDH4, ?_, ?_⟩
            · rw [irep.length, sizeLine_eq]; omega
            · have ilc : (if noIo e4 vs = true then (lcL p tt fe vs (ts.drop (i + 1)) (wipeE e4 vs)).map (fun z => (yt :: z.1, z.2)) else none) = some (zs, ez) := ilc
              split at ilc
              · rename_i hio4
                refine step e4 H4 O4 (acc ++ [yv]) (done ++ [yt]) _ nn4 S4 hio4 (fun a q => upd_ne q) upd_same ((irep.mono (Si.grow nn4)).append (.cons r4 .nil)) (by rw [List.length_append, List.length_singleton]; omega) ?_
                obtain ⟨⟨us, eu⟩, qu, ilc⟩ := Option.map_eq_some_iff.mp ilc
                cases ilc
                rw [qu]
                simp
              · cases ilc
      · have hi : i = ts.length := by omega
        subst hi
        rw [List.drop_length] at ilc
        have ilc : some (done ++ [], envi) = some (ys, ef) := ilc
        simp only [Option.some.injEq, Prod.mk.injEq] at ilc
        obtain ⟨iz1, iz2⟩ := ilc
        subst iz1
        subst iz2
        refine .inl ⟨w.stop Hi gx2, ?_⟩
        have el : envi.length = σ.length := by rw [Si.len, wipe_length]
        have ew : wipeE envi vs = envi := by
          have tw : ∀ (us : List Nat), (∀ j ∈ us, envi[j]? = none ∨ envi[j]? = some Sl.un) → wipeE envi us = envi := fun us => by
            induction us with
            | nil => intro _; rfl
            | cons u us ih =>
              intro hj
              unfold wipeE
              rw [ih fun j h => hj j (List.mem_cons_of_mem _ h)]
              apply List.ext_getElem?
              intro j
              by_cases q : u = j
              · subst q
                by_cases hl : u < envi.length
                · rw [List.getElem?_set_self hl]
                  rcases hj u List.mem_cons_self with z | z
                  · rw [List.getElem?_eq_none_iff] at z
                    omega
                  · exact z.symm
                · rw [List.getElem?_eq_none (by simpa using hl), List.getElem?_eq_none (by simpa using hl)]
              · rw [List.getElem?_set_ne q]
          exact tw vs iun
        have Sf : RepS K Hi Oi σ envi := by
          have := Si.unwipe (σ := σ) el
          rw [ew] at this
          exact this
        have ob : ∀ a, Owns σ envi a → Owns (wipe σ vs) envi a := fun a z => by
          obtain ⟨j, u, g1, g2⟩ := z
          have hj : j ∉ vs := fun q => by
            rcases iun j q with z | z <;> (rw [z] at g1; cases g1)
          exact ⟨j, u, g1, wipe_keep hj g2⟩
        have nf : Nx σ e1 H1 O1 σ envi Hi Oi := ⟨ifr, idom, isub, isup, fun a z => iown a (ob a z), fun j u z => ⟨iio j u z, rfl⟩, iion⟩
        refine k D Hi Oi (n1.trans nf) Sf iD (fun z => inD (ob D z)) (none_of_dom n1.dom hD) ⟨acc, iacc, ?_⟩
        rw [List.append_nil]
        exact irep
  · cases e
theorem ew_lc {X : Cx} {elt tg iter : Expr} {ifs : List Expr} {scope : Scope} {own : List (Str × Nat)} {pos : Pos} {fi : AF} {p : Pat} {tt : BF} {fe : EF} (hc : X.calm = true) (hN : X.N.Nodup) (hi : IV X tg iter fi) (ok : BlkOk X.N X.env.scope scope own)
    (hg : ∀ (s : Shared) (H : Hp) (C : Addr) (cl : List (Str × Addr)) (fp : List Addr), GV (X.blk s H scope (compEnvC scope cl C X.env) fp) tg p)
    (ht : ∀ (s : Shared) (H : Hp) (C : Addr) (cl : List (Str × Addr)) (fp : List Addr), TsV (X.blk s H scope (compEnvC scope cl C X.env) fp) ifs tt)
    (he : ∀ (s : Shared) (H : Hp) (C : Addr) (cl : List (Str × Addr)) (fp : List Addr), EV (X.blk s H scope (compEnvC scope cl C X.env) fp) elt fe)
    (hv : ∀ i ∈ p.slots, i ∈ own.map (·.2))
    (hs : ∀ x, foldedSetIterable iter X.env x = pure x := by intro _; rfl) : EW X (.ListComp elt [{ target := tg, iter := iter, ifs := ifs, is_async := 0 }] scope pos) (eLc fi p tt fe (own.map (·.2))) :=
  pe_mono (pe_lc (wi := tI X.K fi) (g := tG X.K p) (tt := tTt X.K tt) (te := tV X.K fe) hc hN hi ok hg ht he hs) fun σ H Q h => lc_pure hv σ H Q h
end Fx

/-! FxG: promises of defs where no repr is under way. -/
namespace Fx
open PySem PySem.Spec PyProof.Rows L2
/-- no repr is under way -/
abbrev Gd (A : Around) : Prop := A.guards = some []
structure FnG (P : Program) (w : World) (K : PySem.W.Frag) (mg : Str → Option Value) (base : Heap) (CX : CXT) (k : Nat) (f : Addr) (fd : FuncData) (ps : List Str) (sp : Sp) : Prop where
  len : ∀ vs H Q E, sp vs H Q E → vs.length = ps.length
  run : ∀ (A : Around), Room k A → Gd A → ∀ (fs : List Env) (s : Shared) (H : Hp) (ar : Args) (us : List Value) (vs : List V) (Q : VK) (E : XK),
    Env0 P w K mg base A fs s H → BindsTo s fd ar (ps.zip us) → Vals vs us → sp vs H Q E → codeAny (model P w) A (.call (.ref f) ar) (CR CX fs P w H s Q E) s
section
variable {P : Program} {w : World} {K : PySem.W.Frag} {mg : Str → Option Value} {base : Heap} {CX : CXT} {j k : Nat} {f : Addr} {fd : FuncData} {ps : List Str} {sp sp' : Sp}
theorem FnG.mono (F : FnG P w K mg base CX j f fd ps sp) (h : j ≤ k) : FnG P w K mg base CX k f fd ps sp := ⟨F.len, fun A r => F.run A (r.mono h)⟩
theorem FnG.imp (F : FnG P w K mg base CX k f fd ps sp) (h : ∀ vs H Q E, sp' vs H Q E → sp vs H Q E) : FnG P w K mg base CX k f fd ps sp' :=
  ⟨fun vs H Q E q => F.len vs H Q E (h vs H Q E q), fun A r g fs s H ar us vs Q E e0 b rv q => F.run A r g fs s H ar us vs Q E e0 b rv (h vs H Q E q)⟩
end
section
variable {X : Cx} {CX : CXT} {k n : Nat} {f : Addr} {fd : FuncData} {ps ks : List Str} {sp : Sp} {dvs : List V} {ds : List Value} {E : XK} {x : Str} {p pos : Pos} {e : Expr} {es : List Expr} {kws : List Keyword} {t tk : TA}
  {pins : List (Addr × Obj)} {σ : L2.St} {H : Hp} {s : Shared} {Q : VK} {us ws : List Value} {vs zs : List V} {g : List Value → List Value → List Value} {gV : List V → List V → List V}
theorem run_G (F : FnG X.prog X.w X.K X.mg X.base CX k f fd ps sp) (hr : Room k X.A) (hgd : Gd X.A) (hb : Binds X.K fd ps ds) (hd : Vals dvs ds) (hx : Passes CX X E) (I : Inv X pins σ H s) (r : Vals vs us) (q : sp (vs ++ dvs) H Q E) :
    wpAny (model X.prog X.w) X.A (call (.ref f) us) (EP X pins σ Q) X.xe s := by
  have rd : Vals (vs ++ dvs) (us ++ ds) := r.append hd
  have hl : (us ++ ds).length = ps.length := rd.length.symm.trans (F.len _ _ _ _ q)
  refine wpAny_call (codeAny_mono (F.run X.A hr hgd X.stack s H ⟨us, []⟩ _ _ Q E I.env0 (hb s us I.kIn hl) rd q) fun r s' hq => ?_)
  rcases r with e | fl
  · exact hx pins σ H s e s' I hq
  · cases fl with
    | ret u => exact I.after hq
    | _ => exact hq.elim
theorem pe_callG (F : FnG X.prog X.w X.K X.mg X.base CX k f fd ps sp) (hr : Room k X.A) (hgd : Gd X.A) (hg : Gl X x) (hm : X.mg x = some (.ref f)) (hk : PySem.W.keepIn X.K (.ref f) = true) (hb : Binds X.K fd ps ds) (hd : Vals dvs ds) (hx : Passes CX X E)
    (ha : PA X (e :: es) t) (hdb : (x == ("__debug__" : Str)) = false := by decide) (he : starEach (e :: es) X.env = (false, eval e X.env) :: starEach es X.env := by rfl) (hpl : (backTo pos (starEach es X.env)).any (·.1) = false := by rfl) :
    PE X (.Call (.Name x p) (e :: es) [] pos) (tCall sp dvs E t) :=
  ⟨fun pins s σ H Q I q => wpAny_Call_Name_kw (ld_glob I hg hm
    (PySem.W.callWith_K (h₀ := X.base) I.ok.mod.kin hk (thn (ha.run pos pins s σ H _ I q) fun us s1 ⟨vs, H1, I1, r, q⟩ => ⟨I1.kIn, run_G F hr hgd hb hd hx I1 r q⟩) he hpl) hdb)⟩
theorem pe_callG0 (F : FnG X.prog X.w X.K X.mg X.base CX k f fd ps sp) (hr : Room k X.A) (hgd : Gd X.A) (hg : Gl X x) (hm : X.mg x = some (.ref f)) (hk : PySem.W.keepIn X.K (.ref f) = true) (hb : Binds X.K fd ps ds) (hd : Vals dvs ds) (hx : Passes CX X E)
    (hdb : (x == ("__debug__" : Str)) = false := by decide) : PE X (.Call (.Name x p) [] [] pos) (tCall sp dvs E tNil) :=
  ⟨fun pins s σ H Q I q => wpAny_Call_Name_kw (ld_glob I hg hm (PySem.W.callWith_K0 I.kIn hk (run_G (us := []) F hr hgd hb hd hx I .nil q)) hdb)⟩
theorem run_GK (F : FnG X.prog X.w X.K X.mg X.base CX k f fd ps sp) (hr : Room k X.A) (hgd : Gd X.A) (hb : KBn X.K fd ps n ks g gV) (hx : Passes CX X E)
    (I : Inv X pins σ H s) (r : Vals vs us) (rz : Vals zs ws) (l1 : vs.length = n) (l2 : zs.length = ks.length) (q : sp (gV vs zs) H Q E) : wpAny (model X.prog X.w) X.A (call (.ref f) us (ks.zip ws)) (EP X pins σ Q) X.xe s := by
  refine wpAny_call (codeAny_mono (F.run X.A hr hgd X.stack s H ⟨us, ks.zip ws⟩ (g us ws) _ Q E I.env0 (hb.to s us ws I.kIn (r.length.symm.trans l1) (rz.length.symm.trans l2)) (hb.rel r rz) q) fun r s' hq => ?_)
  rcases r with e | fl
  · exact hx pins σ H s e s' I hq
  · cases fl with
    | ret u => exact I.after hq
    | _ => exact hq.elim
theorem pe_callGN (F : FnG X.prog X.w X.K X.mg X.base CX k f fd ps sp) (hr : Room k X.A) (hgd : Gd X.A) (hg : Gl X x) (hm : X.mg x = some (.ref f)) (hk : PySem.W.keepIn X.K (.ref f) = true) (hb : KBn X.K fd ps n ks g gV) (hx : Passes CX X E)
    (ha : PA X (e :: es) t) (hkw : PK X kws tk) (hall : (backToKw pos (keywordEach kws X.env)).all (·.1.isSome) = true := by rfl) (hks : (backToKw pos (keywordEach kws X.env)).filterMap (·.1) = ks := by rfl)
    (hdb : (x == ("__debug__" : Str)) = false := by decide) (he : starEach (e :: es) X.env = (false, eval e X.env) :: starEach es X.env := by rfl)
    (hpl : ((backTo pos (starEach (e :: es) X.env)).any (·.1) || (backToKw pos (keywordEach kws X.env)).any (·.1.isNone)) = false := by rfl) :
    PE X (.Call (.Name x p) (e :: es) kws pos) (tCallN n ks.length sp gV E t tk) :=
  ⟨fun pins s σ H Q I q => wpAny_Call_Name_kw (ld_glob I hg hm
    (PySem.W.callWith_KW (h₀ := X.base) I.ok.mod.kin hk hall (thn (ha.run pos pins s σ H _ I q) fun us s1 ⟨vs, H1, I1, r, q1⟩ =>
      thn (hkw.run pos pins s1 σ H1 _ I1 q1) fun ws s2 ⟨zs, H2, I2, rz, l1, l2, q2⟩ => ⟨I2.kIn, by rw [hks]; exact run_GK F hr hgd hb hx I2 r rz l1 l2 q2⟩) hpl he) hdb)⟩
theorem pe_callGN0 (F : FnG X.prog X.w X.K X.mg X.base CX k f fd ps sp) (hr : Room k X.A) (hgd : Gd X.A) (hg : Gl X x) (hm : X.mg x = some (.ref f)) (hk : PySem.W.keepIn X.K (.ref f) = true) (hb : KBn X.K fd ps 0 ks g gV) (hx : Passes CX X E)
    (hkw : PK X kws tk) (hall : (backToKw pos (keywordEach kws X.env)).all (·.1.isSome) = true := by rfl) (hks : (backToKw pos (keywordEach kws X.env)).filterMap (·.1) = ks := by rfl)
    (hdb : (x == ("__debug__" : Str)) = false := by decide)
    (hpl : ((backTo pos (starEach [] X.env)).any (·.1) || (backToKw pos (keywordEach kws X.env)).any (·.1.isNone)) = false := by rfl) :
    PE X (.Call (.Name x p) [] kws pos) (tCallN 0 ks.length sp gV E tNil tk) :=
  ⟨fun pins s σ H Q I q => wpAny_Call_Name_kw (ld_glob I hg hm
    (PySem.W.callWith_KW0 (h₀ := X.base) I.ok.mod.kin hk hall
      (thn (hkw.run pos pins s σ H _ I q) fun ws s2 ⟨zs, H2, I2, rz, l1, l2, q2⟩ => ⟨I2.kIn, by rw [hks]; exact run_GK (vs := []) (us := []) F hr hgd hb hx I2 .nil rz l1 l2 q2⟩) hpl) hdb)⟩
end
/-! ### a def -/
section
variable {CX : CXT} {P : Program} {w : World} {K : PySem.W.Frag} {mg : Str → Option Value} {base : Heap} {k : Nat}
/-- a def's promise, from its body -/
theorem fn_Gr {x qual : Str} {st : Stmt} {f : Addr} {oc : Value} {od an : Option Addr} {dV kV doc pm cdv ct : Value} {osl : Array (Option Value)} {N ps : List Str} {sp : Sp}
    (lk : K.lookup f = some ⟨oc, od, .func (PySem.W.fnOf x qual (defArgs st) (defBody st) (defScope st) dV kV doc pm an cdv ct), osl⟩) (hcd : PySem.W.codeIn K cdv qual = true) (S : FnScope N ps (defScope st)) (len : ∀ vs H Q E, sp vs H Q E → vs.length = ps.length)
    (hb : ∀ (cdv : Value) (A : Around) (fs : List Env) (s : Shared) (H : Hp) (vs : List V) (Q : VK) (E : XK), Room k (A.deeper (envOfC qual (defScope st) s.heap.objs.size f cdv)) → Gd (A.deeper (envOfC qual (defScope st) s.heap.objs.size f cdv)) → sp vs H Q E →
      ∃ t, PSs (cxOf CX P w K mg base N qual (defScope st) f cdv A fs s H E) (defBody st) t ∧ t { nx := fun _ H' => Q .non H', rt := Q } (start N vs) H) : FnG P w K mg base CX (k + 1) f (PySem.W.fnOf x qual (defArgs st) (defBody st) (defScope st) dV kV doc pm an cdv ct) ps sp := by
  refine ⟨len, fun A hr hg fs s H ar us vs Q E e0 hbd r hsp => ?_⟩
  have KX : K.In s.heap := e0.mod.kin.keeps fun b o e => (e0.bs b o e).1
  have par : ∀ y ∈ ps.zip us, (defScope st).names.lookup y.1 = some .local ∨ ((defScope st).names.lookup y.1 = some .cell ∧ ((cellsFrom (s.heap.objs.size + 1) (defScope st).names []).lookup y.1).isSome = true) := by
    rintro ⟨a, v⟩ hy
    rcases S.par a (List.of_mem_zip hy).1 with q | q
    · exact .inl q
    · exact .inr ⟨q, PySem.W.cellsFrom_some _ _ _ (.inl q)⟩
  refine codeAny_call_function hr.depth (KX _ _ lk) rfl S.co S.gen rfl (PySem.W.codeRec_of KX hcd) (hbd _ _ _ _ (wpAny_newFunctionEnv_cells S.kind par fun env he s1 x => ?_))
  subst he
  obtain ⟨t, ht, hq⟩ := hb cdv A fs s H vs Q E (hr.deeper _) hg hsp
  have I : Inv (cxOf CX P w K mg base N qual (defScope st) f cdv A fs s H E) [] (start N vs) H s1 := inv_start S hr.hd e0 (len _ _ _ _ hsp) r x
  refine ⟨(e0.mod.nolimit.keeps fun b o e => (e0.bs b o e).1).keeps x.toInCall.keep, codeAny_func (wpAny_mono (ht.run [] s1 (start N vs) H _ I hq) (fun fl s' hs => ?_) fun e s' hs => hs)⟩
  have fin : ∀ {σ' : L2.St} {H' : Hp} {v : V} {u : Value}, Inv (cxOf CX P w K mg base N qual (defScope st) f cdv A fs s H E) [] σ' H' s' → RelV v u → Q v H' → CE fs P w H s Q u s' :=
    fun J rv q => ⟨_, _, J.os, J.bare, J.base, J.hok, rv, q⟩
  cases fl with
  | ret u =>
    obtain ⟨v, σ', H', J, rv, q⟩ := hs
    exact fin J rv q
  | next =>
    obtain ⟨σ', H', J, q⟩ := hs
    exact fin (v := V.non) (u := Value.none) J rfl q
  | _ =>
    obtain ⟨_, _, _, q⟩ := hs
    exact q.elim
theorem fn_G {x qual : Str} {st : Stmt} {f : Addr} {fd : FuncData} {N ps : List Str} {sp : Sp} (F : Fun K x qual st f fd) (S : FnScope N ps (defScope st)) (len : ∀ vs H Q E, sp vs H Q E → vs.length = ps.length)
    (hb : ∀ (cdv : Value) (A : Around) (fs : List Env) (s : Shared) (H : Hp) (vs : List V) (Q : VK) (E : XK), Room k (A.deeper (envOfC qual (defScope st) s.heap.objs.size f cdv)) → Gd (A.deeper (envOfC qual (defScope st) s.heap.objs.size f cdv)) → sp vs H Q E →
      ∃ t, PSs (cxOf CX P w K mg base N qual (defScope st) f cdv A fs s H E) (defBody st) t ∧ t { nx := fun _ H' => Q .non H', rt := Q } (start N vs) H) : FnG P w K mg base CX (k + 1) f fd ps sp := by
  obtain ⟨oc, od, kV, doc, pm, an, cdv, ct, osl, rfl, lk, hcd⟩ := F.ex
  exact fn_Gr lk hcd S len hb
/-- a def with defaults -/
structure FunV (K : PySem.W.Frag) (x qual : Str) (st : Stmt) (dts : List T) (f : Addr) (fd : FuncData) : Prop where
  ex : ∃ (oc : Value) (od : Option Addr) (tA : Addr) (oT : Obj) (its : List Value) (dvs : List V) (n : Nat) (kV doc pm : Value) (an : Option Addr) (cdv ct : Value) (osl : Array (Option Value)),
    fd = PySem.W.fnOf x qual (defArgs st) (defBody st) (defScope st) (.ref tA) kV doc pm an cdv ct ∧ K.lookup f = some ⟨oc, od, .func fd, osl⟩ ∧ PySem.W.codeIn K cdv qual = true ∧ K.lookup tA = some oT ∧ oT.data = .seq its.toArray n ∧ Vals dvs its ∧ ∀ G, Reps K G dvs dts
  kp : PySem.W.keepIn K (.ref f) = true
theorem fn_GV {x qual : Str} {st : Stmt} {dts : List T} {f : Addr} {fd : FuncData} {N ps : List Str} {sp : Sp} (F : FunV K x qual st dts f fd) (S : FnScope N ps (defScope st)) (len : ∀ vs H Q E, sp vs H Q E → vs.length = ps.length)
    (hb : ∀ (cdv : Value) (A : Around) (fs : List Env) (s : Shared) (H : Hp) (vs : List V) (Q : VK) (E : XK), Room k (A.deeper (envOfC qual (defScope st) s.heap.objs.size f cdv)) → Gd (A.deeper (envOfC qual (defScope st) s.heap.objs.size f cdv)) → sp vs H Q E →
      ∃ t, PSs (cxOf CX P w K mg base N qual (defScope st) f cdv A fs s H E) (defBody st) t ∧ t { nx := fun _ H' => Q .non H', rt := Q } (start N vs) H) : FnG P w K mg base CX (k + 1) f fd ps sp := by
  obtain ⟨oc, od, tA, oT, its, dvs, n, kV, doc, pm, an, cdv, ct, osl, rfl, lk, hcd, _⟩ := F.ex
  exact fn_Gr lk hcd S len hb
/-- n values are written; the defaults behind the first j fill up -/
theorem FunV.binds {x qual : Str} {st : Stmt} {dts : List T} {f : Addr} {fd : FuncData} {ps : List Str} (F : FunV K x qual st dts f fd) (n j : Nat) (hn : n + (dts.length - j) = ps.length)
    (h : ∀ (tA : Addr) (kV doc pm : Value) (an : Option Addr) (cdv ct : Value) (us its : List Value), us.length = n → its.length = dts.length →
      ∃ k, bindArgs (PySem.W.fnOf x qual (defArgs st) (defBody st) (defScope st) (.ref tA) kV doc pm an cdv ct) ⟨us, []⟩ = seqItems? (.ref tA) >>= k ∧ k (some its.toArray) = pure (ps.zip (us ++ its.drop j))) :
    ∃ ds dvs, Vals dvs ds ∧ (∀ G, Reps K G dvs (dts.drop j)) ∧ Binds K fd ps ds := by
  obtain ⟨oc, od, tA, oT, its, dvs, m, kV, doc, pm, an, cdv, ct, osl, rfl, lk, hcd, lT, oT, rT, rD⟩ := F.ex
  have hl : its.length = dts.length := rT.length.symm.trans (rD fun _ => none).length
  refine ⟨its.drop j, dvs.drop j, rT.drop j, fun G => (rD G).drop j, fun s us X hlen => BindsTo.of_looks fun M => ?_⟩
  rw [List.length_append, List.length_drop, hl] at hlen
  obtain ⟨k, e1, e2⟩ := h tA kV doc pm an cdv ct us its (by omega) hl
  rw [e1]
  exact looks_items X lT oT (.of_pure e2)
/-- all values are written -/
theorem FunV.bindsAll {x qual : Str} {st : Stmt} {dts : List T} {f : Addr} {fd : FuncData} {ps : List Str} (F : FunV K x qual st dts f fd)
    (h : ∀ (tA : Addr) (kV doc pm : Value) (an : Option Addr) (cdv ct : Value) (us its : List Value), us.length = ps.length → its.length = dts.length →
      ∃ k, bindArgs (PySem.W.fnOf x qual (defArgs st) (defBody st) (defScope st) (.ref tA) kV doc pm an cdv ct) ⟨us, []⟩ = seqItems? (.ref tA) >>= k ∧ k (some its.toArray) = pure (ps.zip us)) : Binds K fd ps [] := by
  obtain ⟨oc, od, tA, oT, its, dvs, m, kV, doc, pm, an, cdv, ct, osl, rfl, lk, hcd, lT, oT, rT, rD⟩ := F.ex
  have hl : its.length = dts.length := rT.length.symm.trans (rD fun _ => none).length
  intro s us X hlen
  refine BindsTo.of_looks fun M => ?_
  rw [List.append_nil] at hlen ⊢
  obtain ⟨k, e1, e2⟩ := h tA kV doc pm an cdv ct us its hlen hl
  rw [e1]
  exact looks_items X lT oT (.of_pure e2)
theorem funV_mk {x qual : Str} {st : Stmt} {dts : List T} {dvs : List V} {its : List Value} {n : Nat} {f tA : Addr} {oT : Obj} {oc : Value} {od an : Option Addr} {osl : Array (Option Value)} {kV doc pm cdv ct : Value}
    (l : K.lookup f = some ⟨oc, od, .func (PySem.W.fnOf x qual (defArgs st) (defBody st) (defScope st) (.ref tA) kV doc pm an cdv ct), osl⟩) (c : PySem.W.codeIn K cdv qual = true) (k : PySem.W.keepIn K (.ref f) = true) (lT : K.lookup tA = some oT) (hT : oT.data = .seq its.toArray n) (r : Vals dvs its) (rD : ∀ G, Reps K G dvs dts) :
    FunV K x qual st dts f (PySem.W.fnOf x qual (defArgs st) (defBody st) (defScope st) (.ref tA) kV doc pm an cdv ct) := ⟨⟨oc, od, tA, oT, its, dvs, n, kV, doc, pm, an, cdv, ct, osl, rfl, l, c, lT, hT, r, rD⟩, k⟩
end
/-! ### the end -/
/-- the law's def, called -/
theorem law_G {P : Program} {w : World} {K : PySem.W.Frag} {mg mb : Str → Option Value} {CX : CXT} {k : Nat} {fa a : Addr} {fd : FuncData} {x : Str} {sp : Sp} {s : Shared} {vs : List Value} {ns : List Int}
    (KX : K.In s.heap) (hns : s.heap.Ns mainGlobals mg) (hb : s.heap.Ns builtinsNs mb) (hbb : ∀ x : Str, x ≠ "__name__" → mb x = bootBuiltins x) (hlim : s.heap.NoLimit) (hg : s.gens = #[])
    (ha : s.heap.get? a = some { cls := .type "list", data := .seq vs.toArray }) (hi : IntsAre vs ns) (hl : ns.length ≤ sizeLine) (hr : Room k callerA)
    (F : ∀ base : Heap, K.In base → base.Ns mainGlobals mg → FnG P w K mg base CX k fa fd [x] sp) (hbind : ∀ (s : Shared) (u : Value), BindsTo s fd ⟨[u], []⟩ [(x, u)])
    (hsp : ∀ H : Hp, Only H → SqL K H a (ns.map V.int) → sp [.ref a] H (fun v _ => v = .bl true) fun _ _ _ => False) (hCX : ∀ H e s', CX [] H s (fun _ _ _ => False) e s' → False) :
    codeAny (model P w) callerA (.call (.ref fa) ⟨[.ref a], []⟩) (fun r s' => r = .ok (.ret (.bool true)) ∧ OldK s.heap s'.heap ∧ s'.os = s.os ∧ AllBare s'.gens) s := by
  have rv := vals_ints hi
  have hz : ns.length = vs.length := by first | exact hi.length.symm | exact hi.length
  -- H tracks the script at most
  have core : ∀ H : Hp, Only H → SqL K H a (ns.map V.int) → HOk P w H s.heap → (∀ b, H b ≠ none → b = a ∧ K.lookup a = none) →
      codeAny (model P w) callerA (.call (.ref fa) ⟨[.ref a], []⟩) (fun r s' => r = .ok (.ret (.bool true)) ∧ OldK s.heap s'.heap ∧ s'.os = s.os ∧ AllBare s'.gens) s := by
    intro H hO hS hok hA
    have free : ∀ {b : Addr}, b ≠ a → H b = none := fun {b} z => by
      by_cases q : H b = none
      · exact q
      · exact absurd (hA b q).1 z
    have stay : ∀ {b : Addr} {o : Obj}, s.heap.get? b = some o → H b = none → (hidT s.heap H).get? b = some o := fun e n => hidT_get e n
    have nsK : ∀ {b : Addr} {m : Str → Option Value}, s.heap.Ns b m → (hidT s.heap H).Ns b m := by
      rintro b m ⟨o, es, ep, e, d, r⟩
      refine ⟨o, es, ep, stay e (free fun z => ?_), d, r⟩
      subst z
      rw [ha] at e
      cases e
      have d' : Data.seq vs.toArray _ = Data.dict es ep := d
      cases d'
    have hKb : K.In (hidT s.heap H) := fun b o e => stay (KX b o e) (by
      by_cases q : H b = none
      · exact q
      · obtain ⟨z, n⟩ := hA b q
        rw [z, n] at e
        cases e)
    obtain ⟨mc, l1, l2⟩ := hlim
    have e0 : Env0 P w K mg (hidT s.heap H) callerA [] s H :=
      ⟨rfl, ⟨hKb, nsK hns, ⟨mb, nsK hb, hbb⟩, ⟨mc, nsK l1, l2⟩⟩, fun b o e => of_hidT e, Nat.le_of_eq (hidT_size _ _), trivial, fun b z => (List.not_mem_nil z).elim, hok, .of_eq hg⟩
    refine codeAny_mono ((F _ hKb (nsK hns)).run callerA hr rfl [] s H ⟨[.ref a], []⟩ [.ref a] [.ref a] _ _ e0 (hbind s (.ref a)) (.cons rfl .nil) (hsp H hO hS)) fun r s' q => ?_
    rcases r with e | fl
    · exact (hCX H e s' q).elim
    · cases fl with
      | ret u =>
        obtain ⟨v, H', os, bare, un, hok', r', q⟩ := q
        obtain rfl : v = .bl true := q
        obtain rfl : u = Value.bool true := r'
        refine ⟨rfl, OldK.of_keep fun b o e => ?_, os, bare⟩
        by_cases qb : H b = none
        · exact un.keep b o e qb (fun z => (List.not_mem_nil z).elim) (by simp)
        · rcases hO b with z | ⟨ob, xs, z⟩
          · exact absurd z qb
          · have e1 := (hok b _ z).1
            have e2 := (hok' b _ (un.frzs b ob _ z)).1
            rw [e] at e1
            cases e1
            exact e2
      | _ => exact q.elim
  by_cases hk : K.lookup a = none
  · have hH : ∀ b, (fun b => if b = a then some (HO.frz { cls := .type "list", data := .seq vs.toArray } (.lst (ns.map V.int))) else none) b ≠ none → b = a ∧ K.lookup a = none := fun b z => by
      by_cases q : b = a
      · exact ⟨q, hk⟩
      · exact absurd (if_neg q) z
    refine core _ (fun b => ?_) (.inl (.inr ⟨{ cls := .type "list", data := .seq vs.toArray }, if_pos rfl⟩)) (fun b u z => ?_) hH
    · by_cases q : b = a
      · exact .inr ⟨_, _, if_pos q⟩
      · exact .inl (if_neg q)
    · by_cases q : b = a
      · subst q
        cases (if_pos rfl).symm.trans z
        exact ⟨ha, by rw [List.length_map]; exact hl, vs, _, rv, ha⟩
      · cases (if_neg q).symm.trans z
  · obtain ⟨o, ho⟩ := Option.ne_none_iff_exists'.mp hk
    have e := KX a o ho
    rw [ha] at e
    cases e
    have hH : ∀ b, (fun _ : Addr => (none : Option HO)) b ≠ none → b = a ∧ K.lookup a = none := fun b z => absurd rfl z
    refine core (fun _ => none) (fun _ => .inl rfl) (.inr ⟨_, vs.toArray, _, ho, rfl, rfl, rfl, by rw [List.size_toArray, ← hz]; exact hl, by simpa using rv⟩) (fun b u z => ?_) hH
    cases z
theorem walk_G {l : PySem.W.OpenLaw} {n k : Nat} {q : Program} {loose : List Str} {XP : (Str → Option Value) → Heap → Prop} {YP : World → Heap → Prop} {d : DefRec} {K : Params → PySem.W.Frag} {CX : World → CXT} {sp : World → Sp} {x : Str}
    (hn : l.most = some n) (hn2 : n ≤ sizeLine) (hdf : d.params.defaults = []) (hr : Room k callerA) (hY : ∀ (w : World) (h : Heap), YP w h → (K w.params).In h)
    (F : ∀ (w : World) (mg : Str → Option Value) (fa : Addr) (h : Heap), (K w.params).In h → h.Ns mainGlobals mg → mg d.name = some (.ref fa) →
      ∃ fd : FuncData, (∀ (s : Shared) (u : Value), BindsTo s fd ⟨[u], []⟩ [(x, u)]) ∧
        ∀ base : Heap, (K w.params).In base → base.Ns mainGlobals mg → FnG l.prog w (K w.params) mg base (CX w) k fa fd [x] (sp w))
    (hsp : ∀ (w : World) (H : Hp) (a : Addr) (ns : List Int), ns.length ≤ n → Only H → SqL (K w.params) H a (ns.map V.int) → sp w [.ref a] H (fun v _ => v = .bl true) fun _ _ _ => False)
    (hCX : ∀ (w : World) (H : Hp) (s : Shared) (e : Value) (s' : Shared), CX w [] H s (fun _ _ _ => False) e s' → False) :
    PySem.W.WalkO q loose XP YP l.row.toRowW d [] (fun f vs => PySem.call f vs) :=
  Att.attach_call hn hdf fun w s₀ s₁ mg mb fa o pm cd doc a vs ns G Y ho hd hcd hmg hobj hints hlen hg =>
    let ⟨_, hb, hF⟩ := F w mg fa _ (hY w _ Y) G.T.g hmg
    law_G (hY w _ Y) G.T.g G.T.b G.T.builtins G.T.nolimit hg hobj hints (Nat.le_trans hlen hn2) hr hF hb (fun H hO hS => hsp w H a ns hlen hO hS) fun H e s' => hCX w H s₁ e s'
end Fx

/-! Fx 5: calls of own defs, lists handed over to be changed. -/
namespace Fx
open PySem PySem.Spec PyProof.Rows L2

/-- an argument: a tree, or the caller's own list of a slot -/
inductive Ar where
  | v (t : T) | io (i : Nat)
abbrev XF := Sls → Option (List Ar × Sls)
inductive ArOk (K : PySem.W.Frag) (G : Hp) (σ : L2.St) : V → Ar → Prop
  | v {x : V} {t : T} : Rep K G x t → ArOk K G σ x (.v t)
  | io {x : V} {i : Nat} : σ[i]? = some (some x) → ArOk K G σ x (.io i)
theorem ArOk.mono {K : PySem.W.Frag} {G G' : Hp} {σ : L2.St} {x : V} {a : Ar} (h : ArOk K G σ x a) (e : Ext G G') : ArOk K G' σ x a := by
  cases h with
  | v r => exact .v (r.mono e)
  | io r => exact .io r
def tXs (K : PySem.W.Frag) (f : XF) : TA := fun σ H Q => ∃ O env as env', RepS K H O σ env ∧ f env = some (as, env') ∧ ∀ vs H' O', Nx σ env H O σ env' H' O' → RepS K H' O' σ env' → Paired (ArOk K (hid H' O') σ) vs as → Q vs H'
def XA (X : Cx) (es : List Expr) (f : XF) : Prop := PA X es (tXs X.K f)
def XKw (X : Cx) (kws : List Keyword) (f : XF) : Prop := PK X kws (tXs X.K f)
theorem pk_mono {X : Cx} {e : List Keyword} {t t' : TA} (h : PK X e t) (m : ∀ σ H Q, t' σ H Q → t σ H Q) : PK X e t' := ⟨fun pos pins s σ H Q I q => h.run pos pins s σ H Q I (m _ _ _ q)⟩
@[simp] def xN : XF := fun env => some ([], env)
@[simp] def xV (f : EF) (r : XF) : XF := fun env => (f env).bind fun p => (r p.2).map fun q => (.v p.1 :: q.1, q.2)
@[simp] def xIo (i : Nat) (r : XF) : XF := fun env => match env[i]?.bind Sl.cont with
  | some _ => (r env).map fun q => (.io i :: q.1, q.2)
  | none => none
section
variable {X : Cx} {e : Expr} {es : List Expr} {kws : List Keyword} {f : EF} {r : XF} {pos : Pos} {nm : Option Str} {kpos : Pos}
theorem paired_mono {α β : Type} {R R' : α → β → Prop} (h : ∀ a b, R a b → R' a b) : ∀ {l : List α} {m : List β}, Paired R l m → Paired R' l m
  | _, _, .nil => .nil
  | _, _, .cons x y => .cons (h _ _ x) (paired_mono h y)
theorem xa_nil : XA X [] xN := pa_mono pa_nil fun σ H Q ⟨O, env, as, env', S, e, k⟩ => by
  cases e
  exact k [] H O .refl S .nil
theorem xa_val (ha : EV X e f) (hr : XA X es r) (hs : starEach (e :: es) X.env = (false, eval e X.env) :: starEach es X.env := by rfl) : XA X (e :: es) (xV f r) :=
  pa_mono (pa_cons ha hr hs) fun σ H Q ⟨O, env, as, env', S, e, k⟩ => by
    unfold xV at e
    obtain ⟨⟨t, e1⟩, q1, e⟩ := Option.bind_eq_some_iff.mp e
    obtain ⟨⟨as2, e2⟩, q2, e⟩ := Option.map_eq_some_iff.mp e
    cases e
    exact ⟨O, env, t, e1, S, q1, fun v H1 O1 n1 S1 r1 => ⟨O1, e1, as2, _, S1, q2, fun vs H2 O2 n2 S2 r2 => k _ H2 O2 (n1.trans n2) S2 (.cons (.v (r1.mono (S1.grow n2))) r2)⟩⟩
theorem xa_io {i : Nat} {x : Str} (ha : PE X (.Name x pos) (tVar i)) (hr : XA X es r) (hs : starEach (.Name x pos :: es) X.env = (false, eval (.Name x pos) X.env) :: starEach es X.env := by rfl) : XA X (.Name x pos :: es) (xIo i r) :=
  pa_mono (pa_cons ha hr hs) fun σ H Q ⟨O, env, as, env', S, e, k⟩ => by
    unfold xIo at e
    cases hc : env[i]?.bind Sl.cont with
    | none => rw [hc] at e; cases e
    | some t =>
      rw [hc] at e
      obtain ⟨⟨as2, e2⟩, q2, e⟩ := Option.map_eq_some_iff.mp e
      cases e
      obtain ⟨p, h1, _⟩ := S.own i t hc
      exact ⟨_, h1, O, env, as2, _, S, q2, fun vs H2 O2 n2 S2 r2 => k _ H2 O2 n2 S2 (.cons (.io h1) r2)⟩
theorem xk_nil : XKw X [] xN := pk_mono pk_nil fun σ H Q ⟨O, env, as, env', S, e, k⟩ => by
  cases e
  exact k [] H O .refl S .nil
theorem xk_val (ha : EV X e f) (hr : XKw X kws r) : XKw X (⟨nm, e, kpos⟩ :: kws) (xV f r) :=
  pk_mono (pk_cons ha hr) fun σ H Q ⟨O, env, as, env', S, e, k⟩ => by
    unfold xV at e
    obtain ⟨⟨t, e1⟩, q1, e⟩ := Option.bind_eq_some_iff.mp e
    obtain ⟨⟨as2, e2⟩, q2, e⟩ := Option.map_eq_some_iff.mp e
    cases e
    exact ⟨O, env, t, e1, S, q1, fun v H1 O1 n1 S1 r1 => ⟨O1, e1, as2, _, S1, q2, fun vs H2 O2 n2 S2 r2 => k _ H2 O2 (n1.trans n2) S2 (.cons (.v (r1.mono (S1.grow n2))) r2)⟩⟩
end

/-! ### what a def is worth -/
abbrev MF := Sls → Option (T × Sls)
def noOwn (sls : Sls) : Prop := ∀ (i : Nat) (u : T), sls[i]? ≠ some (Sl.own u)
def spF (K : PySem.W.Frag) (n : Nat) (m : MF) : Sp := fun vs H Q _ => ∃ O sls t sls', vs.length = n ∧ noOwn sls ∧ RepS K H O (vs.map some) sls ∧ m sls = some (t, sls') ∧
  ∀ v H' O', Nx (vs.map some) sls H O (vs.map some) sls' H' O' → RepS K H' O' (vs.map some) sls' → Rep K (hid H' O') v t → Q v H'
@[simp] def resolve (env : Sls) : List Ar → Option Sls
  | [] => some []
  | .v t :: r => (resolve env r).map fun l => .val t :: l
  | .io i :: r => match env[i]?.bind Sl.cont with
    | some t => (resolve env r).map fun l => .io t :: l
    | none => none
@[simp] def ios : List Ar → List Nat
  | [] => []
  | .v _ :: r => ios r
  | .io i :: r => i :: ios r
@[simp] def setCont (env : Sls) (i : Nat) (t : T) : Sls := match env[i]? with
  | some (.own _) => env.set i (.own t)
  | some (.io _) => env.set i (.io t)
  | _ => env
@[simp] def writeB (env : Sls) : List Ar → Sls → Sls
  | .io i :: as, .io t :: sls => writeB (setCont env i t) as sls
  | _ :: as, _ :: sls => writeB env as sls
  | _, _ => env
@[simp] def eCall (m : MF) (fx : XF) : EF := fun env => (fx env).bind fun p => if (ios p.1).Nodup then (resolve p.2 p.1).bind fun sls => (m sls).map fun r => (r.1, writeB p.2 p.1 r.2) else none

theorem setCont_ne {env : Sls} {i j : Nat} {t : T} (h : i ≠ j) : (setCont env i t)[j]? = env[j]? := by
  unfold setCont
  split
  · rw [List.getElem?_set_ne h]
  · rw [List.getElem?_set_ne h]
  · rfl
theorem setCont_own {env : Sls} {i : Nat} {t u : T} (h : env[i]? = some (.own u)) : (setCont env i t)[i]? = some (.own t) := by
  unfold setCont
  rw [h]
  rw [List.getElem?_set_self (List.getElem?_eq_some_iff.mp h).1]
theorem setCont_io {env : Sls} {i : Nat} {t u : T} (h : env[i]? = some (.io u)) : (setCont env i t)[i]? = some (.io t) := by
  unfold setCont
  rw [h]
  rw [List.getElem?_set_self (List.getElem?_eq_some_iff.mp h).1]
theorem setCont_len {env : Sls} {i : Nat} {t : T} : (setCont env i t).length = env.length := by
  unfold setCont
  split <;> simp
theorem writeB_len : ∀ {as : List Ar} {sls env : Sls}, (writeB env as sls).length = env.length
  | [], _, _ => by unfold writeB; rfl
  | .v _ :: as, [], _ => by unfold writeB; rfl
  | .io _ :: as, [], _ => by unfold writeB; rfl
  | .v _ :: as, s :: sls, env => by unfold writeB; exact writeB_len
  | .io i :: as, .io t :: sls, env => by unfold writeB; rw [writeB_len, setCont_len]
  | .io i :: as, .un :: sls, env => by unfold writeB; exact writeB_len
  | .io i :: as, .val _ :: sls, env => by unfold writeB; exact writeB_len
  | .io i :: as, .own _ :: sls, env => by unfold writeB; exact writeB_len
theorem writeB_out {i : Nat} : ∀ {as : List Ar} {sls env : Sls}, i ∉ ios as → (writeB env as sls)[i]? = env[i]?
  | [], _, _, _ => by unfold writeB; rfl
  | .v _ :: as, [], _, _ => by unfold writeB; rfl
  | .io _ :: as, [], _, _ => by unfold writeB; rfl
  | .v _ :: as, s :: sls, env, h => by
    unfold writeB
    exact writeB_out (as := as) h
  | .io j :: as, .io t :: sls, env, h => by
    unfold writeB
    have hj : j ≠ i := fun z => h (by unfold ios; rw [z]; exact List.mem_cons_self)
    rw [writeB_out (as := as) fun z => h (by unfold ios; exact List.mem_cons_of_mem _ z), setCont_ne hj]
  | .io j :: as, .un :: sls, env, h => by
    unfold writeB
    exact writeB_out (as := as) fun z => h (by unfold ios; exact List.mem_cons_of_mem _ z)
  | .io j :: as, .val _ :: sls, env, h => by
    unfold writeB
    exact writeB_out (as := as) fun z => h (by unfold ios; exact List.mem_cons_of_mem _ z)
  | .io j :: as, .own _ :: sls, env, h => by
    unfold writeB
    exact writeB_out (as := as) fun z => h (by unfold ios; exact List.mem_cons_of_mem _ z)
theorem ios_mem {i : Nat} : ∀ {as : List Ar} {j : Nat}, as[j]? = some (.io i) → i ∈ ios as
  | a :: as, 0, h => by
    simp at h
    subst h
    unfold ios
    exact List.mem_cons_self
  | .v _ :: as, j + 1, h => by
    unfold ios
    exact ios_mem (j := j) (by simpa using h)
  | .io _ :: as, j + 1, h => by
    unfold ios
    exact List.mem_cons_of_mem _ (ios_mem (j := j) (by simpa using h))
theorem mem_ios {i : Nat} : ∀ {as : List Ar}, i ∈ ios as → ∃ j : Nat, as[j]? = some (.io i)
  | .v _ :: as, h => by
    unfold ios at h
    obtain ⟨j, e⟩ := mem_ios h
    exact ⟨j + 1, by simpa using e⟩
  | .io k :: as, h => by
    unfold ios at h
    rcases List.mem_cons.mp h with e | e
    · subst e
      exact ⟨0, rfl⟩
    · obtain ⟨j, e⟩ := mem_ios e
      exact ⟨j + 1, by simpa using e⟩
theorem ios_inj : ∀ {as : List Ar} {j k : Nat} {i : Nat}, (ios as).Nodup → as[j]? = some (.io i) → as[k]? = some (.io i) → j = k
  | a :: as, 0, 0, _, _, _, _ => rfl
  | a :: as, 0, k + 1, i, nd, h1, h2 => by
    simp at h1
    subst h1
    unfold ios at nd
    exact ((List.nodup_cons.mp nd).1 (ios_mem (j := k) (by simpa using h2))).elim
  | a :: as, j + 1, 0, i, nd, h1, h2 => by
    simp at h2
    subst h2
    unfold ios at nd
    exact ((List.nodup_cons.mp nd).1 (ios_mem (j := j) (by simpa using h1))).elim
  | .v _ :: as, j + 1, k + 1, i, nd, h1, h2 => by
    unfold ios at nd
    have h1 : as[j]? = some (.io i) := by simpa using h1
    have h2 : as[k]? = some (.io i) := by simpa using h2
    have q := ios_inj nd h1 h2
    omega
  | .io _ :: as, j + 1, k + 1, i, nd, h1, h2 => by
    unfold ios at nd
    have h1 : as[j]? = some (.io i) := by simpa using h1
    have h2 : as[k]? = some (.io i) := by simpa using h2
    have q := ios_inj (List.nodup_cons.mp nd).2 h1 h2
    omega
theorem writeB_in {i : Nat} {t u : T} : ∀ {as : List Ar} {sls env : Sls} {j : Nat}, (ios as).Nodup → as[j]? = some (.io i) → sls[j]? = some (.io t) →
    (env[i]? = some (.own u) → (writeB env as sls)[i]? = some (.own t)) ∧ (env[i]? = some (.io u) → (writeB env as sls)[i]? = some (.io t))
  | [], _, _, _, _, h, _ => by simp at h
  | _ :: _, [], _, _, _, _, h => by simp at h
  | a :: as, s :: sls, env, 0, nd, h1, h2 => by
    simp at h1 h2
    subst h1
    subst h2
    unfold ios at nd
    unfold writeB
    constructor
    · intro h
      rw [writeB_out (List.nodup_cons.mp nd).1]
      exact setCont_own h
    · intro h
      rw [writeB_out (List.nodup_cons.mp nd).1]
      exact setCont_io h
  | .v _ :: as, s :: sls, env, j + 1, nd, h1, h2 => by
    unfold ios at nd
    unfold writeB
    exact writeB_in (as := as) (j := j) nd (by simpa using h1) (by simpa using h2)
  | .io k :: as, s :: sls, env, j + 1, nd, h1, h2 => by
    unfold ios at nd
    have hk : k ≠ i := fun z => (List.nodup_cons.mp nd).1 (by rw [z]; exact ios_mem (j := j) (by simpa using h1))
    have ih := fun env' => writeB_in (u := u) (as := as) (sls := sls) (env := env') (j := j) (List.nodup_cons.mp nd).2 (by simpa using h1) (by simpa using h2)
    cases s with
    | io w =>
      unfold writeB
      have := ih (setCont env k w)
      rw [setCont_ne hk] at this
      exact this
    | un => unfold writeB; exact ih env
    | val _ => unfold writeB; exact ih env
    | own _ => unfold writeB; exact ih env
theorem resolve_get : ∀ {as : List Ar} {env sls : Sls}, resolve env as = some sls → sls.length = as.length ∧ (∀ (j : Nat) (t : T), as[j]? = some (.v t) → sls[j]? = some (.val t)) ∧ (∀ (j i : Nat), as[j]? = some (.io i) → ∃ t, env[i]?.bind Sl.cont = some t ∧ sls[j]? = some (.io t))
  | [], env, sls, h => by
    cases h
    exact ⟨rfl, fun j t h => by simp at h, fun j i h => by simp at h⟩
  | .v u :: as, env, sls, h => by
    unfold resolve at h
    obtain ⟨l, q, h⟩ := Option.map_eq_some_iff.mp h
    cases h
    obtain ⟨h1, h2, h3⟩ := resolve_get q
    refine ⟨by simp [h1], fun j t h => ?_, fun j i h => ?_⟩
    · cases j with
      | zero => simp at h; subst h; rfl
      | succ j => simpa using h2 j t (by simpa using h)
    · cases j with
      | zero => simp at h
      | succ j => simpa using h3 j i (by simpa using h)
  | .io k :: as, env, sls, h => by
    unfold resolve at h
    cases hc : env[k]?.bind Sl.cont with
    | none => rw [hc] at h; cases h
    | some w =>
      rw [hc] at h
      obtain ⟨l, q, h⟩ := Option.map_eq_some_iff.mp h
      cases h
      obtain ⟨h1, h2, h3⟩ := resolve_get q
      refine ⟨by simp [h1], fun j t h => ?_, fun j i h => ?_⟩
      · cases j with
        | zero => simp at h
        | succ j => simpa using h2 j t (by simpa using h)
      · cases j with
        | zero => simp at h; subst h; exact ⟨w, hc, rfl⟩
        | succ j => simpa using h3 j i (by simpa using h)
theorem resolve_noOwn : ∀ {as : List Ar} {env sls : Sls}, resolve env as = some sls → noOwn sls
  | [], env, sls, h => by
    cases h
    intro i u z
    simp at z
  | .v w :: as, env, sls, h => by
    unfold resolve at h
    obtain ⟨l, q, h⟩ := Option.map_eq_some_iff.mp h
    cases h
    intro i u z
    cases i with
    | zero => simp at z
    | succ i => exact resolve_noOwn q i u (by simpa using z)
  | .io k :: as, env, sls, h => by
    unfold resolve at h
    cases hc : env[k]?.bind Sl.cont with
    | none => rw [hc] at h; cases h
    | some w =>
      rw [hc] at h
      obtain ⟨l, q, h⟩ := Option.map_eq_some_iff.mp h
      cases h
      intro i u z
      cases i with
      | zero => simp at z
      | succ i => exact resolve_noOwn q i u (by simpa using z)
theorem paired_get {α β : Type} {R : α → β → Prop} : ∀ {l : List α} {m : List β}, Paired R l m → ∀ (i : Nat) (b : β), m[i]? = some b → ∃ a, l[i]? = some a ∧ R a b
  | _, _, .nil, i, b, h => by simp at h
  | _, _, .cons r _, 0, b, h => by simp at h; subst h; exact ⟨_, rfl, r⟩
  | _, _, .cons _ t, i + 1, b, h => by
    obtain ⟨a, h1, h2⟩ := paired_get t i b (by simpa using h)
    exact ⟨a, by simpa using h1, h2⟩

section
variable {K : PySem.W.Frag} {H H' : Hp} {O O' : List Addr} {σ : L2.St} {env : Sls} {as : List Ar} {sls sls' : Sls} {vs : List V}
theorem map_some_get {i : Nat} {v : V} : (vs.map some)[i]? = some (some v) ↔ vs[i]? = some v := by
  rw [List.getElem?_map]
  cases vs[i]? <;> simp
/-- the callee's slots -/
theorem RepS.args (S : RepS K H O σ env) (pr : Paired (ArOk K (hid H O) σ) vs as) (hr : resolve env as = some sls) (nd : (ios as).Nodup) : RepS K H O (vs.map some) sls ∧ (∀ a, Owns (vs.map some) sls a → Owns σ env a) := by
  obtain ⟨h1, h2, h3⟩ := resolve_get hr
  have hl : vs.length = as.length := Paired.length pr
  -- what stands at j
  have cas : ∀ (j : Nat) (x : Sl), sls[j]? = some x → (∃ t, as[j]? = some (.v t) ∧ x = .val t) ∨ (∃ i t, as[j]? = some (.io i) ∧ env[i]?.bind Sl.cont = some t ∧ x = .io t) := fun j x h => by
    have hj : j < as.length := by rw [← h1]; exact (List.getElem?_eq_some_iff.mp h).1
    cases ha : as[j] with
    | v t =>
      have e : as[j]? = some (.v t) := by rw [List.getElem?_eq_getElem hj, ha]
      have := h2 j t e
      rw [h] at this
      cases this
      exact .inl ⟨t, e, rfl⟩
    | io i =>
      have e : as[j]? = some (.io i) := by rw [List.getElem?_eq_getElem hj, ha]
      obtain ⟨t, h4, h5⟩ := h3 j i e
      rw [h] at h5
      cases h5
      exact .inr ⟨i, t, e, h4, rfl⟩
  have own1 : ∀ (j : Nat) (t : T), sls[j]?.bind Sl.cont = some t → ∃ (i : Nat) (p : Addr), as[j]? = some (.io i) ∧ env[i]?.bind Sl.cont = some t ∧ vs[j]? = some (.ref p) ∧ σ[i]? = some (some (.ref p)) ∧ p ∈ O ∧ RepO K (hid H O) H p t := fun j t h => by
    cases hx : sls[j]? with
    | none => rw [hx] at h; cases h
    | some x =>
      rw [hx] at h
      rcases cas j x hx with ⟨u, _, rfl⟩ | ⟨i, u, e1, e2, rfl⟩
      · cases h
      · cases h
        obtain ⟨v, g1, g2⟩ := paired_get pr j _ e1
        cases g2 with
        | io g2 =>
          obtain ⟨p, q1, q2, q3⟩ := S.own i _ e2
          rw [g2] at q1
          cases q1
          exact ⟨i, p, e1, e2, g1, g2, q2, q3⟩
  refine ⟨⟨by rw [List.length_map, h1, hl], S.dom, fun j t h => ?_, fun j t h => ?_, fun j k t u p g1 g2 g3 g4 => ?_⟩, fun a h => ?_⟩
  · rcases cas j _ h with ⟨u, e, q⟩ | ⟨i, u, _, _, q⟩
    · cases q
      obtain ⟨v, g1, g2⟩ := paired_get pr j _ e
      cases g2 with
      | v g2 => exact ⟨v, map_some_get.mpr g1, g2⟩
    · cases q
  · obtain ⟨i, p, _, _, q1, _, q2, q3⟩ := own1 j t h
    exact ⟨p, map_some_get.mpr q1, q2, q3⟩
  · obtain ⟨i1, p1, a1, a2, a3, a4, _⟩ := own1 j t g1
    obtain ⟨i2, p2, b1, b2, b3, b4, _⟩ := own1 k u g2
    rw [map_some_get] at g3 g4
    rw [a3] at g3
    rw [b3] at g4
    cases g3
    cases g4
    have : i1 = i2 := S.inj i1 i2 _ _ _ a2 b2 a4 b4
    subst this
    exact ios_inj nd a1 b1
  · obtain ⟨j, t, g1, g2⟩ := h
    obtain ⟨i1, p1, a1, a2, a3, a4, _⟩ := own1 j t g1
    rw [map_some_get, a3] at g2
    cases g2
    exact ⟨i1, t, a2, a4⟩
/-- behind the call -/
theorem RepS.back (S : RepS K H O σ env) (pr : Paired (ArOk K (hid H O) σ) vs as) (hr : resolve env as = some sls) (nd : (ios as).Nodup)
    (n : Nx (vs.map some) sls H O (vs.map some) sls' H' O') (S' : RepS K H' O' (vs.map some) sls') : Nx σ env H O σ (writeB env as sls') H' O' ∧ RepS K H' O' σ (writeB env as sls') := by
  obtain ⟨SA, oA⟩ := S.args pr hr nd
  obtain ⟨h1, h2, h3⟩ := resolve_get hr
  have gx : Ext (hid H O) (hid H' O') := SA.grow n
  -- a slot behind the call
  have at1 : ∀ (i : Nat), (i ∉ ios as ∧ (writeB env as sls')[i]? = env[i]?) ∨ (∃ (j : Nat) (p : Addr) (t u : T), as[j]? = some (.io i) ∧ vs[j]? = some (.ref p) ∧ σ[i]? = some (some (.ref p)) ∧ env[i]?.bind Sl.cont = some u ∧ sls'[j]? = some (.io t) ∧ sls[j]? = some (.io u) ∧
      ((env[i]? = some (.own u) ∧ (writeB env as sls')[i]? = some (.own t)) ∨ (env[i]? = some (.io u) ∧ (writeB env as sls')[i]? = some (.io t)))) := fun i => by
    by_cases hi : i ∈ ios as
    · obtain ⟨j, hj⟩ := mem_ios hi
      obtain ⟨u, e1, e2⟩ := h3 j i hj
      obtain ⟨⟨t, e3⟩, _⟩ := n.io j u e2
      obtain ⟨v, g1, g2⟩ := paired_get pr j _ hj
      cases g2 with
      | io g2 =>
        obtain ⟨p, q1, q2, q3⟩ := S.own i u e1
        rw [g2] at q1
        cases q1
        refine .inr ⟨j, p, t, u, hj, g1, g2, e1, e3, e2, ?_⟩
        have w := writeB_in (env := env) (u := u) nd hj e3
        cases he : env[i]? with
        | none => rw [he] at e1; cases e1
        | some x =>
          cases x with
          | own x => rw [he] at e1; cases e1; exact .inl ⟨rfl, w.1 he⟩
          | io x => rw [he] at e1; cases e1; exact .inr ⟨rfl, w.2 he⟩
          | un => rw [he] at e1; cases e1
          | val _ => rw [he] at e1; cases e1
    · exact .inl ⟨hi, writeB_out hi⟩
  have ownB : ∀ (i : Nat) (t : T), (writeB env as sls')[i]?.bind Sl.cont = some t → ∃ u, env[i]?.bind Sl.cont = some u := fun i t h => by
    rcases at1 i with ⟨_, e⟩ | ⟨j, p, t', u, _, _, _, e, _⟩
    · rw [e] at h; exact ⟨t, h⟩
    · exact ⟨u, e⟩
  -- an own list that was not handed over
  have left : ∀ (i : Nat) (t : T) (p : Addr), i ∉ ios as → env[i]?.bind Sl.cont = some t → σ[i]? = some (some (.ref p)) → ¬ Owns (vs.map some) sls p := fun i t p hi e es z => by
    obtain ⟨j, u, g1, g2⟩ := z
    cases hx : sls[j]? with
    | none => rw [hx] at g1; cases g1
    | some x =>
      rw [hx] at g1
      have hj : j < as.length := by rw [← h1]; exact (List.getElem?_eq_some_iff.mp hx).1
      cases ha : as[j] with
      | v t' =>
        have q := h2 j t' (by rw [List.getElem?_eq_getElem hj, ha])
        rw [hx] at q
        cases q
        cases g1
      | io i' =>
        have e' : as[j]? = some (.io i') := by rw [List.getElem?_eq_getElem hj, ha]
        obtain ⟨t', q1, q2⟩ := h3 j i' e'
        obtain ⟨v, q3, q4⟩ := paired_get pr j _ e'
        cases q4 with
        | io q4 =>
          rw [map_some_get, q3] at g2
          cases g2
          have : i = i' := S.inj i i' _ _ _ e q1 es q4
          subst this
          exact hi (ios_mem e')
  refine ⟨⟨fun a o e z => n.fr a o e fun q => z (oA a q), n.dom, n.sub, fun a z => ?_, fun a z => ?_, fun i t z => ?_, fun i t z => ?_⟩, ⟨by rw [writeB_len]; exact S.len, S'.dom, fun i t z => ?_, fun i t z => ?_, fun i k t u p g1 g2 g3 g4 => ?_⟩⟩
  · rcases n.sup a z with q | q | q
    · exact .inl q
    · exact .inr (.inl (oA a q))
    · exact .inr (.inr q)
  · obtain ⟨i, t, g1, g2⟩ := z
    obtain ⟨u, e⟩ := ownB i t g1
    exact .inl ⟨i, u, e, g2⟩
  · rcases at1 i with ⟨_, e⟩ | ⟨j, p, t', u, _, _, _, _, _, _, ⟨e, _⟩ | ⟨_, e⟩⟩
    · exact ⟨⟨t, by rw [e]; exact z⟩, rfl⟩
    · rw [z] at e; cases e
    · exact ⟨⟨t', e⟩, rfl⟩
  · rcases at1 i with ⟨_, e⟩ | ⟨j, p, t', u, _, _, _, _, _, _, ⟨_, e⟩ | ⟨e, _⟩⟩
    · exact ⟨t, by rw [← e]; exact z⟩
    · rw [z] at e; cases e
    · exact ⟨u, e⟩
  · rcases at1 i with ⟨_, e⟩ | ⟨j, p, t', u, _, _, _, _, _, _, ⟨_, e⟩ | ⟨_, e⟩⟩
    · rw [e] at z
      obtain ⟨v, g1, g2⟩ := S.val i t z
      exact ⟨v, g1, g2.mono gx⟩
    · rw [z] at e; cases e
    · rw [z] at e; cases e
  · rcases at1 i with ⟨hi, e⟩ | ⟨j, p, t', u, _, hv, hs, _, e3, _, hw⟩
    · rw [e] at z
      obtain ⟨p, g1, g2, g3⟩ := S.own i t z
      have no := left i t p hi z g1
      obtain ⟨o, eo⟩ := g3.there
      refine ⟨p, g1, ?_, g3.mono gx ((n.fr p o eo no).trans eo.symm)⟩
      rcases n.sup p g2 with q | q | q
      · exact q
      · exact (no q).elim
      · rw [eo] at q; cases q
    · have zt : t = t' := by
        rcases hw with ⟨_, e⟩ | ⟨_, e⟩ <;> (rw [e] at z; exact (Option.some.inj z).symm)
      subst zt
      obtain ⟨p', g1, g2, g3⟩ := S'.own j t (by rw [e3]; rfl)
      rw [map_some_get, hv] at g1
      cases g1
      exact ⟨_, hs, g2, g3⟩
  · obtain ⟨u1, e1⟩ := ownB i t g1
    obtain ⟨u2, e2⟩ := ownB k u g2
    exact S.inj i k u1 u2 p e1 e2 g3 g4
end
section
variable {X : Cx} {k n : Nat} {f : Addr} {fd : FuncData} {ps ks : List Str} {m : MF} {dvs : List V} {ds : List Value} {dts : List T} {x : Str} {p pos : Pos} {e : Expr} {es : List Expr} {kws : List Keyword} {fx fk : XF}
@[simp] def xDef (dts : List T) (fx : XF) : XF := fun env => (fx env).map fun q => (q.1 ++ dts.map .v, q.2)
theorem paired_app {α β : Type} {R : α → β → Prop} : ∀ {l l' : List α} {m m' : List β}, Paired R l m → Paired R l' m' → Paired R (l ++ l') (m ++ m')
  | _, _, _, _, .nil, s => s
  | _, _, _, _, .cons r t, s => .cons r (paired_app t s)
theorem paired_defs {K : PySem.W.Frag} {G : Hp} {σ : L2.St} : ∀ {dvs : List V} {dts : List T}, Reps K G dvs dts → Paired (ArOk K G σ) dvs (dts.map .v)
  | _, _, .nil => .nil
  | _, _, .cons r t => .cons (.v r) (paired_defs t)
theorem call_pure {K : PySem.W.Frag} {σ : L2.St} {H : Hp} {Q : VK} {O : List Addr} {env : Sls} {as : List Ar} {t : T} {env' : Sls} {vs : List V} (S : RepS K H O σ env) (pr : Paired (ArOk K (hid H O) σ) vs as) (hn : vs.length = n)
    (e : (if (ios as).Nodup then (resolve env as).bind fun sls => (m sls).map fun r => (r.1, writeB env as r.2) else none) = some (t, env'))
    (kk : ∀ v H' O', Nx σ env H O σ env' H' O' → RepS K H' O' σ env' → Rep K (hid H' O') v t → Q v H') (E : XK) : spF K n m vs H Q E := by
  split at e
  · rename_i nd
    obtain ⟨sls, q1, e⟩ := Option.bind_eq_some_iff.mp e
    obtain ⟨⟨t', sls'⟩, q2, e⟩ := Option.map_eq_some_iff.mp e
    cases e
    refine ⟨O, sls, _, sls', hn, resolve_noOwn q1, (S.args pr q1 nd).1, q2, fun v H2 O2 n2 S2 r2 => ?_⟩
    obtain ⟨n3, S3⟩ := S.back pr q1 nd n2 S2
    exact kk v H2 O2 n3 S3 r2
  · cases e
/-- f(..) of an own def -/
theorem ev_call (F : FnG X.prog X.w X.K X.mg X.base CX0 k f fd ps (spF X.K n m)) (hr : Room k X.A) (hgd : Gd X.A) (hg : Gl X x) (hm : X.mg x = some (.ref f)) (hk : PySem.W.keepIn X.K (.ref f) = true) (hb : Binds X.K fd ps ds) (hd : Vals dvs ds) (hdt : ∀ G, Reps X.K G dvs dts) (hn : (e :: es).length + dvs.length = n)
    (ha : XA X (e :: es) fx) (hdb : (x == ("__debug__" : Str)) = false := by decide) (he : starEach (e :: es) X.env = (false, eval e X.env) :: starEach es X.env := by rfl) (hpl : (backTo pos (starEach es X.env)).any (·.1) = false := by rfl) (hlen : ∀ env as env', fx env = some (as, env') → as.length = (e :: es).length) :
    EV X (.Call (.Name x p) (e :: es) [] pos) (eCall m (xDef dts fx)) :=
  pe_mono (pe_callG F hr hgd hg hm hk hb hd (E := E0) pass0 ha hdb he hpl) fun σ H Q ⟨O, env, t, env', S, e, kk⟩ => by
    unfold eCall xDef at e
    obtain ⟨⟨as, e1⟩, q1, e⟩ := Option.bind_eq_some_iff.mp e
    obtain ⟨⟨as0, e2⟩, q0, q1⟩ := Option.map_eq_some_iff.mp q1
    cases q1
    refine ⟨O, env, as0, _, S, q0, fun vs H1 O1 n1 S1 pr => ?_⟩
    have hl : vs.length = as0.length := Paired.length pr
    exact call_pure S1 (paired_app pr (paired_defs (hdt _))) (by rw [List.length_append, hl, hlen _ _ _ q0, hn]) e (fun v H2 O2 n2 S2 r2 => kk v H2 O2 (n1.trans n2) S2 r2) _
end
end Fx

/-! Fx 6: own lists read and changed, calls with keywords, a def's worth by its body. -/
namespace Fx
open PySem PySem.Spec PyProof.Rows L2

theorem Reps.atI {K : PySem.W.Frag} {G : Hp} {vs : List V} {ts : List T} {i : Int} {t : T} (r : Reps K G vs ts) (h : L2.atI ts i = some t) : ∃ v, L2.atI vs i = some v ∧ Rep K G v t := by
  unfold L2.atI at h ⊢
  obtain ⟨j, h1, h2⟩ := Option.bind_eq_some_iff.mp h
  obtain ⟨v, h3, h4⟩ := r.get h2
  exact ⟨v, by rw [r.length, h1]; exact h3, h4⟩
/-! trees without dicts and objects, as the library's data -/
mutual
@[simp] def toD : T → Option PyData
  | .non => some .none
  | .bl b => some (.bool b)
  | .int i => some (.int i)
  | .str x => some (.str x)
  | .tup ts => (toDs ts).map .tuple
  | .lst ts => (toDs ts).map .list
  | .lsf ts => (toDs ts).map .list
  | .dic _ _ => none
  | .ref _ => none
  | .ty _ => none
@[simp] def toDs : List T → Option (List PyData)
  | [] => some []
  | t :: ts => (toD t).bind fun d => (toDs ts).map fun l => d :: l
end
section
variable {K : PySem.W.Frag} {G : Hp}
mutual
theorem Rep.dp : ∀ {v : V} {t : T} {d : PyData}, Rep K G v t → toD t = some d → Dp K G v d
  | _, _, d, .non, h => by unfold toD at h; cases h; exact .non
  | _, _, d, .bl b, h => by unfold toD at h; cases h; exact .bl b
  | _, _, d, .int b, h => by unfold toD at h; cases h; exact .int b
  | _, _, d, .str b, h => by unfold toD at h; cases h; exact .str b
  | _, _, d, .ref _, h => by unfold toD at h; cases h
  | _, _, d, .ty _, h => by unfold toD at h; cases h
  | _, _, d, .tup q r, h => by
    unfold toD at h
    obtain ⟨l, h1, h2⟩ := Option.map_eq_some_iff.mp h
    cases h2
    exact .tup q (Reps.dp r h1)
  | _, _, d, .lst q r, h => by
    unfold toD at h
    obtain ⟨l, h1, h2⟩ := Option.map_eq_some_iff.mp h
    cases h2
    exact .lst (.of q) (Reps.dp r h1)
  | _, _, d, .lsf q r, h => by
    unfold toD at h
    obtain ⟨l, h1, h2⟩ := Option.map_eq_some_iff.mp h
    cases h2
    exact .lst q (Reps.dp r h1)
  | _, _, d, .dic _ _, h => by unfold toD at h; cases h
theorem Reps.dp : ∀ {vs : List V} {ts : List T} {ds : List PyData}, Reps K G vs ts → toDs ts = some ds → DpAll K G vs ds
  | _, _, ds, .nil, h => by unfold toDs at h; cases h; exact .nil
  | _, _, ds, .cons r rs, h => by
    unfold toDs at h
    obtain ⟨d, h1, h⟩ := Option.bind_eq_some_iff.mp h
    obtain ⟨l, h2, h3⟩ := Option.map_eq_some_iff.mp h
    cases h3
    exact .cons (Rep.dp r h1) (Reps.dp rs h2)
end
end
/-! data as the tree tells it are plain -/
mutual
theorem toD_plain : ∀ {t : T} {d : PyData}, toD t = some d → d.plain = true
  | .non, _, h => by unfold toD at h; cases h; rfl
  | .bl _, _, h => by unfold toD at h; cases h; rfl
  | .int _, _, h => by unfold toD at h; cases h; rfl
  | .str _, _, h => by unfold toD at h; cases h; rfl
  | .tup ts, _, h => by
    unfold toD at h
    obtain ⟨l, h1, h2⟩ := Option.map_eq_some_iff.mp h
    cases h2
    simp only [PyData.plain]
    exact toDs_plain h1
  | .lst ts, _, h => by
    unfold toD at h
    obtain ⟨l, h1, h2⟩ := Option.map_eq_some_iff.mp h
    cases h2
    simp only [PyData.plain]
    exact toDs_plain h1
  | .lsf ts, _, h => by
    unfold toD at h
    obtain ⟨l, h1, h2⟩ := Option.map_eq_some_iff.mp h
    cases h2
    simp only [PyData.plain]
    exact toDs_plain h1
  | .dic _ _, _, h => by unfold toD at h; cases h
  | .ref _, _, h => by unfold toD at h; cases h
  | .ty _, _, h => by unfold toD at h; cases h
theorem toDs_plain : ∀ {ts : List T} {ds : List PyData}, toDs ts = some ds → PyData.plainAll ds = true
  | [], _, h => by unfold toDs at h; cases h; rfl
  | t :: ts, _, h => by
    unfold toDs at h
    obtain ⟨d, h1, h⟩ := Option.bind_eq_some_iff.mp h
    obtain ⟨l, h2, h3⟩ := Option.map_eq_some_iff.mp h
    cases h3
    simp only [PyData.plainAll, toD_plain h1, toDs_plain h2, Bool.and_self]
end
/-- a == b, of data of no great depth -/
def eqT (a b : T) : Option Bool := (toD a).bind fun d => (toD b).bind fun e => if d.depth ≤ 60 then some (PyData.eqv d e) else none
/-- == of data -/
def rEqP (K : PySem.W.Frag) (neg : Bool) : R2 := fun x y H Q => ∃ d e, Dp K H x d ∧ Dp K H y e ∧ d.plain = true ∧ e.plain = true ∧ d.depth ≤ 60 ∧ Q (.bl (if neg then !PyData.eqv d e else PyData.eqv d e)) H
theorem op_eqP {X : Cx} (hu : X.A.units + 64 < cLine) : OpR X (compareOp .Eq) (rEqP X.K false) := by
  intro pins s σ H x y v u Q I rx ry ⟨d, e, hd, he, pd, pe, hp, q⟩
  obtain ⟨as, r1⟩ := Dp.reads I d x v hd rx
  obtain ⟨bs, r2⟩ := Dp.reads I e y u he ry
  exact SeqAt.eq_plain r1 r2 pd pe (by omega) ⟨.bl _, H, I, rfl, q⟩
theorem op_neP {X : Cx} (hu : X.A.units + 64 < cLine) : OpR X (compareOp .NotEq) (rEqP X.K true) := by
  intro pins s σ H x y v u Q I rx ry ⟨d, e, hd, he, pd, pe, hp, q⟩
  obtain ⟨as, r1⟩ := Dp.reads I d x v hd rx
  obtain ⟨bs, r2⟩ := Dp.reads I e y u he ry
  exact SeqAt.ne_plain r1 r2 pd pe (by omega) ⟨.bl _, H, I, rfl, q⟩

section
variable {X : Cx} {a b e : Expr} {fa fb : EF} {i : Nat} {x : Str} {pos pos' : Pos}
/-- xs[k], xs an own list of a slot -/
@[simp] def hasC (env : Sls) (i : Nat) : Bool := (env[i]?.bind Sl.cont).isSome
@[simp] def ePkIx (i : Nat) (fb : EF) : EF := fun env => if hasC env i then (fb env).bind fun q => match q.2[i]?.bind Sl.cont, q.1 with
  | some (.lst ts), .int k => (L2.atI ts k).map fun t => (t, q.2)
  | _, _ => none else none
theorem hasC_of {env : Sls} {i : Nat} {t : T} (h : env[i]?.bind Sl.cont = some t) : hasC env i = true := by unfold hasC; rw [h]; rfl
/-- an own list keeps its place -/
theorem RepS.slotAt {K : PySem.W.Frag} {H : Hp} {O : List Addr} {σ : L2.St} {env : Sls} {i : Nat} {t : T} (S : RepS K H O σ env) (h : env[i]?.bind Sl.cont = some t) : ∃ p, σ[i]? = some (some (.ref p)) ∧ p ∈ O ∧ RepO K (hid H O) H p t := S.own i t h
theorem ev_pkIx (hx : PE X (.Name x pos') (tVar i)) (hb : EV X b fb) (hs : PlainIx b) : EV X (.Subscript (.Name x pos') b pos) (ePkIx i fb) :=
  pe_mono (pe_ix ix_list hx hb hs) fun σ H Q ⟨O, env, t, env', S, e, k⟩ => by
    unfold ePkIx at e
    split at e
    · rename_i hc
      unfold hasC at hc
      obtain ⟨t0, hc⟩ := Option.isSome_iff_exists.mp hc
      obtain ⟨p, h1, _, _⟩ := S.own i t0 hc
      obtain ⟨⟨kt, e1⟩, q1, e⟩ := Option.bind_eq_some_iff.mp e
      refine ⟨_, h1, O, env, kt, e1, S, q1, fun v H1 O1 n1 S1 r1 => ?_⟩
      split at e
      · rename_i ts kk hq hk
        obtain ⟨t2, q3, e⟩ := Option.map_eq_some_iff.mp e
        cases e
        obtain ⟨p', g1, g2, g3⟩ := S1.own i _ hq
        rw [h1] at g1
        cases g1
        obtain ⟨vs, g4, g5⟩ := g3
        obtain ⟨v2, g6, g7⟩ := g5.atI q3
        have hk : kt = .int kk := hk
        subst hk
        exact ⟨p, vs, kk, v2, rfl, r1.inv_int, .of g4, g6, k v2 H1 O1 n1 S1 g7⟩
      · cases e
    · cases e
/-- len(xs), xs an own list -/
@[simp] def ePkLen (i : Nat) : EF := fun env => match env[i]?.bind Sl.cont with
  | some (.lst ts) => some (.int ts.length, env)
  | _ => none
theorem ev_pkLen {p : Pos} {y : Str} (hx : PE X (.Name y pos') (tVar i)) (hg : Gl X "len") (hm : X.mg "len" = none)
    (he : starEach [.Name y pos'] X.env = (false, eval (.Name y pos') X.env) :: starEach [] X.env := by rfl) (hpl : (backTo pos (starEach [] X.env)).any (·.1) = false := by rfl) : EV X (.Call (.Name "len" p) [.Name y pos'] [] pos) (ePkLen i) :=
  pe_mono (pe_callB call_len_seq hg hm PySem.boot_len (pa_cons hx pa_nil he) (he := he) (hpl := hpl)) fun σ H Q ⟨O, env, t, env', S, e, k⟩ => by
    unfold ePkLen at e
    split at e
    · rename_i ts hq
      cases e
      obtain ⟨p, h1, h2, vs, h3, h4⟩ := S.own i _ hq
      refine ⟨_, h1, p, vs, rfl, .inl (.of h3), ?_⟩
      rw [h4.length]
      exact k _ H O .refl S (.int _)
    · cases e
/-- xs == b, xs != b, xs an own list -/
@[simp] def ePkCmp (neg : Bool) (i : Nat) (fb : EF) : EF := fun env => if hasC env i then (fb env).bind fun q => match q.2[i]?.bind Sl.cont with
  | some (.lst ts) => (eqT (.lst ts) q.1).map fun c => (.bl (if neg then !c else c), q.2)
  | _ => none else none
theorem eqT_some {a b : T} {c : Bool} (h : eqT a b = some c) : ∃ d e, toD a = some d ∧ toD b = some e ∧ d.depth ≤ 60 ∧ c = PyData.eqv d e := by
  unfold eqT at h
  obtain ⟨d, h1, h⟩ := Option.bind_eq_some_iff.mp h
  obtain ⟨e, h2, h⟩ := Option.bind_eq_some_iff.mp h
  split at h
  · rename_i hc
    cases h
    exact ⟨d, e, h1, h2, hc, rfl⟩
  · cases h
theorem pkCmp_pure {K : PySem.W.Frag} {neg : Bool} {σ : L2.St} {H : Hp} {Q : VK} (h : tV K (ePkCmp neg i fb) σ H Q) : tOp (rEqP K neg) (tVar i) (tV K fb) σ H Q := by
  obtain ⟨O, env, t, env', S, e, k⟩ := h
  unfold ePkCmp at e
  split at e
  · rename_i hc
    unfold hasC at hc
    obtain ⟨t0, hc⟩ := Option.isSome_iff_exists.mp hc
    obtain ⟨p, h1, _, _⟩ := S.own i t0 hc
    obtain ⟨⟨u, e1⟩, q1, e⟩ := Option.bind_eq_some_iff.mp e
    refine ⟨_, h1, O, env, u, e1, S, q1, fun v H1 O1 n1 S1 r1 => ?_⟩
    split at e
    · rename_i ts hq
      obtain ⟨c, q3, e⟩ := Option.map_eq_some_iff.mp e
      cases e
      obtain ⟨d, de, z1, z2, z3, rfl⟩ := eqT_some q3
      obtain ⟨p', g1, g2, vs, g3, g4⟩ := S1.own i _ hq
      rw [h1] at g1
      cases g1
      refine ⟨d, de, ?_, (r1.mono (hid_ext H1 O1)).dp z2, toD_plain z1, toD_plain z2, z3, k _ H1 O1 n1 S1 (.bl _)⟩
      unfold toD at z1
      obtain ⟨l, z5, z6⟩ := Option.map_eq_some_iff.mp z1
      cases z6
      exact .lst (.of g3) ((g4.mono (hid_ext H1 O1)).dp z5)
    · cases e
  · cases e
theorem ev_pkNe (hu : X.A.units + 64 < cLine) (hx : PE X (.Name x pos') (tVar i)) (hb : EV X b fb) (hm : behindInMarks .NotEq b = false) : EV X (.Compare (.Name x pos') [.NotEq] [b] pos) (ePkCmp true i fb) :=
  pe_mono (pe_cmpR (op_neP hu) hx hb hm) fun σ H Q h => pkCmp_pure h
theorem ev_pkEq (hu : X.A.units + 64 < cLine) (hx : PE X (.Name x pos') (tVar i)) (hb : EV X b fb) (hm : behindInMarks .Eq b = false) : EV X (.Compare (.Name x pos') [.Eq] [b] pos) (ePkCmp false i fb) :=
  pe_mono (pe_cmpR (op_eqP hu) hx hb hm) fun σ H Q h => pkCmp_pure h
theorem tv_pkNe (hu : X.A.units + 64 < cLine) (hx : PE X (.Name x pos') (tVar i)) (hb : EV X b fb) (hm : behindInMarks .NotEq b = false) : TV X (.Compare (.Name x pos') [.NotEq] [b] pos) (tB1 (ePkCmp true i fb)) :=
  pt_mono (pt_cmpR (op_neP hu) hx hb hm) fun σ H Q ⟨O, env, c, env', S, e, k⟩ => pkCmp_pure (Q := fun x H' => ∃ k, x = .bl k ∧ Q k H') ⟨O, env, .bl c, env', S, tB1_some e, fun v H1 O1 n1 S1 r1 => ⟨c, r1.inv_bl, k H1 O1 n1 S1⟩⟩
theorem tv_pkEq (hu : X.A.units + 64 < cLine) (hx : PE X (.Name x pos') (tVar i)) (hb : EV X b fb) (hm : behindInMarks .Eq b = false) : TV X (.Compare (.Name x pos') [.Eq] [b] pos) (tB1 (ePkCmp false i fb)) :=
  pt_mono (pt_cmpR (op_eqP hu) hx hb hm) fun σ H Q ⟨O, env, c, env', S, e, k⟩ => pkCmp_pure (Q := fun x H' => ∃ k, x = .bl k ∧ Q k H') ⟨O, env, .bl c, env', S, tB1_some e, fun v H1 O1 n1 S1 r1 => ⟨c, r1.inv_bl, k H1 O1 n1 S1⟩⟩

/-! ### changes -/
/-- xs[k] = e -/
@[simp] def sStore (i : Nat) (fe fk : EF) : SF := fun env => (fe env).bind fun p => if hasC p.2 i then (fk p.2).bind fun q => match q.2[i]?.bind Sl.cont, q.1 with
  | some (.lst ts), .int k => (ixN ts.length k).map fun j => (.nx, setCont q.2 i (.lst (ts.set j p.1)))
  | _, _ => none else none
theorem Nx.setCont_ok {K : PySem.W.Frag} {H : Hp} {O : List Addr} {σ : L2.St} {env : Sls} {t t' : T} {p : Addr} {o : HO} (S : RepS K H O σ env) (hi : env[i]?.bind Sl.cont = some t) (hs : σ[i]? = some (some (.ref p))) (r : RepO K (hid H O) (upd H p o) p t') :
    Nx σ env H O σ (setCont env i t') (upd H p o) O ∧ RepS K (upd H p o) O σ (setCont env i t') := by
  unfold setCont
  cases hx : env[i]? with
  | none => rw [hx] at hi; cases hi
  | some s =>
    cases s with
    | un => rw [hx] at hi; cases hi
    | val _ => rw [hx] at hi; cases hi
    | own u =>
      have hi' := hi
      rw [hx] at hi'
      cases hi'
      exact S.change hi hs r (.inl ⟨hx, rfl⟩)
    | io u =>
      have hi' := hi
      rw [hx] at hi'
      cases hi'
      exact S.change hi hs r (.inr ⟨hx, rfl⟩)
theorem sv_store {tpos : Pos} (hx : PE X (.Name x pos') (tVar i)) (he : EV X e fa) (hk : EV X b fb) (ha : ∀ v, assign (.Subscript (.Name x pos') b tpos) X.env v = (do
      let ov ← holding [v] (eval (.Name x pos') X.env)
      let iv ← holding [v, ov] (eval b X.env)
      standAt tpos
      holding [v, ov, iv] (setItem ov iv v)
      release [v, ov, iv] []) := by intro _; rfl) (hs : swapsWithSole [.Subscript (.Name x pos') b tpos] e pos.line X.env = pure false := by rfl) (hw : swappedStores [.Subscript (.Name x pos') b tpos] e X.env = pure none := by rfl)
    (h1 : (assignEach [.Subscript (.Name x pos') b tpos] X.env).map (·.2) = [assign (.Subscript (.Name x pos') b tpos) X.env] := by rfl) : SV X (.Assign [.Subscript (.Name x pos') b tpos] e pos) (sStore i fa fb) :=
  ps_mono (ps_asg he (pg_sub hx hk set_list ha) hs hw h1) fun D σ H ⟨O, env, fl, env', S, e, k⟩ => by
    unfold sStore at e
    obtain ⟨⟨t, e1⟩, q1, e⟩ := Option.bind_eq_some_iff.mp e
    refine ⟨O, env, t, e1, S, q1, fun v H1 O1 n1 S1 r1 => ?_⟩
    split at e
    · rename_i hc
      unfold hasC at hc
      obtain ⟨t0, hc⟩ := Option.isSome_iff_exists.mp hc
      obtain ⟨p, h1, _, _⟩ := S1.own i t0 hc
      obtain ⟨⟨kt, e2⟩, q2, e⟩ := Option.bind_eq_some_iff.mp e
      refine ⟨_, h1, O1, e1, kt, e2, S1, q2, fun kv H2 O2 n2 S2 r2 => ?_⟩
      split at e
      · rename_i ts kk hq hk
        obtain ⟨j, q3, e⟩ := Option.map_eq_some_iff.mp e
        cases e
        have hk : kt = .int kk := hk
        subst hk
        obtain ⟨p', g1, g2, vs, g3, g4⟩ := S2.own i _ hq
        rw [h1] at g1
        cases g1
        refine ⟨p, vs, kk, j, rfl, r2.inv_int, g3, by rw [g4.length]; exact q3, ?_⟩
        obtain ⟨n3, S3⟩ := Nx.setCont_ok (o := .lst (vs.set j v)) (t' := .lst (ts.set j t)) S2 hq h1 ⟨_, upd_same, g4.set (r1.mono (S1.grow n2)) j⟩
        exact k σ _ O2 ((n1.trans n2).trans n3) S3
      · cases e
    · cases e
/-- xs.append(e) -/
@[simp] def hasL (env : Sls) (i : Nat) : Bool := match env[i]?.bind Sl.cont with
  | some (.lst _) => true
  | _ => false
theorem hasL_of {env : Sls} {i : Nat} (h : hasL env i = true) : ∃ ts, env[i]?.bind Sl.cont = some (.lst ts) := by
  unfold hasL at h
  split at h
  · exact ⟨_, by assumption⟩
  · cases h
@[simp] def sApp (i : Nat) (fe : EF) : SF := fun env => if hasL env i then (fe env).bind fun p => match p.2[i]?.bind Sl.cont with
  | some (.lst ts) => if ts.length < 100000 then some (.nx, setCont p.2 i (.lst (ts ++ [p.1]))) else none
  | _ => none else none
theorem app_pure {K : PySem.W.Frag} {σ : L2.St} {H : Hp} {D : Ends} (h : tS K (sApp i fa) D σ H) : tDrop (tBM K "list" rAppend (tVar i) (tCons (tV K fa) tNil)) D σ H := by
  obtain ⟨O, env, fl, env', S, e, k⟩ := h
  unfold sApp at e
  split at e
  · rename_i hc
    obtain ⟨t0, hc⟩ := hasL_of hc
    obtain ⟨p, h1, _, vs0, g0, _⟩ := S.own i _ hc
    obtain ⟨⟨t, e1⟩, q1, e⟩ := Option.bind_eq_some_iff.mp e
    split at e
    · rename_i ts hq
      split at e
      · rename_i hl
        cases e
        refine ⟨_, h1, .inl ⟨rfl, vs0, .of g0⟩, O, env, t, e1, S, q1, fun v H1 O1 n1 S1 r1 => ?_⟩
        obtain ⟨p', g1, g2, vs, g3, g4⟩ := S1.own i _ hq
        rw [h1] at g1
        cases g1
        refine ⟨p, vs, v, rfl, rfl, g3, by rw [g4.length, sizeLine_eq]; omega, ?_⟩
        obtain ⟨n3, S3⟩ := Nx.setCont_ok (o := .lst (vs ++ [v])) (t' := .lst (ts ++ [t])) S1 hq h1 ⟨_, upd_same, g4.append (.cons r1 .nil)⟩
        exact k σ _ O1 (n1.trans n3) S3
      · cases e
    · cases e
  · cases e
theorem sv_app {apos cpos : Pos} (hx : PE X (.Name x pos') (tVar i)) (he : EV X e fa)
    (hbase : attributeBase (.Name x pos') "append" X.env (eval (.Name x pos') X.env) = eval (.Name x pos') X.env := by rfl)
    (hfew : ((backTo cpos (starEach [e] X.env)).all (fun x => !x.1) && (backToKw cpos (keywordEach [] X.env)).all (fun x => x.1.isSome)
      && decide ([e].length + ([] : List Keyword).length + (if ([] : List Keyword).isEmpty then 0 else 1) < 30)) = true := by rfl)
    (hline : (apos.endLine == cpos.line) = true := by rfl) (hs : starEach [e] X.env = (false, eval e X.env) :: starEach [] X.env := by rfl) (hplain : (backTo cpos (starEach [] X.env)).any (·.1) = false := by rfl)
    (hsw : swapsWith (.Call (.Attribute (.Name x pos') "append" apos) [e] [] cpos) none pos.line X.env = pure false := by rfl) : SV X (.Expr (.Call (.Attribute (.Name x pos') "append" apos) [e] [] cpos) pos) (sApp i fa) :=
  ps_mono (ps_expr (pe_bm PySem.F.plainAttrs_list PySem.F.slot_list_append PySem.F.type_list_append mt_append hx (pa_cons he pa_nil hs) hbase hfew hline hs hplain) hsw) fun D σ H h => app_pure h
/-- xs.pop() as a statement -/
def sPop (i : Nat) : SF := fun env => match env[i]?.bind Sl.cont with
  | some (.lst ts) => if ts = [] then none else some (.nx, setCont env i (.lst ts.dropLast))
  | _ => none
theorem Reps.dropLast {K : PySem.W.Frag} {G : Hp} {vs : List V} {ts : List T} (r : Reps K G vs ts) : Reps K G vs.dropLast ts.dropLast := by
  rw [List.dropLast_eq_take, List.dropLast_eq_take, r.length]
  exact r.take _
end

/-! ### calls with keywords -/
@[simp] def xKw (g : {α : Type} → List α → List α → List α) (fx fk : XF) : XF := fun env => (fx env).bind fun p => (fk p.2).map fun q => (g p.1 q.1, q.2)
theorem arOk_grow {K : PySem.W.Frag} {G G' : Hp} {σ : L2.St} (x : Ext G G') {vs : List V} {as : List Ar} (h : Paired (ArOk K G σ) vs as) : Paired (ArOk K G' σ) vs as := paired_mono (fun _ _ r => r.mono x) h
section
variable {X : Cx} {k n np : Nat} {f : Addr} {fd : FuncData} {ps ks : List Str} {m : MF} {x : Str} {p pos : Pos} {e : Expr} {es : List Expr} {kws : List Keyword} {fx fk : XF} {g : {α : Type} → List α → List α → List α} {gs : List Value → List Value → List Value}
/-- f(.., k = v, ..) -/
theorem ev_callK (F : FnG X.prog X.w X.K X.mg X.base CX0 k f fd ps (spF X.K n m)) (hr : Room k X.A) (hgd : Gd X.A) (hg : Gl X x) (hm : X.mg x = some (.ref f)) (hk : PySem.W.keepIn X.K (.ref f) = true) (hb : KBn X.K fd ps np ks gs (fun vs zs => g vs zs))
    (hrel : ∀ {R : V → Ar → Prop} {vs zs : List V} {as bs : List Ar}, vs.length = np → zs.length = ks.length → Paired R vs as → Paired R zs bs → Paired R (g vs zs) (g as bs) ∧ (g vs zs).length = n)
    (ha : XA X (e :: es) fx) (hkw : XKw X kws fk) (hlx : ∀ env as env', fx env = some (as, env') → as.length = np) (hlk : ∀ env as env', fk env = some (as, env') → as.length = ks.length)
    (hall : (backToKw pos (keywordEach kws X.env)).all (·.1.isSome) = true := by rfl) (hks : (backToKw pos (keywordEach kws X.env)).filterMap (·.1) = ks := by rfl)
    (hdb : (x == ("__debug__" : Str)) = false := by decide) (he : starEach (e :: es) X.env = (false, eval e X.env) :: starEach es X.env := by rfl)
    (hpl : ((backTo pos (starEach (e :: es) X.env)).any (·.1) || (backToKw pos (keywordEach kws X.env)).any (·.1.isNone)) = false := by rfl) :
    EV X (.Call (.Name x p) (e :: es) kws pos) (eCall m (xKw g fx fk)) :=
  pe_mono (pe_callGN F hr hgd hg hm hk hb (E := E0) pass0 ha hkw hall hks hdb he hpl) fun σ H Q ⟨O, env, t, env', S, e, kk⟩ => by
    unfold eCall xKw at e
    obtain ⟨⟨as, e1⟩, q1, e⟩ := Option.bind_eq_some_iff.mp e
    obtain ⟨⟨as0, e0⟩, q0, q1⟩ := Option.bind_eq_some_iff.mp q1
    obtain ⟨⟨bs0, e2⟩, q2, q1⟩ := Option.map_eq_some_iff.mp q1
    cases q1
    refine ⟨O, env, as0, _, S, q0, fun vs H1 O1 n1 S1 pr => ⟨O1, e0, bs0, _, S1, q2, fun zs H2 O2 n2 S2 pz => ?_⟩⟩
    have l1 : vs.length = np := (Paired.length pr).trans (hlx _ _ _ q0)
    have l2 : zs.length = ks.length := (Paired.length pz).trans (hlk _ _ _ q2)
    obtain ⟨hp, hn⟩ := hrel l1 l2 (arOk_grow (S1.grow n2) pr) pz
    exact ⟨l1, l2, call_pure S2 hp hn e (fun v H3 O3 n3 S3 r3 => kk v H3 O3 ((n1.trans n2).trans n3) S3 r3) _⟩
theorem ev_callK0 (F : FnG X.prog X.w X.K X.mg X.base CX0 k f fd ps (spF X.K n m)) (hr : Room k X.A) (hgd : Gd X.A) (hg : Gl X x) (hm : X.mg x = some (.ref f)) (hk : PySem.W.keepIn X.K (.ref f) = true) (hb : KBn X.K fd ps 0 ks gs (fun vs zs => g vs zs))
    (hrel : ∀ {R : V → Ar → Prop} {vs zs : List V} {as bs : List Ar}, vs.length = 0 → zs.length = ks.length → Paired R vs as → Paired R zs bs → Paired R (g vs zs) (g as bs) ∧ (g vs zs).length = n)
    (hkw : XKw X kws fk) (hlk : ∀ env as env', fk env = some (as, env') → as.length = ks.length)
    (hall : (backToKw pos (keywordEach kws X.env)).all (·.1.isSome) = true := by rfl) (hks : (backToKw pos (keywordEach kws X.env)).filterMap (·.1) = ks := by rfl)
    (hdb : (x == ("__debug__" : Str)) = false := by decide)
    (hpl : ((backTo pos (starEach [] X.env)).any (·.1) || (backToKw pos (keywordEach kws X.env)).any (·.1.isNone)) = false := by rfl) :
    EV X (.Call (.Name x p) [] kws pos) (eCall m (xKw g xN fk)) :=
  pe_mono (pe_callGN0 F hr hgd hg hm hk hb (E := E0) pass0 hkw hall hks hdb hpl) fun σ H Q ⟨O, env, t, env', S, e, kk⟩ => by
    unfold eCall xKw at e
    obtain ⟨⟨as, e1⟩, q1, e⟩ := Option.bind_eq_some_iff.mp e
    obtain ⟨⟨as0, e0⟩, q0, q1⟩ := Option.bind_eq_some_iff.mp q1
    obtain ⟨⟨bs0, e2⟩, q2, q1⟩ := Option.map_eq_some_iff.mp q1
    cases q1
    cases q0
    refine ⟨O, env, bs0, _, S, q2, fun zs H2 O2 n2 S2 pz => ?_⟩
    have l2 : zs.length = ks.length := (Paired.length pz).trans (hlk _ _ _ q2)
    obtain ⟨hp, hn⟩ := hrel (vs := []) (as := []) rfl l2 .nil pz
    exact ⟨rfl, l2, call_pure S2 hp hn e (fun v H3 O3 n3 S3 r3 => kk v H3 O3 (n2.trans n3) S3 r3) _⟩
end
/-- how keywords bind -/
theorem fun_kbn {K : PySem.W.Frag} {x qual : Str} {st : Stmt} {f : Addr} {fd : FuncData} {ps ks : List Str} {np : Nat} {g : {α : Type} → List α → List α → List α} (F : Fun K x qual st f fd)
    (hrel : ∀ {vs : List V} {us : List Value} {zs : List V} {ws : List Value}, Vals vs us → Vals zs ws → Vals (g vs zs) (g us ws))
    (h : ∀ (kV doc pm : Value) (an : Option Addr) (cdv ct : Value) (us ws : List Value), us.length = np → ws.length = ks.length → bindArgs (PySem.W.fnOf x qual (defArgs st) (defBody st) (defScope st) .none kV doc pm an cdv ct) ⟨us, ks.zip ws⟩ = pure (ps.zip (g us ws))) :
    KBn K fd ps np ks (fun us ws => g us ws) (fun vs zs => g vs zs) := by
  obtain ⟨oc, od, kV, doc, pm, an, cdv, ct, osl, rfl, lk, hcd⟩ := F.ex
  exact ⟨fun s us ws _ l1 l2 => .of_eq (h kV doc pm an cdv ct us ws l1 l2), fun r1 r2 => hrel r1 r2⟩

/-! ### a def by its body -/
/-- what of a caller's list stands behind -/
@[simp] def back1 (e : Sls) (i : Nat) : Sl → Sl
  | .io t => match e[i]? with
    | some (.io t') => .io t'
    | _ => .io t
  | s => s
@[simp] def backSi (e : Sls) : Nat → Sls → Sls
  | _, [] => []
  | i, s :: r => back1 e i s :: backSi e (i + 1) r
abbrev backS (l e : Sls) : Sls := backSi e 0 l
@[simp] def runF (nl : Nat) (g : SF) : MF := fun sls => (g (sls ++ List.replicate (nl - sls.length) .un)).bind fun q => match q.1 with
  | .ret t => some (t, backS sls q.2)
  | .nx => some (.non, backS sls q.2)
  | _ => none
theorem backSi_len {e : Sls} : ∀ {l : Sls} {i : Nat}, (backSi e i l).length = l.length
  | [], _ => rfl
  | s :: r, i => by unfold backSi; simp [backSi_len]
theorem backSi_get {e : Sls} : ∀ {l : Sls} {i j : Nat}, (backSi e i l)[j]? = l[j]?.map (back1 e (i + j))
  | [], _, _ => by simp [backSi]
  | s :: r, i, 0 => by simp [backSi]
  | s :: r, i, j + 1 => by
    have ih := backSi_get (e := e) (l := r) (i := i + 1) (j := j)
    unfold backSi
    rw [List.getElem?_cons_succ, List.getElem?_cons_succ, ih, show i + 1 + j = i + (j + 1) by omega]
theorem run_pure {K : PySem.W.Frag} {n nl : Nat} {N : List Str} {g : SF} {m : MF} (hN : N.length = nl) (hle : n ≤ nl) (hm : ∀ sls r, sls.length = n → m sls = some r → runF nl g sls = some r) (vs : List V) (H : Hp) (Q : VK) (E : XK) (h : spF K n m vs H Q E) :
    tS K g { nx := fun _ H' => Q .non H', rt := Q } (L2.start N vs) H := by
  obtain ⟨O, sls, t, sls', hn, hno, S, e, k⟩ := h
  have hsl : sls.length = n := by rw [S.len, List.length_map, hn]
  have e := hm sls _ hsl e
  unfold runF at e
  obtain ⟨⟨fl, envf⟩, q1, e⟩ := Option.bind_eq_some_iff.mp e
  have hlen : (sls ++ List.replicate (nl - sls.length) Sl.un).length = nl := by rw [List.length_append, List.length_replicate]; omega
  have stl : (L2.start N vs).length = nl := by unfold L2.start; rw [List.length_append, List.length_map, List.length_replicate]; omega
  -- a slot that holds something is an argument's
  have at1 : ∀ (i : Nat) (s : Sl), (sls ++ List.replicate (nl - sls.length) Sl.un)[i]? = some s → s ≠ .un → sls[i]? = some s ∧ i < n := fun i s h1 h2 => by
    by_cases hi : i < sls.length
    · rw [List.getElem?_append_left hi] at h1
      exact ⟨h1, by omega⟩
    · rw [List.getElem?_append_right (by omega), List.getElem?_replicate] at h1
      split at h1
      · exact (h2 (Option.some.inj h1).symm).elim
      · cases h1
  have sat : ∀ (i : Nat), i < n → (L2.start N vs)[i]? = (vs.map some)[i]? := fun i hi => by
    unfold L2.start
    rw [List.getElem?_append_left (by rw [List.length_map]; omega)]
  have cat : ∀ (i : Nat) (u : T), (sls ++ List.replicate (nl - sls.length) Sl.un)[i]?.bind Sl.cont = some u → sls[i]?.bind Sl.cont = some u ∧ i < n := fun i u h => by
    cases hx : (sls ++ List.replicate (nl - sls.length) Sl.un)[i]? with
    | none => rw [hx] at h; cases h
    | some s =>
      rw [hx] at h
      obtain ⟨h1, h2⟩ := at1 i s hx (by intro z; subst z; cases h)
      exact ⟨by rw [h1]; exact h, h2⟩
  have S0 : RepS K H O (L2.start N vs) (sls ++ List.replicate (nl - sls.length) .un) := by
    refine ⟨by rw [hlen, stl], S.dom, fun i u h => ?_, fun i u h => ?_, fun i j u w p h1 h2 h3 h4 => ?_⟩
    · obtain ⟨h1, h2⟩ := at1 i _ h (by intro z; cases z)
      rw [sat i h2]
      exact S.val i u h1
    · obtain ⟨h1, h2⟩ := cat i u h
      rw [sat i h2]
      exact S.own i u h1
    · obtain ⟨g1, g2⟩ := cat i u h1
      obtain ⟨g3, g4⟩ := cat j w h2
      rw [sat i g2] at h3
      rw [sat j g4] at h4
      exact S.inj i j u w p g1 g3 h3 h4
  refine ⟨O, _, fl, envf, S0, q1, fun σ' H' O' n' S' => ?_⟩
  have o0 : ∀ a, Owns (L2.start N vs) (sls ++ List.replicate (nl - sls.length) Sl.un) a → Owns (vs.map some) sls a := fun a ⟨i, u, h1, h2⟩ => by
    obtain ⟨g1, g2⟩ := cat i u h1
    rw [sat i g2] at h2
    exact ⟨i, u, g1, h2⟩
  -- a caller's list stands in its slot
  have ioat : ∀ (i : Nat) (u : T), sls[i]? = some (.io u) → ∃ u', envf[i]? = some (.io u') ∧ σ'[i]? = (vs.map some)[i]? ∧ (backS sls envf)[i]? = some (.io u') := fun i u h => by
    have hi : i < sls.length := (List.getElem?_eq_some_iff.mp h).1
    obtain ⟨⟨u', h1⟩, h2⟩ := n'.io i u (by rw [List.getElem?_append_left hi]; exact h)
    refine ⟨u', h1, by rw [h2, sat i (by omega)], ?_⟩
    rw [backSi_get, h]
    simp [back1, h1]
  have bk : ∀ (i : Nat) (s : Sl), (backS sls envf)[i]? = some s → (∃ u u', sls[i]? = some (.io u) ∧ s = .io u' ∧ envf[i]? = some (.io u')) ∨ (sls[i]? = some s ∧ isIo (some s) = false) := fun i s h => by
    rw [backSi_get] at h
    obtain ⟨s0, h1, h2⟩ := Option.map_eq_some_iff.mp h
    cases s0 with
    | io u =>
      obtain ⟨u', g1, _, g3⟩ := ioat i u h1
      rw [backSi_get, h1] at g3
      rw [Option.map_some] at g3
      rw [h2] at g3
      cases g3
      exact .inl ⟨u, u', h1, rfl, g1⟩
    | un => subst h2; exact .inr ⟨h1, rfl⟩
    | val _ => subst h2; exact .inr ⟨h1, rfl⟩
    | own _ => subst h2; exact .inr ⟨h1, rfl⟩
  -- no slot of the arguments is an own one of the callee's making
  have fin : ∀ v, Rep K (hid H' O') v t → (backS sls envf) = sls' → noOwn sls → Q v H' := fun v rv hs hno => by
    subst hs
    have bc : ∀ (i : Nat) (u : T), (backS sls envf)[i]?.bind Sl.cont = some u → ∃ u0, sls[i]? = some (.io u0) ∧ envf[i]? = some (.io u) ∧ σ'[i]? = (vs.map some)[i]? := fun i u h => by
      cases hx : (backS sls envf)[i]? with
      | none => rw [hx] at h; cases h
      | some s =>
        rw [hx] at h
        rcases bk i s hx with ⟨u0, u', g1, rfl, g2⟩ | ⟨g1, g2⟩
        · cases h
          obtain ⟨_, _, g4, _⟩ := ioat i u0 g1
          exact ⟨u0, g1, g2, g4⟩
        · cases s with
          | own w => exact (hno i w g1).elim
          | io w => cases g2
          | un => cases h
          | val _ => cases h
    have ob : ∀ a, Owns (vs.map some) (backS sls envf) a → Owns (vs.map some) sls a := fun a ⟨i, u, h1, h2⟩ => by
      obtain ⟨u0, g1, _, _⟩ := bc i u h1
      exact ⟨i, u0, by rw [g1]; rfl, h2⟩
    have n2 : Nx (vs.map some) sls H O (vs.map some) (backS sls envf) H' O' := by
      refine ⟨fun a o e1 h => n'.fr a o e1 fun q => h (o0 a q), n'.dom, n'.sub, fun a h => ?_, fun a h => .inl (ob a h), fun i u h => ?_, fun i u h => ?_⟩
      · rcases n'.sup a h with q | q | q
        · exact .inl q
        · exact .inr (.inl (o0 a q))
        · exact .inr (.inr q)
      · obtain ⟨u', _, _, g⟩ := ioat i u h
        exact ⟨⟨u', g⟩, rfl⟩
      · rcases bk i _ h with ⟨u0, u', g1, _, _⟩ | ⟨_, g⟩
        · exact ⟨u0, g1⟩
        · cases g
    have gx : Ext (hid H O) (hid H' O') := S0.grow n'
    refine k v H' O' n2 ⟨by rw [backSi_len]; exact S.len, S'.dom, fun i u h => ?_, fun i u h => ?_, fun i j u w p h1 h2 h3 h4 => ?_⟩ rv
    · rcases bk i _ h with ⟨_, _, _, g, _⟩ | ⟨g1, _⟩
      · cases g
      · obtain ⟨w, z1, z2⟩ := S.val i u g1
        exact ⟨w, z1, z2.mono gx⟩
    · obtain ⟨u0, g1, g2, g3⟩ := bc i u h
      obtain ⟨p, z1, z2, z3⟩ := S'.own i u (by rw [g2]; rfl)
      rw [g3] at z1
      exact ⟨p, z1, z2, z3⟩
    · obtain ⟨u0, g1, g2, g3⟩ := bc i u h1
      obtain ⟨w0, z1, z2, z3⟩ := bc j w h2
      exact S.inj i j u0 w0 p (by rw [g1]; rfl) (by rw [z1]; rfl) h3 h4
  cases fl with
  | nx =>
    cases e
    exact fin .non .non rfl hno
  | ret t' =>
    intro v rv
    cases e
    exact fin v rv rfl hno
  | bk => cases e
  | ct => cases e
end Fx

/-! Fx 7: the operators and the built-ins on trees. -/
namespace Fx
open PySem PySem.Spec PyProof.Rows L2

/-! ### ints -/
@[simp] def gI (f : Int → Int → Option T) : Fx.O2 := fun a b => match a, b with
  | .int i, .int j => f i j
  | _, _ => none
theorem gI_some {f : Int → Int → Option T} {a b c : T} (h : gI f a b = some c) : ∃ i j, a = .int i ∧ b = .int j ∧ f i j = some c := by
  unfold gI at h
  split at h
  · exact ⟨_, _, rfl, rfl, h⟩
  · cases h
theorem opT_I {X : Cx} {f : Value → Value → Sem Value} {C : Int → Int → Prop} {v : Int → Int → V} {g : Int → Int → Option T} (h : OpR X f (rI C v)) (hg : ∀ i j c, g i j = some c → C i j ∧ ∀ G, Rep X.K G (v i j) c) : OpT X f (gI g) :=
  OpR.mono h fun x y H Q ⟨O, a, b, c, d, ra, rb, e, k⟩ => by
    obtain ⟨i, j, rfl, rfl, e⟩ := gI_some e
    obtain ⟨h1, h2⟩ := hg i j c e
    exact ⟨i, j, ra.inv_int, rb.inv_int, h1, k _ H (.refl _) (h2 _)⟩
theorem opT_I0 {X : Cx} {f : Value → Value → Sem Value} {v : Int → Int → V} {g : Int → Int → Option T} (h : OpR X f (rI0 v)) (hg : ∀ i j c, g i j = some c → ∀ G, Rep X.K G (v i j) c) : OpT X f (gI g) :=
  OpR.mono h fun x y H Q ⟨O, a, b, c, d, ra, rb, e, k⟩ => by
    obtain ⟨i, j, rfl, rfl, e⟩ := gI_some e
    exact ⟨i, j, ra.inv_int, rb.inv_int, k _ H (.refl _) (hg i j c e _)⟩
def MulOk (i j : Int) : Prop := CMulW i j ∨ CMul i j
instance : Decidable (MulOk i j) := by unfold MulOk CMulW CMul; infer_instance
def PowOk (i j : Int) : Prop := CPow i j
instance : Decidable (PowOk i j) := by unfold PowOk CPow; infer_instance
def DivOk (j : Int) : Prop := j ≠ 0 ∧ j.natAbs.log2 < 9000
instance : Decidable (DivOk j) := by unfold DivOk; infer_instance
@[simp] abbrev iAdd : Fx.O2 := gI fun i j => some (.int (i + j))
@[simp] abbrev iSub : Fx.O2 := gI fun i j => some (.int (i - j))
@[simp] abbrev iMul : Fx.O2 := gI fun i j => if MulOk i j then some (.int (i * j)) else none
@[simp] abbrev iDiv : Fx.O2 := gI fun i j => if DivOk j then some (.int (i.fdiv j)) else none
@[simp] abbrev iMod : Fx.O2 := gI fun i j => if j ≠ 0 then some (.int (i.fmod j)) else none
@[simp] abbrev iPow : Fx.O2 := gI fun i j => if PowOk i j then some (.int (i ^ j.toNat)) else none
@[simp] abbrev iCmp (p : Int → Int → Bool) : Fx.O2 := gI fun i j => some (.bl (p i j))
section
variable {X : Cx}
theorem ot_iAdd : OpT X (binaryOp .Add) iAdd := opT_I0 op_add fun i j c h G => by cases h; exact .int _
theorem ot_iSub : OpT X (binaryOp .Sub) iSub := opT_I0 op_sub fun i j c h G => by cases h; exact .int _
theorem ot_iMul : OpT X (binaryOp .Mult) iMul :=
  OpR.mono (L2.OpR.or op_mulW op_mul) fun x y H Q ⟨O, a, b, c, d, ra, rb, e, k⟩ => by
    obtain ⟨i, j, rfl, rfl, e⟩ := gI_some e
    have e : (if MulOk i j then some (T.int (i * j)) else none) = some c := e
    split at e
    · rename_i h
      cases e
      rcases h with h | h
      · exact .inl ⟨i, j, ra.inv_int, rb.inv_int, h, k _ H (.refl _) (.int _)⟩
      · exact .inr ⟨i, j, ra.inv_int, rb.inv_int, h, k _ H (.refl _) (.int _)⟩
    · cases e
theorem op_fdivA : OpR X (binaryOp .FloorDiv) (rI (fun _ j => DivOk j) fun i j => .int (i.fdiv j)) := opI fun i j _ _ _ _ _ hc q => floordiv_int hc.1 q (.inl (PyProof.noPylong_of_log2 hc.2))
theorem ot_iDiv : OpT X (binaryOp .FloorDiv) iDiv := opT_I op_fdivA fun i j c h => by
  split at h
  · rename_i q
    cases h
    exact ⟨q, fun G => .int _⟩
  · cases h
theorem ot_iMod : OpT X (binaryOp .Mod) iMod := opT_I op_modN fun i j c h => by
  split at h
  · rename_i q
    cases h
    exact ⟨q, fun G => .int _⟩
  · cases h
theorem ot_iPow : OpT X (binaryOp .Pow) iPow := opT_I op_pow fun i j c h => by
  split at h
  · rename_i q
    cases h
    exact ⟨q, fun G => .int _⟩
  · cases h
theorem ot_iLt : OpT X (compareOp .Lt) (iCmp fun i j => decide (i < j)) := opT_I0 op_lt fun i j c h G => by cases h; exact .bl _
theorem ot_iLe : OpT X (compareOp .LtE) (iCmp fun i j => decide (i ≤ j)) := opT_I0 op_le fun i j c h G => by cases h; exact .bl _
theorem ot_iGt : OpT X (compareOp .Gt) (iCmp fun i j => decide (j < i)) := opT_I0 op_gt fun i j c h G => by cases h; exact .bl _
theorem ot_iGe : OpT X (compareOp .GtE) (iCmp fun i j => decide (j ≤ i)) := opT_I0 op_ge fun i j c h G => by cases h; exact .bl _
@[simp] def nNeg : O1' := fun a => match a with
  | .int i => some (.int (-i))
  | _ => none
theorem ut_neg : UnT X (unaryOp .USub) nNeg := UnR.mono un_neg fun x H Q ⟨O, a, c, d, ra, e, k⟩ => by
  cases a with
  | int i =>
    cases e
    exact ⟨i, ra.inv_int, k _ H (.refl _) (.int _)⟩
  | _ => cases e
/-! ### == -/
@[simp] def qEq : Fx.O2 := fun a b => match a, b with
  | .str x, .str y => some (.bl (x == y))
  | a, b => (eqT a b).map .bl
@[simp] def qNe : Fx.O2 := fun a b => match a, b with
  | .str x, .str y => some (.bl (!(x == y)))
  | a, b => (eqT a b).map fun c => .bl (!c)
theorem ot_eq (hu : X.A.units + 64 < cLine) : OpT X (compareOp .Eq) qEq := OpR.mono (L2.OpR.or op_eq (op_eqP hu)) fun x y H Q ⟨O, a, b, c, d, ra, rb, e, k⟩ => by
  unfold qEq at e
  split at e
  · rename_i z u
    cases e
    obtain rfl := ra.inv_str
    obtain rfl := rb.inv_str
    refine .inl ⟨rfl, ?_⟩
    have h : decide (V.str z = V.str u) = (z == u) := by rw [Bool.eq_iff_iff]; simp
    rw [h]
    exact k _ H (.refl _) (.bl _)
  · obtain ⟨z, q, e⟩ := Option.map_eq_some_iff.mp e
    obtain ⟨p, r, h1, h2, h3, rfl⟩ := eqT_some q
    cases e
    exact .inr ⟨p, r, (ra.mono (hid_ext H O)).dp h1, (rb.mono (hid_ext H O)).dp h2, toD_plain h1, toD_plain h2, h3, k _ H (.refl _) (.bl _)⟩
theorem ot_ne (hu : X.A.units + 64 < cLine) : OpT X (compareOp .NotEq) qNe := OpR.mono (L2.OpR.or op_ne (op_neP hu)) fun x y H Q ⟨O, a, b, c, d, ra, rb, e, k⟩ => by
  unfold qNe at e
  split at e
  · rename_i z u
    cases e
    obtain rfl := ra.inv_str
    obtain rfl := rb.inv_str
    refine .inl ⟨rfl, ?_⟩
    have h : decide (V.str z = V.str u) = (z == u) := by rw [Bool.eq_iff_iff]; simp
    rw [h]
    exact k _ H (.refl _) (.bl _)
  · obtain ⟨z, q, e⟩ := Option.map_eq_some_iff.mp e
    obtain ⟨p, r, h1, h2, h3, rfl⟩ := eqT_some q
    cases e
    exact .inr ⟨p, r, (ra.mono (hid_ext H O)).dp h1, (rb.mono (hid_ext H O)).dp h2, toD_plain h1, toD_plain h2, h3, k _ H (.refl _) (.bl _)⟩
/-! ### is -/
@[simp] def isNon : T → Bool
  | .non => true
  | _ => false
theorem isNon_ok {K : PySem.W.Frag} {G : Hp} {v : V} {t : T} (r : Rep K G v t) : decide (v = .non) = isNon t := by
  cases r <;> simp [isNon]
@[simp] def qIs : Fx.O2 := fun a b => match a, b with
  | .bl a, .bl b => some (.bl (a == b))
  | a, .non => some (.bl (isNon a))
  | _, _ => none
@[simp] def qNis : Fx.O2 := fun a b => match a, b with
  | .bl a, .bl b => some (.bl (!(a == b)))
  | a, .non => some (.bl (!(isNon a)))
  | _, _ => none
theorem dec_beq (a b : Bool) : decide (a = b) = (a == b) := by cases a <;> cases b <;> rfl
theorem ot_is : OpT X (compareOp .Is) qIs := OpR.mono (L2.OpR.or op_isBl op_isN) fun x y H Q ⟨O, a, b, c, d, ra, rb, e, k⟩ => by
  unfold qIs at e
  split at e
  · cases e
    exact .inl ⟨_, _, ra.inv_bl, rb.inv_bl, k _ H (.refl _) (by rw [dec_beq]; exact .bl _)⟩
  · cases e
    exact .inr ⟨rb.inv_non, k _ H (.refl _) (by rw [isNon_ok ra]; exact .bl _)⟩
  · cases e
theorem ot_nis : OpT X (compareOp .IsNot) qNis := OpR.mono (L2.OpR.or op_notBl op_notN) fun x y H Q ⟨O, a, b, c, d, ra, rb, e, k⟩ => by
  unfold qNis at e
  split at e
  · cases e
    exact .inl ⟨_, _, ra.inv_bl, rb.inv_bl, k _ H (.refl _) (by rw [dec_beq]; exact .bl _)⟩
  · cases e
    exact .inr ⟨rb.inv_non, k _ H (.refl _) (by rw [isNon_ok ra]; exact .bl _)⟩
  · cases e
/-! ### lists, tuples, texts joined -/
@[simp] def lCat : Fx.O2 := fun a b => match a, b with
  | .lst xs, .lst ys => if xs.length + ys.length ≤ 100000 then some (.lst (xs ++ ys)) else none
  | _, _ => none
@[simp] def lRep : Fx.O2 := fun a b => match a, b with
  | .lst xs, .int k => if (-1000000 ≤ k ∧ k ≤ 1000000) ∧ xs.length * k.toNat ≤ 100000 then some (.lst (List.replicate k.toNat xs).flatten) else none
  | _, _ => none
@[simp] def tCat : Fx.O2 := fun a b => match a, b with
  | .tup xs, .tup ys => if xs.length + ys.length ≤ 100000 then some (.tup (xs ++ ys)) else none
  | _, _ => none
theorem Reps.flat {K : PySem.W.Frag} {G : Hp} {vs : List V} {ts : List T} (r : Reps K G vs ts) : ∀ n, Reps K G (List.replicate n vs).flatten (List.replicate n ts).flatten
  | 0 => .nil
  | n + 1 => by
    rw [List.replicate_succ, List.replicate_succ, List.flatten_cons, List.flatten_cons]
    exact r.append (Reps.flat r n)
theorem ot_lCat : OpT X (binaryOp .Add) lCat := OpR.mono op_cat fun x y H Q ⟨O, a, b, c, d, ra, rb, e, k⟩ => by
  unfold lCat at e
  split at e
  · split at e
    · rename_i hl
      cases e
      obtain ⟨p, vs, rfl, h1, h2⟩ := ra.inv_lst
      obtain ⟨q, ws, rfl, h3, h4⟩ := rb.inv_lst
      refine ⟨p, q, vs, ws, rfl, rfl, (of_hid h1).2, (of_hid h3).2, by rw [h2.length, h4.length, sizeLine_eq]; omega, fun l hl => k _ _ (.new hl) (.lst (hid_new fun z => ?_) ((h2.append h4).mono ((Ext.new hl).hid O)))⟩
      obtain ⟨o, z⟩ := d l z
      rw [hl] at z; cases z
    · cases e
  · cases e
theorem ot_lRep : OpT X (binaryOp .Mult) lRep := OpR.mono op_rep fun x y H Q ⟨O, a, b, c, d, ra, rb, e, k⟩ => by
  unfold lRep at e
  split at e
  · split at e
    · rename_i hl
      cases e
      obtain ⟨p, vs, rfl, h1, h2⟩ := ra.inv_lst
      refine ⟨p, _, vs, rfl, rb.inv_int, (of_hid h1).2, by omega, by omega, by rw [h2.length, sizeLine_eq]; omega, fun l hl => k _ _ (.new hl) (.lst (hid_new fun z => ?_) ((h2.flat _).mono ((Ext.new hl).hid O)))⟩
      obtain ⟨o, z⟩ := d l z
      rw [hl] at z; cases z
    · cases e
  · cases e
theorem ot_tCat : OpT X (binaryOp .Add) tCat := OpR.mono op_catA fun x y H Q ⟨O, a, b, c, d, ra, rb, e, k⟩ => by
  unfold tCat at e
  split at e
  · split at e
    · rename_i hl
      cases e
      obtain ⟨p, vs, rfl, h1, h2⟩ := ra.inv_tup
      obtain ⟨q, ws, rfl, h3, h4⟩ := rb.inv_tup
      have l2 := h2.length
      have l4 := h4.length
      refine ⟨p, q, vs, ws, rfl, rfl, (hid_ext H O).sqT h1, (hid_ext H O).sqT h3, by rw [l2, l4, sizeLine_eq]; omega, fun z => ?_, fun _ z => ?_, fun _ _ l hl => k _ _ (.new hl) (.tup (.inl (.inl (hid_new fun z => ?_))) ((h2.append h4).mono ((Ext.new hl).hid O)))⟩
      · subst z
        cases h2
        exact k _ H (.refl _) (.tup h3 h4)
      · subst z
        cases h4
        rw [List.append_nil] at k
        exact k _ H (.refl _) (.tup h1 h2)
      · obtain ⟨o, z⟩ := d l z
        rw [hl] at z; cases z
    · cases e
  · cases e
/-- an op that makes a new list, kept as one's own -/
def OpW (X : Cx) (f : Value → Value → Sem Value) (g : Fx.O2) : Prop := OpR X f fun x y H Q => ∃ O a b c, (∀ q ∈ O, ∃ o : HO, H q = some o) ∧ Rep X.K (hid H O) x a ∧ Rep X.K (hid H O) y b ∧ g a b = some c ∧ ∀ p o, H p = none → RepO X.K (hid H O) (upd H p o) p c → Q (.ref p) (upd H p o)
theorem ow_lCat : OpW X (binaryOp .Add) lCat := OpR.mono op_cat fun x y H Q ⟨O, a, b, c, d, ra, rb, e, k⟩ => by
  unfold lCat at e
  split at e
  · split at e
    · rename_i hl
      cases e
      obtain ⟨p, vs, rfl, h1, h2⟩ := ra.inv_lst
      obtain ⟨q, ws, rfl, h3, h4⟩ := rb.inv_lst
      exact ⟨p, q, vs, ws, rfl, rfl, (of_hid h1).2, (of_hid h3).2, by rw [h2.length, h4.length, sizeLine_eq]; omega, fun l hl => k _ _ hl ⟨_, upd_same, h2.append h4⟩⟩
    · cases e
  · cases e
theorem ow_lRep : OpW X (binaryOp .Mult) lRep := OpR.mono op_rep fun x y H Q ⟨O, a, b, c, d, ra, rb, e, k⟩ => by
  unfold lRep at e
  split at e
  · split at e
    · rename_i hl
      cases e
      obtain ⟨p, vs, rfl, h1, h2⟩ := ra.inv_lst
      exact ⟨p, _, vs, rfl, rb.inv_int, (of_hid h1).2, by omega, by omega, by rw [h2.length, sizeLine_eq]; omega, fun l hl => k _ _ hl ⟨_, upd_same, h2.flat _⟩⟩
    · cases e
  · cases e
theorem ew_bin {op : Operator} {g : Fx.O2} {a b : Expr} {fa fb : EF} {pos : Pos} (ho : OpW X (binaryOp op) g) (ha : EV X a fa) (hb : EV X b fb) : EW X (.BinOp a op b pos) (e2 g fa fb) :=
  pe_mono (pe_op ho ha hb) fun σ H Q ⟨O, env, t, env', S, e, k⟩ => by
    unfold Fx.e2 at e
    obtain ⟨⟨x, e1⟩, q1, e⟩ := Option.bind_eq_some_iff.mp e
    obtain ⟨⟨y, e2⟩, q2, e⟩ := Option.bind_eq_some_iff.mp e
    obtain ⟨z, q3, e⟩ := Option.map_eq_some_iff.mp e
    cases e
    refine ⟨O, env, x, e1, S, q1, fun v H1 O1 n1 S1 r1 => ⟨O1, e1, y, _, S1, q2, fun u H2 O2 n2 S2 r2 => ⟨O2, x, y, t, S2.dom, r1.mono (S1.grow n2), r2, q3, fun p o hp r3 => ?_⟩⟩⟩
    obtain ⟨n3, S3, no, eh⟩ := S2.hideNew (o := o) hp
    exact k p _ _ ((n1.trans n2).trans n3) S3 List.mem_cons_self no (none_of_dom (n1.trans n2).dom hp) (by rw [eh]; exact r3)

/-! ### items and slices -/
@[simp] def xIx : Fx.O2 := fun a b => match a, b with
  | .tup ts, .int k => L2.atI ts k
  | .lst ts, .int k => L2.atI ts k
  | .lsf ts, .int k => L2.atI ts k
  | _, _ => none
theorem it_ix : IxT X xIx := IxR.mono (L2.IxR.or ix_list ix_tup) fun x y H Q ⟨O, a, b, c, d, ra, rb, e, k⟩ => by
  unfold xIx at e
  split at e
  · obtain ⟨p, vs, rfl, h1, h2⟩ := ra.inv_tup
    obtain ⟨v, h3, h4⟩ := h2.atI e
    exact .inr ⟨p, vs, _, v, rfl, rb.inv_int, (hid_ext H O).sqT h1, h3, k v H (.refl _) h4⟩
  · obtain ⟨p, vs, rfl, h1, h2⟩ := ra.inv_lst
    obtain ⟨v, h3, h4⟩ := h2.atI e
    exact .inl ⟨p, vs, _, v, rfl, rb.inv_int, .of (of_hid h1).2, h3, k v H (.refl _) h4⟩
  · obtain ⟨p, vs, rfl, h1, h2⟩ := ra.inv_lsf
    obtain ⟨v, h3, h4⟩ := h2.atI e
    exact .inl ⟨p, vs, _, v, rfl, rb.inv_int, (hid_ext H O).sqL h1, h3, k v H (.refl _) h4⟩
  · cases e
def cutL {α : Type} (xs : List α) (lo hi : Option Int) : List α := (xs.drop (HT.sIx xs.length 0 lo)).take (HT.sIx xs.length xs.length hi - HT.sIx xs.length 0 lo)
theorem Reps.cut {K : PySem.W.Frag} {G : Hp} {vs : List V} {ts : List T} (r : Reps K G vs ts) (lo hi : Option Int) : Reps K G (cutV vs lo hi) (cutL ts lo hi) := by
  unfold cutV cutL
  rw [r.length]
  exact (r.drop _).take _
@[simp] def slT (a : T) (lo hi : Option Int) : Option T := match a with
  | .lst ts => some (.lst (cutL ts lo hi))
  | .lsf ts => some (.lst (cutL ts lo hi))
  | .tup ts => some (.tup (cutL ts lo hi))
  | _ => none
def PF := Sls → Option (Option Int × Sls)
@[simp] def pNone : PF := fun env => some (none, env)
@[simp] def pSome (f : EF) : PF := fun env => (f env).bind fun q => match q.1 with
  | .int i => some (some i, q.2)
  | _ => none
@[simp] def eSl (f : EF) (l u : PF) : EF := fun env => (f env).bind fun p => (l p.2).bind fun q => (u q.2).bind fun r => (slT p.1 q.1 r.1).map fun z => (z, r.2)
def tP (K : PySem.W.Frag) (f : PF) : TO := fun σ H Q => ∃ O env o env', RepS K H O σ env ∧ f env = some (o, env') ∧ ∀ H' O', Nx σ env H O σ env' H' O' → RepS K H' O' σ env' → Q o H'
def PV (X : Cx) (e : Option Expr) (f : PF) : Prop := PO X e (tP X.K f)
theorem po_mono {e : Option Expr} {t t' : TO} (h : PO X e t) (m : ∀ σ H Q, t' σ H Q → t σ H Q) : PO X e t' := ⟨fun pins s σ H Q I q => h.run pins s σ H Q I (m _ _ _ q)⟩
theorem pv_none : PV X none pNone := po_mono po_none fun σ H Q ⟨O, env, o, env', S, e, k⟩ => by
  cases e
  exact k H O .refl S
theorem pv_some {e : Expr} {f : EF} (h : EV X e f) : PV X (some e) (pSome f) := po_mono (po_some h) fun σ H Q ⟨O, env, o, env', S, e, k⟩ => by
  unfold pSome at e
  obtain ⟨⟨t, e1⟩, q1, e⟩ := Option.bind_eq_some_iff.mp e
  cases t with
  | int i =>
    cases e
    exact ⟨O, env, _, _, S, q1, fun v H1 O1 n1 S1 r1 => ⟨i, r1.inv_int, k H1 O1 n1 S1⟩⟩
  | _ => cases e
theorem ev_slice {e : Expr} {lo hi : Option Expr} {f : EF} {l u : PF} {p2 pos : Pos} (he : EV X e f) (hl : PV X lo l) (hu : PV X hi u) : EV X (.Subscript e (.Slice lo hi none p2) pos) (eSl f l u) :=
  pe_mono (pe_slice (L2.SlR.or sl_list sl_tupA) he hl hu) fun σ H Q ⟨O, env, t, env', S, e, k⟩ => by
    unfold eSl at e
    obtain ⟨⟨a, e1⟩, q1, e⟩ := Option.bind_eq_some_iff.mp e
    obtain ⟨⟨l1, e2⟩, q2, e⟩ := Option.bind_eq_some_iff.mp e
    obtain ⟨⟨u1, e3⟩, q3, e⟩ := Option.bind_eq_some_iff.mp e
    obtain ⟨z, q4, e⟩ := Option.map_eq_some_iff.mp e
    cases e
    refine ⟨O, env, a, e1, S, q1, fun v H1 O1 n1 S1 r1 => ⟨O1, e1, l1, e2, S1, q2, fun H2 O2 n2 S2 => ⟨O2, e2, u1, _, S2, q3, fun H3 O3 n3 S3 => ?_⟩⟩⟩
    have q4 : slT a l1 u1 = some t := q4
    have r3 := (r1.mono (S1.grow n2)).mono (S2.grow n3)
    have fin : ∀ (p : Addr) (o : HO) (w : V), H3 p = none → (∀ G, Ext (hid H3 O3) G → G p = some o → Rep X.K G (.ref p) t) → Q (.ref p) (upd H3 p o) := fun p o w hp h =>
      k _ _ O3 (((n1.trans n2).trans n3).trans (.ext (.new hp))) (S3.ext (.new hp)) (h _ ((Ext.new hp).hid O3) (hid_new (S3.fresh hp)))
    unfold slT at q4
    split at q4
    · cases q4
      obtain ⟨p, vs, rfl, h1, h2⟩ := r3.inv_lst
      exact .inl ⟨p, vs, rfl, .of (of_hid h1).2, fun l hl => fin l _ .non hl fun G x g => .lst g ((h2.cut _ _).mono x)⟩
    · cases q4
      obtain ⟨p, vs, rfl, h1, h2⟩ := r3.inv_lsf
      exact .inl ⟨p, vs, rfl, (hid_ext _ _).sqL h1, fun l hl => fin l _ .non hl fun G x g => .lst g ((h2.cut _ _).mono x)⟩
    · cases q4
      obtain ⟨p, vs, rfl, h1, h2⟩ := r3.inv_tup
      refine .inr ⟨p, vs, rfl, (hid_ext _ _).sqT h1, fun hw => ?_, fun _ l hl => fin l _ .non hl fun G x g => .tup (.inl (.inl g)) ((h2.cut _ _).mono x)⟩
      have hc : ∀ us : List T, Reps X.K (hid H3 O3) vs us → cutL us l1 u1 = us := fun us h2 => by
        unfold cutL
        rw [← h2.length, hw.1, hw.2, List.drop_zero, h2.length]
        exact List.take_of_length_le (Nat.le_refl _)
      refine k _ H3 O3 ((n1.trans n2).trans n3) S3 ?_
      rw [hc _ h2]
      exact .tup h1 h2
    · cases q4

/-! ### built-ins -/
@[simp] def bLen : ON := fun ts => match ts with
  | [.tup xs] => some (.int xs.length)
  | [.lst xs] => some (.int xs.length)
  | [.lsf xs] => some (.int xs.length)
  | _ => none
theorem ct_len : CallT X (.builtin "len") bLen := CallR.mono call_len_seq fun xs H Q ⟨O, as, c, d, ra, e, k⟩ => by
  unfold bLen at e
  split at e
  · cases e
    obtain ⟨v, ws, rfl, h1, h2⟩ := ra.inv_cons
    obtain rfl := h2.inv_nil
    obtain ⟨p, vs, rfl, h3, h4⟩ := h1.inv_tup
    exact ⟨p, vs, rfl, .inr ((hid_ext H O).sqT h3), k _ H (.refl _) (by rw [h4.length]; exact .int _)⟩
  · cases e
    obtain ⟨v, ws, rfl, h1, h2⟩ := ra.inv_cons
    obtain rfl := h2.inv_nil
    obtain ⟨p, vs, rfl, h3, h4⟩ := h1.inv_lst
    exact ⟨p, vs, rfl, .inl (.of (of_hid h3).2), k _ H (.refl _) (by rw [h4.length]; exact .int _)⟩
  · cases e
    obtain ⟨v, ws, rfl, h1, h2⟩ := ra.inv_cons
    obtain rfl := h2.inv_nil
    obtain ⟨p, vs, rfl, h3, h4⟩ := h1.inv_lsf
    exact ⟨p, vs, rfl, .inl ((hid_ext H O).sqL h3), k _ H (.refl _) (by rw [h4.length]; exact .int _)⟩
  · cases e
@[simp] def bAbs : ON := fun ts => match ts with
  | [.int i] => some (.int (if i < 0 then -i else i))
  | _ => none
theorem one_arg {K : PySem.W.Frag} {G : Hp} {xs : List V} {t : T} (r : Reps K G xs [t]) : ∃ v, xs = [v] ∧ Rep K G v t := by
  obtain ⟨v, ws, rfl, h1, h2⟩ := r.inv_cons
  obtain rfl := h2.inv_nil
  exact ⟨v, rfl, h1⟩
theorem two_args {K : PySem.W.Frag} {G : Hp} {xs : List V} {t u : T} (r : Reps K G xs [t, u]) : ∃ v w, xs = [v, w] ∧ Rep K G v t ∧ Rep K G w u := by
  obtain ⟨v, ws, rfl, h1, h2⟩ := r.inv_cons
  obtain ⟨w, rfl, h3⟩ := one_arg h2
  exact ⟨v, w, rfl, h1, h3⟩
theorem ct_abs : CallT X (.builtin "abs") bAbs := CallR.mono call_abs fun xs H Q ⟨O, as, c, d, ra, e, k⟩ => by
  unfold bAbs at e
  split at e
  · cases e
    obtain ⟨v, rfl, r⟩ := one_arg ra
    exact ⟨_, by rw [r.inv_int], k _ H (.refl _) (.int _)⟩
  · cases e
@[simp] def bInt : ON := fun ts => match ts with
  | [.int i] => some (.int i)
  | [.bl b] => some (.int (if b then 1 else 0))
  | _ => none
theorem ct_int : CallT X (.type "int") bInt := CallR.mono call_int1 fun xs H Q ⟨O, as, c, d, ra, e, k⟩ => by
  unfold bInt at e
  split at e
  · cases e
    obtain ⟨v, rfl, r⟩ := one_arg ra
    exact .inl ⟨_, by rw [r.inv_int], k _ H (.refl _) (.int _)⟩
  · cases e
    obtain ⟨v, rfl, r⟩ := one_arg ra
    exact .inr ⟨_, by rw [r.inv_bl], k _ H (.refl _) (.int _)⟩
  · cases e
@[simp] def bGcd : ON := fun ts => match ts with
  | [.int i, .int j] => some (.int ((Nat.gcd i.natAbs j.natAbs : Nat) : Int))
  | _ => none
theorem ct_gcd : CallT X (.builtin "math.gcd") bGcd := CallR.mono cr_gcd fun xs H Q ⟨O, as, c, d, ra, e, k⟩ => by
  unfold bGcd at e
  split at e
  · cases e
    obtain ⟨v, w, rfl, r1, r2⟩ := two_args ra
    exact ⟨_, _, by rw [r1.inv_int, r2.inv_int], k _ H (.refl _) (.int _)⟩
  · cases e
@[simp] def bools : List T → Option (List Bool)
  | [] => some []
  | .bl b :: r => (bools r).map fun l => b :: l
  | _ => none
theorem bools_rep {K : PySem.W.Frag} {G : Hp} : ∀ {xs : List V} {ts : List T} {bs : List Bool}, Reps K G xs ts → bools ts = some bs → xs = bs.map V.bl
  | _, [], bs, r, h => by cases h; rw [r.inv_nil]; rfl
  | _, .bl b :: ts, bs, r, h => by
    unfold bools at h
    obtain ⟨l, q, h⟩ := Option.map_eq_some_iff.mp h
    cases h
    obtain ⟨v, ws, rfl, h1, h2⟩ := r.inv_cons
    rw [h1.inv_bl, bools_rep h2 q]
    rfl
  | _, .non :: _, _, _, h => by unfold bools at h; cases h
  | _, .int _ :: _, _, _, h => by unfold bools at h; cases h
  | _, .str _ :: _, _, _, h => by unfold bools at h; cases h
  | _, .ref _ :: _, _, _, h => by unfold bools at h; cases h
  | _, .ty _ :: _, _, _, h => by unfold bools at h; cases h
  | _, .tup _ :: _, _, _, h => by unfold bools at h; cases h
  | _, .lst _ :: _, _, _, h => by unfold bools at h; cases h
  | _, .lsf _ :: _, _, _, h => by unfold bools at h; cases h
  | _, .dic _ _ :: _, _, _, h => by unfold bools at h; cases h
@[simp] def bAll : ON := fun ts => match ts with
  | [.lst xs] => (bools xs).map fun bs => .bl (bs.all id)
  | _ => none
@[simp] def bAny : ON := fun ts => match ts with
  | [.lst xs] => (bools xs).map fun bs => .bl (bs.any id)
  | _ => none
theorem ct_all (hc : X.calm = true) : CallT X (.builtin "all") bAll := CallR.mono (cr_all hc) fun xs H Q ⟨O, as, c, d, ra, e, k⟩ => by
  unfold bAll at e
  split at e
  · obtain ⟨bs, q, e⟩ := Option.map_eq_some_iff.mp e
    cases e
    obtain ⟨v, rfl, r⟩ := one_arg ra
    obtain ⟨p, vs, rfl, h3, h4⟩ := r.inv_lst
    have := bools_rep h4 q
    subst this
    exact ⟨p, bs, rfl, .of (of_hid h3).2, k _ H (.refl _) (.bl _)⟩
  · cases e
theorem ct_any (hc : X.calm = true) : CallT X (.builtin "any") bAny := CallR.mono (cr_any hc) fun xs H Q ⟨O, as, c, d, ra, e, k⟩ => by
  unfold bAny at e
  split at e
  · obtain ⟨bs, q, e⟩ := Option.map_eq_some_iff.mp e
    cases e
    obtain ⟨v, rfl, r⟩ := one_arg ra
    obtain ⟨p, vs, rfl, h3, h4⟩ := r.inv_lst
    have := bools_rep h4 q
    subst this
    exact ⟨p, bs, rfl, .of (of_hid h3).2, k _ H (.refl _) (.bl _)⟩
  · cases e
@[simp] def seqOf : T → Option (List T)
  | .tup ts => some ts
  | .lst ts => some ts
  | .lsf ts => some ts
  | _ => none
theorem Rep.seq {K : PySem.W.Frag} {H : Hp} {O : List Addr} {v : V} {t : T} {ts : List T} (r : Rep K (hid H O) v t) (h : seqOf t = some ts) : ∃ p vs, v = .ref p ∧ (SqL K H p vs ∨ SqT K H p vs) ∧ Reps K (hid H O) vs ts := by
  cases r with
  | tup q r => cases h; exact ⟨_, _, rfl, .inr ((hid_ext H O).sqT q), r⟩
  | lst q r => cases h; exact ⟨_, _, rfl, .inl (.of (of_hid q).2), r⟩
  | lsf q r => cases h; exact ⟨_, _, rfl, .inl ((hid_ext H O).sqL q), r⟩
  | _ => cases h
@[simp] def bList : ON := fun ts => match ts with
  | [t] => (seqOf t).map .lst
  | _ => none
theorem ct_list : CallT X (.type "list") bList := CallR.mono call_list_of fun xs H Q ⟨O, as, c, d, ra, e, k⟩ => by
  unfold bList at e
  split at e
  · obtain ⟨us, q, e⟩ := Option.map_eq_some_iff.mp e
    cases e
    obtain ⟨v, rfl, r⟩ := one_arg ra
    obtain ⟨p, vs, rfl, h1, h2⟩ := r.seq q
    refine ⟨p, vs, rfl, h1, fun l hl => k _ _ (.new hl) (.lst (hid_new fun z => ?_) (h2.mono ((Ext.new hl).hid O)))⟩
    obtain ⟨o, z⟩ := d l z
    rw [hl] at z; cases z
  · cases e
@[simp] def bTup : ON := fun ts => match ts with
  | [.tup us] => some (.tup us)
  | [.lst us] => some (.tup us)
  | [.lsf us] => some (.tup us)
  | _ => none
theorem ct_tup : CallT X (.type "tuple") bTup := CallR.mono call_tuple_of fun xs H Q ⟨O, as, c, d, ra, e, k⟩ => by
  have mk : ∀ (l : Addr) (vs : List V) (us : List T), H l = none → Reps X.K (hid H O) vs us → Rep X.K (hid (upd H l (.tup vs)) O) (.ref l) (.tup us) := fun l vs us hl h => .tup (.inl (.inl (hid_new fun z => by
    obtain ⟨o, z⟩ := d l z
    rw [hl] at z; cases z))) (h.mono ((Ext.new hl).hid O))
  unfold bTup at e
  split at e
  · cases e
    obtain ⟨v, rfl, r⟩ := one_arg ra
    obtain ⟨p, vs, rfl, h1, h2⟩ := r.inv_tup
    exact ⟨p, vs, rfl, .inr ⟨(hid_ext H O).sqT h1, k _ H (.refl _) r⟩⟩
  · cases e
    obtain ⟨v, rfl, r⟩ := one_arg ra
    obtain ⟨p, vs, rfl, h1, h2⟩ := r.inv_lst
    exact ⟨p, vs, rfl, .inl ⟨.of (of_hid h1).2, fun l hl => k _ _ (.new hl) (mk l vs _ hl h2)⟩⟩
  · cases e
    obtain ⟨v, rfl, r⟩ := one_arg ra
    obtain ⟨p, vs, rfl, h1, h2⟩ := r.inv_lsf
    exact ⟨p, vs, rfl, .inl ⟨(hid_ext H O).sqL h1, fun l hl => k _ _ (.new hl) (mk l vs _ hl h2)⟩⟩
  · cases e
/-! ### isinstance -/
inductive Kd where
  | non | bl | int | str | tup | lst | dic
def Kd.name : Kd → String
  | .non => "NoneType"
  | .bl => "bool"
  | .int => "int"
  | .str => "str"
  | .tup => "tuple"
  | .lst => "list"
  | .dic => "dict"
@[simp] def kdOf : T → Option Kd
  | .non => some .non
  | .bl _ => some .bl
  | .int _ => some .int
  | .str _ => some .str
  | .tup _ => some .tup
  | .lst _ => some .lst
  | .lsf _ => some .lst
  | .dic _ _ => some .dic
  | .ref _ => none
  | .ty _ => none
@[simp] def isK : Kd → Ty → Bool
  | .int, .int => true
  | .bl, .int => true
  | .bl, .bl => true
  | .str, .str => true
  | .lst, .list => true
  | .tup, .tup => true
  | .dic, .dic => true
  | _, _ => false
theorem isK_ok : ∀ (k : Kd) (t : Ty), kitB k.name t.name = some (isK k t) := by
  intro k t
  cases k <;> cases t <;> decide +kernel
theorem tyX_of {K : PySem.W.Frag} {H : Hp} {O : List Addr} {v : V} {t : T} {kd : Kd} (r : Rep K (hid H O) v t) (h : kdOf t = some kd) : TyX K H v (.type kd.name) := by
  have hl : ∀ {a : Addr} {xs : List V}, SqL K H a xs → TyX K H (.ref a) (.type "list") := fun {a xs} q => by
    rcases q with (q | ⟨o, q⟩) | ⟨o, its, n, q1, q2, _⟩
    · exact .base (.lst q)
    · exact .base (.frz q)
    · exact .kList q1 q2
  cases r with
  | non => cases h; exact .base .non
  | bl b => cases h; exact .base (.bl b)
  | int i => cases h; exact .base (.int i)
  | str x => cases h; exact .base (.str x)
  | ref a => cases h
  | ty n => cases h
  | tup q _ =>
    cases h
    rcases (hid_ext H O).sqT q with (q | ⟨o, q⟩) | ⟨o, its, n, q1, q2, _⟩
    · exact .base (.tup q)
    · exact .fTuple q
    · exact .kTuple q1 q2
  | lst q _ => cases h; exact hl (.of (of_hid q).2)
  | lsf q _ => cases h; exact hl ((hid_ext H O).sqL q)
  | dic q _ => cases h; exact .base (.dK (of_hid q).2)
@[simp] def tysOf : List T → Option (List Ty)
  | [] => some []
  | .ty n :: r => (tysOf r).map fun l => n :: l
  | _ => none
@[simp] def bIsi : ON := fun ts => match ts with
  | [t, .ty n] => (kdOf t).map fun k => .bl (isK k n)
  | [t, .tup us] => (kdOf t).bind fun k => (tysOf us).map fun ns => .bl (ns.any (isK k))
  | _ => none
theorem tysOf_rep {K : PySem.W.Frag} {G : Hp} : ∀ {xs : List V} {ts : List T} {ns : List Ty}, Reps K G xs ts → tysOf ts = some ns → Paired ClsV xs (ns.map fun n => Value.type n.name)
  | _, [], ns, r, h => by cases h; rw [r.inv_nil]; exact .nil
  | _, .ty n :: ts, ns, r, h => by
    unfold tysOf at h
    obtain ⟨l, q, h⟩ := Option.map_eq_some_iff.mp h
    cases h
    obtain ⟨v, ws, rfl, h1, h2⟩ := r.inv_cons
    rw [h1.inv_ty]
    exact .cons (.ty _) (tysOf_rep h2 q)
  | _, .non :: _, _, _, h => by unfold tysOf at h; cases h
  | _, .int _ :: _, _, _, h => by unfold tysOf at h; cases h
  | _, .bl _ :: _, _, _, h => by unfold tysOf at h; cases h
  | _, .str _ :: _, _, _, h => by unfold tysOf at h; cases h
  | _, .ref _ :: _, _, _, h => by unfold tysOf at h; cases h
  | _, .tup _ :: _, _, _, h => by unfold tysOf at h; cases h
  | _, .lst _ :: _, _, _, h => by unfold tysOf at h; cases h
  | _, .lsf _ :: _, _, _, h => by unfold tysOf at h; cases h
  | _, .dic _ _ :: _, _, _, h => by unfold tysOf at h; cases h
theorem kitAny_ok {K : PySem.W.Frag} (k : Kd) : ∀ ns : List Ty, PySem.W.kitAny K (.type k.name) (ns.map fun n => Value.type n.name) = some (ns.any (isK k))
  | [] => kitAny_nil
  | n :: ns => by
    refine kitAny_cons (kit_ty (isK_ok k n)) (fun h => ?_) (fun h => ?_)
    · rw [kitAny_ok k ns, List.any_cons, h, Bool.false_or]
    · rw [List.any_cons, h, Bool.true_or]
theorem call_isiF : CallR X (.builtin "isinstance") (fun xs H Q => ∃ (x : V) (tp : Addr) (o : Obj) (cs : List V) (t : Value) (us : List Value) (b : Bool), xs = [x, .ref tp] ∧ H tp = some (.frz o (.tup cs)) ∧ Paired ClsV cs us ∧ TyX X.K H x t ∧ PySem.W.kitAny X.K t us = some b ∧ Q (.bl b) H) := by
  intro pins s σ H xs us Q I r h
  obtain ⟨x, tp, o', cs, t, ws, b, rfl, hT, k, ty, e, q⟩ := h
  obtain ⟨u1, u2, rfl, r1, r2⟩ := vals2 r
  cases (show u2 = Value.ref tp from r2)
  obtain ⟨P, Z, p, hx⟩ := kit_of I r1 ty
  obtain ⟨_, _, its, rv, o, h1, h2, n, h3⟩ := (show ObjOk X.prog X.w H s.heap tp (.frz o' (.tup cs)) from I.hok tp _ hT)
  have e3 := ClsV.all k rv
  subst e3
  obtain ⟨oc, od, dt, sl⟩ := o
  simp only at h2 h3
  subst h2 h3
  exact PySem.W.kia_tup Z I.kIn p h1 e hx fun tk => ⟨.bl b, H, I.tok tk, rfl, q⟩
theorem ct_isi : CallT X (.builtin "isinstance") bIsi := CallR.mono (CallR.or call_isi (CallR.or call_isiT (CallR.or call_isiK call_isiF))) fun xs H Q ⟨O, as, c, d, ra, e, k⟩ => by
  unfold bIsi at e
  split at e
  · obtain ⟨kd, q, e⟩ := Option.map_eq_some_iff.mp e
    cases e
    obtain ⟨v, w, rfl, r1, r2⟩ := two_args ra
    exact .inl ⟨v, w, _, _, _, rfl, by rw [r2.inv_ty]; exact .ty _, tyX_of r1 q, kit_ty (isK_ok kd _), k _ H (.refl _) (.bl _)⟩
  · obtain ⟨kd, q, e⟩ := Option.bind_eq_some_iff.mp e
    obtain ⟨ns, q2, e⟩ := Option.map_eq_some_iff.mp e
    cases e
    obtain ⟨v, w, rfl, r1, r2⟩ := two_args ra
    obtain ⟨p, vs, rfl, h1, h2⟩ := r2.inv_tup
    have pr := tysOf_rep h2 q2
    rcases (hid_ext H O).sqT h1 with (h1 | ⟨o, h1⟩) | ⟨o, its, n, z1, z2, z3, z4, z5⟩
    · exact .inr (.inl ⟨v, p, vs, _, _, _, rfl, h1, pr, tyX_of r1 q, kitAny_ok kd ns, k _ H (.refl _) (.bl _)⟩)
    · exact .inr (.inr (.inr ⟨v, p, o, vs, _, _, _, rfl, h1, pr, tyX_of r1 q, kitAny_ok kd ns, k _ H (.refl _) (.bl _)⟩))
    · obtain ⟨oc, od, dt, sl⟩ := o
      simp only at z2 z3
      subst z2 z3
      have e3 := ClsV.all pr z5
      exact .inr (.inr (.inl ⟨v, p, od, ns.map fun n => Value.type n.name, n, sl, _, _, rfl, by rw [z1, ← e3], tyX_of r1 q, kitAny_ok kd ns, k _ H (.refl _) (.bl _)⟩))
  · cases e
/-! ### repr -/
/-! ### range, classes' names, constants -/
theorem iv_range1 {tg a : Expr} {p pos : Pos} {f : AF} (hg : Gl X "range") (hm : X.mg "range" = none) (ha : EA X [a] f) (hs : starEach [a] X.env = [(false, eval a X.env)] := by rfl) : IV X tg (.Call (.Name "range" p) [a] [] pos) (itRange1 f) :=
  pi_mono (pi_range1 hg hm ha hs) fun σ H R ⟨O, env, ts, env', S, e, k⟩ => by
    unfold itRange1 at e
    obtain ⟨⟨as, e1⟩, q1, e⟩ := Option.bind_eq_some_iff.mp e
    refine ⟨O, env, as, e1, S, q1, fun vs H1 O1 n1 S1 r1 => ?_⟩
    split at e
    · rename_i n hn
      split at e
      · cases e
        have hn : as = [.int n] := hn
        subst hn
        obtain ⟨v, rfl, r⟩ := one_arg r1
        exact ⟨n, by rw [r.inv_int], by omega, by omega, k _ H1 O1 n1 S1 wk_range⟩
      · cases e
    · cases e
theorem iv_range2 {tg a b : Expr} {p pos : Pos} {f : AF} (hg : Gl X "range") (hm : X.mg "range" = none) (ha : EA X [a, b] f) (hs : starEach [a, b] X.env = [(false, eval a X.env), (false, eval b X.env)] := by rfl) (hs2 : starEach [b] X.env = [(false, eval b X.env)] := by rfl) : IV X tg (.Call (.Name "range" p) [a, b] [] pos) (itRange2 f) :=
  pi_mono (pi_range2 hg hm ha hs hs2) fun σ H R ⟨O, env, ts, env', S, e, k⟩ => by
    unfold itRange2 at e
    obtain ⟨⟨as, e1⟩, q1, e⟩ := Option.bind_eq_some_iff.mp e
    refine ⟨O, env, as, e1, S, q1, fun vs H1 O1 n1 S1 r1 => ?_⟩
    split at e
    · rename_i m n hn
      split at e
      · cases e
        have hn : as = [.int m, .int n] := hn
        subst hn
        obtain ⟨v, w, rfl, r, r2⟩ := two_args r1
        exact ⟨m, n, by rw [r.inv_int, r2.inv_int], ⟨by omega, by omega, by omega, by omega⟩, k _ H1 O1 n1 S1 wk_range⟩
      · cases e
    · cases e
theorem ev_ty {x : Str} {n : Ty} {pos : Pos} (hg : Gl X x) (hm : X.mg x = none) (hv : bootBuiltins x = some (.type n.name)) (hn : x ≠ "__name__" := by decide) (hd : (x == ("__debug__" : Str)) = false := by decide) : EV X (.Name x pos) (eC (.ty n)) :=
  ev_const (pe_bltn (v := .ty n.name) hg hm hv rfl hn hd) fun _ => .ty n
/-- a module's constant -/
def RepK (K : PySem.W.Frag) (u : Value) (t : T) : Prop := ∃ v, RelV v u ∧ ∀ G, Rep K G v t
theorem ev_glob {x : Str} {u : Value} {t : T} {pos : Pos} (hg : Gl X x) (hm : X.mg x = some u) (r : RepK X.K u t) (hd : (x == ("__debug__" : Str)) = false := by decide) : EV X (.Name x pos) (eC t) := by
  obtain ⟨v, h1, h2⟩ := r
  exact ev_const (pe_glob hg hm h1 hd) h2
/-- a built-in that a module's name holds -/
theorem ev_callG {x : Str} {p : Pos} {id : String} {g : ON} {e : Expr} {es : List Expr} {fr : AF} {pos : Pos} (hc : CallT X (.builtin id) g) (hg : Gl X x) (hm : X.mg x = some (.builtin id)) (ha : EA X (e :: es) fr) (hdb : (x == ("__debug__" : Str)) = false := by decide)
    (he : starEach (e :: es) X.env = (false, eval e X.env) :: starEach es X.env := by rfl) (hpl : (backTo pos (starEach es X.env)).any (·.1) = false := by rfl) : EV X (.Call (.Name x p) (e :: es) [] pos) (eN g fr) :=
  pe_mono (pe_callBfun hc hg hm ha hdb he hpl) fun σ H Q ⟨O, env, t, env', S, e, k⟩ => by
    unfold eN at e
    obtain ⟨⟨x, e1⟩, q1, e⟩ := Option.bind_eq_some_iff.mp e
    obtain ⟨z, q3, e⟩ := Option.map_eq_some_iff.mp e
    cases e
    exact ⟨O, env, x, _, S, q1, fun vs H1 O1 n1 S1 r1 => ⟨O1, x, _, S1.dom, r1, q3, fun w H3 x3 r3 => k w H3 O1 (n1.trans (.ext x3)) (S1.ext x3) r3⟩⟩
/-- {} -/
theorem ev_dnew {pos : Pos} : EV X (.Dict [] [] pos) (eC (.dic [] [])) :=
  pe_mono pe_dnewK fun σ H Q ⟨O, env, t, env', S, e, k⟩ => by
    cases e
    intro p hp
    exact k _ _ O (.ext (.new hp)) (S.ext (.new hp)) (.dic (kvs := []) (hid_new (S.fresh hp)) .nil)
end
end Fx

/-! Fx 8: defs by their bodies; the rest of statements. -/
namespace Fx
open PySem PySem.Spec PyProof.Rows L2

@[simp] def oAdd : Fx.O2 := orO iAdd (orO lCat tCat)
@[simp] def oMul : Fx.O2 := orO iMul lRep
section
variable {X : Cx}
theorem ot_add : OpT X (binaryOp .Add) oAdd := OpT.or ot_iAdd (OpT.or ot_lCat ot_tCat)
theorem ot_mul : OpT X (binaryOp .Mult) oMul := OpT.or ot_iMul ot_lRep
end
/-! ### how many arguments -/
def XLen (f : XF) (n : Nat) : Prop := ∀ env as env', f env = some (as, env') → as.length = n
theorem xl_nil : XLen xN 0 := fun env as env' h => by cases h; rfl
theorem xl_val {f : EF} {r : XF} {n : Nat} (h : XLen r n) : XLen (xV f r) (n + 1) := fun env as env' e => by
  unfold xV at e
  obtain ⟨⟨t, e1⟩, q1, e⟩ := Option.bind_eq_some_iff.mp e
  obtain ⟨⟨as2, e2⟩, q2, e⟩ := Option.map_eq_some_iff.mp e
  cases e
  simp [h _ _ _ q2]
theorem xl_io {i : Nat} {r : XF} {n : Nat} (h : XLen r n) : XLen (xIo i r) (n + 1) := fun env as env' e => by
  unfold xIo at e
  split at e
  · obtain ⟨⟨as2, e2⟩, q2, e⟩ := Option.map_eq_some_iff.mp e
    cases e
    simp [h _ _ _ q2]
  · cases e
theorem xl_of {f : XF} {n : Nat} (h : XLen f n) : ∀ env as env', f env = some (as, env') → as.length = n := h
/-! ### keywords: an order of the arguments -/
@[simp] def permG (np nk : Nat) (idx : List Nat) {α : Type} (us ws : List α) : List α := if us.length = np ∧ ws.length = nk then idx.filterMap fun i => (us ++ ws)[i]? else []
theorem paired_at {α β : Type} {R : α → β → Prop} : ∀ {l : List α} {m : List β}, Paired R l m → ∀ i : Nat, (∃ a b, l[i]? = some a ∧ m[i]? = some b ∧ R a b) ∨ (l[i]? = none ∧ m[i]? = none)
  | _, _, .nil, i => .inr ⟨rfl, rfl⟩
  | _, _, .cons r _, 0 => .inl ⟨_, _, rfl, rfl, r⟩
  | _, _, .cons _ t, i + 1 => by simpa using paired_at t i
theorem perm_pick {α β : Type} {R : α → β → Prop} {l : List α} {m : List β} (p : Paired R l m) : ∀ idx : List Nat, Paired R (idx.filterMap fun i => l[i]?) (idx.filterMap fun i => m[i]?)
  | [] => .nil
  | i :: idx => by
    rw [List.filterMap_cons, List.filterMap_cons]
    rcases paired_at p i with ⟨a, b, e1, e2, r⟩ | ⟨e1, e2⟩
    · rw [e1, e2]
      exact .cons r (perm_pick p idx)
    · rw [e1, e2]
      exact perm_pick p idx
theorem permG_rel {α β : Type} {R : α → β → Prop} {np nk : Nat} {idx : List Nat} {us ws : List α} {vs zs : List β} (p : Paired R us vs) (q : Paired R ws zs) : Paired R (permG np nk idx us ws) (permG np nk idx vs zs) := by
  unfold permG
  rw [Paired.length p, Paired.length q]
  split
  · exact perm_pick (paired_app p q) idx
  · exact .nil
theorem pick_len {α : Type} {l : List α} : ∀ {idx : List Nat}, (∀ i ∈ idx, i < l.length) → (idx.filterMap fun i => l[i]?).length = idx.length
  | [], _ => rfl
  | i :: idx, h => by
    rw [List.filterMap_cons]
    have := h i List.mem_cons_self
    rw [List.getElem?_eq_getElem this]
    simp only [List.length_cons]
    rw [pick_len fun j hj => h j (List.mem_cons_of_mem _ hj)]
theorem permG_r {np nk n : Nat} {idx : List Nat} (hi : idx.all (fun i => decide (i < np + nk)) = true) (hn : idx.length = n) {R : V → Ar → Prop} {vs zs : List V} {as bs : List Ar} (h1 : vs.length = np) (h2 : zs.length = nk) (p : Paired R vs as) (q : Paired R zs bs) :
    Paired R (permG np nk idx vs zs) (permG np nk idx as bs) ∧ (permG np nk idx vs zs).length = n := by
  refine ⟨permG_rel p q, ?_⟩
  unfold permG
  rw [if_pos ⟨h1, h2⟩, pick_len, hn]
  intro i hi'
  have := List.all_eq_true.mp hi i hi'
  rw [List.length_append, h1, h2]
  exact of_decide_eq_true this
/-! ### more statements -/
section
variable {X : Cx} {pos : Pos}
theorem sv_setLc {i : Nat} {y : Str} {py : Pos} {elt tg iter : Expr} {ifs : List Expr} {scope : Scope} {own : List (Str × Nat)} {spos : Pos} {fi : AF} {p : Pat} {tt : BF} {fe : EF} (hc : X.calm = true) (hN : X.N.Nodup) (hy : X.N[i]? = some y) (hyl : X.env.scope.names.lookup y = some .local)
    (hsw : swapsWith (.ListComp elt [⟨tg, iter, ifs, 0⟩] scope pos) (some (.Name y py)) spos.line X.env = pure true) (hi : IV X tg iter fi) (ok : BlkOk X.N X.env.scope scope own)
    (hg : ∀ (s : Shared) (H : Hp) (C : Addr) (cl : List (Str × Addr)) (fp : List Addr), GV (X.blk s H scope (compEnvC scope cl C X.env) fp) tg p)
    (ht : ∀ (s : Shared) (H : Hp) (C : Addr) (cl : List (Str × Addr)) (fp : List Addr), TsV (X.blk s H scope (compEnvC scope cl C X.env) fp) ifs tt)
    (he : ∀ (s : Shared) (H : Hp) (C : Addr) (cl : List (Str × Addr)) (fp : List Addr), EV (X.blk s H scope (compEnvC scope cl C X.env) fp) elt fe)
    (hv : ∀ i ∈ p.slots, i ∈ own.map (·.2)) (hs : ∀ x, foldedSetIterable iter X.env x = pure x := by intro _; rfl) :
    SV X (.Assign [.Name y py] (.ListComp elt [⟨tg, iter, ifs, 0⟩] scope pos) spos) (sAsg (.nm i) (eLc fi p tt fe (own.map (·.2)))) :=
  ps_mono (ps_setLc (wi := tI X.K fi) (g := tG X.K p) (tt := tTt X.K tt) (te := tV X.K fe) hc hN hy hyl hsw hi ok hg ht he hs) fun D σ H ⟨O, env, fl, env', S, e, k⟩ => by
    unfold sAsg at e
    obtain ⟨⟨t, e1⟩, q1, e⟩ := Option.bind_eq_some_iff.mp e
    obtain ⟨e2, q2, e⟩ := Option.map_eq_some_iff.mp e
    cases e
    have q2 : putS i t e1 = some env' := by unfold bindP at q2; exact q2
    unfold putS at q2
    split at q2
    · cases q2
    · rename_i h
      cases q2
      refine lc_pure hv σ H _ ⟨O, env, t, e1, S, q1, fun p H1 O1 n1 S1 hp hn h0 r => ?_⟩
      obtain ⟨O2, n2, S2, r2⟩ := S1.unhide n1 hp hn h0 r
      obtain ⟨n3, S3⟩ := S2.put r2 (by simpa using h)
      exact k _ H1 O2 (n2.trans n3) S3
theorem sv_ownLc {i : Nat} {y : Str} {py : Pos} {elt tg iter : Expr} {ifs : List Expr} {scope : Scope} {own : List (Str × Nat)} {spos : Pos} {fi : AF} {p : Pat} {tt : BF} {fe : EF} (hc : X.calm = true) (hN : X.N.Nodup) (hy : X.N[i]? = some y) (hyl : X.env.scope.names.lookup y = some .local)
    (hsw : swapsWith (.ListComp elt [⟨tg, iter, ifs, 0⟩] scope pos) (some (.Name y py)) spos.line X.env = pure true) (hi : IV X tg iter fi) (ok : BlkOk X.N X.env.scope scope own)
    (hg : ∀ (s : Shared) (H : Hp) (C : Addr) (cl : List (Str × Addr)) (fp : List Addr), GV (X.blk s H scope (compEnvC scope cl C X.env) fp) tg p)
    (ht : ∀ (s : Shared) (H : Hp) (C : Addr) (cl : List (Str × Addr)) (fp : List Addr), TsV (X.blk s H scope (compEnvC scope cl C X.env) fp) ifs tt)
    (he : ∀ (s : Shared) (H : Hp) (C : Addr) (cl : List (Str × Addr)) (fp : List Addr), EV (X.blk s H scope (compEnvC scope cl C X.env) fp) elt fe)
    (hv : ∀ i ∈ p.slots, i ∈ own.map (·.2)) (hs : ∀ x, foldedSetIterable iter X.env x = pure x := by intro _; rfl) :
    SV X (.Assign [.Name y py] (.ListComp elt [⟨tg, iter, ifs, 0⟩] scope pos) spos) (sOwn i (eLc fi p tt fe (own.map (·.2)))) :=
  ps_mono (ps_setLc (wi := tI X.K fi) (g := tG X.K p) (tt := tTt X.K tt) (te := tV X.K fe) hc hN hy hyl hsw hi ok hg ht he hs) fun D σ H ⟨O, env, fl, env', S, e, k⟩ => by
    unfold sOwn at e
    obtain ⟨⟨t, e1⟩, q1, e⟩ := Option.bind_eq_some_iff.mp e
    have e : (if isIo e1[i]? = true then none else some (Fl.nx, e1.set i (.own t))) = some (fl, env') := e
    split at e
    · cases e
    · rename_i hio
      cases e
      refine lc_pure hv σ H _ ⟨O, env, t, e1, S, q1, fun p H1 O1 n1 S1 hp hn h0 r => ?_⟩
      obtain ⟨S2, o2, io2, ion2⟩ := S1.putOwn hp hn r (by simpa using hio)
      refine k _ H1 O1 ⟨n1.fr, n1.dom, n1.sub, n1.sup, fun a z => ?_, fun j u z => ?_, fun j u z => ?_⟩ S2
      · rcases o2 a z with q | q
        · exact n1.own a q
        · subst q
          exact .inr h0
      · obtain ⟨⟨t1, g1⟩, g2⟩ := n1.io j u z
        obtain ⟨g3, g4⟩ := io2 j t1 g1
        exact ⟨⟨t1, g3⟩, g4.trans g2⟩
      · exact n1.ion j u (ion2 j u z)
@[simp] def sPar3 (i j l : Nat) (f : AF) : SF := fun env => (f env).bind fun q => match q.1 with
  | [t, u, v] => (putS i t q.2).bind fun e1 => (putS j u e1).bind fun e2 => (putS l v e2).map fun e3 => (.nx, e3)
  | _ => none
theorem sv_par3 {i j l : Nat} {x y z : Str} {a b c : Expr} {fa : AF} {px py pz pt : Pos} {kt k2 pt2} (hc : X.calm = true) (hN : X.N.Nodup) (hi : X.N[i]? = some x) (hj : X.N[j]? = some y) (hl : X.N[l]? = some z) (hij : i ≠ j) (hil : i ≠ l) (hjl : j ≠ l)
    (hx : X.env.scope.names.lookup x = some .local) (hy : X.env.scope.names.lookup y = some .local) (hz : X.env.scope.names.lookup z = some .local) (ha : EA X [a, b, c] fa)
    (hw : swappedStores [.Tuple [.Name x px, .Name y py, .Name z pz] kt pt] (.Tuple [a, b, c] k2 pt2) X.env = pure (some [x, y, z]))
    (hs : swapsWithSole [.Tuple [.Name x px, .Name y py, .Name z pz] kt pt] (.Tuple [a, b, c] k2 pt2) pos.line X.env = pure false := by rfl) :
    SV X (.Assign [.Tuple [.Name x px, .Name y py, .Name z pz] kt pt] (.Tuple [a, b, c] k2 pt2) pos) (sPar3 i j l fa) :=
  ps_mono (ps_par3 hc hN hi hj hl hij hil hjl hx hy hz ha hw hs) fun D σ H ⟨O, env, fl, env', S, e, k⟩ => by
    unfold sPar3 at e
    obtain ⟨⟨ts, e1⟩, q1, e⟩ := Option.bind_eq_some_iff.mp e
    refine ⟨O, env, ts, e1, S, q1, fun vs H1 O1 n1 S1 r1 => ?_⟩
    split at e
    · rename_i t u v ht
      have ht : ts = [t, u, v] := ht
      subst ht
      obtain ⟨x1, w1, rfl, h1, r2⟩ := r1.inv_cons
      obtain ⟨x2, x3, rfl, h2, h3⟩ := two_args r2
      obtain ⟨e2, q2, e⟩ := Option.bind_eq_some_iff.mp e
      obtain ⟨e3, q3, e⟩ := Option.bind_eq_some_iff.mp e
      obtain ⟨e4, q4, e⟩ := Option.map_eq_some_iff.mp e
      cases e
      unfold putS at q2
      split at q2
      · cases q2
      · rename_i g1
        cases q2
        unfold putS at q3
        split at q3
        · cases q3
        · rename_i g2
          cases q3
          unfold putS at q4
          split at q4
          · cases q4
          · rename_i g3
            cases q4
            obtain ⟨n, S'⟩ := S1.put h1 (by simpa using g1)
            obtain ⟨n2, S2⟩ := S'.put h2 (by simpa using g2)
            obtain ⟨n3, S3⟩ := S2.put h3 (by simpa using g3)
            exact ⟨_, _, _, rfl, k _ H1 O1 (((n1.trans n).trans n2).trans n3) S3⟩
    · cases e
end

/-! ### loops that forget what a turn alone needs -/
section
variable {K : PySem.W.Frag} {H : Hp} {O : List Addr} {σ : L2.St} {env : Sls} {vs : List Nat}
theorem RepS.forget (S : RepS K H O σ env) (hio : noIo env vs = true) : Nx σ env H O σ (wipeE env vs) H O ∧ RepS K H O σ (wipeE env vs) := by
  have ow : ∀ a, Owns σ (wipeE env vs) a → Owns σ env a := fun a ⟨i, t, h1, h2⟩ => ⟨i, t, (wipeE_cont h1).2, h2⟩
  refine ⟨⟨fun _ _ e _ => e, fun _ o e => ⟨o, e⟩, fun _ h => .inl h, fun _ h => .inl h, fun a h => .inl (ow a h), fun i t h => ?_, fun i t h => ?_⟩, ⟨by rw [wipeE_len]; exact S.len, S.dom, fun i t h => ?_, fun i t h => ?_, fun i j t u p h1 h2 h3 h4 => ?_⟩⟩
  · have hj : i ∉ vs := fun q => by
      have := List.all_eq_true.mp hio i q
      simp only [h] at this
      simp [isIo] at this
    exact ⟨⟨t, by rw [wipeE_out hj]; exact h⟩, rfl⟩
  · exact ⟨t, (wipeE_at h (by intro q; cases q)).2⟩
  · exact S.val i t (wipeE_at h (by intro q; cases q)).2
  · exact S.own i t (wipeE_cont h).2
  · exact S.inj i j t u p (wipeE_cont h1).2 (wipeE_cont h2).2 h3 h4
end
@[simp] def forLR (vs : List Nat) (p : Pat) (b : SF) : List T → Sls → Option (Fl × Sls)
  | [], env => if noIo env vs = true then some (.nx, wipeE env vs) else none
  | t :: r, env => if noIo env vs = true then (bindP p t (wipeE env vs)).bind fun e1 => (b e1).bind fun q => match q.1 with
    | .nx => forLR vs p b r q.2
    | .ct => forLR vs p b r q.2
    | .bk => some (.nx, q.2)
    | .ret t => some (.ret t, q.2) else none
@[simp] def sForR (vs : List Nat) (fi : AF) (p : Pat) (b : SF) : SF := fun env => (fi env).bind fun q => forLR vs p b q.1 q.2
theorem sv_forR {X : Cx} {tg iter : Expr} {body : List Stmt} {fi : AF} {p : Pat} {b : SF} {pos : Pos} (vs : List Nat) (hp : PassesOwn (model X.prog X.w) X.A X.env X.xe) (hc : X.calm = true) (hi : IV X tg iter fi) (hg : GV X tg p) (hb : BV X body b)
    (hs : ∀ x, foldedSetIterable iter X.env x = pure x := by intro _; rfl) : SV X (.For tg iter body [] pos) (sForR vs fi p b) :=
  ps_mono (ps_for hp hc hi hg hb hs) fun D σ H ⟨O, env, fl, envf, S, e, k⟩ => by
    unfold sForR at e
    obtain ⟨⟨ts, e1⟩, q1, e⟩ := Option.bind_eq_some_iff.mp e
    refine ⟨O, env, ts, e1, S, q1, fun J H1 O1 n1 S1 w => ?_⟩
    have e : forLR vs p b ts e1 = some (fl, envf) := e
    let Pv : Nat → L2.St → Hp → Prop := fun i σi Hi => ∃ envi Oi, RepS X.K Hi Oi σi envi ∧ Nx σ e1 H1 O1 σi envi Hi Oi ∧ forLR vs p b (ts.drop i) envi = some (fl, envf)
    refine ⟨fun i m σi Hi => m = ts.length - i ∧ i ≤ ts.length ∧ Pv i σi Hi, ⟨_, rfl, Nat.zero_le _, e1, O1, S1, .refl, by rw [List.drop_zero]; exact e⟩, ?_⟩
    rintro i m σi Hi ⟨rfl, hil, env0, Oi, S0, n0, fi⟩
    by_cases hlt : i < ts.length
    · -- what is forgotten ahead of a turn
      have hio : noIo env0 vs = true := by
        obtain ⟨t, ht⟩ : ∃ t, ts[i]? = some t := ⟨_, List.getElem?_eq_getElem hlt⟩
        rw [drop_cons ht] at fi
        unfold forLR at fi
        split at fi
        · assumption
        · cases fi
      obtain ⟨nf, Si⟩ := S0.forget hio
      have ni := n0.trans nf
      have gx : Ext (hid H1 O1) (hid Hi Oi) := S1.grow ni
      have gx2 : Ext (hid H1 O1) Hi := gx.trans (hid_ext _ _)
      refine .inr ⟨w.go i Hi hlt gx2, Pv (i + 1), fun σ' H' q => ⟨ts.length - (i + 1), by omega, rfl, hlt, q⟩, fun x H' y => ?_⟩
      obtain ⟨xx, y2⟩ := w.yld i Hi x H' hlt gx2 y
      obtain ⟨t, ht, rt⟩ := y2 Oi Si.dom gx
      rw [drop_cons ht] at fi
      unfold forLR at fi
      rw [if_pos hio] at fi
      obtain ⟨e2, q2, fi⟩ := Option.bind_eq_some_iff.mp fi
      obtain ⟨⟨f3, e3⟩, q3, fi⟩ := Option.bind_eq_some_iff.mp fi
      refine ⟨Oi, wipeE env0 vs, t, e2, Si.ext xx, rt, q2, fun σ2 n2 S2 _ => ⟨Oi, e2, f3, e3, S2, q3, fun σ3 H3 O3 n3 S3 => ?_⟩⟩
      have nn : Nx σ e1 H1 O1 σ3 e3 H3 O3 := ((ni.trans (.ext xx)).trans n2).trans n3
      cases f3 with
      | nx => exact ⟨e3, O3, S3, nn, fi⟩
      | ct => exact ⟨e3, O3, S3, nn, fi⟩
      | bk => cases fi; exact k σ3 H3 O3 (n1.trans nn) S3
      | ret t => cases fi; exact k σ3 H3 O3 (n1.trans nn) S3
    · have hi : i = ts.length := by omega
      subst hi
      rw [List.drop_length] at fi
      unfold forLR at fi
      split at fi
      · rename_i hio
        obtain ⟨nf, Si⟩ := S0.forget hio
        cases fi
        have ni := n0.trans nf
        have gx2 : Ext (hid H1 O1) Hi := (S1.grow ni).trans (hid_ext _ _)
        exact .inl ⟨w.stop Hi gx2, k σi Hi Oi (n1.trans ni) Si⟩
      · cases fi

/-! ### defs -/
section
variable {P : Program} {w : World} {K : PySem.W.Frag} {mg : Str → Option Value} {base : Heap}
theorem fn_ok {x qual : Str} {st : Stmt} {f : Addr} {fd : FuncData} {N ps : List Str} {k n nl : Nat} {g : SF} (F : Fun K x qual st f fd) (S : FnScope N ps (defScope st)) (hn : ps.length = n) (hl : N.length = nl) (hle : n ≤ nl)
    (hb : ∀ (cdv : Value) (A : Around) (outer : List Env) (s : Shared) (H : Hp) (E : XK), Room k (A.deeper (envOfC qual (defScope st) s.heap.objs.size f cdv)) → Gd (A.deeper (envOfC qual (defScope st) s.heap.objs.size f cdv)) → BV (cxOf CX0 P w K mg base N qual (defScope st) f cdv A outer s H E).nox (defBody st) g) :
    FnG P w K mg base CX0 (k + 1) f fd ps (spF K n (runF nl g)) :=
  fn_G F S (fun vs H Q E ⟨O, sls, t, sls', h, _⟩ => h.trans hn.symm) fun cdv A outer s H vs Q E hr hgd h => ⟨tS K g, (hb cdv A outer s H E hr hgd).nox, run_pure hl hle (fun _ _ _ z => z) vs H Q E h⟩
theorem fn_okV {x qual : Str} {st : Stmt} {dts : List T} {f : Addr} {fd : FuncData} {N ps : List Str} {k n nl : Nat} {g : SF} (F : FunV K x qual st dts f fd) (S : FnScope N ps (defScope st)) (hn : ps.length = n) (hl : N.length = nl) (hle : n ≤ nl)
    (hb : ∀ (cdv : Value) (A : Around) (outer : List Env) (s : Shared) (H : Hp) (E : XK), Room k (A.deeper (envOfC qual (defScope st) s.heap.objs.size f cdv)) → Gd (A.deeper (envOfC qual (defScope st) s.heap.objs.size f cdv)) → BV (cxOf CX0 P w K mg base N qual (defScope st) f cdv A outer s H E).nox (defBody st) g) :
    FnG P w K mg base CX0 (k + 1) f fd ps (spF K n (runF nl g)) :=
  fn_GV F S (fun vs H Q E ⟨O, sls, t, sls', h, _⟩ => h.trans hn.symm) fun cdv A outer s H vs Q E hr hgd h => ⟨tS K g, (hb cdv A outer s H E hr hgd).nox, run_pure hl hle (fun _ _ _ z => z) vs H Q E h⟩
/-- a def that hands back a new list -/
@[simp] def isVal : Sl → Bool
  | .val _ => true
  | _ => false
@[simp] def runW (nl : Nat) (g : EF) : MF := fun sls => if sls.all isVal = true then (g (sls ++ List.replicate (nl - sls.length) .un)).map fun q => (q.1, sls) else none
def spW (K : PySem.W.Frag) (n : Nat) (m : MF) : Sp := fun vs H Q _ => ∃ O sls t sls', vs.length = n ∧ noOwn sls ∧ RepS K H O (vs.map some) sls ∧ m sls = some (t, sls') ∧
  ∀ p H' O', Nx (vs.map some) sls H O (vs.map some) sls' H' O' → RepS K H' O' (vs.map some) sls' → p ∈ O' → ¬ Owns (vs.map some) sls' p → H p = none → RepO K (hid H' O') H' p t → Q (.ref p) H'
theorem fn_okW {x qual : Str} {st : Stmt} {f : Addr} {fd : FuncData} {N ps : List Str} {k n nl : Nat} {g : EF} (F : Fun K x qual st f fd) (S : FnScope N ps (defScope st)) (hn : ps.length = n) (hl : N.length = nl) (hle : n ≤ nl)
    (hb : ∀ (cdv : Value) (A : Around) (outer : List Env) (s : Shared) (H : Hp) (E : XK), Room k (A.deeper (envOfC qual (defScope st) s.heap.objs.size f cdv)) → Gd (A.deeper (envOfC qual (defScope st) s.heap.objs.size f cdv)) → PSs (cxOf CX0 P w K mg base N qual (defScope st) f cdv A outer s H E).nox (defBody st) (tRet (tW K g))) :
    FnG P w K mg base CX0 (k + 1) f fd ps (spW K n (runW nl g)) :=
  fn_G F S (fun vs H Q E ⟨O, sls, t, sls', h, _⟩ => h.trans hn.symm) fun cdv A outer s H vs Q E hr hgd h => ⟨_, (hb cdv A outer s H E hr hgd).nox, by
    obtain ⟨O, sls, t, sls', hv, hno, S0, e, kk⟩ := h
    unfold runW at e
    split at e
    · rename_i hval
      obtain ⟨⟨t', envf⟩, q1, e⟩ := Option.map_eq_some_iff.mp e
      cases e
      have hsl : sls.length = n := by rw [S0.len, List.length_map, hv]
      have hlen : (sls ++ List.replicate (nl - sls.length) Sl.un).length = nl := by rw [List.length_append, List.length_replicate]; omega
      have stl : (L2.start N vs).length = nl := by unfold L2.start; rw [List.length_append, List.length_map, List.length_replicate]; omega
      have at1 : ∀ (i : Nat) (s : Sl), (sls ++ List.replicate (nl - sls.length) Sl.un)[i]? = some s → s ≠ .un → sls[i]? = some s ∧ i < n := fun i s h1 h2 => by
        by_cases hi : i < sls.length
        · rw [List.getElem?_append_left hi] at h1
          exact ⟨h1, by omega⟩
        · rw [List.getElem?_append_right (by omega), List.getElem?_replicate] at h1
          split at h1
          · exact (h2 (Option.some.inj h1).symm).elim
          · cases h1
      have sat : ∀ (i : Nat), i < n → (L2.start N vs)[i]? = (vs.map some)[i]? := fun i hi => by
        unfold L2.start
        rw [List.getElem?_append_left (by rw [List.length_map]; omega)]
      have nc0 : ∀ (i : Nat) (u : T), sls[i]?.bind Sl.cont ≠ some u := fun i u h => by
        cases hx : sls[i]? with
        | none => rw [hx] at h; cases h
        | some s =>
          rw [hx] at h
          have := List.all_eq_true.mp hval s (List.mem_of_getElem? hx)
          cases s with
          | val _ => cases h
          | _ => cases this
      have nc : ∀ (i : Nat) (u : T), (sls ++ List.replicate (nl - sls.length) Sl.un)[i]?.bind Sl.cont ≠ some u := fun i u h => by
        cases hx : (sls ++ List.replicate (nl - sls.length) Sl.un)[i]? with
        | none => rw [hx] at h; cases h
        | some s =>
          rw [hx] at h
          obtain ⟨h1, h2⟩ := at1 i s hx (by intro z; subst z; cases h)
          exact nc0 i u (by rw [h1]; exact h)
      have S1 : RepS K H O (L2.start N vs) (sls ++ List.replicate (nl - sls.length) .un) := by
        refine ⟨by rw [hlen, stl], S0.dom, fun i u h => ?_, fun i u h => (nc i u h).elim, fun i j u w p h1 _ _ _ => (nc i u h1).elim⟩
        obtain ⟨h1, h2⟩ := at1 i _ h (by intro z; cases z)
        rw [sat i h2]
        exact S0.val i u h1
      refine ⟨O, _, _, envf, S1, q1, fun p H1 O1 n1 S2 hp ho h0 r => ?_⟩
      have no : ∀ a, ¬ Owns (L2.start N vs) (sls ++ List.replicate (nl - sls.length) Sl.un) a := fun a ⟨i, u, h, _⟩ => nc i u h
      have no2 : ∀ a, ¬ Owns (vs.map some) sls a := fun a ⟨i, u, h, _⟩ => nc0 i u h
      refine kk p H1 O1 ⟨fun a o z _ => n1.fr a o z (no a), n1.dom, n1.sub, fun a z => ?_, fun a z => .inl z, fun i u z => ⟨⟨u, z⟩, rfl⟩, fun i u z => ⟨u, z⟩⟩ ⟨S0.len, S2.dom, fun i u z => ?_, fun i u z => (nc0 i u z).elim, fun i j u w q h1 _ _ _ => (nc0 i u h1).elim⟩ hp (no2 p) h0 r
      · rcases n1.sup a z with q | q | q
        · exact .inl q
        · exact (no a q).elim
        · exact .inr (.inr q)
      · obtain ⟨v, z1, z2⟩ := S0.val i u z
        exact ⟨v, z1, z2.mono (S1.grow n1)⟩
    · cases e⟩
end
section
variable {X : Cx} {k n : Nat} {f : Addr} {fd : FuncData} {ps : List Str} {m : MF} {x : Str} {p pos : Pos} {e : Expr} {es : List Expr} {fx : XF}
theorem ew_call (F : FnG X.prog X.w X.K X.mg X.base CX0 k f fd ps (spW X.K n m)) (hr : Room k X.A) (hgd : Gd X.A) (hg : Gl X x) (hm : X.mg x = some (.ref f)) (hk : PySem.W.keepIn X.K (.ref f) = true) (hb : Binds X.K fd ps []) (hn : (e :: es).length = n)
    (ha : XA X (e :: es) fx) (hdb : (x == ("__debug__" : Str)) = false := by decide) (he : starEach (e :: es) X.env = (false, eval e X.env) :: starEach es X.env := by rfl) (hpl : (backTo pos (starEach es X.env)).any (·.1) = false := by rfl) (hlen : ∀ env as env', fx env = some (as, env') → as.length = (e :: es).length) :
    EW X (.Call (.Name x p) (e :: es) [] pos) (eCall m (xDef [] fx)) :=
  pe_mono (pe_callG F hr hgd hg hm hk hb .nil (E := E0) pass0 ha hdb he hpl) fun σ H Q ⟨O, env, t, env', S, e, kk⟩ => by
    unfold eCall xDef at e
    obtain ⟨⟨as, e1⟩, q1, e⟩ := Option.bind_eq_some_iff.mp e
    obtain ⟨⟨as0, e2⟩, q0, q1⟩ := Option.map_eq_some_iff.mp q1
    simp only [List.map_nil, List.append_nil, Prod.mk.injEq] at q1
    obtain ⟨rfl, rfl⟩ := q1
    refine ⟨O, env, as0, _, S, q0, fun vs H1 O1 n1 S1 pr => ?_⟩
    have hl : vs.length = as0.length := Paired.length pr
    have e : (if (ios as0).Nodup then (resolve e2 as0).bind fun sls => (m sls).map fun r => (r.1, writeB e2 as0 r.2) else none) = some (t, env') := e
    split at e
    · rename_i nd
      obtain ⟨sls, q1, e⟩ := Option.bind_eq_some_iff.mp e
      obtain ⟨⟨t', sls'⟩, q2, e⟩ := Option.map_eq_some_iff.mp e
      cases e
      show spW X.K n m (vs ++ []) H1 Q E0
      rw [List.append_nil]
      refine ⟨O1, sls, _, sls', by rw [hl, hlen _ _ _ q0, hn], resolve_noOwn q1, (S1.args pr q1 nd).1, q2, fun p H2 O2 n2 S2 hp ho h0 r => ?_⟩
      obtain ⟨n3, S3⟩ := S1.back pr q1 nd n2 S2
      refine kk p H2 O2 (n1.trans n3) S3 hp (fun z => ?_) (none_of_dom n1.dom h0) r
      rcases n3.own p z with q | q
      · have := S1.owns q
        obtain ⟨o, eo⟩ := S1.dom p this
        rw [h0] at eo; cases eo
      · -- what is owned behind was tracked ahead
        obtain ⟨i, u, g1, g2⟩ := z
        have hz : Owns σ e2 p := by
          by_cases hi : i ∈ ios as0
          · obtain ⟨j, hj⟩ := mem_ios hi
            obtain ⟨u2, e3, _⟩ := (resolve_get q1).2.2 j i hj
            exact ⟨i, u2, e3, g2⟩
          · rw [writeB_out hi] at g1
            exact ⟨i, u, g1, g2⟩
        have := S1.owns hz
        obtain ⟨o, eo⟩ := S1.dom p this
        rw [h0] at eo; cases eo
    · cases e
end
end Fx

/-! Fx 9: the law's end. -/
namespace Fx
open PySem PySem.Spec PyProof.Rows L2
/-- a list of at most 63 ints is handed in, True comes out -/
def spLaw (K : PySem.W.Frag) : Sp := fun vs H Q _ => ∃ (a : Addr) (ns : List Int), vs = [.ref a] ∧ SqL K H a (ns.map V.int) ∧ ns.length ≤ 63 ∧ ∀ H', Q (.bl true) H'
theorem reps_ints {K : PySem.W.Frag} {G : Hp} : ∀ ns : List Int, Reps K G (ns.map V.int) (ns.map T.int)
  | [] => .nil
  | n :: ns => .cons (.int n) (reps_ints ns)
theorem law_end {P : Program} {w : World} {K : PySem.W.Frag} {mg : Str → Option Value} {base : Heap} {k : Nat} {f : Addr} {fd : FuncData} {ps : List Str} {m : MF} (F : FnG P w K mg base CX0 k f fd ps (spF K 1 m))
    (h : ∀ ns : List Int, ns.length ≤ 63 → ∃ sls', m [.val (.lsf (ns.map T.int))] = some (.bl true, sls')) : FnG P w K mg base CX0 k f fd ps (spLaw K) :=
  F.imp fun vs H Q E ⟨a, ns, hv, hS, hl, q⟩ => by
    subst hv
    obtain ⟨sls', e⟩ := h ns hl
    refine ⟨[], _, _, sls', rfl, fun i u z => ?_, ⟨rfl, fun a z => (nomatch z), fun i u z => ?_, fun i u z => ?_, fun i j u v p z1 _ _ _ => ?_⟩, e, fun v H' O' _ _ r => by rw [r.inv_bl]; exact q H'⟩
    · match i, z with
      | 0, z => cases z
      | i + 1, z => simp at z
    · match i, z with
      | 0, z =>
        cases z
        exact ⟨.ref a, rfl, by rw [hid_nil]; exact .lsf hS (reps_ints ns)⟩
      | i + 1, z => simp at z
    · match i, z with
      | 0, z => cases z
      | i + 1, z => simp at z
    · match i, z1 with
      | 0, z => cases z
      | i + 1, z => simp at z
/-- a module's tuple of two ints -/
theorem repK_ii {K : PySem.W.Frag} {c : Addr} {i j : Int} {t u : Tok} {od : Option Addr} {n : Nat} {sl : Array (Option Value)} (h : K.lookup c = some ⟨.type "tuple", od, .seq #[.int i t, .int j u] n, sl⟩) : RepK K (.ref c) (.tup [.int i, .int j]) :=
  ⟨.ref c, rfl, fun G => .tup (.inr ⟨_, _, _, h, rfl, rfl, by show 2 ≤ sizeLine; decide, .cons (show RelV (.int i) _ from ⟨t, rfl⟩) (.cons (show RelV (.int j) _ from ⟨u, rfl⟩) .nil)⟩) (.cons (.int i) (.cons (.int j) .nil))⟩
theorem repK_int {K : PySem.W.Frag} {i : Int} {t : Tok} : RepK K (.int i t) (.int i) := ⟨.int i, ⟨t, rfl⟩, fun _ => .int i⟩
theorem repK_str {K : PySem.W.Frag} {i : Str} {t : Tok} : RepK K (.str i t) (.str i) := ⟨.str i, ⟨t, rfl⟩, fun _ => .str i⟩
end Fx

/-! Fx 10: rows that are not reached, enumerate, zip. -/
namespace Fx
open PySem PySem.Spec PyProof.Rows L2
/-- a row that is never reached -/
@[simp] def sNever : SF := fun _ => none
theorem sv_never {X : Cx} {st : Stmt} : SV X st sNever := ps_mono ps_never fun D σ H h => by
  obtain ⟨O, env, fl, envf, S, e, k⟩ := h
  cases e
/-! ### enumerate of a tuple -/
theorem enum1_new {v : Value} {o : Obj} {Hv : Heap → Prop} (B : Begins v o Hv) :
    Meets (Builtin.«enumerate.__new__» ⟨[.type "enumerate", v], []⟩) (fun _ R s => Hv s.heap ∧
      R (.ok (.ret (.ref (s.heap.push o).objs.size))) { s with heap := (s.heap.push o).push { cls := .type "enumerate", data := .fields #[.none, .bool false, .ref s.heap.objs.size, rawInt 0, .none, .none] } }) := by
  refine .of_wp fun prog w A R s q => ?_
  obtain ⟨hp, g, d, tk, os⟩ := s
  obtain ⟨q1, q⟩ := q
  have hsub := sub_enumerate
  have it1 : ∀ {A' : Around} {E : Value → Shared → Prop} {Q : Value → Shared → Prop}, Q (.ref hp.objs.size) ⟨hp.push o, g, d, tk, os⟩ → wpAny (model prog w) A' (pyIter v) Q E ⟨hp, g, d, tk, os⟩ :=
    fun z => B.iter prog w _ _ ⟨hp, g, d, tk, os⟩ _ q1 z
  wp_walk using it1
  refine wpAny_stack_any fun _ => wpAny_pure ?_
  split
  · rename_i c _ _ _ _ _
    cases (c == Value.type "enumerate") <;> (wp_walk using it1; exact ⟨_, rfl, q⟩)
  · wp_walk using it1
    exact ⟨_, rfl, q⟩
section
variable {prog : Program} {w : World} {A : Around} {E : Value → Shared → Prop} {s : Shared}
theorem enum1_call {v : Value} {o : Obj} {Hv : Heap → Prop} {Q : Value → Shared → Prop} (B : Begins v o Hv) (h1 : Hv s.heap)
    (q : ∀ h', IsEnum h' (s.heap.objs.size + 1) s.heap.objs.size 0 .none → h'.get? s.heap.objs.size = some o → h'.objs.size = s.heap.objs.size + 2 →
      (∀ b u, s.heap.get? b = some u → h'.get? b = some u) → Q (.ref (s.heap.objs.size + 1)) { s with heap := h' }) :
    wpAny (model prog w) A (call (.type "enumerate") [v]) Q E s := by
  have z1 : (s.heap.push o).objs.size = s.heap.objs.size + 1 := by rw [Heap.size_push]
  refine callType_new F.called_enumerate (by decide) (F.typeCall_enumerate_1 _) (F.newCall_enumerate_1 _) (fun obj => F.args_object_init_2 obj _) F.entry_enumerate_new (enum1_new B) ⟨h1, ?_⟩
  have g1 := Heap.get?_push_size (s.heap.push o) (o := { cls := .type "enumerate", data := .fields #[.none, .bool false, .ref s.heap.objs.size, rawInt 0, .none, .none] }) rfl
  rw [z1] at g1
  refine ⟨?_, ?_⟩
  · rw [z1]
    exact ⟨_, g1, rfl⟩
  · rw [z1]
    exact q _ g1 (Heap.get?_push_of_some _ (Heap.get?_push_size _ B.free)) (by rw [Heap.size_push, z1]) fun b u e => Heap.get?_push_of_some _ (Heap.get?_push_of_some _ e)
end
/-- the tuple at a, each item in a new pair -/
def IteT (K : PySem.W.Frag) (a : Addr) : It where
  go := fun i H => ∃ (xs : List V) (x : V), SqT K H a xs ∧ xs[i]? = some x
  yld := fun i H v H' => ∃ p x, v = .ref p ∧ H p = none ∧ H' = upd H p (.tup [.int (i : Nat), x]) ∧ ∀ xs, SqT K H a xs → xs[i]? = some x
  stop := fun i H => ∃ xs : List V, SqT K H a xs ∧ xs.length ≤ i
theorem turn_enumT {P : Program} {w : World} {K : PySem.W.Frag} {elts : List Expr} {kk : Nat} {tpos : Pos} (a e it : Addr) :
    Turn P w K (.Tuple elts kk tpos) (IteT K a) [e, it] e (fun i h => (∃ old, IsEnum h e it ((i : Nat) : Int) old) ∧ h.IsTupleIter it a i ∧ e ≠ it ∧ a ≠ it ∧ a ≠ e) where
  mem := by simp
  obj := by
    rintro i h ⟨⟨old, he⟩, ⟨o, ho, hc, hd⟩, _⟩ b hb
    rcases List.mem_cons.mp hb with z | hb
    · subst z; exact ⟨_, he, fun v q => nomatch q⟩
    · rw [List.mem_singleton.mp hb]; exact ⟨o, ho, fun v q => by rw [hd] at q; cases q⟩
  keep := by
    rintro i h h' ⟨⟨old, he⟩, hi, hne⟩ k
    exact ⟨⟨old, k e (by simp) _ he⟩, hi.at fun o q => k it (by simp) o q, hne⟩
  item := by
    intro X hP hw hK hc i pins s σ H E I hf st hg
    subst hP hw hK
    obtain ⟨⟨old, he⟩, hit, hne, ha1, ha2⟩ := st
    obtain ⟨xs, x, hq, hx⟩ := hg
    obtain ⟨its, rv, p, hz⟩ := I.tuple hq
    obtain ⟨u, hu, ru⟩ := rv.get hx
    have hel : e < s.heap.objs.size := Heap.lt_size he
    have hil : it < s.heap.objs.size := by obtain ⟨_, q, _⟩ := hit; exact Heap.lt_size q
    have ht : s.heap.IsTuple a its.toArray := p
    have hlt : i < its.toArray.size := by rw [List.size_toArray]; exact (List.getElem?_eq_some_iff.mp hu).1
    have D := Draws.tuple (prog := X.prog) (w := X.w) (A := X.A.in1) (I.ok.hd hc) it a ha1 its.toArray
    refine wpAny_pyNext_enum_itemC D he ⟨hit, ht⟩ hlt hne (by simp; exact ⟨hne, fun z => ha2 z.symm⟩) fun y h' tk hy ho hst hT hsz hk => ?_
    obtain rfl : y = u := by
      have h1 : its.toArray[i]? = some y := hy
      rw [List.getElem?_toArray, hu] at h1
      exact (Option.some.inj h1).symm
    refine ⟨_, rfl, wpAny_letOwnedTupleGo_enum (s := { s with heap := h', toks := tk + 1 }) ho fun h'' he' sb => ?_⟩
    have hT2 : h''.get? s.heap.objs.size = some { cls := .type "tuple", data := .seq #[.int i tk, y] } := (sb.2 _ (Nat.ne_of_gt hel)).trans hT
    have new : ObjOk X.prog X.w (upd H s.heap.objs.size (.tup [.int (i : Nat), x])) h'' s.heap.objs.size (.tup [.int (i : Nat), x]) :=
      ⟨by show 2 ≤ sizeLine; decide, [.int i tk, y], .cons ⟨_, rfl⟩ (.cons ru .nil), ⟨_, hT2, rfl, _, rfl⟩⟩
    have I1 : Inv X pins σ (upd H s.heap.objs.size (.tup [.int (i : Nat), x])) { s with heap := h'', toks := tk + 1 } :=
      I.turnedNew (ch := [e, it]) (fun b ob hb q => (sb.2 b (fun z => hb (by simp [z]))).trans (hk b ob (fun z => hb (by simp [z])) (fun z => hb (by simp [z])) q)) hf (Nat.le_refl _) new
    refine ⟨.ref s.heap.objs.size, _, I1, rfl, ⟨_, x, rfl, I.hok.fresh (Nat.le_refl _), rfl, fun ys hy => by rw [I.tuple_inj hy hq]; exact hx⟩, ⟨⟨y, ?_⟩, hst.1.at fun o q => (sb.2 it (Ne.symm hne)).trans q, hne, ha1, ha2⟩, fun b hb => ?_⟩
    · have e1 : ((i + 1 : Nat) : Int) = (i : Int) + 1 := by omega
      rw [e1]; exact he'
    · have hb' : b ≠ s.heap.objs.size := by
        rcases List.mem_cons.mp hb with z | z
        · subst z; exact Nat.ne_of_lt hel
        · rw [List.mem_singleton.mp z]; exact Nat.ne_of_lt hil
      rw [upd_ne hb']
      exact (hf b hb).1
  done := by
    intro X hP hw hK hc i pins s σ H E I hf st hg
    subst hP hw hK
    obtain ⟨⟨old, he⟩, hit, hne, ha1, ha2⟩ := st
    obtain ⟨xs, hq, hx⟩ := hg
    obtain ⟨its, rv, p, hz⟩ := I.tuple hq
    obtain ⟨f0, f1, f2, f3, f4, f5⟩ := hf it (by simp)
    have ht : s.heap.IsTuple a its.toArray := p
    have hl := rv.length
    have D : Draws X.prog X.w X.A.in1 it [it, a] i (fun _ _ => True) (fun j h => j = i ∧ h.IsTupleIter it a i ∧ h.IsTuple a its.toArray) :=
      ⟨fun j h z => let ⟨o, ho, _⟩ := z.2.1; ⟨o, ho⟩, fun j h h' z k => ⟨z.1, z.2.1.at fun o q => k it (by simp) o q, z.2.2.at fun o q => k a (by simp) o q⟩,
        fun j s Q E z1 z2 => absurd z1 (by rw [z2.1]; exact Nat.lt_irrefl _),
        fun s Q E z hE => wpAny_nextOf_tuple_end (I.ok.hd hc) z.2.1 z.2.2 (by simp; omega) hE⟩
    exact wpAny_pyNext_enum_endD D he ⟨rfl, hit, ht⟩ fun h' eb => ⟨rfl, I.turned (t' := s.toks) (fun b o hb q => eb b o hb q) f0 f1 f3 f4 f5⟩
  self := fun A i s Q E st q => let ⟨⟨_, he⟩, _⟩ := st; wpAny_pyIter_enum he q
def iEnumT (K : PySem.W.Frag) (ta : TA) : TI := fun σ H R => ta σ H fun vs H1 => ∃ a xs, vs = [.ref a] ∧ SqT K H1 a xs ∧ R (IteT K a) H1
theorem pi_enumT {X : Cx} {e : Expr} {ta : TA} {p pos tpos : Pos} {elts : List Expr} {kk : Nat} (hg : Gl X "enumerate") (hm : X.mg "enumerate" = none) (ha : PA X [e] ta) (hs : starEach [e] X.env = [(false, eval e X.env)] := by rfl) :
    PI X (.Tuple elts kk tpos) (.Call (.Name "enumerate" p) [e] [] pos) (iEnumT X.K ta) := by
  refine ⟨fun pins s σ H R I q => ?_⟩
  refine Call_ (ld_blt I hg hm boot_enumerate (PyProof.Rows.callWith_type1 (thn (ha.run pos pins s σ H _ I q) fun us s1 q1 => ?_) hs rfl))
  obtain ⟨vs, H1, I1, r1, a, xs, rfl, hq, q⟩ := q1
  obtain ⟨u, hu, rfl⟩ : ∃ u, RelV (.ref a) u ∧ us = [u] := by
    cases r1 with
    | cons r rr => cases rr; exact ⟨_, r, rfl⟩
  cases hu
  obtain ⟨its, rv, pl, hz⟩ := I1.tuple hq
  have ht : s1.heap.IsTuple a its.toArray := pl
  have hal : a < s1.heap.objs.size := by obtain ⟨o, z, _⟩ := ht; exact Heap.lt_size z
  refine enum1_call (begins_tuple a its.toArray) ht fun h' he hit hsz hk => wpAny_pyIter_enum he ?_
  have I2 : Inv X pins σ H1 { s1 with heap := h' } := I1.kept (t' := s1.toks) hk
  refine ⟨s1.heap.objs.size + 1, [s1.heap.objs.size + 1, s1.heap.objs.size], _, _, H1, rfl, I2, turn_enumT a (s1.heap.objs.size + 1) s1.heap.objs.size, ⟨⟨.none, he⟩, ⟨_, hit, rfl, rfl⟩, Nat.succ_ne_self _, Nat.ne_of_lt hal, Nat.ne_of_lt (Nat.lt_succ_of_lt hal)⟩, fun b hb => ?_, q⟩
  have hle : s1.heap.objs.size ≤ b := by
    rcases List.mem_cons.mp hb with z | z
    · rw [z]; exact Nat.le_succ _
    · rw [List.mem_singleton.mp z]; exact Nat.le_refl _
  exact I1.fpOk hle (I1.hok.fresh hle)
/-- the items, each with its number -/
def numT (ts : List T) : List T := ts.zipIdx.map fun p => .tup [.int (p.2 : Nat), p.1]
theorem numT_len {ts : List T} : (numT ts).length = ts.length := by simp [numT]
theorem numT_get {ts : List T} {i : Nat} {t : T} (h : ts[i]? = some t) : (numT ts)[i]? = some (.tup [.int (i : Nat), t]) := by
  simp [numT, h]
section
variable {K : PySem.W.Frag} {G : Hp} {a : Addr} {xs : List V} {ts : List T}
/-- a new pair stands -/
theorem pair_rep {H H' : Hp} {v : V} {p : Addr} {x y : V} {s t : T} (h1 : v = .ref p) (h2 : H p = none) (h3 : H' = upd H p (.tup [x, y])) {O : List Addr} (ho : ∀ q ∈ O, ∃ o : HO, H q = some o) (r1 : Rep K (hid H O) x s) (r2 : Rep K (hid H O) y t) :
    Ext H H' ∧ Rep K (hid H' O) v (.tup [s, t]) := by
  subst h1 h3
  have hp : p ∉ O := fun z => by
    obtain ⟨o, e⟩ := ho p z
    rw [h2] at e; cases e
  have x1 : Ext H (upd H p (.tup [x, y])) := .new h2
  exact ⟨x1, .tup (.inl (.inl (hid_new hp))) (.cons (r1.mono (x1.hid O)) (.cons (r2.mono (x1.hid O)) .nil))⟩
theorem wk_enumL (h : SqL K G a xs) (r : Reps K G xs ts) : WkT K (Ite K a) (numT ts) G where
  go := fun i H hi x => by
    rw [numT_len] at hi
    have h2 : i < xs.length := by rw [r.length]; exact hi
    exact ⟨xs, _, x.sqL h, List.getElem?_eq_getElem h2⟩
  stop := fun H x => ⟨xs, x.sqL h, by rw [numT_len, r.length]; exact Nat.le_refl _⟩
  yld := fun i H v H' hi x y => by
    obtain ⟨p, z, h1, h2, h3, h4⟩ := y
    obtain ⟨t, g1, g2⟩ := r.getV (h4 xs (x.sqL h))
    refine ⟨by rw [h3]; exact .new h2, fun O ho x2 => ⟨_, numT_get g1, (pair_rep h1 h2 h3 ho (.int _) (g2.mono x2)).2⟩⟩
theorem wk_enumT (h : SqT K G a xs) (r : Reps K G xs ts) : WkT K (IteT K a) (numT ts) G where
  go := fun i H hi x => by
    rw [numT_len] at hi
    have h2 : i < xs.length := by rw [r.length]; exact hi
    exact ⟨xs, _, x.sqT h, List.getElem?_eq_getElem h2⟩
  stop := fun H x => ⟨xs, x.sqT h, by rw [numT_len, r.length]; exact Nat.le_refl _⟩
  yld := fun i H v H' hi x y => by
    obtain ⟨p, z, h1, h2, h3, h4⟩ := y
    obtain ⟨t, g1, g2⟩ := r.getV (h4 xs (x.sqT h))
    refine ⟨by rw [h3]; exact .new h2, fun O ho x2 => ⟨_, numT_get g1, (pair_rep h1 h2 h3 ho (.int _) (g2.mono x2)).2⟩⟩
/-- both lists' items in pairs -/
def zipT (ts us : List T) : List T := (ts.zip us).map fun p => .tup [p.1, p.2]
theorem zipT_len {ts us : List T} : (zipT ts us).length = min ts.length us.length := by simp [zipT]
theorem zipT_get {ts us : List T} {i : Nat} {t u : T} (h : ts[i]? = some t) (h' : us[i]? = some u) : (zipT ts us)[i]? = some (.tup [t, u]) := by
  simp [zipT, (List.getElem?_zip_eq_some (z := (t, u))).mpr ⟨h, h'⟩]
theorem wk_zipL {b : Addr} {ys : List V} {us : List T} (h : SqL K G a xs) (r : Reps K G xs ts) (h' : SqL K G b ys) (r' : Reps K G ys us) : WkT K (Itz K a b) (zipT ts us) G where
  go := fun i H hi x => by
    rw [zipT_len] at hi
    have h1 : i < xs.length := by rw [r.length]; omega
    have h2 : i < ys.length := by rw [r'.length]; omega
    exact ⟨xs, ys, _, _, x.sqL h, x.sqL h', List.getElem?_eq_getElem h1, List.getElem?_eq_getElem h2⟩
  stop := fun H x => ⟨xs, ys, x.sqL h, x.sqL h', by rw [zipT_len, r.length, r'.length]; omega⟩
  yld := fun i H v H' hi x y => by
    obtain ⟨p, z1, z2, h1, h2, h3, h4, h5⟩ := y
    obtain ⟨t, g1, g2⟩ := r.getV (h4 xs (x.sqL h))
    obtain ⟨u, g3, g4⟩ := r'.getV (h5 ys (x.sqL h'))
    refine ⟨by rw [h3]; exact .new h2, fun O ho x2 => ⟨_, zipT_get g1 g3, (pair_rep h1 h2 h3 ho (g2.mono x2) (g4.mono x2)).2⟩⟩
theorem wk_zipT {b : Addr} {ys : List V} {us : List T} (h : SqT K G a xs) (r : Reps K G xs ts) (h' : SqT K G b ys) (r' : Reps K G ys us) : WkT K (RZ.ItzT K a b) (zipT ts us) G where
  go := fun i H hi x => by
    rw [zipT_len] at hi
    have h1 : i < xs.length := by rw [r.length]; omega
    have h2 : i < ys.length := by rw [r'.length]; omega
    exact ⟨xs, ys, _, _, x.sqT h, x.sqT h', List.getElem?_eq_getElem h1, List.getElem?_eq_getElem h2⟩
  stop := fun H x => ⟨xs, ys, x.sqT h, x.sqT h', by rw [zipT_len, r.length, r'.length]; omega⟩
  yld := fun i H v H' hi x y => by
    obtain ⟨p, z1, z2, h1, h2, h3, h4, h5⟩ := y
    obtain ⟨t, g1, g2⟩ := r.getV (h4 xs (x.sqT h))
    obtain ⟨u, g3, g4⟩ := r'.getV (h5 ys (x.sqT h'))
    refine ⟨by rw [h3]; exact .new h2, fun O ho x2 => ⟨_, zipT_get g1 g3, (pair_rep h1 h2 h3 ho (g2.mono x2) (g4.mono x2)).2⟩⟩
end
def seqT : T → Option (List T)
  | .tup ts => some ts
  | .lst ts => some ts
  | .lsf ts => some ts
  | _ => none
@[simp] theorem seqT_tup {ts : List T} : seqT (.tup ts) = some ts := rfl
@[simp] theorem seqT_lst {ts : List T} : seqT (.lst ts) = some ts := rfl
@[simp] theorem seqT_lsf {ts : List T} : seqT (.lsf ts) = some ts := rfl
@[simp] def itEnum (f : AF) : AF := fun env => (f env).bind fun p => match p.1 with
  | [t] => (seqT t).map fun ts => (numT ts, p.2)
  | _ => none
section
variable {X : Cx} {pos : Pos} {tg e e2 : Expr} {es : List Expr}
theorem pi_orI {w1 w2 : TI} {iter : Expr} (h1 : PI X tg iter w1) (h2 : PI X tg iter w2) : PI X tg iter (fun σ H R => w1 σ H R ∨ w2 σ H R) :=
  ⟨fun pins s σ H R I q => by
    rcases q with q | q
    · exact h1.run pins s σ H R I q
    · exact h2.run pins s σ H R I q⟩
theorem iv_enum {elts : List Expr} {kk : Nat} {tpos p : Pos} {f : AF} (hg : Gl X "enumerate") (hm : X.mg "enumerate" = none) (ha : EA X [e] f) (hs : starEach [e] X.env = [(false, eval e X.env)] := by rfl) :
    IV X (.Tuple elts kk tpos) (.Call (.Name "enumerate" p) [e] [] pos) (itEnum f) :=
  pi_mono (pi_orI (pi_enum hg hm ha hs) (pi_enumT hg hm ha hs)) fun σ H R ⟨O, env, ts, env', S, e, k⟩ => by
    unfold itEnum at e
    obtain ⟨⟨us, e1⟩, q1, e⟩ := Option.bind_eq_some_iff.mp e
    split at e
    · rename_i t hus
      have hus : us = [t] := hus
      subst hus
      obtain ⟨ws, hw, e⟩ := Option.map_eq_some_iff.mp e
      cases e
      unfold seqT at hw
      split at hw <;> cases hw
      · refine .inr ⟨O, env, _, e1, S, q1, fun v H1 O1 n1 S1 r1 => ?_⟩
        obtain ⟨v, rfl, r⟩ := one_arg r1
        obtain ⟨a, xs, rfl, h1, h2⟩ := r.inv_tup
        exact ⟨a, xs, rfl, (hid_ext _ _).sqT h1, k _ H1 O1 n1 S1 (wk_enumT h1 h2)⟩
      · refine .inl ⟨O, env, _, e1, S, q1, fun v H1 O1 n1 S1 r1 => ?_⟩
        obtain ⟨v, rfl, r⟩ := one_arg r1
        obtain ⟨a, xs, rfl, h1, h2⟩ := r.inv_lst
        exact ⟨a, xs, rfl, (hid_ext _ _).sqL (.of h1), k _ H1 O1 n1 S1 (wk_enumL (.of h1) h2)⟩
      · refine .inl ⟨O, env, _, e1, S, q1, fun v H1 O1 n1 S1 r1 => ?_⟩
        obtain ⟨v, rfl, r⟩ := one_arg r1
        obtain ⟨a, xs, rfl, h1, h2⟩ := r.inv_lsf
        exact ⟨a, xs, rfl, (hid_ext _ _).sqL h1, k _ H1 O1 n1 S1 (wk_enumL h1 h2)⟩
    · cases e
@[simp] def itZip (f : AF) : AF := fun env => (f env).bind fun p => match p.1 with
  | [.tup ts, .tup us] => some (zipT ts us, p.2)
  | [.lst ts, .lst us] => some (zipT ts us, p.2)
  | [.lsf ts, .lst us] => some (zipT ts us, p.2)
  | [.lst ts, .lsf us] => some (zipT ts us, p.2)
  | _ => none
theorem iv_zip {elts : List Expr} {kk : Nat} {tpos p : Pos} {f : AF} (hg : Gl X "zip") (hm : X.mg "zip" = none) (ha : EA X [e, e2] f) (hs : starEach [e, e2] X.env = (false, eval e X.env) :: starEach [e2] X.env := by rfl) (hpl : (backTo pos (starEach [e2] X.env)).any (·.1) = false := by rfl) :
    IV X (.Tuple elts kk tpos) (.Call (.Name "zip" p) [e, e2] [] pos) (itZip f) :=
  pi_mono (RZ.pi_zipA hg hm ha hs hpl) fun σ H R ⟨O, env, ts, env', S, e, k⟩ => by
    unfold itZip at e
    obtain ⟨⟨us, e1⟩, q1, e⟩ := Option.bind_eq_some_iff.mp e
    split at e
    · rename_i t u hus
      have hus : us = [.tup t, .tup u] := hus
      subst hus
      cases e
      refine ⟨O, env, _, e1, S, q1, fun v H1 O1 n1 S1 r1 => ?_⟩
      obtain ⟨v, w, rfl, r, r'⟩ := two_args r1
      obtain ⟨a, xs, rfl, h1, h2⟩ := r.inv_tup
      obtain ⟨b, ys, rfl, h3, h4⟩ := r'.inv_tup
      exact ⟨a, b, xs, ys, rfl, .inr ⟨(hid_ext _ _).sqT h1, (hid_ext _ _).sqT h3, k _ H1 O1 n1 S1 (wk_zipT h1 h2 h3 h4)⟩⟩
    · rename_i t u hus
      have hus : us = [.lst t, .lst u] := hus
      subst hus
      cases e
      refine ⟨O, env, _, e1, S, q1, fun v H1 O1 n1 S1 r1 => ?_⟩
      obtain ⟨v, w, rfl, r, r'⟩ := two_args r1
      obtain ⟨a, xs, rfl, h1, h2⟩ := r.inv_lst
      obtain ⟨b, ys, rfl, h3, h4⟩ := r'.inv_lst
      exact ⟨a, b, xs, ys, rfl, .inl ⟨(hid_ext _ _).sqL (.of h1), (hid_ext _ _).sqL (.of h3), k _ H1 O1 n1 S1 (wk_zipL (.of h1) h2 (.of h3) h4)⟩⟩
    · rename_i t u hus
      have hus : us = [.lsf t, .lst u] := hus
      subst hus
      cases e
      refine ⟨O, env, _, e1, S, q1, fun v H1 O1 n1 S1 r1 => ?_⟩
      obtain ⟨v, w, rfl, r, r'⟩ := two_args r1
      obtain ⟨a, xs, rfl, h1, h2⟩ := r.inv_lsf
      obtain ⟨b, ys, rfl, h3, h4⟩ := r'.inv_lst
      exact ⟨a, b, xs, ys, rfl, .inl ⟨(hid_ext _ _).sqL h1, (hid_ext _ _).sqL (.of h3), k _ H1 O1 n1 S1 (wk_zipL h1 h2 (.of h3) h4)⟩⟩
    · rename_i t u hus
      have hus : us = [.lst t, .lsf u] := hus
      subst hus
      cases e
      refine ⟨O, env, _, e1, S, q1, fun v H1 O1 n1 S1 r1 => ?_⟩
      obtain ⟨v, w, rfl, r, r'⟩ := two_args r1
      obtain ⟨a, xs, rfl, h1, h2⟩ := r.inv_lst
      obtain ⟨b, ys, rfl, h3, h4⟩ := r'.inv_lsf
      exact ⟨a, b, xs, ys, rfl, .inl ⟨(hid_ext _ _).sqL (.of h1), (hid_ext _ _).sqL h3, k _ H1 O1 n1 S1 (wk_zipL (.of h1) h2 h3 h4)⟩⟩
    · cases e
end
end Fx

/-! Fx 11: repr of data. -/
namespace Fx
open PySem PySem.Spec PyProof.Rows L2
/-- repr(v) of data, where no repr is under way -/
theorem repr_data {prog : Program} {w : World} {A : Around} {E : Value → Shared → Prop} {s : Shared} {v : Value} {d : PyData} {as : List Addr} {Q : Value → Shared → Prop} (r : Reads s.heap v d as) (hs : d.showable = true) (hd : d.hasDict = false) (hg : Gd A)
    (hu : A.units + 1 + d.depth < cLine) (hz : d.shown.length ≤ sizeLine)
    (hQ : ∀ h' u tk, (∀ b o, s.heap.get? b = some o → h'.get? b = some o) → Q (.str d.shown u) { s with heap := h', toks := tk }) : wpAny (model prog w) A (call (.builtin "repr") [v]) Q E s := by
  have hg1 : A.in1.guards = some [] := hg
  have keep : ∀ (b : Addr) (o : Obj), s.heap.get? b = some o → s.heap.get? b = some o := fun _ _ e => e
  cases r with
  | none =>
    simp only [PyData.shown] at hQ
    exact PySem.P.repr_of_none (hQ s.heap _ _ keep)
  | bool b =>
    simp only [PyData.shown] at hQ
    exact PySem.P.repr_of_bool (hQ s.heap _ _ keep)
  | int i t =>
    simp only [PyData.shown] at hQ
    exact PySem.P.repr_of_int (by simpa [PyData.showable] using hs) (hQ s.heap _ _ keep)
  | str x t =>
    simp only [PyData.shown] at hQ hz
    exact PySem.P.repr_of_str (hQ s.heap _ _ keep) hz
  | @list a o vs n xs as1 h1 h2 h3 h4 =>
    have hT : s.TypeIs (.ref a) "list" := ⟨_, h1, h2⟩
    simp only [PyData.shown] at hQ hz
    simp only [PyData.showable] at hs
    simp only [PyData.hasDict] at hd
    simp only [PyData.depth] at hu
    refine call_repr_slot (by omega) hT PySem.F.slot_list_repr.toG ?_
    obtain ⟨bs, hb, hk⟩ := ReprAllK.of_readsAll (prog := prog) (w := w) h4 hs (fun z => by rw [hd] at z; cases z) (fun t ht => Nat.le_trans (listText_mem_le ht) hz)
    have hna : a ∉ bs := not_mem_of_deeper (.list h1 h2 h3 h4) (by simp only [PyData.depth]; omega) hb
    obtain ⟨l⟩ := vs
    cases l with
    | nil =>
      have h4 : ReadsAll s.heap [] xs _ := h4
      cases h4
      simp only [PyData.shownAll, listText_nil] at hQ
      exact call_list_repr_empty hT h1 h3 ⟨_, _, rfl, hQ s.heap _ _ keep⟩
    | cons x l =>
      exact call_list_reprK h1 h2 h3 hna (by simpa using hk.length_eq) (fun i y e => hk.item i y (by simpa using e)) hg1 (fun b _ => Clear.nil b) (by show A.units + 1 + _ < _; omega) keep (fun h' u tk k => ⟨_, _, rfl, hQ h' u tk k⟩) hz
  | @tuple a o vs n xs as1 h1 h2 h3 h4 =>
    have hT : s.TypeIs (.ref a) "tuple" := ⟨_, h1, h2⟩
    simp only [PyData.shown] at hQ hz
    simp only [PyData.showable] at hs
    simp only [PyData.hasDict] at hd
    simp only [PyData.depth] at hu
    refine call_repr_slot (by omega) hT PySem.F.slot_tuple_repr ?_
    obtain ⟨bs, hb, hk⟩ := ReprAllK.of_readsAll (prog := prog) (w := w) h4 hs (fun z => by rw [hd] at z; cases z) (fun t ht => Nat.le_trans (tupleText_mem_le ht) hz)
    have hna : a ∉ bs := not_mem_of_deeper (.tuple h1 h2 h3 h4) (by simp only [PyData.depth]; omega) hb
    exact call_tuple_reprK h1 h2 h3 hna hk hg1 (fun b _ => Clear.nil b) (by show A.units + 1 + _ < _; omega) keep (fun h' u tk k => ⟨_, _, rfl, hQ h' u tk k⟩) hz
  | dict h1 h2 h3 h4 h5 => simp [PyData.hasDict] at hd
def bRepr : ON := fun ts => match ts with
  | [t] => (toD t).bind fun d => if (d.showable && d.canLay0 && decide (d.depth < 60) && decide (d.shown.length ≤ sizeLine)) = true then some (.str d.shown) else none
  | _ => none
@[simp] theorem bRepr_bl (b : Bool) : bRepr [.bl b] = some (.str (if b then "True" else "False")) := by cases b <;> (unfold bRepr; simp [PyData.showable, PyData.canLay0, PyData.depth, PyData.shown]; decide +kernel)
theorem ct_repr {X : Cx} (hgd : Gd X.A) (hu : X.A.units + 64 < cLine) : CallT X (.builtin "repr") bRepr := by
  intro pins s σ H vs us Q I rx ⟨O, as, c, dom, ra, e, k⟩
  unfold bRepr at e
  split at e
  · rename_i t
    obtain ⟨d, hd, e⟩ := Option.bind_eq_some_iff.mp e
    split at e
    · rename_i hc
      cases e
      simp only [Bool.and_eq_true, decide_eq_true_eq] at hc
      obtain ⟨⟨⟨h1, h2⟩, h3⟩, h4⟩ := hc
      obtain ⟨v, rfl, r⟩ := one_arg ra
      obtain ⟨u, rfl, ru⟩ := vals1 rx
      obtain ⟨bs, rd⟩ := Dp.reads I d v u ((r.mono (hid_ext H O)).dp hd) ru
      exact repr_data rd h1 (PyData.hasDict_of_canLay d h2) hgd (by omega) h4 fun h' u tk kp => ⟨.str d.shown, H, I.kept (t' := tk) kp, ⟨_, rfl⟩, k _ H (.refl _) (.str _)⟩
    · cases e
  · cases e
end Fx

/-! Fx 12: chains of comparisons, in, pop, own lists from others, max and min, sums, slices turned round. -/
namespace Fx
open PySem PySem.Spec PyProof.Rows L2
section
variable {X : Cx} {a b c e : Expr} {fa fb fc : EF} {i : Nat} {x : Str} {pos pos' : Pos}
/-! ### a < b < c -/
@[simp] def eChain (g g' : Fx.O2) (fa fb fc : EF) : EF := fun env => (fa env).bind fun p => (fb p.2).bind fun q => (g p.1 q.1).bind fun z => match z with
  | .bl true => (fc q.2).bind fun r => (g' q.1 r.1).map fun z => (z, r.2)
  | .bl false => some (.bl false, q.2)
  | _ => none
theorem chain_pure {K : PySem.W.Frag} {g g' : Fx.O2} {σ : L2.St} {H : Hp} {Q : VK} (h : tV K (eChain g g' fa fb fc) σ H Q) : tChain (rT K g) (rT K g') (tV K fa) (tV K fb) (tV K fc) σ H Q := by
  obtain ⟨O, env, t, env', S, e, k⟩ := h
  unfold eChain at e
  obtain ⟨⟨t1, e1⟩, q1, e⟩ := Option.bind_eq_some_iff.mp e
  obtain ⟨⟨t2, e2⟩, q2, e⟩ := Option.bind_eq_some_iff.mp e
  obtain ⟨z, q3, e⟩ := Option.bind_eq_some_iff.mp e
  refine ⟨O, env, t1, e1, S, q1, fun v1 H1 O1 n1 S1 r1 => ⟨O1, e1, t2, e2, S1, q2, fun v2 H2 O2 n2 S2 r2 => ⟨O2, t1, t2, z, S2.dom, r1.mono (S1.grow n2), r2, q3, fun v3 H3 x3 r3 => ?_⟩⟩⟩
  have S3 := S2.ext x3
  split at e
  · refine ⟨true, r3.inv_bl, ?_⟩
    obtain ⟨⟨t4, e4⟩, q4, e⟩ := Option.bind_eq_some_iff.mp e
    obtain ⟨z', q5, e⟩ := Option.map_eq_some_iff.mp e
    cases e
    rw [if_pos rfl]
    refine ⟨O2, e2, t4, _, S3, q4, fun v4 H4 O4 n4 S4 r4 => ⟨O4, t2, t4, _, S4.dom, (r2.mono (x3.hid O2)).mono (S3.grow n4), r4, q5, fun v5 H5 x5 r5 => ?_⟩⟩
    exact k v5 H5 O4 ((((n1.trans n2).trans (.ext x3)).trans n4).trans (.ext x5)) (S4.ext x5) r5
  · cases e
    refine ⟨false, r3.inv_bl, ?_⟩
    rw [if_neg Bool.false_ne_true]
    exact k _ H3 O2 ((n1.trans n2).trans (.ext x3)) S3 (.bl _)
  · cases e
theorem ev_chain {op op' : CmpOp} {g g' : Fx.O2} (ho : OpT X (compareOp op) g) (ho' : OpT X (compareOp op') g') (ha : EV X a fa) (hb : EV X b fb) (hc : EV X c fc) (hm : lastMarks [op, op'] [b, c] = false := by with_unfolding_all rfl) :
    EV X (.Compare a [op, op'] [b, c] pos) (eChain g g' fa fb fc) := pe_mono (pe_chain ho ho' ha hb hc hm) fun σ H Q h => chain_pure h
theorem tv_chain {op op' : CmpOp} {g g' : Fx.O2} (ho : OpT X (compareOp op) g) (ho' : OpT X (compareOp op') g') (ha : EV X a fa) (hb : EV X b fb) (hc : EV X c fc) (hm : lastMarks [op, op'] [b, c] = false := by with_unfolding_all rfl) :
    TV X (.Compare a [op, op'] [b, c] pos) (tB1 (eChain g g' fa fb fc)) :=
  pt_mono (pt_chain ho ho' ha hb hc hm) fun σ H Q ⟨O, env, c, env', S, e, k⟩ => chain_pure (Q := fun x H' => ∃ k, x = .bl k ∧ Q k H') ⟨O, env, .bl c, env', S, tB1_some e, fun v H1 O1 n1 S1 r1 => ⟨c, r1.inv_bl, k H1 O1 n1 S1⟩⟩
/-! ### pop -/
theorem pop_pure {K : PySem.W.Frag} {σ : L2.St} {H : Hp} {D : Ends} (h : tS K (sPop i) D σ H) : tDrop (tBM0 K "list" rPop (tVar i)) D σ H := by
  obtain ⟨O, env, fl, env', S, e, k⟩ := h
  unfold sPop at e
  split at e
  · rename_i ts hc
    split at e
    · cases e
    · rename_i hne
      cases e
      obtain ⟨p, h1, _, vs, g0, g1⟩ := S.own i _ hc
      have hl : ts.length - 1 < ts.length := by
        have : ts.length ≠ 0 := fun z => hne (List.length_eq_zero_iff.mp z)
        omega
      obtain ⟨y, hy, ry⟩ := g1.get (List.getElem?_eq_getElem hl)
      refine ⟨_, h1, .inl ⟨rfl, vs, .of g0⟩, p, vs, y, rfl, rfl, g0, by rw [g1.length]; exact hy, ?_⟩
      obtain ⟨n3, S3⟩ := Nx.setCont_ok (o := .lst vs.dropLast) (t' := .lst ts.dropLast) S hc h1 ⟨_, upd_same, g1.dropLast⟩
      exact k σ _ O n3 S3
  · cases e
theorem sv_pop {apos cpos : Pos} (hx : PE X (.Name x pos') (tVar i)) (hbase : attributeBase (.Name x pos') "pop" X.env (eval (.Name x pos') X.env) = eval (.Name x pos') X.env := by rfl) (hline : (apos.endLine == cpos.line) = true := by rfl)
    (hsw : swapsWith (.Call (.Attribute (.Name x pos') "pop" apos) [] [] cpos) none pos.line X.env = pure false := by rfl) : SV X (.Expr (.Call (.Attribute (.Name x pos') "pop" apos) [] [] cpos) pos) (sPop i) :=
  ps_mono (ps_expr (pe_bm0 PySem.F.plainAttrs_list PySem.F.slot_list_pop PySem.F.type_list_pop mt_pop hx hbase hline) hsw) fun D σ H h => pop_pure h
/-! ### in -/
def inT (a c : T) : Option Bool := (toD a).bind fun d => match c with
  | .lst ts => (toDs ts).bind fun ds => if d.depth ≤ 60 then some (ds.any fun y => PyData.eqv y d) else none
  | .lsf ts => (toDs ts).bind fun ds => if d.depth ≤ 60 then some (ds.any fun y => PyData.eqv y d) else none
  | .tup ts => (toDs ts).bind fun ds => if d.depth ≤ 60 then some (ds.any fun y => PyData.eqv y d) else none
  | _ => none
@[simp] def qIn : Fx.O2 := fun a c => (inT a c).map .bl
@[simp] def qNin : Fx.O2 := fun a c => (inT a c).map fun b => .bl (!b)
def rInP (K : PySem.W.Frag) (neg : Bool) : R2 := fun x y H Q => ∃ d ds, Dp K H x d ∧ (Dp K H y (.list ds) ∨ Dp K H y (.tuple ds)) ∧ d.plain = true ∧ PyData.plainAll ds = true ∧ d.depth ≤ 60 ∧ Q (.bl (if neg then !ds.any fun z => PyData.eqv z d else ds.any fun z => PyData.eqv z d)) H
theorem op_inP (hu : X.A.units + 64 < cLine) : OpR X (compareOp .In) (rInP X.K false) := by
  intro pins s σ H x y v u Q I rx ry ⟨d, ds, hd, he, pd, pe, hp, q⟩
  obtain ⟨as, r1⟩ := Dp.reads I d x v hd rx
  rcases he with he | he
  · obtain ⟨bs, r2⟩ := Dp.reads I _ y u he ry
    exact SeqAt.in_list_data r2 r1 pe pd (by omega) ⟨.bl _, H, I, rfl, q⟩
  · obtain ⟨bs, r2⟩ := Dp.reads I _ y u he ry
    exact SeqAt.in_tuple_data r2 r1 pe pd (by omega) ⟨.bl _, H, I, rfl, q⟩
theorem op_ninP (hu : X.A.units + 64 < cLine) : OpR X (compareOp .NotIn) (rInP X.K true) := by
  intro pins s σ H x y v u Q I rx ry ⟨d, ds, hd, he, pd, pe, hp, q⟩
  obtain ⟨as, r1⟩ := Dp.reads I d x v hd rx
  rcases he with he | he
  · obtain ⟨bs, r2⟩ := Dp.reads I _ y u he ry
    exact SeqAt.notIn_list_data r2 r1 pe pd (by omega) ⟨.bl _, H, I, rfl, q⟩
  · obtain ⟨bs, r2⟩ := Dp.reads I _ y u he ry
    exact SeqAt.notIn_tuple_data r2 r1 pe pd (by omega) ⟨.bl _, H, I, rfl, q⟩
theorem inT_dp {K : PySem.W.Frag} {G : Hp} {v w : V} {a c : T} {z : Bool} (ra : Rep K G v a) (rc : Rep K G w c) (h : inT a c = some z) :
    ∃ d ds, Dp K G v d ∧ (Dp K G w (.list ds) ∨ Dp K G w (.tuple ds)) ∧ d.plain = true ∧ PyData.plainAll ds = true ∧ d.depth ≤ 60 ∧ z = ds.any fun y => PyData.eqv y d := by
  unfold inT at h
  obtain ⟨d, h1, h⟩ := Option.bind_eq_some_iff.mp h
  split at h
  all_goals first
    | cases h
    | (obtain ⟨ds, h2, h⟩ := Option.bind_eq_some_iff.mp h
       split at h
       · rename_i hd
         cases h
         refine ⟨d, ds, ra.dp h1, ?_, toD_plain h1, toDs_plain h2, hd, rfl⟩
         first
           | exact .inl (rc.dp (by unfold toD; rw [h2]; rfl))
           | exact .inr (rc.dp (by unfold toD; rw [h2]; rfl))
       · cases h)
theorem ot_in (hu : X.A.units + 64 < cLine) : OpT X (compareOp .In) qIn := OpR.mono (op_inP hu) fun x y H Q ⟨O, a, b, c, d, ra, rb, e, k⟩ => by
  obtain ⟨z, q, e⟩ := Option.map_eq_some_iff.mp e
  cases e
  obtain ⟨d, ds, h1, h2, h3, h4, h5, rfl⟩ := inT_dp (ra.mono (hid_ext H O)) (rb.mono (hid_ext H O)) q
  exact ⟨d, ds, h1, h2, h3, h4, h5, k _ H (.refl _) (.bl _)⟩
theorem ot_nin (hu : X.A.units + 64 < cLine) : OpT X (compareOp .NotIn) qNin := OpR.mono (op_ninP hu) fun x y H Q ⟨O, a, b, c, d, ra, rb, e, k⟩ => by
  obtain ⟨z, q, e⟩ := Option.map_eq_some_iff.mp e
  cases e
  obtain ⟨d, ds, h1, h2, h3, h4, h5, rfl⟩ := inT_dp (ra.mono (hid_ext H O)) (rb.mono (hid_ext H O)) q
  exact ⟨d, ds, h1, h2, h3, h4, h5, k _ H (.refl _) (.bl _)⟩
/-! ### max, min of two ints -/
@[simp] def bMax : ON := fun ts => match ts with
  | [.int i, .int j] => some (.int (if j > i then j else i))
  | _ => none
@[simp] def bMin : ON := fun ts => match ts with
  | [.int i, .int j] => some (.int (if j < i then j else i))
  | _ => none
theorem ct_max (hc : X.calm = true) : CallT X (.builtin "max") bMax := CallR.mono (call_max2 hc) fun xs H Q ⟨O, as, c, d, ra, e, k⟩ => by
  unfold bMax at e
  split at e
  · cases e
    obtain ⟨v, w, rfl, r1, r2⟩ := two_args ra
    exact ⟨_, _, by rw [r1.inv_int, r2.inv_int], k _ H (.refl _) (.int _)⟩
  · cases e
theorem ct_min (hc : X.calm = true) : CallT X (.builtin "min") bMin := CallR.mono (call_min2 hc) fun xs H Q ⟨O, as, c, d, ra, e, k⟩ => by
  unfold bMin at e
  split at e
  · cases e
    obtain ⟨v, w, rfl, r1, r2⟩ := two_args ra
    exact ⟨_, _, by rw [r1.inv_int, r2.inv_int], k _ H (.refl _) (.int _)⟩
  · cases e
/-! ### list(x), an own list -/
theorem hide_rep {K : PySem.W.Frag} {H : Hp} {O : List Addr} {σ : L2.St} {env : Sls} (S : RepS K H O σ env) {p : Addr} (hp : H p = none) {vs : List V} {ts : List T} (r : Reps K (hid H O) vs ts) :
    ∃ O', Nx σ env H O σ env (upd H p (.lst vs)) O' ∧ RepS K (upd H p (.lst vs)) O' σ env ∧ p ∈ O' ∧ ¬ Owns σ env p ∧ RepO K (hid (upd H p (.lst vs)) O') (upd H p (.lst vs)) p (.lst ts) := by
  obtain ⟨n2, S2, no, eh⟩ := S.hideNew (o := .lst vs) hp
  exact ⟨_, n2, S2, List.mem_cons_self, no, vs, upd_same, by rw [eh]; exact r⟩
theorem ew_list {nm : Pos} {f : EF} (hg : Gl X "list") (hm : X.mg "list" = none) (he : EV X e f) (hs : starEach [e] X.env = (false, eval e X.env) :: starEach [] X.env := by rfl) :
    EW X (.Call (.Name "list" nm) [e] [] pos) (eN bList (aC f aN)) :=
  pe_mono (pe_callTy call_list_of hg hm (by decide +kernel) (ea_cons he ea_nil hs) (he := hs)) fun σ H Q ⟨O, env, t, env', S, e, k⟩ => by
    unfold eN at e
    obtain ⟨⟨xs, e1⟩, q1, e⟩ := Option.bind_eq_some_iff.mp e
    obtain ⟨z, q2, e⟩ := Option.map_eq_some_iff.mp e
    cases e
    refine ⟨O, env, xs, _, S, q1, fun vs H1 O1 n1 S1 r1 => ?_⟩
    have q2 : bList xs = some t := q2
    unfold bList at q2
    split at q2
    · obtain ⟨us, q, e⟩ := Option.map_eq_some_iff.mp q2
      cases e
      obtain ⟨v, rfl, r⟩ := one_arg r1
      obtain ⟨p, ws, rfl, h1, h2⟩ := r.seq q
      refine ⟨p, ws, rfl, h1, fun l hl => ?_⟩
      obtain ⟨O2, n2, S2, m2, o2, r2⟩ := hide_rep S1 hl h2
      exact k l _ O2 (n1.trans n2) S2 m2 o2 (none_of_dom n1.dom hl) r2
    · cases q2
/-! ### sums -/
def intsT : List T → Option (List Int)
  | [] => some []
  | .int i :: r => (intsT r).map fun l => i :: l
  | _ => none
@[simp] theorem intsT_map : ∀ ns : List Int, intsT (ns.map .int) = some ns
  | [] => rfl
  | n :: ns => by simp [intsT, intsT_map ns]
theorem intsT_reps {K : PySem.W.Frag} {G : Hp} : ∀ {ts : List T} {ns : List Int} {vs : List V}, intsT ts = some ns → Reps K G vs ts → vs = ns.map V.int
  | [], _, _, h, r => by cases h; cases r; rfl
  | .int i :: ts, _, _, h, r => by
    obtain ⟨l, h1, h2⟩ := Option.map_eq_some_iff.mp h
    cases h2
    obtain ⟨v, ws, rfl, r1, r2⟩ := r.inv_cons
    rw [r1.inv_int, intsT_reps h1 r2]
    rfl
/-- sum of a list of ints -/
@[simp] def bSum : ON := fun ts => match ts with
  | [.lst us] => (intsT us).map fun ns => .int ns.sum
  | [.lsf us] => (intsT us).map fun ns => .int ns.sum
  | _ => none
theorem ct_sum (hc : X.calm = true) : CallT X (.builtin "sum") bSum := CallR.mono (cr_sum hc) fun xs H Q ⟨O, as, c, d, ra, e, k⟩ => by
  unfold bSum at e
  split at e
  · obtain ⟨ns, q, e⟩ := Option.map_eq_some_iff.mp e
    cases e
    obtain ⟨v, rfl, r⟩ := one_arg ra
    obtain ⟨a, ws, rfl, h1, h2⟩ := r.inv_lst
    rw [intsT_reps q h2] at h1
    exact ⟨a, ns, rfl, .of (of_hid h1).2, k _ H (.refl _) (.int _)⟩
  · obtain ⟨ns, q, e⟩ := Option.map_eq_some_iff.mp e
    cases e
    obtain ⟨v, rfl, r⟩ := one_arg ra
    obtain ⟨a, ws, rfl, h1, h2⟩ := r.inv_lsf
    rw [intsT_reps q h2] at h1
    exact ⟨a, ns, rfl, (hid_ext _ _).sqL h1, k _ H (.refl _) (.int _)⟩
  · cases e
/-! ### xs[::-1] -/
@[simp] def eRev (f : EF) : EF := fun env => (f env).bind fun p => match p.1 with
  | .lst ts => some (.lst ts.reverse, p.2)
  | .lsf ts => some (.lst ts.reverse, p.2)
  | .tup ts => some (.tup ts.reverse, p.2)
  | _ => none
theorem Reps.reverse {K : PySem.W.Frag} {G : Hp} : ∀ {vs : List V} {ts : List T}, Reps K G vs ts → Reps K G vs.reverse ts.reverse
  | _, _, .nil => .nil
  | _, _, .cons h r => by
    rw [List.reverse_cons, List.reverse_cons]
    exact (Reps.reverse r).append (.cons h .nil)
theorem filterMap_same {α β : Type} {f g : α → Option β} : ∀ {l : List α}, (∀ x ∈ l, f x = g x) → l.filterMap f = l.filterMap g
  | [], _ => rfl
  | x :: l, h => by rw [List.filterMap_cons, List.filterMap_cons, h x List.mem_cons_self, filterMap_same fun y hy => h y (List.mem_cons_of_mem _ hy)]
theorem pick_rev (l : List Value) : ((List.range l.length).filterMap fun (k : Nat) => l.toArray[(((l.length : Int) - 1) + (k : Int) * (-1)).toNat]?).toArray = l.reverse.toArray := by
  have h : ∀ n (l : List Value), l.length = n → (List.range n).filterMap (fun (k : Nat) => l.toArray[(((n : Int) - 1) + (k : Int) * (-1)).toNat]?) = l.reverse := by
    intro n
    induction n with
    | zero => intro l hl; rw [List.length_eq_zero_iff.mp hl]; rfl
    | succ n ih =>
      intro l hl
      obtain ⟨r, z, rfl⟩ : ∃ r z, l = r ++ [z] := ⟨l.dropLast, l.getLast (by intro q; rw [q] at hl; cases hl), (List.dropLast_concat_getLast _).symm⟩
      have hr : r.length = n := by simp at hl; exact hl
      rw [List.range_succ_eq_map, List.filterMap_cons, List.reverse_append]
      have e0 : (r ++ [z]).toArray[((((n + 1 : Nat) : Int) - 1) + ((0 : Nat) : Int) * (-1)).toNat]? = some z := by
        have : ((((n + 1 : Nat) : Int) - 1) + ((0 : Nat) : Int) * (-1)).toNat = r.length := by omega
        rw [this]
        simp
      rw [e0]
      simp only [List.reverse_cons, List.reverse_nil, List.nil_append, List.singleton_append, List.cons.injEq, true_and]
      rw [List.filterMap_map, ← ih r hr]
      refine filterMap_same fun k hk => ?_
      have hk : k < n := List.mem_range.mp hk
      have e1 : ((((n + 1 : Nat) : Int) - 1) + ((k + 1 : Nat) : Int) * (-1)).toNat = (((n : Int) - 1) + (k : Int) * (-1)).toNat := by omega
      have e2 : (((n : Int) - 1) + (k : Int) * (-1)).toNat < r.length := by omega
      show (r ++ [z]).toArray[((((n + 1 : Nat) : Int) - 1) + ((k + 1 : Nat) : Int) * (-1)).toNat]? = _
      rw [e1]
      rw [List.getElem?_toArray, List.getElem?_toArray]
      exact List.getElem?_append_left e2
  rw [h l.length l rfl]
theorem tup_rev {prog : Program} {w : World} {A : Around} {E : Value → Shared → Prop} {s : Shared} {t sl : Addr} {l : List Value} {u : Tok} {Q : Value → Shared → Prop} (ht : IsTup s.heap t l.toArray) (hs : s.heap.IsSliceOf sl .none .none (.int (-1) u)) (hz : l.length ≤ sizeLine)
    (q : Q (.ref s.heap.objs.size) { s with heap := s.heap.push { cls := .type "tuple", data := .seq l.reverse.toArray } }) : wpAny (model prog w) A (getItem (.ref t) (.ref sl)) Q E s := by
  obtain ⟨os, hos, hcs, hds⟩ := id hs
  have hTs : s.TypeIs (.ref sl) "slice" := ⟨os, hos, hcs⟩
  have hzr : sizeOk (.seq l.reverse.toArray) := by
    show l.reverse.toArray.size ≤ sizeLine
    rw [List.size_toArray, List.length_reverse]; exact hz
  unfold getItem
  try with_reducible refine wpAny_holding ?_
  first | refine wpAny_bind (wpAny_pure ?_) | skip
  refine wpAny_bind (wpAny_sequenceKey ht.typeIs (by decide) ?_)
  refine wpAny_bind (wpAny_callSpecial?_slot (name := Str.ofString "__getitem__") ht.typeIs PyProof.Rows.slot_tuple_getitem (wpAny_call_entry PyProof.Rows.slot_tuple_getitem ht.typeIs entry_tuple_getitem ?_ (args_tuple_getitem _ _)))
  show wpAny _ _ (Builtin.Tuple.tupleItemsOf (.ref t) >>= _) _ _ s
  refine wpAny_bind (PyProof.Rows.tupleItemsOf_ ht (wpAny_bind (wpAny_typeOf hTs ?_)))
  rw [if_pos (by decide)]
  have ap : ∀ {A' : Around} {E' : Value → Shared → Prop} {Q' : Int × Int × Nat → Shared → Prop}, Q' ((l.length : Int) - 1, -1, l.length) s → wpAny (model prog w) A' (Builtin.Slice.sliceApplied (.ref sl) (pure (l.toArray.size : Int))) Q' E' s := by
    intro A' E' Q' q'
    unfold Builtin.Slice.sliceApplied Builtin.Slice.sliceFields
    refine wpAny_bind (wpAny_bind (wpAny_field hos hds (x := .none) rfl (wpAny_bind (wpAny_field hos hds (x := .none) rfl (wpAny_bind (wpAny_field hos hds (x := .int (-1) u) rfl (wpAny_pure ?_)))))))
    refine wpAny_bind (HT.slicePart_ (.int (-1) u) ?_)
    show wpAny _ _ (if ((-1 : Int) == 0) = true then _ else _) _ _ s
    rw [if_neg (by decide)]
    refine wpAny_bind (HT.slicePart_ .none (wpAny_bind (HT.slicePart_ .none (wpAny_bind (wpAny_pure ?_)))))
    have e1 : Builtin.Slice.sliceAdjust none none (-1) (l.toArray.size : Int) = ((l.length : Int) - 1, -1) := by simp [Builtin.Slice.sliceAdjust]
    have e2 : Builtin.Slice.slicePlaces ((l.length : Int) - 1) (-1) (-1) = l.length := by
      simp [Builtin.Slice.slicePlaces]
      try omega
    show wpAny _ _ (match Builtin.Slice.sliceAdjust none none (-1) (l.toArray.size : Int) with | (lo, hi) => pure (lo, (-1 : Int), Builtin.Slice.slicePlaces lo hi (-1))) _ _ s
    rw [e1]
    show wpAny _ _ (pure ((l.length : Int) - 1, (-1 : Int), Builtin.Slice.slicePlaces ((l.length : Int) - 1) (-1) (-1))) _ _ s
    rw [e2]
    exact wpAny_pure q'
  refine wpAny_bind (ap ?_)
  show wpAny _ _ (if (((l.length : Int) - 1) == 0 && (-1 : Int) == 1 && l.length == l.toArray.size) = true then _ else _) _ _ s
  rw [if_neg (by simp)]
  rw [pick_rev]
  first
    | exact wpAny_bind (m := Builtin.Tuple.tupleExact _) (wpAny_newObj_type (wpAny_pure ⟨_, rfl, wpAny_pure q⟩) hzr)
    | exact wpAny_bind (m := Builtin.Tuple.tupleExact _) (wpAny_newObj_type (wpAny_bind (wpAny_pure (wpAny_pure ⟨_, rfl, wpAny_pure q⟩))) hzr)
    | exact wpAny_bind (wpAny_bind (m := Builtin.Tuple.tupleExact _) (wpAny_newObj_type (wpAny_pure (wpAny_pure ⟨_, rfl, wpAny_pure q⟩)) hzr))
    | exact wpAny_bind (wpAny_bind (m := Builtin.Tuple.tupleExact _) (wpAny_newObj_type (wpAny_pure ⟨_, rfl, wpAny_pure q⟩) hzr))
def tRevA (K : PySem.W.Frag) (te : TE) : TE := fun σ H Q => te σ H fun x H1 => ∃ a xs, x = .ref a ∧ ((SqL K H1 a xs ∧ ∀ p, H1 p = none → Q (.ref p) (upd H1 p (.lst xs.reverse))) ∨ (SqT K H1 a xs ∧ ∀ p, H1 p = none → Q (.ref p) (upd H1 p (.tup xs.reverse))))
theorem pe_revT {te : TE} {k : Nat} {p1 p2 p3 : Pos} (he : PE X e te) : PE X (.Subscript e (.Slice none none (some (.UnaryOp .USub (.Constant (.int 1) k p1) p2)) p3) pos) (tRevA X.K te) := by
  refine ⟨fun pins s σ H Q I h => Subscript_ (thn (he.run pins s σ H _ I h) fun v s1 ⟨x, H1, I1, r1, q1⟩ => ?_)⟩
  obtain ⟨a, xs, rfl, q1⟩ := q1
  cases r1
  have hst : PO X (some (.UnaryOp .USub (.Constant (.int 1) k p1) p2)) (tPart (tUn (rU fun i => .int (-i)) (tC (.int 1)))) := po_some (pe_un un_neg pe_int)
  refine wpAny_Slice (thn (po_none.run pins s1 σ H1 (fun o H2 => o = none ∧ H2 = H1) I1 ⟨rfl, rfl⟩) fun vl s2 ⟨l, H2, I2, pl, el, e2⟩ => ?_)
  subst el e2
  refine thn (po_none.run pins s2 σ H2 (fun o H3 => o = none ∧ H3 = H2) I2 ⟨rfl, rfl⟩) fun vu s3 ⟨u, H3, I3, pu, eu, e3⟩ => ?_
  subst eu e3
  refine thn (hst.run pins s3 σ H3 (fun o H4 => o = some (-1) ∧ H4 = H3) I3 ⟨1, rfl, -1, rfl, rfl, rfl⟩) fun vs s4 ⟨o, H4, I4, ps, eo, e4⟩ => ?_
  subst eo e4
  have I5 : Inv X pins σ H4 { s4 with heap := s4.heap.push { cls := .type "slice", data := .fields #[vl, vu, vs] } } := I4.kept (t' := s4.toks) fun b ob q => Heap.get?_push_of_some _ q
  show wpAny (model X.prog X.w) X.A (subscriptTail e (.Slice none none (some (.UnaryOp .USub (.Constant (.int 1) k p1) p2)) p3) (.ref a) (.ref s4.heap.objs.size)) (EP X pins σ Q) X.xe { s4 with heap := s4.heap.push { cls := .type "slice", data := .fields #[vl, vu, vs] } }
  rcases q1 with ⟨hx, q⟩ | ⟨hx, q⟩
  · obtain ⟨its, r, ht, hz⟩ := I5.list hx
    have hlen := r.length
    refine tail_any (ops := [.ref a, .ref s4.heap.objs.size]) ht.isList.typeIs (PySem.slot_list_getitem.lookup) ?_ (by with_unfolding_all rfl)
    refine wpAny_getItem_list_slice ht.isList (Heap.IsSliceOf.new _ vl vu vs) pl pu ps (by decide) ?_ (by rw [List.size_toArray]; omega)
    rw [PySem.W.krv_pick]
    exact ⟨.ref _, _, I5.laid (t' := s4.toks) (o := .lst xs.reverse) (fun b ob q => Heap.get?_push_of_some _ q) (Nat.le_refl _) ⟨by rw [List.length_reverse]; exact hz, _, 0, r.reverse, Heap.get?_push_size _ rfl⟩, rfl, q _ (I5.hok.fresh (Nat.le_refl _))⟩
  · obtain ⟨its, r, ht, hz⟩ := I5.tuple hx
    have hlen := r.length
    refine tail_any (ops := [.ref a, .ref s4.heap.objs.size]) ht.typeIs (PyProof.Rows.slot_tuple_getitem.lookup) ?_ (by with_unfolding_all rfl)
    cases pl
    cases pu
    cases ps
    refine tup_rev ht (Heap.IsSliceOf.new _ _ _ _) (by omega) ?_
    exact ⟨.ref _, _, I5.laid (t' := s4.toks) (o := .tup xs.reverse) (fun b ob q => Heap.get?_push_of_some _ q) (Nat.le_refl _) ⟨by rw [List.length_reverse]; exact hz, _, r.reverse, IsTup.new _ _⟩, rfl, q _ (I5.hok.fresh (Nat.le_refl _))⟩
theorem ev_rev {f : EF} {k : Nat} {p1 p2 p3 : Pos} (he : EV X e f) : EV X (.Subscript e (.Slice none none (some (.UnaryOp .USub (.Constant (.int 1) k p1) p2)) p3) pos) (eRev f) :=
  pe_mono (pe_revT he) fun σ H Q ⟨O, env, t, env', S, e, k⟩ => by
    unfold eRev at e
    obtain ⟨⟨u, e1⟩, q1, e⟩ := Option.bind_eq_some_iff.mp e
    have fin : ∀ {H1 : Hp} {O1 : List Addr} (p : Addr) (o : HO), Nx σ env H O σ env' H1 O1 → RepS X.K H1 O1 σ env' → H1 p = none → (∀ G, Ext (hid H1 O1) G → G p = some o → Rep X.K G (.ref p) t) → Q (.ref p) (upd H1 p o) := fun p o n1 S1 hp h =>
      k _ _ _ (n1.trans (.ext (.new hp))) (S1.ext (.new hp)) (h _ ((Ext.new hp).hid _) (hid_new (S1.fresh hp)))
    split at e
    · rename_i ts hu
      have hu : u = .lst ts := hu
      subst hu
      cases e
      refine ⟨O, env, _, _, S, q1, fun v H1 O1 n1 S1 r1 => ?_⟩
      obtain ⟨a, xs, rfl, h1, h2⟩ := r1.inv_lst
      exact ⟨a, xs, rfl, .inl ⟨(hid_ext _ _).sqL (.of h1), fun p hp => fin p _ n1 S1 hp fun G x g => .lst g (h2.reverse.mono x)⟩⟩
    · rename_i ts hu
      have hu : u = .lsf ts := hu
      subst hu
      cases e
      refine ⟨O, env, _, _, S, q1, fun v H1 O1 n1 S1 r1 => ?_⟩
      obtain ⟨a, xs, rfl, h1, h2⟩ := r1.inv_lsf
      exact ⟨a, xs, rfl, .inl ⟨(hid_ext _ _).sqL h1, fun p hp => fin p _ n1 S1 hp fun G x g => .lst g (h2.reverse.mono x)⟩⟩
    · rename_i ts hu
      have hu : u = .tup ts := hu
      subst hu
      cases e
      refine ⟨O, env, _, _, S, q1, fun v H1 O1 n1 S1 r1 => ?_⟩
      obtain ⟨a, xs, rfl, h1, h2⟩ := r1.inv_tup
      exact ⟨a, xs, rfl, .inr ⟨(hid_ext _ _).sqT h1, fun p hp => fin p _ n1 S1 hp fun G x g => .tup (.inl (.inl g)) (h2.reverse.mono x)⟩⟩
    · cases e
/-! ### sums of tuples, differences of truth values -/
def rSumT (K : PySem.W.Frag) : List V → Hp → VK → Prop := fun vs H Q => ∃ (a : Addr) (ns : List Int), vs = [V.ref a] ∧ SqT K H a (ns.map V.int) ∧ Q (.int ns.sum) H
theorem cr_sumT (hc : X.calm = true) : CallR X (.builtin "sum") (rSumT X.K) := by
  intro pins s σ H xs us Q I rx ⟨a, ns, e, hq, q⟩
  subst e
  obtain ⟨u, rfl, ru⟩ := vals1 rx
  cases ru
  obtain ⟨its, r, p, hz⟩ := I.tuple hq
  have hi : IntsAre its ns := r.ints
  have hl : s.heap.IsTuple a its.toArray := p
  obtain ⟨xs, e⟩ := hi.allInts.items
  have hn : numsOf (intItems xs).toList = ns := by rw [← e]; exact hi.numsOf
  rw [nums_intItems] at hn
  rw [e] at hl
  refine PySem.W.ktm_sumG (I.ok.hd hc) hl fun h' tk t' kp => ?_
  rw [preSum_eq, List.take_of_length_le (by simp), hn]
  exact ⟨.int ns.sum, H, I.kept (t' := tk) kp, ⟨_, rfl⟩, q⟩
@[simp] def bSumT : ON := fun ts => match ts with
  | [.tup us] => (intsT us).map fun ns => .int ns.sum
  | ts => bSum ts
theorem ct_sumA (hc : X.calm = true) : CallT X (.builtin "sum") bSumT := CallR.mono (CallR.or (cr_sumT hc) (cr_sum hc)) fun xs H Q ⟨O, as, c, d, ra, e, k⟩ => by
  unfold bSumT at e
  split at e
  · obtain ⟨ns, q, e⟩ := Option.map_eq_some_iff.mp e
    cases e
    obtain ⟨v, rfl, r⟩ := one_arg ra
    obtain ⟨a, ws, rfl, h1, h2⟩ := r.inv_tup
    rw [intsT_reps q h2] at h1
    exact .inl ⟨a, ns, rfl, (hid_ext _ _).sqT h1, k _ H (.refl _) (.int _)⟩
  · unfold bSum at e
    split at e
    · obtain ⟨ns, q, e⟩ := Option.map_eq_some_iff.mp e
      cases e
      obtain ⟨v, rfl, r⟩ := one_arg ra
      obtain ⟨a, ws, rfl, h1, h2⟩ := r.inv_lst
      rw [intsT_reps q h2] at h1
      exact .inr ⟨a, ns, rfl, .of (of_hid h1).2, k _ H (.refl _) (.int _)⟩
    · obtain ⟨ns, q, e⟩ := Option.map_eq_some_iff.mp e
      cases e
      obtain ⟨v, rfl, r⟩ := one_arg ra
      obtain ⟨a, ws, rfl, h1, h2⟩ := r.inv_lsf
      rw [intsT_reps q h2] at h1
      exact .inr ⟨a, ns, rfl, (hid_ext _ _).sqL h1, k _ H (.refl _) (.int _)⟩
    · cases e
theorem gives_bsub (a b : Bool) : Gives (Builtin.«int.__sub__» ⟨[.bool a, .bool b], []⟩) (.int ((if a = true then (1 : Int) else 0) - if b = true then (1 : Int) else 0)) :=
  .of_wp fun M A E s Q h => by obtain ⟨hp, g, d, tk, os⟩ := s; wp_walk; exact ⟨_, rfl, h⟩
@[simp] def bSub : Fx.O2 := fun a b => match a, b with
  | .bl a, .bl b => some (.int ((if a = true then (1 : Int) else 0) - if b = true then (1 : Int) else 0))
  | _, _ => none
theorem ot_bSub : OpT X (binaryOp .Sub) bSub := by
  intro pins s σ H x y v u Q I rx ry ⟨O, a, b, c, d, ra, rb, e, k⟩
  unfold bSub at e
  split at e
  · cases e
    obtain rfl := ra.inv_bl
    obtain rfl := rb.inv_bl
    cases rx
    cases ry
    exact PySem.binaryOp_gives (op := .Sub) (PySem.typeIs_bool s _) (PySem.typeIs_bool s _) PySem.F.fills_bool_sub PySem.F.slot_bool_sub PySem.F.entry_int_sub (PySem.F.args_int_sub_2 _ _) (gives_bsub _ _) trivial ⟨.int _, H, I.tok _, ⟨_, rfl⟩, k _ H (.refl _) (.int _)⟩
  · cases e
@[simp] def oSub : Fx.O2 := fun a b => match a, b with
  | .bl a, .bl b => bSub (.bl a) (.bl b)
  | a, b => iSub a b
theorem ot_sub : OpT X (binaryOp .Sub) oSub := by
  have e : orO bSub iSub = oSub := by
    funext a b
    unfold orO oSub
    cases a <;> cases b <;> rfl
  rw [← e]
  exact OpT.or ot_bSub ot_iSub
end
end Fx

/-! Fx 13: a comprehension over an own list, sum of lists. -/
namespace Fx
open PySem PySem.Spec PyProof.Rows L2
/-- the list in a slot of one's own -/
@[simp] def lstC (env : Sls) (i : Nat) : Option (List T) := match env[i]?.bind Sl.cont with
  | some (.lst ts) => some ts
  | _ => none
theorem lstC_of {env : Sls} {i : Nat} {ts : List T} (h : lstC env i = some ts) : env[i]?.bind Sl.cont = some (.lst ts) := by
  unfold lstC at h
  split at h
  · rename_i us e
    cases h
    exact e
  · cases h
/-- [.. for x in own list ..]: the list is looked at turn by turn -/
@[simp] def lcP (pi : Nat) (p : Pat) (tt : BF) (fe : EF) (vs : List Nat) : Nat → Nat → Sls → Option (List T × Sls)
  | 0, _, _ => none
  | n + 1, k, env => (lstC env pi).bind fun ts => match ts[k]? with
    | none => some ([], env)
    | some t => (bindP p t env).bind fun e1 => (tt e1).bind fun q => if q.1 = true then (fe q.2).bind fun y => if noIo y.2 vs = true then (lcP pi p tt fe vs n (k + 1) (wipeE y.2 vs)).map fun z => (y.1 :: z.1, z.2) else none
      else if noIo q.2 vs = true then lcP pi p tt fe vs n (k + 1) (wipeE q.2 vs) else none
@[simp] def eLcP (pi : Nat) (p : Pat) (tt : BF) (fe : EF) (vs : List Nat) : EF := fun env => if noIo env vs = true ∧ hasC env pi = true then (lcP pi p tt fe vs 100000 0 (wipeE env vs)).map fun z => (.lst z.1, z.2) else none
theorem lc_pureP {K : PySem.W.Frag} {pi : Nat} {p : Pat} {tt : BF} {fe : EF} {vs : List Nat} (hv : ∀ i ∈ p.slots, i ∈ vs) (σ : L2.St) (H : Hp) (Q : VK) (h : tW K (eLcP pi p tt fe vs) σ H Q) :
    tLc (iList K (tVar pi)) (tG K p) (tTt K tt) (tV K fe) vs σ H Q := by
  obtain ⟨O, env, t, envf, S, e, k⟩ := h
  unfold eLcP at e
  split at e
  · rename_i hio
    obtain ⟨hio, hhas⟩ := hio
    obtain ⟨⟨ys, ef⟩, q2, e⟩ := Option.map_eq_some_iff.mp e
    cases e
    obtain ⟨t0, ht0⟩ : ∃ t0, env[pi]?.bind Sl.cont = some t0 := by
      unfold hasC at hhas
      exact Option.isSome_iff_exists.mp hhas
    obtain ⟨pa, hpa, hpO, hpR⟩ := S.own pi t0 ht0
    have q2 : lcP pi p tt fe vs 100000 0 (wipeE env vs) = some (ys, ef) := q2
    have hts : ∃ ts0, lstC (wipeE env vs) pi = some ts0 := by
      rw [lcP] at q2
      obtain ⟨ts0, h0, _⟩ := Option.bind_eq_some_iff.mp q2
      exact ⟨ts0, h0⟩
    obtain ⟨ts0, hts0⟩ := hts
    have hts1 := wipeE_cont (lstC_of hts0)
    rw [ht0] at hts1
    have ht0' := Option.some.inj hts1.2
    subst ht0'
    obtain ⟨vs0, hv0, _⟩ := hpR
    refine ⟨.ref pa, hpa, pa, rfl, ⟨vs0, .of hv0⟩, fun D hD => ?_⟩
    obtain ⟨H1, hH1⟩ : ∃ H1, H1 = H := ⟨H, rfl⟩
    obtain ⟨O1, hO1⟩ : ∃ O1, O1 = O := ⟨O, rfl⟩
    obtain ⟨e1, he1⟩ : ∃ e1, e1 = env := ⟨env, rfl⟩
    subst hH1 hO1 he1
    have S1 := S
    have S1w : RepS K H1 O1 (wipe σ vs) (wipeE e1 vs) := S1.wiped
    have place : ∀ {envi : Sls} {Hi : Hp} {Oi : List Addr} {ts : List T}, RepS K Hi Oi (wipe σ vs) envi → lstC envi pi = some ts → ∃ xs, SqL K Hi pa xs ∧ Reps K (hid Hi Oi) xs ts := fun {envi Hi Oi ts} Si hl => by
      obtain ⟨p', h1, h2, h3⟩ := Si.own pi _ (lstC_of hl)
      have h4 := (wipe_some h1).1
      rw [hpa] at h4
      cases h4
      obtain ⟨xs, h5, h6⟩ := h3
      exact ⟨xs, .of h5, h6⟩
    -- the state behind i turns
    let Pv : Nat → Nat → Hp → Prop := fun i m Hi => ∃ envi Oi acc done, RepS K Hi Oi (wipe σ vs) envi ∧ (∀ a o, H1 a = some o → ¬ Owns σ e1 a → Hi a = some o) ∧ (∀ a o, H1 a = some o → ∃ o', Hi a = some o') ∧ (∀ a ∈ Oi, a ∈ O1 ∨ H1 a = none) ∧ (∀ a ∈ O1, a ∈ Oi ∨ Owns σ e1 a ∨ H1 a = none) ∧
      (∀ a, Owns (wipe σ vs) envi a → Owns σ e1 a ∨ H1 a = none) ∧ (∀ (j : Nat) (u : T), e1[j]? = some (Sl.io u) → ∃ u', envi[j]? = some (Sl.io u')) ∧ (∀ (j : Nat) (u : T), envi[j]? = some (Sl.io u) → ∃ u', e1[j]? = some (Sl.io u')) ∧
      (∀ j ∈ vs, envi[j]? = none ∨ envi[j]? = some .un) ∧ D ∈ Oi ∧ ¬ Owns (wipe σ vs) envi D ∧ Hi D = some (.lst acc) ∧ Reps K (hid Hi Oi) acc done ∧ done.length ≤ i ∧ m + i ≤ 100000 ∧ (lcP pi p tt fe vs m i envi).map (fun z => (done ++ z.1, z.2)) = some (ys, ef)
    obtain ⟨nD, SD, noD, ehD⟩ := S1w.hideNew (o := .lst []) hD
    refine ⟨fun i m Hi => Pv i m Hi, ⟨100000, wipeE e1 vs, D :: O1, [], [], SD, fun a o e n => ?_, nD.dom, nD.sub, fun a z => .inl (List.mem_cons_of_mem _ z), fun a z => .inl (wiped_owns z), fun j u z => ?_, fun j u z => ?_, fun j z => wipeE_in z, List.mem_cons_self, noD, upd_same, .nil, Nat.le_refl _, by decide, ?_⟩, ?_⟩
    · exact Ext.new hD a o e
    · have hj : j ∉ vs := fun q => by
        have := List.all_eq_true.mp hio j q
        simp only [z] at this
        simp [isIo] at this
      exact ⟨u, by rw [wipeE_out hj]; exact z⟩
    · exact ⟨u, (wipeE_at z (by intro q; cases q)).2⟩
    · rw [q2]; rfl
    · rintro i m Hi ⟨envi, Oi, acc, done, Si, ifr, idom, isub, isup, iown, iio, iion, iun, iD, inD, iacc, irep, idl, imz, ilc⟩
      have gx : Ext (hid H1 O1) (hid Hi Oi) := fun a o z => by
        obtain ⟨h1, h2⟩ := of_hid z
        have h3 : ¬ Owns σ e1 a := fun q => h1 (S1.owns q)
        have h4 : a ∉ Oi := fun q => by
          rcases isub a q with z | z
          · exact h1 z
          · rw [h2] at z; cases z
        rw [hid_of h4]
        exact ifr a o h2 h3
      have gx2 : Ext (hid H1 O1) Hi := gx.trans (hid_ext _ _)
      cases m with
      | zero => rw [lcP] at ilc; cases ilc
      | succ m =>
      obtain ⟨⟨zs0, ez0⟩, il0, iz⟩ := Option.map_eq_some_iff.mp ilc
      clear ilc
      rw [lcP] at il0
      obtain ⟨ts, hl, il1⟩ := Option.bind_eq_some_iff.mp il0
      clear il0
      obtain ⟨xs, hx1, hx2⟩ := place Si hl
      by_cases hlt : i < ts.length
      · have hlx : i < xs.length := by rw [hx2.length]; exact hlt
        refine .inr ⟨⟨xs, _, hx1, List.getElem?_eq_getElem hlx⟩, Pv (i + 1) m, fun H' q => ⟨m, by omega, q⟩, fun x H' y => ?_⟩
        obtain ⟨yh, y2⟩ := y
        have yh := yh.symm
        subst yh
        have xx : Ext Hi Hi := .refl _
        obtain ⟨tr, ht, rt⟩ := hx2.getV (y2 xs hx1)
        simp only [Prod.mk.injEq] at iz
        obtain ⟨iz1, iz2⟩ := iz
        subst iz1
        subst iz2
        obtain ⟨zs, hzs⟩ : ∃ zs, zs = zs0 := ⟨_, rfl⟩
        obtain ⟨ez, hez⟩ : ∃ ez, ez = ez0 := ⟨_, rfl⟩
        subst hzs hez
        rw [ht] at il1
        simp only at il1
        obtain ⟨e2, q2, il1⟩ := Option.bind_eq_some_iff.mp il1
        obtain ⟨⟨b, e3⟩, q3, ilc⟩ := Option.bind_eq_some_iff.mp il1
        clear il1
        refine ⟨Oi, envi, tr, e2, Si.ext xx, rt, q2, fun σ2 n2 S2 wp => ⟨?_, Oi, e2, b, e3, S2, q3, fun H3 O3 n3 S3 => ?_⟩⟩
        · have := wp vs hv
          rw [this]
          -- wiping twice is wiping once
          have tw : ∀ (us : List Nat) (τ : L2.St), (∀ j ∈ us, τ[j]? = none ∨ τ[j]? = some none) → wipe τ us = τ := fun us => by
            induction us with
            | nil => intro τ _; rfl
            | cons u us ih =>
              intro τ hj
              unfold wipe
              rw [ih τ fun j h => hj j (List.mem_cons_of_mem _ h)]
              apply List.ext_getElem?
              intro j
              by_cases q : u = j
              · subst q
                by_cases hl : u < τ.length
                · rw [List.getElem?_set_self hl]
                  rcases hj u List.mem_cons_self with z | z
                  · rw [List.getElem?_eq_none_iff] at z
                    omega
                  · exact z.symm
                · rw [List.getElem?_eq_none (by simpa using hl), List.getElem?_eq_none (by simpa using hl)]
              · rw [List.getElem?_set_ne q]
          refine tw vs _ fun j hj => ?_
          cases q : (wipe σ vs)[j]? with
          | none => exact .inl rfl
          | some z =>
            cases z with
            | none => exact .inr rfl
            | some z => exact ((wipe_some q).2 hj).elim
        · have wp2 : wipe σ2 vs = wipe σ vs := by
            have := wp vs hv
            rw [this]
            have tw : ∀ (us : List Nat) (τ : L2.St), (∀ j ∈ us, τ[j]? = none ∨ τ[j]? = some none) → wipe τ us = τ := fun us => by
              induction us with
              | nil => intro τ _; rfl
              | cons u us ih =>
                intro τ hj
                unfold wipe
                rw [ih τ fun j h => hj j (List.mem_cons_of_mem _ h)]
                apply List.ext_getElem?
                intro j
                by_cases q : u = j
                · subst q
                  by_cases hl : u < τ.length
                  · rw [List.getElem?_set_self hl]
                    rcases hj u List.mem_cons_self with z | z
                    · rw [List.getElem?_eq_none_iff] at z
                      omega
                    · exact z.symm
                  · rw [List.getElem?_eq_none (by simpa using hl), List.getElem?_eq_none (by simpa using hl)]
                · rw [List.getElem?_set_ne q]
            refine tw vs _ fun j hj => ?_
            cases q : (wipe σ vs)[j]? with
            | none => exact .inl rfl
            | some z =>
              cases z with
              | none => exact .inr rfl
              | some z => exact ((wipe_some q).2 hj).elim
          have nn : Nx (wipe σ vs) envi Hi Oi σ2 e3 H3 O3 := ((Nx.ext xx).trans n2).trans n3
          -- what a turn leaves for the next one
          have step : ∀ (e4 : Sls) (H4 : Hp) (O4 : List Addr) (acc' : List V) (done' : List T) (H5 : Hp), Nx (wipe σ vs) envi Hi Oi σ2 e4 H4 O4 → RepS K H4 O4 σ2 e4 → noIo e4 vs = true → (∀ a, a ≠ D → H5 a = H4 a) → H5 D = some (.lst acc') → Reps K (hid H4 O4) acc' done' → done'.length ≤ i + 1 →
              (lcP pi p tt fe vs m (i + 1) (wipeE e4 vs)).map (fun z => (done' ++ z.1, z.2)) = some (done ++ zs, ez) → Pv (i + 1) m H5 := by
            intro e4 H4 O4 acc' done' H5 n4 S4 hio4 h5 h5D r5 l5 lc5
            have hDH4 : H4 D = some (.lst acc) := n4.fr D _ iacc inD
            have hD4 : D ∈ O4 := by
              rcases n4.sup D iD with z | z | z
              · exact z
              · exact (inD z).elim
              · rw [iacc] at z; cases z
            have noD4 : ¬ Owns σ2 e4 D := fun z => by
              rcases n4.own D z with q | q
              · exact inD q
              · rw [iacc] at q; cases q
            have e5 : H5 = upd H4 D (.lst acc') := by
              funext a
              by_cases q : a = D
              · subst q; rw [upd_same]; exact h5D
              · rw [upd_ne q]; exact h5 a q
            have S4w : RepS K H4 O4 (wipe σ vs) (wipeE e4 vs) := by
              rw [← wp2]
              exact S4.wiped
            have noD4w : ¬ Owns (wipe σ vs) (wipeE e4 vs) D := fun z => noD4 (wiped_owns (σ := σ2) (vs := vs) (by rw [wp2]; exact z))
            subst e5
            have n0 : H1 D = none := hD
            refine ⟨wipeE e4 vs, O4, acc', done', S4w.other hD4 noD4w, fun a o z n => ?_, fun a o z => ?_, fun a z => ?_, fun a z => ?_, fun a z => ?_, fun j u z => ?_, fun j u z => ?_, fun j z => wipeE_in z, hD4, noD4w, upd_same, by rw [hid_upd hD4]; exact r5, l5, by omega, lc5⟩
            · have q : a ≠ D := fun e => by subst e; rw [n0] at z; cases z
              rw [upd_ne q]
              refine n4.fr a o (ifr a o z n) fun q2 => ?_
              rcases iown a q2 with q3 | q3
              · exact n q3
              · rw [z] at q3; cases q3
            · have q : a ≠ D := fun e => by subst e; rw [n0] at z; cases z
              obtain ⟨o', z'⟩ := idom a o z
              obtain ⟨o'', z''⟩ := n4.dom a o' z'
              exact ⟨o'', by rw [upd_ne q]; exact z''⟩
            · rcases n4.sub a z with q | q
              · exact isub a q
              · exact .inr (none_of_dom idom q)
            · rcases isup a z with q | q
              · rcases n4.sup a q with q2 | q2 | q2
                · exact .inl q2
                · exact .inr (iown a q2)
                · exact .inr (.inr (none_of_dom idom q2))
              · exact .inr q
            · have z2 : Owns σ2 e4 a := wiped_owns (vs := vs) (by rw [wp2]; exact z)
              rcases n4.own a z2 with q | q
              · exact iown a q
              · exact .inr (none_of_dom idom q)
            · obtain ⟨u1, g1⟩ := iio j u z
              obtain ⟨⟨u2, g2⟩, _⟩ := n4.io j u1 g1
              have hj : j ∉ vs := fun q => by
                have := List.all_eq_true.mp hio4 j q
                simp only [g2] at this
                simp [isIo] at this
              exact ⟨u2, by rw [wipeE_out hj]; exact g2⟩
            · obtain ⟨u1, g1⟩ := n4.ion j u (wipeE_at z (by intro q; cases q)).2
              exact iion j u1 g1
          cases b with
          | false =>
            rw [if_neg Bool.false_ne_true] at ilc
            show Pv (i + 1) m H3
            split at ilc
            · rename_i hio3
              refine step e3 H3 O3 acc done H3 nn S3 hio3 (fun _ _ => rfl) (nn.fr D _ iacc inD) (irep.mono (Si.grow nn)) (by omega) ?_
              rw [ilc]; rfl
            · cases ilc
          | true =>
            rw [if_pos rfl] at ilc
            obtain ⟨⟨yt, e4⟩, q4, ilc⟩ := Option.bind_eq_some_iff.mp ilc
            refine ⟨O3, e3, yt, e4, S3, q4, fun yv H4 O4 n4 S4 r4 => ?_⟩
            have nn4 : Nx (wipe σ vs) envi Hi Oi σ2 e4 H4 O4 := nn.trans n4
            have hDH4 : H4 D = some (.lst acc) := nn4.fr D _ iacc inD
            refine ⟨acc, hDH4, ?_, ?_⟩
            · rw [irep.length, sizeLine_eq]; omega
            · have ilc : (if noIo e4 vs = true then (lcP pi p tt fe vs m (i + 1) (wipeE e4 vs)).map (fun z => (yt :: z.1, z.2)) else none) = some (zs, ez) := ilc
              split at ilc
              · rename_i hio4
                refine step e4 H4 O4 (acc ++ [yv]) (done ++ [yt]) _ nn4 S4 hio4 (fun a q => upd_ne q) upd_same ((irep.mono (Si.grow nn4)).append (.cons r4 .nil)) (by rw [List.length_append, List.length_singleton]; omega) ?_
                obtain ⟨⟨us, eu⟩, qu, ilc⟩ := Option.map_eq_some_iff.mp ilc
                cases ilc
                rw [qu]
                simp
              · cases ilc
      · rw [List.getElem?_eq_none (by omega)] at il1
        simp only [Option.some.injEq, Prod.mk.injEq] at il1
        obtain ⟨il2, il3⟩ := il1
        subst il2
        subst il3
        have ilc := iz
        simp only [Prod.mk.injEq] at ilc
        obtain ⟨iz1, iz2⟩ := ilc
        subst iz1
        subst iz2
        refine .inl ⟨⟨xs, hx1, by rw [hx2.length]; omega⟩, ?_⟩
        have el : envi.length = σ.length := by rw [Si.len, wipe_length]
        have ew : wipeE envi vs = envi := by
          have tw : ∀ (us : List Nat), (∀ j ∈ us, envi[j]? = none ∨ envi[j]? = some Sl.un) → wipeE envi us = envi := fun us => by
            induction us with
            | nil => intro _; rfl
            | cons u us ih =>
              intro hj
              unfold wipeE
              rw [ih fun j h => hj j (List.mem_cons_of_mem _ h)]
              apply List.ext_getElem?
              intro j
              by_cases q : u = j
              · subst q
                by_cases hl : u < envi.length
                · rw [List.getElem?_set_self hl]
                  rcases hj u List.mem_cons_self with z | z
                  · rw [List.getElem?_eq_none_iff] at z
                    omega
                  · exact z.symm
                · rw [List.getElem?_eq_none (by simpa using hl), List.getElem?_eq_none (by simpa using hl)]
              · rw [List.getElem?_set_ne q]
          exact tw vs iun
        have Sf : RepS K Hi Oi σ envi := by
          have := Si.unwipe (σ := σ) el
          rw [ew] at this
          exact this
        have ob : ∀ a, Owns σ envi a → Owns (wipe σ vs) envi a := fun a z => by
          obtain ⟨j, u, g1, g2⟩ := z
          have hj : j ∉ vs := fun q => by
            rcases iun j q with z | z <;> (rw [z] at g1; cases g1)
          exact ⟨j, u, g1, wipe_keep hj g2⟩
        have nf : Nx σ e1 H1 O1 σ envi Hi Oi := ⟨ifr, idom, isub, isup, fun a z => iown a (ob a z), fun j u z => ⟨iio j u z, rfl⟩, iion⟩
        refine k D Hi Oi nf Sf iD (fun z => inD (ob D z)) hD ⟨acc, iacc, ?_⟩
        rw [List.append_nil]
        exact irep
  · cases e
theorem ew_lcP {X : Cx} {elt tg : Expr} {pi : Nat} {x0 : Str} {pos0 : Pos} {ifs : List Expr} {scope : Scope} {own : List (Str × Nat)} {pos : Pos} {p : Pat} {tt : BF} {fe : EF} (hc : X.calm = true) (hN : X.N.Nodup) (hx : PE X (.Name x0 pos0) (tVar pi)) (ok : BlkOk X.N X.env.scope scope own)
    (hg : ∀ (s : Shared) (H : Hp) (C : Addr) (cl : List (Str × Addr)) (fp : List Addr), GV (X.blk s H scope (compEnvC scope cl C X.env) fp) tg p)
    (ht : ∀ (s : Shared) (H : Hp) (C : Addr) (cl : List (Str × Addr)) (fp : List Addr), TsV (X.blk s H scope (compEnvC scope cl C X.env) fp) ifs tt)
    (he : ∀ (s : Shared) (H : Hp) (C : Addr) (cl : List (Str × Addr)) (fp : List Addr), EV (X.blk s H scope (compEnvC scope cl C X.env) fp) elt fe)
    (hv : ∀ i ∈ p.slots, i ∈ own.map (·.2))
    (hs : ∀ x, foldedSetIterable (.Name x0 pos0) X.env x = pure x := by intro _; rfl) : EW X (.ListComp elt [{ target := tg, iter := .Name x0 pos0, ifs := ifs, is_async := 0 }] scope pos) (eLcP pi p tt fe (own.map (·.2))) :=
  pe_mono (pe_lc (wi := iList X.K (tVar pi)) (g := tG X.K p) (tt := tTt X.K tt) (te := tV X.K fe) hc hN (pi_list hx) ok hg ht he hs) fun σ H Q h => lc_pureP hv σ H Q h
end Fx

/-! Fx 14: sum of lists, from a list on. -/
namespace Fx
open PySem PySem.Spec PyProof.Rows L2
theorem args_sum_two (a b : Value) : argsOk "sum" ⟨[a, b], []⟩ := by unfold argsOk; kernel_rfl
theorem sub_list_str : isSubtype (.type "list") (.type "str") = pure false := by rw [isSubtype_type]; kernel_rfl
theorem sub_list_bytes : isSubtype (.type "list") (.type "bytes") = pure false := by rw [isSubtype_type]; kernel_rfl
theorem sub_list_bytearray : isSubtype (.type "list") (.type "bytearray") = pure false := by rw [isSubtype_type]; kernel_rfl
/-- an exact list -/
abbrev Lx (h : Heap) (a : Addr) (its : List Value) : Prop := ∃ n, h.get? a = some { cls := .type "list", dict := none, data := .seq its.toArray n, slots := #[] }
/-- all but the walker's and the summer's own objects stands -/
def Kp (h : Heap) (I S : Addr) (h' : Heap) : Prop := ∀ b o, b ≠ I → b ≠ S → h.get? b = some o → h'.get? b = some o
section
variable {prog : Program} {w : World} {A : Around} {R : Result → Shared → Prop}
theorem sumL_loop {I S L : Addr} {bs : List Addr} {ls : List (List Value)} (hh : A.handled = none) (hIS : I ≠ S) (hL : L ≠ I ∧ L ≠ S) (hbs : ∀ b ∈ bs, b ≠ I ∧ b ≠ S) (hn : bs.length = ls.length) :
    ∀ (k i : Nat) (hp : Heap) (g : Array GenState) (d : Drawn) (tk : Nat) (os : OsState) (D : Addr) (acc : List Value) (c : Nat), bs.length - i = k → i ≤ bs.length → hp.IsListIter I L i → hp.IsList L (bs.map Value.ref).toArray →
      (∀ (j : Nat) b l, bs[j]? = some b → ls[j]? = some l → Lx hp b l) → Lx hp D acc → D ≠ I ∧ D ≠ S → hp.get? S = some { cls := .type "list", dict := none, data := .seq #[.ref D] c, slots := #[] } → acc.length + (ls.drop i).flatten.length ≤ sizeLine →
      (∀ h' tk' D', Kp hp I S h' → Lx h' D' (acc ++ (ls.drop i).flatten) → (D' = D ∧ i = bs.length ∨ hp.objs.size ≤ D') → R (.ok (.ret (.ref D'))) ⟨h', g, d, tk', os⟩) →
      codeAny (model prog w) A (.builtin "sum.loop" ⟨[.ref I, .ref S, rawInt 2, rawInt 0], []⟩) R ⟨hp, g, d, tk, os⟩ := by
  intro k
  induction k with
  | zero =>
    intro i hp g d tk os D acc c hk hi hit hl hb hD hDn hS hz hR
    have hin : i = bs.length := by omega
    refine codeAny_builtin PySem.F.entry_sum_loop ?_
    rw [Around.under_plainId PySem.F.plain_sum_loop]
    refine wpAny_bind (m := seqItems? (.ref S)) (wpAny_seqItems hS rfl ?_)
    refine wpAny_bind (m := (pyNext (.ref I)).tryCatch _) (wpAny_tryCatch (wpAny_pyNext_list_end (A := A.in1) hh hit hl (by simp [hin]) fun h' hx => wpAny_pure ?_))
    refine hR h' _ D (fun b o h1 _ e => hx b o h1 e) ?_ (.inl ⟨rfl, hin⟩)
    obtain ⟨n, e⟩ := hD
    rw [List.drop_eq_nil_of_le (by omega)]
    simp only [List.flatten_nil, List.append_nil]
    exact ⟨n, hx _ _ hDn.1 e⟩
  | succ k ih =>
    intro i hp g d tk os D acc c hk hi hit hl hb hD hDn hS hz hR
    have hlt : i < bs.length := by omega
    obtain ⟨b, hbi⟩ : ∃ b, bs[i]? = some b := ⟨_, List.getElem?_eq_getElem hlt⟩
    obtain ⟨l, hli⟩ : ∃ l, ls[i]? = some l := ⟨_, List.getElem?_eq_getElem (by omega)⟩
    have hbn := hbs b (List.mem_of_getElem? hbi)
    have hdrop : ls.drop i = l :: ls.drop (i + 1) := drop_cons hli
    rw [hdrop, List.flatten_cons, List.length_append] at hz
    refine codeAny_builtin PySem.F.entry_sum_loop ?_
    rw [Around.under_plainId PySem.F.plain_sum_loop]
    refine wpAny_bind (m := seqItems? (.ref S)) (wpAny_seqItems hS rfl ?_)
    refine wpAny_bind (m := (pyNext (.ref I)).tryCatch _) (wpAny_tryCatch (wpAny_pyNext_list_item hit hl (x := .ref b) (by simp [hbi]) fun h1 hit1 hs1 => ?_))
    have k1 : ∀ a o, a ≠ I → hp.get? a = some o → h1.get? a = some o := fun a o ha e => (hs1.2 a ha).trans e
    obtain ⟨nD, eD⟩ := hD
    obtain ⟨nb, eb⟩ := hb i b l hbi hli
    have sz1 : h1.objs.size = hp.objs.size := hs1.1
    show wpAny _ A.in1 ((holding [Value.ref b] (binaryOp .Add (.ref D) (.ref b))).attempt >>= _) _ _ _
    refine wpAny_bind (wpAny_attempt (wpAny_holding (PySem.P.add_list (k1 _ _ hDn.1 eD) (k1 _ _ hbn.1 eb) ?_ (by rw [List.size_toArray, List.size_toArray]; omega))))
    have k2 : ∀ a o, h1.get? a = some o → (h1.push { cls := .type "list", data := .seq (acc.toArray ++ l.toArray) }).get? a = some o := fun a o e => Heap.get?_push_of_some _ e
    have eD2 : (h1.push { cls := .type "list", data := .seq (acc.toArray ++ l.toArray) }).get? h1.objs.size = some { cls := .type "list", dict := none, data := .seq (acc ++ l).toArray 0, slots := #[] } := by
      rw [Heap.get?_push_size _ rfl]
      simp
    have hS2 := k2 _ _ (k1 _ _ hIS.symm hS)
    have hDS : h1.objs.size ≠ S := fun z => by
      have := Heap.lt_size (k1 _ _ hIS.symm hS)
      rw [← z] at this
      exact Nat.lt_irrefl _ this
    have hDI : h1.objs.size ≠ I := fun z => by
      obtain ⟨o, ho, _⟩ := hit1
      have := Heap.lt_size ho
      rw [← z] at this
      exact Nat.lt_irrefl _ this
    show wpAny _ A.in1 (updateSeq S (fun _ => #[.ref h1.objs.size]) >>= _) _ _ _
    refine wpAny_bind (wpAny_updateSeq hS2 rfl ?_)
    have hS3 := Heap.get?_update_self (Obj.mapSeq fun _ => #[Value.ref h1.objs.size]) hS2 rfl
    refine wpAny_bind (wpAny_letGo ?_)
    refine wpAny_bind (wpAny_updateSeq hS3 rfl (wpAny_pure ⟨plainId_quiet PySem.F.plain_sum_loop _, ?_⟩))
    have hS4 := Heap.get?_update_self (Obj.mapSeq fun _ => #[Value.ref h1.objs.size]) hS3 rfl
    have k3 : ∀ a o, a ≠ I → a ≠ S → hp.get? a = some o → (((h1.push { cls := .type "list", data := .seq (acc.toArray ++ l.toArray) }).update S (Obj.mapSeq fun _ => #[Value.ref h1.objs.size])).update S (Obj.mapSeq fun _ => #[Value.ref h1.objs.size])).get? a = some o := fun a o h1 h2 e =>
      (Heap.get?_update_other _ _ (Ne.symm h2)).trans ((Heap.get?_update_other _ _ (Ne.symm h2)).trans (k2 _ _ (k1 _ _ h1 e)))
    refine ih (i + 1) _ g d _ os h1.objs.size (acc ++ l) _ (by omega) (by omega) ?_ ?_ (fun j b' l' hj hj' => ?_) ⟨0, ?_⟩ ⟨hDI, hDS⟩ hS4 (by rw [List.length_append]; omega) (fun h' tk' D' kp hD' hor => ?_)
    · obtain ⟨o, ho, hr⟩ := hit1
      exact ⟨o, (Heap.get?_update_other _ _ hIS.symm).trans ((Heap.get?_update_other _ _ hIS.symm).trans (k2 _ _ ho)), hr⟩
    · obtain ⟨o, ho, hr⟩ := hl
      exact ⟨o, k3 _ _ hL.1 hL.2 ho, hr⟩
    · obtain ⟨n', e'⟩ := hb j b' l' hj hj'
      have hn' := hbs b' (List.mem_of_getElem? hj)
      exact ⟨n', k3 _ _ hn'.1 hn'.2 e'⟩
    · exact (Heap.get?_update_other _ _ (Ne.symm hDS)).trans ((Heap.get?_update_other _ _ (Ne.symm hDS)).trans eD2)
    · refine hR h' tk' D' (fun a o ha hs e => kp a o ha hs (k3 a o ha hs e)) ?_ (.inr ?_)
      · rw [hdrop, List.flatten_cons, ← List.append_assoc]
        exact hD'
      · rcases hor with ⟨rfl, _⟩ | hor
        · exact Nat.le_of_eq sz1.symm
        · refine Nat.le_trans ?_ hor
          rw [Heap.size_update, Heap.size_update, Heap.size_push, sz1]
          exact Nat.le_succ _
theorem call_sumL {E : Value → Shared → Prop} {L Z : Addr} {bs : List Addr} {ls : List (List Value)} {z0 : List Value} {hp : Heap} {g : Array GenState} {d : Drawn} {tk : Nat} {os : OsState} {Q : Value → Shared → Prop} (hh : A.handled = none) (hn : bs.length = ls.length) (hl : hp.IsList L (bs.map Value.ref).toArray)
    (hb : ∀ (j : Nat) b l, bs[j]? = some b → ls[j]? = some l → Lx hp b l) (hZ : Lx hp Z z0) (hz : z0.length + ls.flatten.length ≤ sizeLine)
    (hQ : ∀ h' tk' D, (∀ b o, hp.get? b = some o → h'.get? b = some o) → Lx h' D (z0 ++ ls.flatten) → (D = Z ∧ bs = [] ∨ hp.objs.size ≤ D) → Q (.ref D) ⟨h', g, d, tk', os⟩) :
    wpAny (model prog w) A (call (.builtin "sum") [.ref L, .ref Z]) Q E ⟨hp, g, d, tk, os⟩ := by
  obtain ⟨nZ, eZ⟩ := hZ
  have tZ : ∀ h' : Heap, h'.get? Z = some { cls := .type "list", dict := none, data := .seq z0.toArray nZ, slots := #[] } → ∀ g' d' tk' os', Shared.TypeIs ⟨h', g', d', tk', os'⟩ (.ref Z) "list" := fun h' e g' d' tk' os' => ⟨_, e, rfl⟩
  refine call_function_tree PySem.F.kind_sum PySem.F.plain_sum PySem.F.entry_sum (args_sum_two _ _) ?_
  unfold Builtin.«sum»
  simp only [List.length_cons, List.length_nil]
  rw [if_neg (show ¬ (0 + 1 + 1 + 0 > 2) by decide)]
  refine wpAny_bind (wpAny_of_eq (a := [some (.ref Z)]) rfl ?_)
  refine wpAny_bind (wpAny_pyIter_list hl ?_)
  obtain ⟨h1, e1⟩ : ∃ h1, h1 = hp.push { cls := .type "list_iterator", data := .fields #[.ref L, .int 0 0] } := ⟨_, rfl⟩
  have k1 : ∀ b o, hp.get? b = some o → h1.get? b = some o := fun b o e => by rw [e1]; exact Heap.get?_push_of_some _ e
  have hit : h1.IsListIter hp.objs.size L 0 := by rw [e1]; exact ⟨_, Heap.get?_push_size _ rfl, rfl, rfl⟩
  have sz1 : h1.objs.size = hp.objs.size + 1 := by rw [e1, Heap.size_push]
  rw [← e1]
  refine wpAny_bind (wpAny_pure ?_)
  simp only [List.forIn_cons, List.forIn_nil]
  refine wpAny_bind (wpAny_bind (wpAny_bind (wpAny_isInstance (T := "list") (b := false) (tZ _ (k1 _ _ eZ) _ _ _ _) sub_list_str ?_)))
  simp only [Bool.false_eq_true, if_false]
  refine wpAny_pure (wpAny_bind (wpAny_bind (wpAny_isInstance (T := "list") (b := false) (tZ _ (k1 _ _ eZ) _ _ _ _) sub_list_bytes ?_)))
  simp only [Bool.false_eq_true, if_false]
  refine wpAny_pure (wpAny_bind (wpAny_bind (wpAny_isInstance (T := "list") (b := false) (tZ _ (k1 _ _ eZ) _ _ _ _) sub_list_bytearray ?_)))
  simp only [Bool.false_eq_true, if_false]
  refine wpAny_pure (wpAny_pure ?_)
  refine wpAny_bind (wpAny_newObj_type ?_)
  have k2 : ∀ b o, h1.get? b = some o → (h1.push { cls := .type "list", data := .seq #[.ref Z] }).get? b = some o := fun b o e => Heap.get?_push_of_some _ e
  have lt : ∀ {b : Addr} {o : Obj}, hp.get? b = some o → b ≠ hp.objs.size ∧ b ≠ h1.objs.size := fun {b o} e => ⟨Nat.ne_of_lt (Heap.lt_size e), Nat.ne_of_lt (Nat.lt_of_lt_of_le (Heap.lt_size e) (by rw [sz1]; exact Nat.le_succ _))⟩
  have hIS : hp.objs.size ≠ h1.objs.size := by rw [sz1]; exact Nat.ne_of_lt (Nat.lt_succ_self _)
  refine wpAny_pure ⟨plainId_quiet PySem.F.plain_sum_loop _, sumL_loop (L := L) (bs := bs) (ls := ls) hh hIS ?_ (fun b hm => ?_) hn bs.length 0 _ g d _ os Z z0 0 rfl (Nat.zero_le _) ?_ ?_ (fun j b l hj hl' => ?_) ⟨nZ, k2 _ _ (k1 _ _ eZ)⟩ (lt eZ) (Heap.get?_push_size _ rfl) (by rw [List.drop_zero]; exact hz) fun h' tk' D kp hD hor => ?_⟩
  · obtain ⟨o, ho, _⟩ := hl
    exact lt ho
  · obtain ⟨j, hj⟩ := List.getElem?_of_mem hm
    have hj2 : j < ls.length := by
      have := (List.getElem?_eq_some_iff.mp hj).1
      omega
    obtain ⟨n, e⟩ := hb j b _ hj (List.getElem?_eq_getElem hj2)
    exact lt e
  · obtain ⟨o, ho, hr⟩ := hit
    exact ⟨o, k2 _ _ ho, hr⟩
  · obtain ⟨o, ho, hr⟩ := hl
    exact ⟨o, k2 _ _ (k1 _ _ ho), hr⟩
  · obtain ⟨n, e⟩ := hb j b l hj hl'
    exact ⟨n, k2 _ _ (k1 _ _ e)⟩
  · rw [List.drop_zero] at hD
    refine hQ h' tk' D (fun b o e => kp b o (lt e).1 (lt e).2 (k2 _ _ (k1 _ _ e))) hD ?_
    rcases hor with ⟨h1, h2⟩ | h
    · exact .inl ⟨h1, List.eq_nil_of_length_eq_zero h2.symm⟩
    · refine .inr (Nat.le_trans ?_ h)
      rw [Heap.size_push, sz1]
      exact Nat.le_trans (Nat.le_succ _) (Nat.le_succ _)
end
/-- a list of lists -/
def lsts : List T → Option (List (List T))
  | [] => some []
  | .lst us :: r => (lsts r).map fun l => us :: l
  | _ => none
/-- sum(lists, list) -/
@[simp] def bSumL : ON := fun ts => match ts with
  | [.lst us, .lst z] => (lsts us).bind fun ls => if z.length + ls.flatten.length ≤ 100000 then some (.lst (z ++ ls.flatten)) else none
  | _ => none
theorem lsts_reps {K : PySem.W.Frag} {G : Hp} : ∀ {vs : List V} {us : List T} {ls : List (List T)}, Reps K G vs us → lsts us = some ls → ∃ (bs : List Addr) (xs : List (List V)), vs = bs.map V.ref ∧ bs.length = xs.length ∧ (∀ (j : Nat) b x, bs[j]? = some b → xs[j]? = some x → G b = some (.lst x)) ∧ Reps K G xs.flatten ls.flatten ∧ xs.flatten.length = ls.flatten.length
  | _, [], ls, .nil, h => by
    unfold lsts at h
    cases h
    exact ⟨[], [], rfl, rfl, fun j b x h => by simp at h, .nil, rfl⟩
  | _, t :: us, ls, .cons r rs, h => by
    cases t with
    | lst ws =>
      unfold lsts at h
      obtain ⟨l, q, h⟩ := Option.map_eq_some_iff.mp h
      cases h
      obtain ⟨bs, xs, h1, h2, h3, h4, h5⟩ := lsts_reps rs q
      obtain ⟨a, ys, rfl, h6, h7⟩ := r.inv_lst
      refine ⟨a :: bs, ys :: xs, by rw [h1]; rfl, by simp [h2], fun j b x hj hx => ?_, by rw [List.flatten_cons, List.flatten_cons]; exact h7.append h4, by rw [List.flatten_cons, List.flatten_cons, List.length_append, List.length_append, h5, h7.length]⟩
      cases j with
      | zero => simp at hj hx; subst hj; subst hx; exact h6
      | succ j => simp at hj hx; exact h3 j b x hj hx
    | _ => unfold lsts at h; cases h
/-- the values of lists on the heap -/
theorem vals_lists {X : Cx} {pins : List (Addr × Obj)} {σ : L2.St} {H : Hp} {s : Shared} (I : Inv X pins σ H s) : ∀ {bs : List Addr} {xs : List (List V)}, bs.length = xs.length → (∀ (j : Nat) b x, bs[j]? = some b → xs[j]? = some x → H b = some (.lst x)) →
    ∃ ls : List (List Value), bs.length = ls.length ∧ (∀ (j : Nat) b l, bs[j]? = some b → ls[j]? = some l → Lx s.heap b l) ∧ Vals xs.flatten ls.flatten
  | [], [], _, _ => ⟨[], rfl, fun j b l h => by simp at h, .nil⟩
  | [], _ :: _, h, _ => by simp at h
  | _ :: _, [], h, _ => by simp at h
  | b :: bs, x :: xs, hl, h => by
    obtain ⟨ls, h1, h2, h3⟩ := vals_lists I (bs := bs) (xs := xs) (by simpa using hl) fun j c y hc hy => h (j + 1) c y (by simpa using hc) (by simpa using hy)
    obtain ⟨z, its, n, r, hz, e⟩ := I.lstM (h 0 b x rfl rfl)
    refine ⟨its :: ls, by simp [h1], fun j c l hc hl' => ?_, by rw [List.flatten_cons, List.flatten_cons]; exact r.append h3⟩
    cases j with
    | zero => simp at hc hl'; subst hc; subst hl'; exact ⟨n, e⟩
    | succ j => simp at hc hl'; exact h2 j c l hc hl'
theorem ct_sumL {X : Cx} (hc : X.calm = true) : CallT X (.builtin "sum") bSumL := by
  intro pins s σ H xs us Q I rx ⟨O, as, c, dom, ra, e, k⟩
  unfold bSumL at e
  split at e
  · rename_i ts z
    obtain ⟨ls, hls, e⟩ := Option.bind_eq_some_iff.mp e
    split at e
    · rename_i hz
      cases e
      obtain ⟨v, w, rfl, r1, r2⟩ := two_args ra
      obtain ⟨L, vs, rfl, h1, h2⟩ := r1.inv_lst
      obtain ⟨Z, ws, rfl, h3, h4⟩ := r2.inv_lst
      obtain ⟨bs, ys, rfl, h5, h6, h7, h8⟩ := lsts_reps h2 hls
      have hL := (of_hid h1).2
      have hZ := (of_hid h3).2
      obtain ⟨zL, itL, nL, rL, hzL, eL⟩ := I.lstM hL
      obtain ⟨zZ, itZ, nZ, rZ, hzZ, eZ⟩ := I.lstM hZ
      obtain ⟨vls, g1, g2, g3⟩ := vals_lists I h5 fun j b x hb hx => (of_hid (h6 j b x hb hx)).2
      have eit : itL = bs.map Value.ref := by
        have : ∀ (bs : List Addr) (its : List Value), Vals (bs.map V.ref) its → its = bs.map Value.ref := fun bs => by
          induction bs with
          | nil => intro its r; cases r; rfl
          | cons b bs ih => intro its r; cases r with | cons h r => rw [show _ = Value.ref b from h, ih _ r]; rfl
        exact this bs itL rL
      subst eit
      cases rx with
      | cons q1 rx =>
        cases rx with
        | cons q2 rx =>
          cases rx
          obtain rfl : _ = Value.ref L := q1
          obtain rfl : _ = Value.ref Z := q2
          obtain ⟨hp, g, d, tk, os⟩ := s
          have hz' : z.length + ls.flatten.length ≤ 100000 := hz
          have l1 : itZ.length = z.length := hzZ.symm.trans h4.length
          have l2 : vls.flatten.length = ls.flatten.length := g3.length.symm.trans h8
          refine call_sumL (I.ok.hd hc) g1 ⟨_, eL, rfl, nL, rfl⟩ g2 ⟨nZ, eZ⟩ (by rw [l1, l2, sizeLine_eq]; omega) fun h' tk' D kp hD hor => ?_
          rcases hor with ⟨rfl, hb⟩ | hge
          · subst hb
            have : ls.flatten = [] := by
              have : ys = [] := by simpa using h5.symm
              subst this
              exact List.eq_nil_of_length_eq_zero h8.symm
            rw [this, List.append_nil] at k
            exact ⟨.ref D, H, I.kept (t' := tk') kp, rfl, k _ H (.refl _) (.lst h3 h4)⟩
          · obtain ⟨n, eD⟩ := hD
            have nD : H D = none := I.hok.fresh hge
            have J := I.laid (t' := tk') (a := D) (o := .lst (ws ++ ys.flatten)) (h' := h') kp hge ⟨by rw [List.length_append, hzZ, h8, l1, sizeLine_eq]; omega, _, n, rZ.append g3, eD⟩
            refine ⟨.ref D, _, J, rfl, k _ _ (.new nD) (.lst (hid_new fun hm => ?_) ((h4.append h7).mono ((Ext.new nD).hid O)))⟩
            obtain ⟨o, ho⟩ := dom D hm
            rw [nD] at ho; cases ho
    · cases e
  · cases e
end Fx

/-! RM: ratios as Rat, their sizes, Euclid's loop. -/
namespace Fx
open PySem PySem.Spec PyProof.Rows L2
/-- below 2 ^ n -/
def Bd (n : Nat) (i : Int) : Prop := i.natAbs < 2 ^ n
theorem Bd.mono {n m : Nat} {i : Int} (h : Bd n i) (l : n ≤ m) : Bd m i := Nat.lt_of_lt_of_le h (Nat.pow_le_pow_right (by decide) l)
theorem Bd.mul {n m : Nat} {i j : Int} (h : Bd n i) (h' : Bd m j) : Bd (n + m) (i * j) := by
  unfold Bd
  rw [Int.natAbs_mul, Nat.pow_add]
  exact Nat.mul_lt_mul'' h h'
theorem Bd.add {n : Nat} {i j : Int} (h : Bd n i) (h' : Bd n j) : Bd (n + 1) (i + j) := by
  unfold Bd at *
  rw [Nat.pow_succ]
  omega
theorem Bd.sub {n : Nat} {i j : Int} (h : Bd n i) (h' : Bd n j) : Bd (n + 1) (i - j) := by
  unfold Bd at *
  rw [Nat.pow_succ]
  omega
theorem Bd.neg {n : Nat} {i : Int} (h : Bd n i) : Bd n (-i) := by
  unfold Bd at *
  omega
theorem Bd.log {n : Nat} {i : Int} (h : Bd n i) (hn : 0 < n) : i.natAbs.log2 < n := by
  by_cases h0 : i.natAbs = 0
  · rw [h0]; simpa using hn
  · exact (Nat.log2_lt h0).mpr h
theorem Bd.le_log {n : Nat} {i : Int} (h : Bd n i) : i.natAbs.log2 ≤ n := by
  cases n with
  | zero =>
    unfold Bd at h
    have : i.natAbs = 0 := by simpa using h
    rw [this]; simp
  | succ n => exact Nat.le_of_lt (h.log (Nat.succ_pos _))
theorem Bd.mulOk {n m : Nat} {i j : Int} (h : Bd n i) (h' : Bd m j) (l : n + m < 1000000) : MulOk i j := by
  refine .inl ?_
  unfold CMulW
  have := h.le_log
  have := h'.le_log
  omega
theorem Bd.divOk {n : Nat} {j : Int} (h : Bd n j) (h0 : j ≠ 0) (l : n < 9000) : DivOk j := ⟨h0, by have := h.le_log; omega⟩
/-- a ratio as a tree -/
def rt (q : Rat) : T := .tup [.int q.num, .int q.den]
/-- a ratio's size -/
structure Sz (n : Nat) (q : Rat) : Prop where
  num : Bd n q.num
  den : Bd n q.den
theorem Sz.mono {n m : Nat} {q : Rat} (h : Sz n q) (l : n ≤ m) : Sz m q := ⟨h.num.mono l, h.den.mono l⟩
theorem den_pos (q : Rat) : (0 : Int) < q.den := by have := q.den_pos; omega
theorem den_ne (q : Rat) : (q.den : Int) ≠ 0 := by have := q.den_pos; omega
theorem gcd_pos {a b : Int} (h : b ≠ 0) : (0 : Int) < (Nat.gcd a.natAbs b.natAbs : Nat) := by
  have : 0 < Nat.gcd a.natAbs b.natAbs := Nat.gcd_pos_of_pos_right _ (by omega)
  omega
theorem gcd_bd {a b : Int} {n : Nat} (h : b ≠ 0) (hb : Bd n b) : Bd n (Nat.gcd a.natAbs b.natAbs : Nat) := by
  unfold Bd at *
  have := Nat.gcd_le_right a.natAbs (show 0 < b.natAbs by omega)
  rw [Int.natAbs_natCast]
  omega
theorem ig_eq (a b : Int) : b.gcd a = Nat.gcd a.natAbs b.natAbs := by
  unfold Int.gcd
  exact Nat.gcd_comm _ _
theorem num_pos {a b : Int} (h : 0 < b) : (Rat.divInt a b).num = a.fdiv (Nat.gcd a.natAbs b.natAbs : Nat) := by
  rw [Rat.num_divInt, ig_eq, Int.sign_eq_one_of_pos h, Int.one_mul, Int.fdiv_eq_ediv_of_nonneg _ (by omega)]
theorem num_neg {a b : Int} (h : b < 0) : (Rat.divInt a b).num = (-a).fdiv (Nat.gcd a.natAbs b.natAbs : Nat) := by
  rw [Rat.num_divInt, ig_eq, Int.sign_eq_neg_one_of_neg h, Int.fdiv_eq_ediv_of_nonneg _ (by omega)]
  congr 1
  omega
theorem den_posi {a b : Int} (h : 0 < b) : ((Rat.divInt a b).den : Int) = b.fdiv (Nat.gcd a.natAbs b.natAbs : Nat) := by
  rw [Rat.den_divInt, if_neg (by omega), ig_eq, Int.fdiv_eq_ediv_of_nonneg _ (by omega), Int.natCast_ediv, Int.natAbs_of_nonneg (by omega)]
theorem den_neg {a b : Int} (h : b < 0) : ((Rat.divInt a b).den : Int) = (-b).fdiv (Nat.gcd a.natAbs b.natAbs : Nat) := by
  rw [Rat.den_divInt, if_neg (by omega), ig_eq, Int.fdiv_eq_ediv_of_nonneg _ (by omega), Int.natCast_ediv, Int.ofNat_natAbs_of_nonpos (by omega)]
theorem sz_divInt {n : Nat} {a b : Int} (h0 : b ≠ 0) (ha : Bd n a) (hb : Bd n b) : Sz n (Rat.divInt a b) := by
  refine ⟨?_, ?_⟩
  · rw [Rat.num_divInt]
    unfold Bd at *
    have : (b.sign * a / ↑(b.gcd a)).natAbs ≤ a.natAbs := by
      have h1 : (b.sign * a / ↑(b.gcd a)).natAbs = (b.sign * a).natAbs / b.gcd a := by
        rw [Int.natAbs_ediv_of_dvd]
        · rfl
        · exact Int.dvd_mul_of_dvd_right (Int.gcd_dvd_right ..)
      rw [h1]
      refine Nat.le_trans (Nat.div_le_self _ _) ?_
      rw [Int.natAbs_mul, Int.natAbs_sign_of_ne_zero h0, Nat.one_mul]
      exact Nat.le_refl _
    omega
  · rw [Rat.den_divInt, if_neg h0]
    unfold Bd at *
    have := Nat.div_le_self b.natAbs (b.gcd a)
    rw [Int.natAbs_natCast]
    omega
theorem add_eq (p q : Rat) : Rat.divInt (p.num * q.den + q.num * p.den) (p.den * q.den) = p + q := by
  rw [← Rat.divInt_add_divInt _ _ (den_ne p) (den_ne q), Rat.num_divInt_den, Rat.num_divInt_den]
theorem sub_eq (p q : Rat) : Rat.divInt (p.num * q.den - q.num * p.den) (p.den * q.den) = p - q := by
  rw [← Rat.divInt_sub_divInt _ _ (den_ne p) (den_ne q), Rat.num_divInt_den, Rat.num_divInt_den]
theorem mul_eq (p q : Rat) : Rat.divInt (p.num * q.num) (p.den * q.den) = p * q := by
  rw [← Rat.divInt_mul_divInt, Rat.num_divInt_den, Rat.num_divInt_den]
theorem div_eq (p q : Rat) : Rat.divInt (p.num * q.den) (p.den * q.num) = p / q := by
  rw [Rat.div_def]
  have : q⁻¹ = Rat.divInt q.den q.num := by rw [← Rat.inv_divInt, Rat.num_divInt_den]
  rw [this]
  rw [← Rat.divInt_mul_divInt, Rat.num_divInt_den]
theorem Sz.add {n m : Nat} {p q : Rat} (h : Sz n p) (h' : Sz m q) : Sz (n + m + 1) (p + q) := by
  rw [← add_eq]
  refine sz_divInt (Int.mul_ne_zero (den_ne p) (den_ne q)) ((h.num.mul h'.den).add ?_) ((h.den.mul h'.den).mono (by omega))
  have := h'.num.mul h.den
  rw [Nat.add_comm] at this
  exact this
theorem Sz.sub {n m : Nat} {p q : Rat} (h : Sz n p) (h' : Sz m q) : Sz (n + m + 1) (p - q) := by
  rw [← sub_eq]
  refine sz_divInt (Int.mul_ne_zero (den_ne p) (den_ne q)) ((h.num.mul h'.den).sub ?_) ((h.den.mul h'.den).mono (by omega))
  have := h'.num.mul h.den
  rw [Nat.add_comm] at this
  exact this
theorem Sz.mul {n m : Nat} {p q : Rat} (h : Sz n p) (h' : Sz m q) : Sz (n + m) (p * q) := by
  rw [← mul_eq]
  exact sz_divInt (Int.mul_ne_zero (den_ne p) (den_ne q)) (h.num.mul h'.num) (h.den.mul h'.den)
theorem num_ne {q : Rat} (h : q ≠ 0) : q.num ≠ 0 := fun e => h (by rw [← Rat.num_divInt_den q, e, Rat.zero_divInt])
theorem Sz.div {n m : Nat} {p q : Rat} (h : Sz n p) (h' : Sz m q) (hq : q ≠ 0) : Sz (n + m) (p / q) := by
  rw [← div_eq]
  exact sz_divInt (Int.mul_ne_zero (den_ne p) (num_ne hq)) (h.num.mul h'.den) (h.den.mul h'.num)
theorem Sz.neg {n : Nat} {p : Rat} (h : Sz n p) : Sz n (-p) := ⟨by rw [Rat.neg_num]; exact h.num.neg, by rw [Rat.neg_den]; exact h.den⟩
theorem rt_inj {p q : Rat} (h : rt p = rt q) : p = q := by
  unfold rt at h
  injection h with h
  simp only [List.cons.injEq, T.int.injEq, and_true] at h
  exact Rat.ext h.1 (by omega)
theorem lt_num (p q : Rat) : decide (p.num * q.den < q.num * p.den) = decide (p < q) := by
  rw [decide_eq_decide]
  exact (Rat.lt_iff p q).symm
theorem le_num (p q : Rat) : decide (p.num * q.den ≤ q.num * p.den) = decide (p ≤ q) := by
  rw [decide_eq_decide]
  exact (Rat.le_iff p q).symm
/-! ### Euclid's loop -/
theorem mod_half {x y : Nat} (h : 0 < y) (h' : y ≤ x) : x % y ≤ x / 2 := by
  have h1 : x % y < y := Nat.mod_lt _ h
  by_cases c : y ≤ x / 2
  · omega
  · have : x % y = x - y := by
      rw [Nat.mod_eq_sub_mod h']
      exact Nat.mod_eq_of_lt (by omega)
    omega
theorem fmod_abs {a b : Int} (h : b ≠ 0) : (a.fmod b).natAbs < b.natAbs := by
  rcases Int.lt_or_gt_of_ne h with c | c
  · have h1 : a.fmod b = -((-a).fmod (-b)) := by
      rw [Int.neg_fmod_neg, Int.neg_neg]
    rw [h1, Int.natAbs_neg, Int.fmod_eq_emod_of_nonneg _ (by omega)]
    have h2 := Int.emod_nonneg (-a) (show -b ≠ 0 by omega)
    have h3 := Int.emod_lt_of_pos (-a) (show 0 < -b by omega)
    omega
  · rw [Int.fmod_eq_emod_of_nonneg _ (by omega)]
    have h2 := Int.emod_nonneg a (show b ≠ 0 by omega)
    have h3 := Int.emod_lt_of_pos a (show 0 < b by omega)
    omega
theorem fmod_gcd (a b : Int) : Nat.gcd b.natAbs (a.fmod b).natAbs = Nat.gcd a.natAbs b.natAbs := by
  have h : a.fmod b = a - b * a.fdiv b := by rw [Int.fmod_def]
  have : Int.gcd b (a.fmod b) = Int.gcd a b := by
    rw [h, Int.gcd_comm a b]
    have := Int.gcd_sub_mul_right_right (m := b) (n := a) (k := a.fdiv b)
    rw [Int.mul_comm b]
    exact this
  exact this
theorem fmod_half {a b : Int} (h : b ≠ 0) (h' : a.fmod b ≠ 0) : (b.fmod (a.fmod b)).natAbs ≤ b.natAbs / 2 := by
  have h1 := fmod_abs (a := a) h
  rcases Int.lt_or_gt_of_ne h with c | c
  · have e1 : a.fmod b = -((-a).fmod (-b)) := by
      rw [Int.neg_fmod_neg, Int.neg_neg]
    have e2 : (-a).fmod (-b) = (-a) % (-b) := Int.fmod_eq_emod_of_nonneg _ (by omega)
    have h2 := Int.emod_nonneg (-a) (show -b ≠ 0 by omega)
    have e3 : b.fmod (a.fmod b) = -((-b).fmod (-(a.fmod b))) := by
      rw [Int.neg_fmod_neg, Int.neg_neg]
    have h3 : 0 < -(a.fmod b) := by omega
    rw [e3, Int.natAbs_neg, Int.fmod_eq_emod_of_nonneg _ (by omega), Int.natAbs_emod_of_nonneg (by omega), Int.natAbs_neg, Int.natAbs_neg]
    exact mod_half (by omega) (by omega)
  · have e2 : a.fmod b = a % b := Int.fmod_eq_emod_of_nonneg _ (by omega)
    have h2 := Int.emod_nonneg a (show b ≠ 0 by omega)
    have h3 : 0 < a.fmod b := by omega
    rw [Int.fmod_eq_emod_of_nonneg b (show 0 ≤ a.fmod b by omega), Int.natAbs_emod_of_nonneg (by omega)]
    exact mod_half (by omega) (by omega)
/-! ### loops -/
theorem forL_run {p : Pat} {b : SF} (I : Nat → Sls → Prop) : ∀ (ts : List T) (n : Nat) (env : Sls), I n env → (∀ t n env, t ∈ ts → I n env → ∃ e1 env', bindP p t env = some e1 ∧ (b e1 = some (.nx, env') ∨ b e1 = some (.ct, env')) ∧ I (n + 1) env') →
    ∃ env', forL p b ts env = some (.nx, env') ∧ I (n + ts.length) env'
  | [], n, env, h, _ => ⟨env, rfl, h⟩
  | t :: r, n, env, h, hs => by
    obtain ⟨e1, e2, h1, h2, h3⟩ := hs t n env List.mem_cons_self h
    obtain ⟨e3, h4, h5⟩ := forL_run I r (n + 1) e2 h3 fun t n env ht => hs t n env (List.mem_cons_of_mem _ ht)
    refine ⟨e3, ?_, by rw [List.length_cons]; have : n + (r.length + 1) = n + 1 + r.length := by omega
                       rw [this]; exact h5⟩
    unfold forL
    rw [h1]
    rcases h2 with h2 | h2
    · simp only [Option.bind_some, h2]; exact h4
    · simp only [Option.bind_some, h2]; exact h4
/-! ### == -/
@[simp] theorem eqT_int (a b : Int) : eqT (.int a) (.int b) = some (a == b) := by
  simp [eqT, toD, SeqAt.shaped, PyData.canLay0, PyData.depth, PyData.eqv]
@[simp] theorem eqT_bl (a b : Bool) : eqT (.bl a) (.bl b) = some (a == b) := by
  simp [eqT, toD, SeqAt.shaped, PyData.canLay0, PyData.depth, PyData.eqv]
/-! ### steps -/
theorem bSeq_nx {g g' : SF} {env env1 : Sls} (h : g env = some (.nx, env1)) : bSeq g g' env = g' env1 := by simp [h]
theorem bSeq_ret {g g' : SF} {env env1 : Sls} {t : T} (h : g env = some (.ret t, env1)) : bSeq g g' env = some (.ret t, env1) := by simp [h]
theorem sFor_of {fi : AF} {p : Pat} {b : SF} {env env1 : Sls} {ts : List T} (h : fi env = some (ts, env1)) : sFor fi p b env = forL p b ts env1 := by simp [h]
theorem sIf_T {c : BF} {f g : SF} {env env1 : Sls} (h : c env = some (true, env1)) : sIf c f g env = f env1 := by simp [h]
theorem sIf_F {c : BF} {f g : SF} {env env1 : Sls} (h : c env = some (false, env1)) : sIf c f g env = g env1 := by simp [h]
theorem runF_ret {nl : Nat} {g : SF} {sls env1 sls' : Sls} {t : T} (h : g (sls ++ List.replicate (nl - sls.length) .un) = some (.ret t, env1)) (h' : backS sls env1 = sls') : runF nl g sls = some (t, sls') := by
  simp only [runF, h, Option.bind_some, h']
/-! ### lists of ints; the pen -/
theorem toDs_ints : ∀ ns : List Int, toDs (ns.map T.int) = some (ns.map PyData.int)
  | [] => rfl
  | n :: ns => by simp [toDs_ints ns]
theorem lay_ints : ∀ ns : List Int, PyData.canLayAll0 (ns.map PyData.int) = true
  | [] => rfl
  | n :: ns => by simp [PyData.canLayAll0, PyData.canLay0, lay_ints ns]
theorem depth_ints : ∀ ns : List Int, PyData.depthAll (ns.map PyData.int) = 0
  | [] => rfl
  | n :: ns => by simp [PyData.depthAll, PyData.depth, depth_ints ns]
theorem eqT_ints_nil (ns : List Int) : eqT (.lst (ns.map T.int)) (.lst []) = some ns.isEmpty := by
  simp only [eqT, toD, toDs_ints, Option.map_some, Option.bind_some, toDs, SeqAt.shaped, PyData.canLay0, lay_ints, PyData.depth, depth_ints, PyData.canLayAll0, PyData.depthAll]
  cases ns <;> simp [PyData.eqv, PyData.eqvAll]
theorem atI_ints {ns : List Int} {k : Int} (h0 : 0 ≤ k) (h : k < ns.length) : ∃ c, L2.atI (ns.map T.int) k = some (.int c) ∧ c ∈ ns := by
  have hk : k.toNat < ns.length := by omega
  refine ⟨ns[k.toNat], ?_, List.getElem_mem hk⟩
  unfold L2.atI ixN
  rw [List.length_map, if_pos h0, if_pos h]
  simp [hk]
/-- the pen: its cells, how many were begun, what is left -/
def pn (cs : List Int) (t r : Int) : T := .lst [.lst (cs.map T.int), .int t, .int r]
section
variable {α : Type} (a b c d e : α)
@[simp] theorem at_1_0 : L2.atI [a] 0 = some a := rfl
@[simp] theorem at_2_0 : L2.atI [a, b] 0 = some a := rfl
@[simp] theorem at_2_1 : L2.atI [a, b] 1 = some b := rfl
@[simp] theorem at_3_0 : L2.atI [a, b, c] 0 = some a := rfl
@[simp] theorem at_3_1 : L2.atI [a, b, c] 1 = some b := rfl
@[simp] theorem at_3_2 : L2.atI [a, b, c] 2 = some c := rfl
@[simp] theorem at_4_0 : L2.atI [a, b, c, d] 0 = some a := rfl
@[simp] theorem at_4_1 : L2.atI [a, b, c, d] 1 = some b := rfl
@[simp] theorem at_4_2 : L2.atI [a, b, c, d] 2 = some c := rfl
@[simp] theorem at_4_3 : L2.atI [a, b, c, d] 3 = some d := rfl
@[simp] theorem at_5_0 : L2.atI [a, b, c, d, e] 0 = some a := rfl
@[simp] theorem at_5_1 : L2.atI [a, b, c, d, e] 1 = some b := rfl
@[simp] theorem at_5_2 : L2.atI [a, b, c, d, e] 2 = some c := rfl
@[simp] theorem at_5_3 : L2.atI [a, b, c, d, e] 3 = some d := rfl
@[simp] theorem at_5_4 : L2.atI [a, b, c, d, e] 4 = some e := rfl
@[simp] theorem ixN_3_0 : ixN 3 0 = some 0 := rfl
@[simp] theorem ixN_3_1 : ixN 3 1 = some 1 := rfl
@[simp] theorem ixN_3_2 : ixN 3 2 = some 2 := rfl
end
/-! ### pens, lists of ratios -/
/-- a pen of which at most k numbers were begun -/
def Pen (k : Int) (P : T) : Prop := ∃ cs t r, P = pn cs t r ∧ cs.length ≤ 63 ∧ 0 ≤ t ∧ t ≤ k ∧ 0 ≤ r
theorem Pen.mono {k l : Int} {P : T} (h : Pen k P) (hl : k ≤ l) : Pen l P := by
  obtain ⟨cs, t, r, e, h1, h2, h3, h4⟩ := h
  exact ⟨cs, t, r, e, h1, h2, by omega, h4⟩
def okR (n : Nat) : T → Bool
  | .tup [.int a, .int b] => decide (0 < b) && decide (Nat.gcd a.natAbs b.natAbs = 1) && decide (a.natAbs < 2 ^ n) && decide (b.natAbs < 2 ^ n)
  | _ => false
theorem okR_rt {n : Nat} {x : T} (h : okR n x = true) : ∃ q, x = rt q ∧ Sz n q := by
  unfold okR at h
  split at h
  · rename_i a b
    simp only [Bool.and_eq_true, decide_eq_true_eq] at h
    obtain ⟨⟨⟨h1, h2⟩, h3⟩, h4⟩ := h
    refine ⟨⟨a, b.natAbs, by omega, h2⟩, ?_, h3, ?_⟩
    · unfold rt
      simp only
      rw [Int.natAbs_of_nonneg (by omega)]
    · show (b.natAbs : Int).natAbs < 2 ^ n
      rw [Int.natAbs_natCast]
      exact h4
  · cases h
theorem okRs_mem {n : Nat} {xs : List T} (h : xs.all (okR n) = true) {x : T} (hx : x ∈ xs) : ∃ q, x = rt q ∧ Sz n q := okR_rt (List.all_eq_true.mp h x hx)
theorem atI_mem {xs : List T} {k : Int} (h0 : 0 ≤ k) (h : k < xs.length) : ∃ c, L2.atI xs k = some c ∧ c ∈ xs := by
  have hk : k.toNat < xs.length := by omega
  refine ⟨xs[k.toNat], ?_, List.getElem_mem hk⟩
  unfold L2.atI ixN
  rw [if_pos h0, if_pos h]
  simp [hk]
theorem sz_int {n : Nat} {a : Int} (h : Bd n a) (hn : 0 < n) : Sz n (Rat.divInt a 1) := sz_divInt (by decide) h (by unfold Bd; have := Nat.pow_le_pow_right (show 0 < 2 by decide) hn; simp at this ⊢; omega)
theorem rt_int (a : Int) : rt (Rat.divInt a 1) = .tup [.int a, .int 1] := by
  unfold rt
  rw [num_pos (by decide), den_posi (by decide)]
  simp
end Fx

/-! RP: polynomials as lists of ints, by their values. -/
namespace Fx
namespace RP
def ev (x : Int) : List Int → Int
  | [] => 0
  | a :: p => a + x * ev x p
def nrm : List Int → Nat
  | [] => 0
  | a :: p => a.natAbs + nrm p
def trim : List Int → List Int
  | [] => []
  | a :: p => if a = 0 ∧ trim p = [] then [] else a :: trim p
/-- no nought at the end -/
def Tr (p : List Int) : Prop := ∀ h : p ≠ [], p.getLast h ≠ 0
theorem mem_nrm {a : Int} : ∀ {p : List Int}, a ∈ p → a.natAbs ≤ nrm p
  | b :: p, h => by
    unfold nrm
    rcases List.mem_cons.mp h with rfl | h
    · omega
    · have := mem_nrm h; omega
theorem ev_trim (x : Int) : ∀ p, ev x (trim p) = ev x p
  | [] => rfl
  | a :: p => by
    have h := ev_trim x p
    unfold trim
    split
    · rename_i hc
      have h0 : ev x p = 0 := by rw [← h, hc.2]; rfl
      show 0 = a + x * ev x p
      rw [hc.1, h0]
      simp
    · unfold ev
      rw [h]
theorem nrm_trim : ∀ p, nrm (trim p) = nrm p
  | [] => rfl
  | a :: p => by
    have h := nrm_trim p
    unfold trim
    split
    · rename_i hc
      have h0 : nrm p = 0 := by rw [← h, hc.2]; rfl
      show 0 = a.natAbs + nrm p
      rw [hc.1, h0]
      rfl
    · unfold nrm
      rw [h]
theorem len_trim : ∀ p, (trim p).length ≤ p.length
  | [] => Nat.le_refl _
  | a :: p => by
    have h := len_trim p
    unfold trim
    split
    · simp
    · simp; omega
theorem tr_nil : Tr [] := fun h => absurd rfl h
theorem tr_cons {a : Int} {p : List Int} : Tr (a :: p) ↔ if p = [] then a ≠ 0 else Tr p := by
  constructor
  · intro h
    split
    · rename_i hp
      subst hp
      exact h (by simp)
    · intro hp
      have := h (by simp)
      rwa [List.getLast_cons hp] at this
  · intro h hne
    split at h
    · rename_i hp
      subst hp
      simpa using h
    · rename_i hp
      rw [List.getLast_cons hp]
      exact h hp
theorem tr_trim : ∀ p, Tr (trim p)
  | [] => tr_nil
  | a :: p => by
    have h := tr_trim p
    unfold trim
    split
    · exact tr_nil
    · rename_i hc
      rw [tr_cons]
      split
      · rename_i hp
        exact fun z => hc ⟨z, hp⟩
      · exact h
theorem trim_of_tr : ∀ {p : List Int}, Tr p → trim p = p
  | [], _ => rfl
  | a :: p, h => by
    rw [tr_cons] at h
    unfold trim
    split at h
    · rename_i hp
      subst hp
      simp [trim, h]
    · rename_i hp
      rw [trim_of_tr h, if_neg (fun z => hp z.2)]
/-- values far out tell the numbers -/
theorem ev_zero : ∀ (p : List Int) (N : Int), (∀ x, N < x → ev x p = 0) → ∀ a ∈ p, a = 0
  | [], _, _, a, h => by cases h
  | b :: p, N, h, a, ha => by
    have hb : b = 0 := by
      have h1 := h (N.natAbs + b.natAbs + 1) (by omega)
      unfold ev at h1
      have hd : ((N.natAbs + b.natAbs + 1 : Nat) : Int) ∣ b := ⟨-ev (N.natAbs + b.natAbs + 1) p, by
        have : ((N.natAbs + b.natAbs + 1 : Nat) : Int) = (N.natAbs : Int) + b.natAbs + 1 := by omega
        rw [this, Int.mul_neg]; omega⟩
      have := Int.natAbs_dvd_natAbs.mpr hd
      rcases Nat.eq_zero_or_pos b.natAbs with z | z
      · omega
      · have := Nat.le_of_dvd z this
        omega
    subst hb
    rcases List.mem_cons.mp ha with rfl | ha
    · rfl
    · refine ev_zero p (max N 0) (fun x hx => ?_) a ha
      have h1 := h x (by omega)
      unfold ev at h1
      have h2 : x * ev x p = 0 := by omega
      rcases Int.mul_eq_zero.mp h2 with z | z
      · omega
      · exact z
/-- one less the other, number by number -/
def sub2 : List Int → List Int → List Int
  | [], [] => []
  | [], b :: q => -b :: sub2 [] q
  | a :: p, [] => a :: sub2 p []
  | a :: p, b :: q => (a - b) :: sub2 p q
theorem ev_sub2 (x : Int) : ∀ p q, ev x (sub2 p q) = ev x p - ev x q
  | [], [] => by simp [sub2, ev]
  | [], b :: q => by
    have h := ev_sub2 x [] q
    unfold sub2 ev
    rw [h]
    unfold ev
    grind
  | a :: p, [] => by
    have h := ev_sub2 x p []
    unfold sub2 ev
    rw [h]
    unfold ev
    grind
  | a :: p, b :: q => by
    have h := ev_sub2 x p q
    unfold sub2 ev
    rw [h]
    grind
theorem sub2_zero : ∀ {p q : List Int}, Tr p → Tr q → (∀ a ∈ sub2 p q, a = 0) → p = q
  | [], [], _, _, _ => rfl
  | [], b :: q, _, hq, h => by
    exfalso
    have hz : ∀ c ∈ b :: q, c = 0 := by
      have : ∀ (q : List Int), (∀ a ∈ sub2 [] q, a = 0) → ∀ c ∈ q, c = 0 := by
        intro q
        induction q with
        | nil => intro _ c hc; cases hc
        | cons d q ih =>
          intro h c hc
          unfold sub2 at h
          rcases List.mem_cons.mp hc with rfl | hc
          · have := h (-c) List.mem_cons_self; omega
          · exact ih (fun a ha => h a (List.mem_cons_of_mem _ ha)) c hc
      exact this _ h
    exact hq (by simp) (hz _ (List.getLast_mem _))
  | a :: p, [], hp, _, h => by
    exfalso
    have hz : ∀ c ∈ a :: p, c = 0 := by
      have : ∀ (q : List Int), (∀ a ∈ sub2 q [], a = 0) → ∀ c ∈ q, c = 0 := by
        intro q
        induction q with
        | nil => intro _ c hc; cases hc
        | cons d q ih =>
          intro h c hc
          unfold sub2 at h
          rcases List.mem_cons.mp hc with rfl | hc
          · exact h c List.mem_cons_self
          · exact ih (fun a ha => h a (List.mem_cons_of_mem _ ha)) c hc
      exact this _ h
    exact hp (by simp) (hz _ (List.getLast_mem _))
  | a :: p, b :: q, hp, hq, h => by
    unfold sub2 at h
    have hab : a = b := by have := h (a - b) List.mem_cons_self; omega
    subst hab
    have h' : ∀ c ∈ sub2 p q, c = 0 := fun c hc => h c (List.mem_cons_of_mem _ hc)
    rw [tr_cons] at hp hq
    have tp : Tr p := by
      split at hp
      · rename_i z; subst z; exact tr_nil
      · exact hp
    have tq : Tr q := by
      split at hq
      · rename_i z; subst z; exact tr_nil
      · exact hq
    rw [sub2_zero tp tq h']
/-- without noughts at their ends, polynomials of the same values are the same -/
theorem ext {p q : List Int} (hp : Tr p) (hq : Tr q) (h : ∀ x, ev x p = ev x q) : p = q :=
  sub2_zero hp hq (ev_zero _ 0 fun x _ => by rw [ev_sub2, h x]; omega)
theorem trim_ext {p q : List Int} (h : ∀ x, ev x p = ev x q) : trim p = trim q := ext (tr_trim p) (tr_trim q) fun x => by rw [ev_trim, ev_trim, h]
/-! ### sums, multiples -/
theorem ev_map_mul (x c : Int) : ∀ p, ev x (p.map fun a => a * c) = ev x p * c
  | [] => by simp [ev]
  | a :: p => by
    have h := ev_map_mul x c p
    simp only [List.map_cons, ev, h]
    grind
theorem nrm_map_mul (c : Int) : ∀ p, nrm (p.map fun a => a * c) = nrm p * c.natAbs
  | [] => by simp [nrm]
  | a :: p => by
    have h := nrm_map_mul c p
    simp only [List.map_cons, nrm, h, Int.natAbs_mul, Nat.add_mul]
/-- the longer one with the shorter one added -/
def addL : List Int → List Int → List Int
  | [], _ => []
  | a :: p, [] => (a + 0) :: addL p []
  | a :: p, b :: q => (a + b) :: addL p q
theorem ev_addL (x : Int) : ∀ {p q : List Int}, q.length ≤ p.length → ev x (addL p q) = ev x p + ev x q
  | [], [], _ => by simp [addL, ev]
  | a :: p, [], _ => by
    have h := ev_addL x (p := p) (q := []) (by simp)
    simp only [addL, ev] at h ⊢
    rw [h]
    grind
  | a :: p, b :: q, hl => by
    have h := ev_addL x (p := p) (q := q) (by simpa using hl)
    simp only [addL, ev] at h ⊢
    rw [h]
    grind
theorem nrm_addL : ∀ {p q : List Int}, nrm (addL p q) ≤ nrm p + nrm q
  | [], q => by simp [addL, nrm]
  | a :: p, [] => by
    have h := nrm_addL (p := p) (q := [])
    simp only [addL, nrm] at h ⊢
    omega
  | a :: p, b :: q => by
    have h := nrm_addL (p := p) (q := q)
    simp only [addL, nrm] at h ⊢
    omega
/-! ### products, as the loops make them -/
/-- c times q added to f from the place k on -/
def addFrom (c : Int) : Nat → List Int → List Int → List Int
  | _, [], f => f
  | k, b :: q, f => addFrom c (k + 1) q (f.set k (f.getD k 0 + c * b))
theorem addFrom_len (c : Int) : ∀ (q : List Int) (k : Nat) (f : List Int), (addFrom c k q f).length = f.length
  | [], _, _ => rfl
  | b :: q, k, f => by unfold addFrom; rw [addFrom_len c q, List.length_set]
theorem ev_set (x d : Int) : ∀ (f : List Int) (k : Nat), k < f.length → ev x (f.set k (f.getD k 0 + d)) = ev x f + x ^ k * d
  | a :: f, 0, _ => by simp [ev]; grind
  | a :: f, k + 1, h => by
    have h := ev_set x d f k (by simpa using h)
    simp only [List.set_cons_succ, List.getD_cons_succ, ev, h, Int.pow_succ]
    grind
theorem ev_addFrom (x c : Int) : ∀ (q : List Int) (k : Nat) (f : List Int), k + q.length ≤ f.length → ev x (addFrom c k q f) = ev x f + x ^ k * (c * ev x q)
  | [], _, _, _ => by simp [addFrom, ev]
  | b :: q, k, f, h => by
    simp only [List.length_cons] at h
    unfold addFrom
    rw [ev_addFrom x c q (k + 1) _ (by rw [List.length_set]; omega), ev_set x _ f k (by omega)]
    simp only [ev, Int.pow_succ]
    grind
theorem nrm_set (d : Int) : ∀ (f : List Int) (k : Nat), nrm (f.set k (f.getD k 0 + d)) ≤ nrm f + d.natAbs
  | [], _ => by simp [nrm]
  | a :: f, 0 => by simp [nrm]; omega
  | a :: f, k + 1 => by
    have h := nrm_set d f k
    simp only [List.set_cons_succ, List.getD_cons_succ, nrm]
    omega
theorem nrm_addFrom (c : Int) : ∀ (q : List Int) (k : Nat) (f : List Int), nrm (addFrom c k q f) ≤ nrm f + c.natAbs * nrm q
  | [], _, _ => by simp [addFrom, nrm]
  | b :: q, k, f => by
    have h := nrm_addFrom c q (k + 1) (f.set k (f.getD k 0 + c * b))
    have h2 := nrm_set (c * b) f k
    unfold addFrom
    simp only [nrm, Nat.mul_add, Int.natAbs_mul] at h h2 ⊢
    omega
theorem at_set (d : Int) (f : List Int) (k j : Nat) : (f.set k (f.getD k 0 + d)).getD j 0 = if j = k ∧ k < f.length then f.getD k 0 + d else f.getD j 0 := by
  simp only [List.getD_eq_getElem?_getD, List.getElem?_set]
  by_cases h : k = j
  · subst h
    by_cases h2 : k < f.length
    · simp [h2]
    · simp [h2]
  · rw [if_neg h, if_neg (fun z => h z.1.symm)]
theorem at_addFrom (c : Int) : ∀ (q : List Int) (k : Nat) (f : List Int) (j : Nat), k + q.length ≤ f.length → (addFrom c k q f).getD j 0 = f.getD j 0 + if k ≤ j then c * q.getD (j - k) 0 else 0
  | [], k, f, j, _ => by simp [addFrom]
  | b :: q, k, f, j, h => by
    simp only [List.length_cons] at h
    unfold addFrom
    rw [at_addFrom c q (k + 1) _ j (by rw [List.length_set]; omega), at_set]
    by_cases h1 : j = k
    · subst h1
      rw [if_pos ⟨rfl, by omega⟩, if_neg (by omega), if_pos (Nat.le_refl _)]
      simp
    · rw [if_neg (fun z => h1 z.1)]
      by_cases h2 : k ≤ j
      · have e : j - k = (j - (k + 1)) + 1 := by omega
        rw [if_pos h2, if_pos (by omega), e, List.getD_cons_succ]
      · rw [if_neg h2, if_neg (by omega)]
/-- the loop over the first one's numbers -/
def mulFrom (q : List Int) : Nat → List Int → List Int → List Int
  | _, [], f => f
  | k, a :: p, f => mulFrom q (k + 1) p (addFrom a k q f)
theorem mulFrom_len (q : List Int) : ∀ (p : List Int) (k : Nat) (f : List Int), (mulFrom q k p f).length = f.length
  | [], _, _ => rfl
  | a :: p, k, f => by unfold mulFrom; rw [mulFrom_len q p, addFrom_len]
theorem ev_mulFrom (x : Int) (q : List Int) : ∀ (p : List Int) (k : Nat) (f : List Int), p ≠ [] → k + p.length + q.length ≤ f.length + 1 → ev x (mulFrom q k p f) = ev x f + x ^ k * (ev x p * ev x q)
  | [a], k, f, _, h => by
    simp only [List.length_cons, List.length_nil] at h
    unfold mulFrom mulFrom
    rw [ev_addFrom x a q k f (by omega)]
    simp [ev]
  | a :: b :: p, k, f, _, h => by
    simp only [List.length_cons] at h
    unfold mulFrom
    rw [ev_mulFrom x q (b :: p) (k + 1) _ (by simp) (by rw [addFrom_len]; simp only [List.length_cons]; omega), ev_addFrom x a q k f (by omega)]
    simp only [ev, Int.pow_succ]
    grind
theorem nrm_mulFrom (q : List Int) : ∀ (p : List Int) (k : Nat) (f : List Int), nrm (mulFrom q k p f) ≤ nrm f + nrm p * nrm q
  | [], _, _ => by simp [mulFrom, nrm]
  | a :: p, k, f => by
    have h := nrm_mulFrom q p (k + 1) (addFrom a k q f)
    have h2 := nrm_addFrom a q k f
    unfold mulFrom
    simp only [nrm, Nat.add_mul] at h ⊢
    omega
/-- the last place -/
theorem last_mulFrom (q : List Int) (hq : q ≠ []) : ∀ (p : List Int) (k : Nat) (f : List Int) (hp : p ≠ []), k + p.length + q.length ≤ f.length + 1 →
    (mulFrom q k p f).getD (k + p.length + q.length - 2) 0 = f.getD (k + p.length + q.length - 2) 0 + p.getLast hp * q.getLast hq
  | [a], k, f, _, h => by
    have hl : 0 < q.length := List.length_pos_iff.mpr hq
    simp only [List.length_cons, List.length_nil] at h ⊢
    unfold mulFrom mulFrom
    rw [at_addFrom a q k f _ (by omega), if_pos (by omega)]
    have e : k + (0 + 1) + q.length - 2 - k = q.length - 1 := by omega
    have e2 : q.getD (q.length - 1) 0 = q.getLast hq := by
      rw [List.getLast_eq_getElem, List.getD_eq_getElem?_getD, List.getElem?_eq_getElem (by omega)]
      rfl
    rw [e, List.getLast_singleton, e2]
  | a :: b :: p, k, f, _, h => by
    have hl : 0 < q.length := List.length_pos_iff.mpr hq
    simp only [List.length_cons] at h
    unfold mulFrom
    have h1 := last_mulFrom q hq (b :: p) (k + 1) (addFrom a k q f) (by simp) (by rw [addFrom_len]; simp only [List.length_cons]; omega)
    have e : k + (a :: b :: p).length + q.length - 2 = k + 1 + (b :: p).length + q.length - 2 := by simp only [List.length_cons]; omega
    rw [e, h1, at_addFrom a q k f _ (by omega), if_pos (by simp only [List.length_cons]; omega)]
    have e2 : q.getD (k + 1 + (b :: p).length + q.length - 2 - k) 0 = 0 := by
      rw [List.getD_eq_getElem?_getD, List.getElem?_eq_none (by simp only [List.length_cons]; omega)]
      rfl
    have e3 : (a :: b :: p).getLast (by simp) = (b :: p).getLast (by simp) := List.getLast_cons (by simp)
    rw [e2, e3, Int.mul_zero, Int.add_zero]
def noughts (n : Nat) : List Int := List.replicate n 0
theorem ev_noughts (x : Int) : ∀ n, ev x (noughts n) = 0
  | 0 => rfl
  | n + 1 => by
    have h := ev_noughts x n
    unfold noughts at h ⊢
    rw [List.replicate_succ]
    simp [ev, h]
theorem nrm_noughts : ∀ n, nrm (noughts n) = 0
  | 0 => rfl
  | n + 1 => by
    have h := nrm_noughts n
    unfold noughts at h ⊢
    rw [List.replicate_succ]
    simp [nrm, h]
/-- the product -/
def mul (p q : List Int) : List Int := if p = [] ∨ q = [] then [] else mulFrom q 0 p (noughts (p.length + q.length - 1))
theorem ev_mul (x : Int) (p q : List Int) : ev x (mul p q) = ev x p * ev x q := by
  unfold mul
  split
  · rename_i h
    rcases h with rfl | rfl <;> simp [ev]
  · rename_i h
    have hp : p ≠ [] := fun z => h (.inl z)
    rw [ev_mulFrom x q p 0 _ hp (by simp [noughts]; omega), ev_noughts]
    simp
theorem nrm_mul (p q : List Int) : nrm (mul p q) ≤ nrm p * nrm q := by
  unfold mul
  split
  · simp [nrm]
  · have h := nrm_mulFrom q p 0 (noughts (p.length + q.length - 1))
    rw [nrm_noughts] at h
    omega
theorem len_mul (p q : List Int) : (mul p q).length ≤ p.length + q.length - 1 := by
  unfold mul
  split
  · simp
  · rw [mulFrom_len]; simp [noughts]
theorem tr_mul {p q : List Int} (hp : Tr p) (hq : Tr q) : Tr (mul p q) := by
  unfold mul
  split
  · exact tr_nil
  · rename_i h
    have np : p ≠ [] := fun z => h (.inl z)
    have nq : q ≠ [] := fun z => h (.inr z)
    have lp : 0 < p.length := List.length_pos_iff.mpr np
    have lq : 0 < q.length := List.length_pos_iff.mpr nq
    intro hne
    have hl := mulFrom_len q p 0 (noughts (p.length + q.length - 1))
    have h1 := last_mulFrom q nq p 0 (noughts (p.length + q.length - 1)) np (by simp [noughts]; omega)
    have e0 : (noughts (p.length + q.length - 1)).getD (0 + p.length + q.length - 2) 0 = 0 := by
      simp only [noughts, List.getD_eq_getElem?_getD, List.getElem?_replicate]
      split <;> rfl
    rw [e0] at h1
    have hn : (noughts (p.length + q.length - 1)).length = p.length + q.length - 1 := by simp [noughts]
    rw [List.getLast_eq_getElem]
    have e1 : (mulFrom q 0 p (noughts (p.length + q.length - 1))).length - 1 = 0 + p.length + q.length - 2 := by rw [hl, hn]; omega
    have h2 : (mulFrom q 0 p (noughts (p.length + q.length - 1)))[(mulFrom q 0 p (noughts (p.length + q.length - 1))).length - 1]'(by rw [hl, hn]; omega) = (mulFrom q 0 p (noughts (p.length + q.length - 1))).getD (0 + p.length + q.length - 2) 0 := by
      rw [List.getD_eq_getElem?_getD, ← e1, List.getElem?_eq_getElem (by rw [hl, hn]; omega)]
      rfl
    rw [h2, h1]
    simp only [Int.zero_add]
    exact Int.mul_ne_zero (hp np) (hq nq)
end RP
end Fx

/-! RP2: slopes, tops, noughts at the end. -/
namespace Fx
namespace RP
/-! ### slopes -/
def derFrom : Nat → List Int → List Int
  | _, [] => []
  | k, a :: p => (k : Int) * a :: derFrom (k + 1) p
def evd (x : Int) : List Int → Int
  | [] => 0
  | _ :: p => ev x p + x * evd x p
theorem ev_derFrom (x : Int) : ∀ (p : List Int) (k : Nat), ev x (derFrom k p) = k * ev x p + x * evd x p
  | [], k => by simp [derFrom, ev, evd]
  | a :: p, k => by
    have h := ev_derFrom x p (k + 1)
    simp only [derFrom, ev, evd, h]
    have : ((k + 1 : Nat) : Int) = (k : Int) + 1 := by omega
    rw [this]
    grind
theorem ev_der (x : Int) (p : List Int) : ev x (derFrom 0 p).tail = evd x p := by
  cases p with
  | nil => rfl
  | cons a p =>
    simp only [derFrom, List.tail_cons, ev_derFrom, evd]
    simp
def dp (x : Int) : Nat → Int
  | 0 => 0
  | k + 1 => x ^ k + x * dp x k
theorem evd_set (x d : Int) : ∀ (f : List Int) (k : Nat), k < f.length → evd x (f.set k (f.getD k 0 + d)) = evd x f + dp x k * d
  | a :: f, 0, _ => by simp [evd, dp]
  | a :: f, k + 1, h => by
    have h' : k < f.length := by simpa using h
    have h1 := evd_set x d f k h'
    have h2 := ev_set x d f k h'
    simp only [List.set_cons_succ, List.getD_cons_succ, evd, h1, h2, dp]
    grind
theorem evd_addFrom (x c : Int) : ∀ (q : List Int) (k : Nat) (f : List Int), k + q.length ≤ f.length → evd x (addFrom c k q f) = evd x f + c * (dp x k * ev x q + x ^ k * evd x q)
  | [], _, _, _ => by simp [addFrom, ev, evd]
  | b :: q, k, f, h => by
    simp only [List.length_cons] at h
    unfold addFrom
    rw [evd_addFrom x c q (k + 1) _ (by rw [List.length_set]; omega), evd_set x _ f k (by omega)]
    simp only [ev, evd, dp, Int.pow_succ]
    grind
theorem evd_mulFrom (x : Int) (q : List Int) : ∀ (p : List Int) (k : Nat) (f : List Int), p ≠ [] → k + p.length + q.length ≤ f.length + 1 →
    evd x (mulFrom q k p f) = evd x f + (dp x k * (ev x p * ev x q) + x ^ k * (evd x p * ev x q + ev x p * evd x q))
  | [a], k, f, _, h => by
    simp only [List.length_cons, List.length_nil] at h
    unfold mulFrom mulFrom
    rw [evd_addFrom x a q k f (by omega)]
    simp only [ev, evd]
    grind
  | a :: b :: p, k, f, _, h => by
    simp only [List.length_cons] at h
    unfold mulFrom
    rw [evd_mulFrom x q (b :: p) (k + 1) _ (by simp) (by rw [addFrom_len]; simp only [List.length_cons]; omega), evd_addFrom x a q k f (by omega)]
    generalize b :: p = r
    simp only [ev, evd, dp, Int.pow_succ]
    grind
theorem evd_noughts (x : Int) : ∀ n, evd x (noughts n) = 0
  | 0 => rfl
  | n + 1 => by
    have h := evd_noughts x n
    have h2 := ev_noughts x n
    unfold noughts at h h2 ⊢
    rw [List.replicate_succ]
    simp [evd, h, h2]
theorem evd_mul (x : Int) (p q : List Int) : evd x (mul p q) = evd x p * ev x q + ev x p * evd x q := by
  unfold mul
  split
  · rename_i h
    rcases h with rfl | rfl <;> simp [ev, evd]
  · rename_i h
    have hp : p ≠ [] := fun z => h (.inl z)
    rw [evd_mulFrom x q p 0 _ hp (by simp [noughts]; omega), evd_noughts]
    simp [dp]
/-- the slope -/
def der (p : List Int) : List Int := trim (derFrom 0 p).tail
theorem ev_der' (x : Int) (p : List Int) : ev x (der p) = evd x p := by unfold der; rw [ev_trim, ev_der]
theorem tr_der (p : List Int) : Tr (der p) := tr_trim _
theorem len_derFrom : ∀ (p : List Int) (k : Nat), (derFrom k p).length = p.length
  | [], _ => rfl
  | a :: p, k => by simp [derFrom, len_derFrom p (k + 1)]
theorem len_der (p : List Int) : (der p).length ≤ p.length := by
  unfold der
  have h := len_trim (derFrom 0 p).tail
  rw [List.length_tail, len_derFrom] at h
  omega
theorem nrm_tail : ∀ p : List Int, nrm p.tail ≤ nrm p
  | [] => Nat.le_refl _
  | a :: p => by simp [nrm]
theorem nrm_derFrom : ∀ (p : List Int) (k : Nat), nrm (derFrom k p) ≤ (k + p.length) * nrm p
  | [], k => by simp [derFrom, nrm]
  | a :: p, k => by
    have h := nrm_derFrom p (k + 1)
    have e : k + (a :: p).length = k + 1 + p.length := by simp; omega
    rw [e]
    simp only [derFrom, nrm, Int.natAbs_mul, Int.natAbs_natCast, Nat.mul_add]
    have h2 : k * a.natAbs ≤ (k + 1 + p.length) * a.natAbs := Nat.mul_le_mul_right _ (by omega)
    omega
theorem nrm_der (p : List Int) : nrm (der p) ≤ p.length * nrm p := by
  unfold der
  rw [nrm_trim]
  have h := nrm_derFrom p 0
  have h2 := nrm_tail (derFrom 0 p)
  rw [Nat.zero_add] at h
  omega
/-! ### tops: the value at u / v times a power of v -/
def top (u v : Int) : List Int → Int
  | [] => 0
  | a :: p => top u v p * u + a * v ^ p.length
theorem top_set (u v d : Int) : ∀ (f : List Int) (k : Nat), k < f.length → top u v (f.set k (f.getD k 0 + d)) = top u v f + d * (u ^ k * v ^ (f.length - 1 - k))
  | a :: f, 0, _ => by simp [top]; grind
  | a :: f, k + 1, h => by
    have h' : k < f.length := by simpa using h
    have h1 := top_set u v d f k h'
    have e : (a :: f).length - 1 - (k + 1) = f.length - 1 - k := by simp only [List.length_cons]; omega
    rw [e]
    simp only [List.set_cons_succ, List.getD_cons_succ, top, h1, List.length_set, Int.pow_succ]
    grind
theorem top_addFrom (u v c : Int) : ∀ (q : List Int) (k : Nat) (f : List Int), k + q.length ≤ f.length → top u v (addFrom c k q f) = top u v f + c * (u ^ k * v ^ (f.length - k - q.length) * top u v q)
  | [], _, _, _ => by simp [addFrom, top]
  | b :: q, k, f, h => by
    simp only [List.length_cons] at h
    unfold addFrom
    rw [top_addFrom u v c q (k + 1) _ (by rw [List.length_set]; omega), top_set u v _ f k (by omega), List.length_set]
    have e1 : f.length - k - (b :: q).length = f.length - (k + 1) - q.length := by simp only [List.length_cons]; omega
    have e2 : f.length - 1 - k = (f.length - (k + 1) - q.length) + q.length := by omega
    rw [e1, e2]
    simp only [top, Int.pow_succ, Int.pow_add]
    grind
theorem top_mulFrom (u v : Int) (q : List Int) : ∀ (p : List Int) (k : Nat) (f : List Int), p ≠ [] → k + p.length + q.length ≤ f.length + 1 →
    top u v (mulFrom q k p f) = top u v f + u ^ k * v ^ (f.length + 1 - k - p.length - q.length) * (top u v p * top u v q)
  | [a], k, f, _, h => by
    simp only [List.length_cons, List.length_nil] at h
    unfold mulFrom mulFrom
    rw [top_addFrom u v a q k f (by omega)]
    have e : f.length + 1 - k - [a].length - q.length = f.length - k - q.length := by simp only [List.length_cons, List.length_nil]; omega
    rw [e]
    simp only [top, List.length_nil, Int.pow_zero]
    grind
  | a :: b :: p, k, f, _, h => by
    simp only [List.length_cons] at h
    unfold mulFrom
    rw [top_mulFrom u v q (b :: p) (k + 1) _ (by simp) (by rw [addFrom_len]; simp only [List.length_cons]; omega), top_addFrom u v a q k f (by omega), addFrom_len]
    have e1 : f.length + 1 - (k + 1) - (b :: p).length - q.length = f.length + 1 - k - (a :: b :: p).length - q.length := by simp only [List.length_cons]; omega
    have e2 : f.length - k - q.length = (f.length + 1 - k - (a :: b :: p).length - q.length) + (b :: p).length := by simp only [List.length_cons]; omega
    rw [e1, e2]
    generalize hr : b :: p = r
    simp only [top, Int.pow_succ, Int.pow_add]
    grind
theorem top_noughts (u v : Int) : ∀ n, top u v (noughts n) = 0
  | 0 => rfl
  | n + 1 => by
    have h := top_noughts u v n
    unfold noughts at h ⊢
    rw [List.replicate_succ]
    simp [top, h]
theorem top_mul (u v : Int) (p q : List Int) : top u v (mul p q) = top u v p * top u v q := by
  unfold mul
  split
  · rename_i h
    rcases h with rfl | rfl <;> simp [top]
  · rename_i h
    have hp : p ≠ [] := fun z => h (.inl z)
    have lp : 0 < p.length := List.length_pos_iff.mpr hp
    rw [top_mulFrom u v q p 0 _ hp (by simp [noughts]; omega), top_noughts]
    have e : (noughts (p.length + q.length - 1)).length + 1 - 0 - p.length - q.length = 0 := by simp [noughts]; omega
    rw [e]
    simp
/-! ### noughts at the end, by places -/
theorem trim_take : ∀ (p : List Int) (m : Nat), m ≤ p.length → (∀ j, m ≤ j → p.getD j 0 = 0) → (m = 0 ∨ p.getD (m - 1) 0 ≠ 0) → p.take m = trim p
  | [], m, h, _, _ => by simp [trim]
  | a :: p, 0, _, hz, _ => by
    have h1 := trim_take p 0 (Nat.zero_le _) (fun j _ => by have := hz (j + 1) (Nat.zero_le _); simpa using this) (.inl rfl)
    have h2 := hz 0 (Nat.le_refl _)
    simp at h1 h2
    simp [trim, ← h1, h2]
  | a :: p, m + 1, h, hz, hl => by
    have h' : m ≤ p.length := by simpa using h
    have hz' : ∀ j, m ≤ j → p.getD j 0 = 0 := fun j hj => by have := hz (j + 1) (by omega); simpa using this
    cases m with
    | zero =>
      have h1 := trim_take p 0 (Nat.zero_le _) hz' (.inl rfl)
      rcases hl with hl | hl
      · cases hl
      · simp at h1 hl
        simp [trim, ← h1, hl]
    | succ m =>
      have hl' : p.getD m 0 ≠ 0 := by
        rcases hl with hl | hl
        · cases hl
        · simpa using hl
      have h1 := trim_take p (m + 1) h' hz' (.inr (by simpa using hl'))
      have hne : trim p ≠ [] := by
        rw [← h1]
        intro z
        have := congrArg List.length z
        simp at this
        subst this
        simp at h'
      rw [List.take_succ_cons, h1]
      show a :: trim p = if a = 0 ∧ trim p = [] then [] else a :: trim p
      rw [if_neg (fun z => hne z.2)]
end RP
end Fx

/-! RE: == and repr of tuples of ints. -/
namespace Fx
open PySem PySem.Spec PyProof.Rows L2
theorem eqv_ints : ∀ p q : List Int, PyData.eqvAll (p.map PyData.int) (q.map PyData.int) = decide (p = q)
  | [], [] => by simp [PyData.eqvAll]
  | [], b :: q => by simp [PyData.eqvAll]
  | a :: p, [] => by simp [PyData.eqvAll]
  | a :: p, b :: q => by
    have ih := eqv_ints p q
    rw [Bool.eq_iff_iff] at ih ⊢
    simp at ih
    simp [PyData.eqvAll, PyData.eqv, ih]
theorem depthA_ints (p : List Int) : PyData.depthAll (p.map PyData.int) = 0 := by
  induction p with
  | nil => rfl
  | cons a p ih => simp [PyData.depthAll, PyData.depth, ih]
theorem eqT_tints (p q : List Int) : eqT (.tup (p.map T.int)) (.tup (q.map T.int)) = some (decide (p = q)) := by
  simp only [eqT, toD, toDs_ints, Option.map_some, Option.bind_some, PyData.depth, depthA_ints]
  simp [PyData.eqv, eqv_ints]
theorem eqT_tints0 (p : List Int) : eqT (.tup (p.map T.int)) (.tup []) = some (decide (p = [])) := eqT_tints p []
theorem eqT_lints (p q : List Int) : eqT (.lst (p.map T.int)) (.lst (q.map T.int)) = some (decide (p = q)) := by
  simp only [eqT, toD, toDs_ints, Option.map_some, Option.bind_some, PyData.depth, depthA_ints]
  simp [PyData.eqv, eqv_ints]
theorem rep_noughts (n : Nat) : (List.replicate n [T.int 0]).flatten = (RP.noughts n).map T.int := by
  unfold RP.noughts
  induction n with
  | zero => rfl
  | succ n ih => rw [List.replicate_succ, List.flatten_cons, ih, List.replicate_succ]; rfl
theorem addFrom_0 : ∀ (q : List Int) (k : Nat) (f : List Int), RP.addFrom 0 k q f = f
  | [], _, _ => rfl
  | b :: q, k, f => by
    unfold RP.addFrom
    rw [Int.zero_mul, Int.add_zero]
    have e : f.set k (f.getD k 0) = f := by
      by_cases h : k < f.length
      · rw [List.getD_eq_getElem?_getD, List.getElem?_eq_getElem h]
        exact List.set_getElem_self h
      · exact List.set_eq_of_length_le (by omega)
    rw [e, addFrom_0 q]
end Fx

/-! RG: polynomials at ratios. -/
namespace Fx
namespace RP
def evq (x : Rat) : List Int → Rat
  | [] => 0
  | a :: p => (a : Rat) + x * evq x p
theorem cz : ((0 : Int) : Rat) = 0 := rfl
theorem cadd (a b : Int) : ((a + b : Int) : Rat) = a + b := Rat.intCast_add a b
theorem cmul (a b : Int) : ((a * b : Int) : Rat) = a * b := Rat.intCast_mul a b
theorem evq_trim (x : Rat) : ∀ p, evq x (trim p) = evq x p
  | [] => rfl
  | a :: p => by
    have h := evq_trim x p
    unfold trim
    split
    · rename_i hc
      have h0 : evq x p = 0 := by rw [← h, hc.2]; rfl
      show 0 = (a : Rat) + x * evq x p
      rw [hc.1, h0, cz]
      grind
    · unfold evq
      rw [h]
theorem evq_map_mul (x : Rat) (c : Int) : ∀ p, evq x (p.map fun a => a * c) = evq x p * c
  | [] => by simp [evq]
  | a :: p => by
    have h := evq_map_mul x c p
    simp only [List.map_cons, evq, h, cmul]
    grind
theorem evq_addL (x : Rat) : ∀ {p q : List Int}, q.length ≤ p.length → evq x (addL p q) = evq x p + evq x q
  | [], [], _ => by simp [addL, evq, Rat.add_zero]
  | a :: p, [], _ => by
    have h := evq_addL x (p := p) (q := []) (by simp)
    simp only [addL, evq, cadd, cz] at h ⊢
    rw [h]
    grind
  | a :: p, b :: q, hl => by
    have h := evq_addL x (p := p) (q := q) (by simpa using hl)
    simp only [addL, evq, cadd] at h ⊢
    rw [h]
    grind
theorem evq_set (x : Rat) (d : Int) : ∀ (f : List Int) (k : Nat), k < f.length → evq x (f.set k (f.getD k 0 + d)) = evq x f + x ^ k * d
  | a :: f, 0, _ => by simp [evq, cadd]; grind
  | a :: f, k + 1, h => by
    have h := evq_set x d f k (by simpa using h)
    simp only [List.set_cons_succ, List.getD_cons_succ, evq, h, Rat.pow_succ]
    grind
theorem evq_addFrom (x : Rat) (c : Int) : ∀ (q : List Int) (k : Nat) (f : List Int), k + q.length ≤ f.length → evq x (addFrom c k q f) = evq x f + x ^ k * (c * evq x q)
  | [], _, _, _ => by simp [addFrom, evq, Rat.add_zero]
  | b :: q, k, f, h => by
    simp only [List.length_cons] at h
    unfold addFrom
    rw [evq_addFrom x c q (k + 1) _ (by rw [List.length_set]; omega), evq_set x _ f k (by omega)]
    simp only [evq, Rat.pow_succ, cmul]
    grind
theorem evq_mulFrom (x : Rat) (q : List Int) : ∀ (p : List Int) (k : Nat) (f : List Int), p ≠ [] → k + p.length + q.length ≤ f.length + 1 → evq x (mulFrom q k p f) = evq x f + x ^ k * (evq x p * evq x q)
  | [a], k, f, _, h => by
    simp only [List.length_cons, List.length_nil] at h
    unfold mulFrom mulFrom
    rw [evq_addFrom x a q k f (by omega)]
    simp [evq, Rat.add_zero]
  | a :: b :: p, k, f, _, h => by
    simp only [List.length_cons] at h
    unfold mulFrom
    rw [evq_mulFrom x q (b :: p) (k + 1) _ (by simp) (by rw [addFrom_len]; simp only [List.length_cons]; omega), evq_addFrom x a q k f (by omega)]
    simp only [evq, Rat.pow_succ]
    grind
theorem evq_noughts (x : Rat) : ∀ n, evq x (noughts n) = 0
  | 0 => rfl
  | n + 1 => by
    have h := evq_noughts x n
    unfold noughts at h ⊢
    rw [List.replicate_succ]
    simp [evq, h, Rat.add_zero]
theorem evq_mul (x : Rat) (p q : List Int) : evq x (mul p q) = evq x p * evq x q := by
  unfold mul
  split
  · rename_i h
    rcases h with rfl | rfl <;> simp [evq]
  · rename_i h
    have hp : p ≠ [] := fun z => h (.inl z)
    rw [evq_mulFrom x q p 0 _ hp (by simp [noughts]; omega), evq_noughts]
    simp [Rat.zero_add]
theorem evq_int (x : Int) : ∀ p, evq x p = ((ev x p : Int) : Rat)
  | [] => rfl
  | a :: p => by rw [evq, ev, evq_int x p, cadd, cmul]
/-- Horner with a worth for x and another one for 1 -/
def topq (w v : Rat) : List Int → Rat
  | [] => 0
  | a :: p => topq w v p * w + a * v ^ p.length
theorem topq_div (w v : Rat) (hv : v ≠ 0) : ∀ p : List Int, topq w v p * v = v ^ p.length * evq (w / v) p
  | [] => by simp [topq, evq]
  | a :: p => by
    have h := topq_div w v hv p
    have e : w / v * v = w := Rat.div_mul_cancel hv
    simp only [topq, evq, List.length_cons, Rat.pow_succ]
    grind
theorem topq_int (u v : Int) : ∀ p : List Int, topq u v p = ((top u v p : Int) : Rat)
  | [] => rfl
  | a :: p => by
    rw [topq, top, topq_int u v p, cadd, cmul, cmul]
    congr 2
    induction p.length with
    | zero => rfl
    | succ n ih => rw [Rat.pow_succ, Int.pow_succ, ih, cmul]
theorem cinj {a b : Int} (h : (a : Rat) = (b : Rat)) : a = b := Rat.intCast_inj.mp h
/-- the sum as the program makes it -/
def padd (p q : List Int) : List Int := if q.length ≤ p.length then trim (addL p q) else trim (addL q p)
theorem tr_padd (p q : List Int) : Tr (padd p q) := by unfold padd; split <;> exact tr_trim _
theorem ev_padd (x : Int) (p q : List Int) : ev x (padd p q) = ev x p + ev x q := by
  unfold padd
  split
  · rename_i h
    rw [ev_trim, ev_addL x h]
  · rw [ev_trim, ev_addL x (by omega), Int.add_comm]
theorem evq_padd (x : Rat) (p q : List Int) : evq x (padd p q) = evq x p + evq x q := by
  unfold padd
  split
  · rename_i h
    rw [evq_trim, evq_addL x h]
  · rw [evq_trim, evq_addL x (by omega), Rat.add_comm]
theorem len_addL : ∀ (p q : List Int), (addL p q).length = p.length
  | [], _ => rfl
  | a :: p, [] => by simp [addL, len_addL p []]
  | a :: p, b :: q => by simp [addL, len_addL p q]
theorem len_padd (p q : List Int) : (padd p q).length ≤ max p.length q.length := by
  unfold padd
  split
  · have := len_trim (addL p q)
    rw [len_addL] at this
    omega
  · have := len_trim (addL q p)
    rw [len_addL] at this
    omega
theorem nrm_padd (p q : List Int) : nrm (padd p q) ≤ nrm p + nrm q := by
  unfold padd
  split
  · rw [nrm_trim]; exact nrm_addL
  · rw [nrm_trim, Nat.add_comm]; exact nrm_addL
/-- Horner with a polynomial for x and a number for 1 -/
def hor (line : List Int) (v : Int) : List Int → List Int
  | [] => []
  | c :: p => padd (mul (hor line v p) line) (trim [c * v ^ p.length])
theorem tr_hor {line : List Int} (h : Tr line) (v : Int) : ∀ p, Tr (hor line v p)
  | [] => tr_nil
  | c :: p => tr_padd _ _
theorem cpow (v : Int) : ∀ n : Nat, ((v ^ n : Int) : Rat) = (v : Rat) ^ n
  | 0 => rfl
  | n + 1 => by rw [Rat.pow_succ, Int.pow_succ, cmul, cpow v n]
theorem evq_hor (x : Rat) (line : List Int) (v : Int) : ∀ p, evq x (hor line v p) = topq (evq x line) v p
  | [] => rfl
  | c :: p => by
    rw [hor, evq_padd, evq_mul, evq_trim, evq_hor x line v p, topq]
    simp only [evq, cmul, cpow]
    grind
theorem len_hor {line : List Int} (hl : line.length ≤ 2) (v : Int) : ∀ p, (hor line v p).length ≤ p.length
  | [] => Nat.le_refl _
  | c :: p => by
    have ih := len_hor hl v p
    have h1 := len_padd (mul (hor line v p) line) (trim [c * v ^ p.length])
    have h2 := len_mul (hor line v p) line
    have h3 := len_trim [c * v ^ p.length]
    simp only [List.length_cons, List.length_nil] at h3 ⊢
    rw [hor]
    omega
theorem nrm_hor {line : List Int} {v : Int} {M : Nat} (h1 : nrm line ≤ M) (h2 : v.natAbs ≤ M) (hM : 0 < M) : ∀ p, nrm (hor line v p) ≤ nrm p * M ^ p.length
  | [] => by simp [hor, nrm]
  | c :: p => by
    have ih := nrm_hor h1 h2 hM p
    have a1 := nrm_padd (mul (hor line v p) line) (trim [c * v ^ p.length])
    have a2 := nrm_mul (hor line v p) line
    have a3 : nrm (trim [c * v ^ p.length]) = c.natAbs * v.natAbs ^ p.length := by rw [nrm_trim]; simp [nrm, Int.natAbs_mul, Int.natAbs_pow]
    have a4 : v.natAbs ^ p.length ≤ M ^ p.length := Nat.pow_le_pow_left h2 _
    have a5 : nrm (hor line v p) * nrm line ≤ nrm p * M ^ p.length * M := Nat.mul_le_mul ih h1
    have a6 : c.natAbs * v.natAbs ^ p.length ≤ c.natAbs * M ^ p.length := Nat.mul_le_mul_left _ a4
    have a7 : M ^ p.length ≤ M ^ p.length * M := Nat.le_mul_of_pos_right _ hM
    have a8 : c.natAbs * M ^ p.length ≤ c.natAbs * (M ^ p.length * M) := Nat.mul_le_mul_left _ a7
    rw [hor, List.length_cons, Nat.pow_succ, nrm, Nat.add_mul]
    rw [Nat.mul_assoc] at a5
    omega
/-! ### contents -/
def cont : List Int → Nat
  | [] => 0
  | a :: p => Nat.gcd a.natAbs (cont p)
theorem cont_dvd : ∀ {p : List Int} {a : Int}, a ∈ p → (cont p : Int) ∣ a
  | b :: p, a, h => by
    rw [cont]
    rcases List.mem_cons.mp h with rfl | h
    · exact Int.ofNat_dvd_left.mpr (Nat.gcd_dvd_left _ _)
    · exact Int.dvd_trans (Int.natCast_dvd_natCast.mpr (Nat.gcd_dvd_right _ _)) (cont_dvd h)
theorem dvd_cont {d : Nat} : ∀ {p : List Int}, (∀ a ∈ p, (d : Int) ∣ a) → d ∣ cont p
  | [], _ => Nat.dvd_zero d
  | a :: p, h => Nat.dvd_gcd (Int.ofNat_dvd_left.mp (h a List.mem_cons_self)) (dvd_cont fun b hb => h b (List.mem_cons_of_mem _ hb))
theorem cont_mul (c : Int) : ∀ p : List Int, cont (p.map fun a => a * c) = cont p * c.natAbs
  | [] => by simp [cont]
  | a :: p => by rw [List.map_cons, cont, cont, cont_mul c p, Int.natAbs_mul, Nat.gcd_mul_right]
theorem cont_zero : ∀ {p : List Int}, cont p = 0 → ∀ a ∈ p, a = 0
  | b :: p, h, a, ha => by
    rw [cont] at h
    have h1 := Nat.eq_zero_of_gcd_eq_zero_left h
    have h2 := Nat.eq_zero_of_gcd_eq_zero_right h
    rcases List.mem_cons.mp ha with rfl | ha
    · omega
    · exact cont_zero h2 a ha
theorem cont_le {p : List Int} : cont p ≤ nrm p := by
  rcases Nat.eq_zero_or_pos (nrm p) with h | h
  · have : ∀ q : List Int, nrm q = 0 → cont q = 0 := fun q => by
      induction q with
      | nil => intro _; rfl
      | cons a q ih =>
        intro h
        rw [nrm] at h
        rw [cont, ih (by omega)]
        have : a.natAbs = 0 := by omega
        rw [this]; rfl
    rw [this p h]; omega
  · have : ∃ a ∈ p, a ≠ 0 := by
      cases hx : decide (∃ a ∈ p, a ≠ 0) with
      | true => exact of_decide_eq_true hx
      | false =>
        exfalso
        have hx := of_decide_eq_false hx
        have : ∀ q : List Int, (∀ a ∈ q, a = 0) → nrm q = 0 := fun q => by
          induction q with
          | nil => intro _; rfl
          | cons a q ih => intro h; rw [nrm, ih fun b hb => h b (List.mem_cons_of_mem _ hb), h a List.mem_cons_self]; rfl
        have := this p fun a ha => Classical.byContradiction fun hn => hx ⟨a, ha, hn⟩
        omega
    obtain ⟨a, ha, hn⟩ := this
    have h1 := Int.natAbs_dvd_natAbs.mpr (cont_dvd ha)
    have h2 := Nat.le_of_dvd (by omega) h1
    have h3 := mem_nrm ha
    rw [Int.natAbs_natCast] at h2
    omega
/-- without its content -/
def clr (p : List Int) : List Int := if cont p < 2 then p else p.map fun a => a.fdiv (cont p)
theorem clr_spec (p : List Int) : ∃ g : Nat, 0 < g ∧ p = (clr p).map (fun a => a * (g : Int)) ∧ cont (clr p) ≤ 1 := by
  unfold clr
  split
  · rename_i h
    exact ⟨1, by decide, by simp, by omega⟩
  · rename_i h
    have hg : (cont p : Int) ≠ 0 := by omega
    have e : p = (p.map fun a => a.fdiv (cont p)).map fun a => a * ((cont p : Nat) : Int) := by
      rw [List.map_map]
      have : ∀ q : List Int, (∀ a ∈ q, (cont p : Int) ∣ a) → q = q.map ((fun a => a * ((cont p : Nat) : Int)) ∘ fun a => a.fdiv (cont p)) := fun q => by
        induction q with
        | nil => intro _; rfl
        | cons a q ih =>
          intro h
          have h1 := h a List.mem_cons_self
          rw [List.map_cons, ← ih fun b hb => h b (List.mem_cons_of_mem _ hb)]
          show a :: q = a.fdiv (cont p) * (cont p : Int) :: q
          rw [Int.fdiv_mul_cancel h1]
      exact this p fun a ha => cont_dvd ha
    refine ⟨cont p, by omega, e, ?_⟩
    have h2 := congrArg cont e
    rw [cont_mul, Int.natAbs_natCast] at h2
    have : cont (p.map fun a => a.fdiv (cont p)) = 1 := by
      have h3 : cont (p.map fun a => a.fdiv (cont p)) * cont p = 1 * cont p := by omega
      exact Nat.eq_of_mul_eq_mul_right (by omega) h3
    omega
theorem tr_map_iff {p : List Int} {g : Int} (hg : g ≠ 0) : Tr (p.map fun a => a * g) ↔ Tr p := by
  constructor
  · intro h hne hz
    refine h (by simpa using hne) ?_
    rw [List.getLast_map, hz, Int.zero_mul]
  · intro h hne hz
    rw [List.getLast_map] at hz
    have hne' : p ≠ [] := by simpa using hne
    rcases Int.mul_eq_zero.mp hz with z | z
    · exact h hne' z
    · exact hg z
theorem tr_clr {p : List Int} (h : Tr p) : Tr (clr p) := by
  obtain ⟨g, h0, e, _⟩ := clr_spec p
  rw [e] at h
  exact (tr_map_iff (by omega)).mp h
theorem len_clr (p : List Int) : (clr p).length = p.length := by
  unfold clr
  split <;> simp
theorem nrm_clr (p : List Int) : nrm (clr p) ≤ nrm p := by
  obtain ⟨g, h0, e, _⟩ := clr_spec p
  have h := congrArg nrm e
  rw [nrm_map_mul, Int.natAbs_natCast] at h
  rw [h]
  exact Nat.le_mul_of_pos_right _ h0
/-- what is the same but for factors above 0 is the same, without contents -/
theorem same_of {p q : List Int} {m n : Nat} (hm : 0 < m) (hn : 0 < n) (tp : Tr p) (tq : Tr q) (cp : cont p ≤ 1) (cq : cont q ≤ 1) (h : ∀ x : Int, ev x p * m = ev x q * n) : p = q := by
  have e : (p.map fun a => a * (m : Int)) = q.map fun a => a * (n : Int) :=
    RP.ext ((tr_map_iff (by omega)).mpr tp) ((tr_map_iff (by omega)).mpr tq) fun x => by rw [ev_map_mul, ev_map_mul, h x]
  have hc := congrArg cont e
  rw [cont_mul, cont_mul, Int.natAbs_natCast, Int.natAbs_natCast] at hc
  have zero : ∀ {r : List Int}, Tr r → cont r = 0 → r = [] := fun {r} tr h0 => by
    cases r with
    | nil => rfl
    | cons a r => exact (tr (by simp) (cont_zero h0 _ (List.getLast_mem (by simp)))).elim
  rcases Nat.eq_zero_or_pos (cont p) with h0 | h0
  · have hq0 : cont q = 0 := by
      rw [h0, Nat.zero_mul] at hc
      rcases Nat.mul_eq_zero.mp hc.symm with z | z
      · exact z
      · omega
    rw [zero tp h0, zero tq hq0]
  · have hp1 : cont p = 1 := by omega
    have hq1 : cont q = 1 := by
      rcases Nat.eq_zero_or_pos (cont q) with z | z
      · rw [z, hp1] at hc; omega
      · omega
    rw [hp1, hq1] at hc
    have : m = n := by omega
    subst this
    refine RP.ext tp tq fun x => ?_
    have := h x
    exact Int.eq_of_mul_eq_mul_right (by omega) this
end RP
end Fx

/-! RH: the product's numbers; Gauss on contents. -/
namespace Fx
namespace RP
/-- the number of a product at a place -/
def conv : List Int → List Int → Nat → Int
  | [], _, _ => 0
  | a :: p, q, 0 => a * q.getD 0 0
  | a :: p, q, n + 1 => a * q.getD (n + 1) 0 + conv p q n
theorem conv_zero_list : ∀ (p : List Int) (q : List Int) (n : Nat), q = [] → conv p q n = 0
  | [], _, _, _ => rfl
  | a :: p, q, 0, h => by subst h; simp [conv]
  | a :: p, q, n + 1, h => by subst h; simp [conv, conv_zero_list p [] n rfl]
theorem at_mulFrom (q : List Int) : ∀ (p : List Int) (k : Nat) (f : List Int) (n : Nat), k + p.length + q.length ≤ f.length + 1 → q ≠ [] → (mulFrom q k p f).getD n 0 = f.getD n 0 + if k ≤ n then conv p q (n - k) else 0
  | [], k, f, n, _, _ => by simp [mulFrom, conv]
  | a :: p, k, f, n, h, hq => by
    have lq : 0 < q.length := List.length_pos_iff.mpr hq
    simp only [List.length_cons] at h
    unfold mulFrom
    have h1 : (addFrom a k q f).getD n 0 = f.getD n 0 + if k ≤ n then a * q.getD (n - k) 0 else 0 := at_addFrom a q k f n (by omega)
    by_cases hp : p = []
    · subst hp
      rw [mulFrom, h1]
      by_cases c : k ≤ n
      · rw [if_pos c, if_pos c]
        cases n - k with
        | zero => rfl
        | succ m => simp [conv]
      · rw [if_neg c, if_neg c]
    · rw [at_mulFrom q p (k + 1) _ n (by rw [addFrom_len]; omega) hq, h1]
      by_cases c : k ≤ n
      · rw [if_pos c, if_pos c]
        by_cases c2 : k + 1 ≤ n
        · rw [if_pos c2]
          have e : n - k = (n - (k + 1)) + 1 := by omega
          rw [e, conv]
          omega
        · rw [if_neg c2]
          have e : n - k = 0 := by omega
          rw [e, conv]
          omega
      · rw [if_neg c, if_neg c, if_neg (by omega)]
        omega
theorem at_mul (p q : List Int) (n : Nat) : (mul p q).getD n 0 = conv p q n := by
  unfold mul
  split
  · rename_i h
    rcases h with rfl | rfl
    · simp [conv]
    · rw [conv_zero_list p [] n rfl]; simp
  · rename_i h
    have np : p ≠ [] := fun z => h (.inl z)
    have nq : q ≠ [] := fun z => h (.inr z)
    have lp : 0 < p.length := List.length_pos_iff.mpr np
    rw [at_mulFrom q p 0 _ n (by simp [noughts]; omega) nq]
    have e0 : (noughts (p.length + q.length - 1)).getD n 0 = 0 := by
      simp only [noughts, List.getD_eq_getElem?_getD, List.getElem?_replicate]
      split <;> rfl
    rw [e0, if_pos (Nat.zero_le _)]
    simp
/-- a least divisor beyond 1 -/
theorem least_div (d : Nat) (h : 1 < d) : ∃ l, 1 < l ∧ l ∣ d ∧ ∀ m, m ∣ l → m = 1 ∨ m = l := by
  induction d using Nat.strongRecOn with
  | ind d ih =>
    by_cases c : ∃ m, m ∣ d ∧ m ≠ 1 ∧ m ≠ d
    · obtain ⟨m, h1, h2, h3⟩ := c
      have hm0 : m ≠ 0 := fun z => by subst z; have := Nat.eq_zero_of_zero_dvd h1; omega
      have hmd : m < d := by have := Nat.le_of_dvd (by omega) h1; omega
      obtain ⟨l, a1, a2, a3⟩ := ih m hmd (by omega)
      exact ⟨l, a1, Nat.dvd_trans a2 h1, a3⟩
    · exact ⟨d, h, Nat.dvd_refl _, fun m hm => Classical.byContradiction fun z => c ⟨m, hm, fun e => z (.inl e), fun e => z (.inr e)⟩⟩
theorem prime_mul {l : Nat} (h1 : 1 < l) (hl : ∀ m, m ∣ l → m = 1 ∨ m = l) {a b : Int} (h : (l : Int) ∣ a * b) : (l : Int) ∣ a ∨ (l : Int) ∣ b := by
  rw [Int.ofNat_dvd_left, Int.natAbs_mul] at h
  rw [Int.ofNat_dvd_left, Int.ofNat_dvd_left]
  rcases hl _ (Nat.gcd_dvd_left l a.natAbs) with g | g
  · exact .inr (Nat.Coprime.dvd_of_dvd_mul_left g h)
  · left
    have := Nat.gcd_dvd_right l a.natAbs
    rwa [g] at this
theorem conv_low {l : Int} : ∀ (p q : List Int) (i n : Nat), (∀ j, j < i → l ∣ q.getD j 0) → n < i → l ∣ conv p q n
  | [], _, _, _, _, _ => Int.dvd_zero l
  | a :: p, q, i, 0, h, hn => Int.dvd_mul_of_dvd_right (h 0 hn)
  | a :: p, q, i, n + 1, h, hn => by
    rw [conv]
    exact Int.dvd_add (Int.dvd_mul_of_dvd_right (h _ hn)) (conv_low p q i n h (by omega))
theorem conv_at {l : Int} : ∀ (p q : List Int) (j i : Nat), (∀ k, k < j → l ∣ p.getD k 0) → (∀ k, k < i → l ∣ q.getD k 0) → l ∣ conv p q (j + i) - p.getD j 0 * q.getD i 0
  | [], q, j, i, _, _ => by simp [conv]
  | a :: p, q, 0, i, _, hq => by
    rw [Nat.zero_add]
    cases i with
    | zero => simp [conv]
    | succ i =>
      rw [conv, List.getD_cons_zero]
      have := conv_low p q (i + 1) i hq (by omega)
      have e : a * q.getD (i + 1) 0 + conv p q i - a * q.getD (i + 1) 0 = conv p q i := by omega
      rw [e]
      exact this
  | a :: p, q, j + 1, i, hp, hq => by
    have e : j + 1 + i = (j + i) + 1 := by omega
    rw [e, conv, List.getD_cons_succ]
    have h1 : l ∣ a := by simpa using hp 0 (by omega)
    have h2 := conv_at p q j i (fun k hk => by simpa using hp (k + 1) (by omega)) hq
    have e2 : a * q.getD (j + i + 1) 0 + conv p q (j + i) - p.getD j 0 * q.getD i 0 = a * q.getD (j + i + 1) 0 + (conv p q (j + i) - p.getD j 0 * q.getD i 0) := by omega
    rw [e2]
    exact Int.dvd_add (Int.dvd_mul_of_dvd_left h1) h2
theorem getD_mem {p : List Int} {n : Nat} (h : p.getD n 0 ≠ 0) : p.getD n 0 ∈ p := by
  rw [List.getD_eq_getElem?_getD] at h ⊢
  cases e : p[n]? with
  | none => rw [e] at h; exact (h rfl).elim
  | some a => exact List.mem_of_getElem? e
/-- a first number that is no multiple -/
theorem first_not {l : Int} : ∀ {p : List Int}, (∃ a ∈ p, ¬ l ∣ a) → ∃ j, ¬ l ∣ p.getD j 0 ∧ ∀ k, k < j → l ∣ p.getD k 0
  | a :: p, ⟨b, hb, hn⟩ => by
    by_cases h : l ∣ a
    · rcases List.mem_cons.mp hb with rfl | hb
      · exact (hn h).elim
      · obtain ⟨j, h1, h2⟩ := first_not ⟨b, hb, hn⟩
        refine ⟨j + 1, by simpa using h1, fun k hk => ?_⟩
        cases k with
        | zero => simpa using h
        | succ k => simpa using h2 k (by omega)
    · exact ⟨0, by simpa using h, fun k hk => by omega⟩
theorem cont_square {p q : List Int} (hp : cont p = 1) (hq : cont q = 1) : cont (mul p q) = 1 := by
  have some_not : ∀ {r : List Int} {l : Nat}, cont r = 1 → 1 < l → ∃ a ∈ r, ¬ (l : Int) ∣ a := fun {r l} h hl => Classical.byContradiction fun hn => by
    have := dvd_cont (d := l) (p := r) fun a ha => Classical.byContradiction fun z => hn ⟨a, ha, z⟩
    rw [h] at this
    have := Nat.le_of_dvd (by decide) this
    omega
  have key : ∀ l : Nat, 1 < l → (∀ m, m ∣ l → m = 1 ∨ m = l) → ¬ l ∣ cont (mul p q) := fun l h1 h2 h => by
    obtain ⟨j, j1, j2⟩ := first_not (some_not hp h1)
    obtain ⟨i, i1, i2⟩ := first_not (some_not hq h1)
    have h3 := conv_at (l := (l : Int)) p q j i j2 i2
    have h4 : (l : Int) ∣ conv p q (j + i) := by
      rw [← at_mul]
      by_cases z : (mul p q).getD (j + i) 0 = 0
      · rw [z]; exact Int.dvd_zero _
      · exact Int.dvd_trans (Int.natCast_dvd_natCast.mpr h) (cont_dvd (getD_mem z))
    have h5 : (l : Int) ∣ p.getD j 0 * q.getD i 0 := by
      have := Int.dvd_sub h4 h3
      have e : conv p q (j + i) - (conv p q (j + i) - p.getD j 0 * q.getD i 0) = p.getD j 0 * q.getD i 0 := by omega
      rwa [e] at this
    rcases prime_mul h1 h2 h5 with z | z
    · exact j1 z
    · exact i1 z
  rcases Nat.lt_or_ge 1 (cont (mul p q)) with h | h
  · obtain ⟨l, h1, h2, h3⟩ := least_div _ h
    exact (key l h1 h3 h2).elim
  · rcases Nat.eq_zero_or_pos (cont (mul p q)) with z | z
    · exfalso
      exact key 2 (by decide) (fun m hm => by have := Nat.le_of_dvd (by decide) hm; have : m ≠ 0 := fun e => by subst e; revert hm; decide
                                              omega) (by rw [z]; exact Nat.dvd_zero 2)
    · omega
end RP
end Fx

/-! RD: the draw of all laws, its numbers left open; pens, picks. -/
namespace Fx
open PySem PySem.Spec PyProof.Rows L2
structure DrawOk (M A P1 B C D P2 : Int) : Prop where
  M0 : 0 ≤ M
  M1 : M < 1000000
  A0 : 0 ≤ A
  A1 : A < 1000000
  B0 : 0 ≤ B
  B1 : B < 1000000
  C0 : 0 ≤ C
  C1 : C < 1000000
  D0 : 0 ≤ D
  D1 : D < 1000000
  P10 : 2147000000 < P1
  P11 : P1 < 2147483648
  P20 : 2147000000 < P2
  P21 : P2 < 2147483648
def gDraw (M A P1 B C D P2 : Int) : SF := (bSeq (sIf (tB1 (e2 (iCmp fun i j => decide (j < i)) (ePkIx 0 (eC (.int 2))) (eC (.int 0)))) (bSeq (sAsg (.nm 2) (eN bInt (aC (ePkIx 0 (eC (.int 2))) aN)))
    (bSeq (sStore 0 (e2 iDiv (eVar 2) (eVar 1)) (eC (.int 2)))
    (sRet (e2 iMod (eN bInt (aC (eVar 2) aN)) (eVar 1))))) bNil)
    (bSeq (sAsg (.nm 3) (ePkIx 0 (eC (.int 1))))
    (bSeq (sStore 0 (e2 oAdd (eVar 3) (eC (.int 1))) (eC (.int 1)))
    (bSeq (sAsg (.nm 4) (e2 oAdd (e2 oMul (eC (.int M)) (eVar 3)) (eC (.int A))))
    (bSeq (sIf (tB1 (e2 qNe (ePkIx 0 (eC (.int 0))) (eN dLst aN))) (sAsg (.nm 4) (e2 xIx (ePkIx 0 (eC (.int 0))) (e2 iMod (eN bInt (aC (eVar 3) aN)) (eN bLen (aC (ePkIx 0 (eC (.int 0))) aN))))) bNil)
    (bSeq (sIf (bAnd (tB1 (e2 (iCmp fun i j => decide (i < j)) (eVar 3) (eN bLen (aC (ePkIx 0 (eC (.int 0))) aN)))) (tB1 (e2 (iCmp fun i j => decide (j ≤ i)) (eN bAbs (aC (eVar 4) aN)) (e2 iPow (eC (.int 10)) (eC (.int 18)))))) (bSeq (sAsg (.nm 2) (e2 oAdd (e2 oMul (eC (.int 2)) (e2 oSub (eN bAbs (aC (eVar 4) aN)) (e2 iPow (eC (.int 10)) (eC (.int 18))))) (eN bInt (aC (e2 (iCmp fun i j => decide (i < j)) (eVar 4) (eC (.int 0))) aN))))
    (bSeq (sStore 0 (e2 iDiv (eN bInt (aC (eVar 2) aN)) (eVar 1)) (eC (.int 2)))
    (sRet (e2 iMod (eN bInt (aC (eVar 2) aN)) (eVar 1))))) bNil)
    (bSeq (sAsg (.nm 5) (e2 iMod (eN bInt (aC (e2 iPow (e2 oAdd (e2 oAdd (e2 iMod (eN bInt (aC (eVar 4) aN)) (eC (.int 2147483549))) (e2 oMul (eC (.int M)) (eVar 3))) (eC (.int A))) (eC (.int 5))) aN)) (eC (.int P1))))
    (bSeq (sAsg (.nm 5) (e2 iMod (eN bInt (aC (e2 iPow (e2 oAdd (e2 oAdd (e2 oMul (eVar 5) (e2 oAdd (e2 oMul (eC (.int 2)) (eVar 3)) (eC (.int B)))) (e2 oMul (e2 oMul (eC (.int C)) (eVar 3)) (eVar 3))) (eC (.int D))) (eC (.int 3))) aN)) (eC (.int P2))))
    (sRet (e2 iMod (eN bInt (aC (e2 iDiv (eVar 5) (eC (.int 64))) aN)) (eVar 1)))))))))))
theorem divOk_of {n : Int} (h0 : 0 < n) (h : n < 2 ^ 60) : DivOk n := by
  have : Bd 60 n := by unfold Bd; omega
  exact this.divOk (by omega) (by omega)
theorem fmod_rng {a n : Int} (h : 0 < n) : 0 ≤ a.fmod n ∧ a.fmod n < n := by
  rw [Int.fmod_eq_emod_of_nonneg _ (by omega)]
  exact ⟨Int.emod_nonneg _ (by omega), Int.emod_lt_of_pos _ h⟩
theorem fdiv_nn {a n : Int} (h : 0 < n) (ha : 0 ≤ a) : 0 ≤ a.fdiv n := by
  rw [Int.fdiv_eq_ediv_of_nonneg _ (by omega)]
  exact Int.ediv_nonneg ha (by omega)
/-- what a draw is worth -/
def Drawn (cs : List Int) (t r n : Int) (m : MF) : Prop := ∃ d t' r', m [.io (pn cs t r), .val (.int n)] = some (.int d, [.io (pn cs t' r'), .val (.int n)]) ∧ 0 ≤ d ∧ d < n ∧ t ≤ t' ∧ t' ≤ t + 1 ∧ 0 ≤ r'
theorem e_gDraw {M A P1 B C D P2 : Int} (ok : DrawOk M A P1 B C D P2) {cs : List Int} {t r n : Int} (hl : cs.length ≤ 63) (h0 : 0 ≤ t) (ht : t < 1000000) (hr : 0 ≤ r) (hn : 0 < n) (hn2 : n < 2 ^ 60) : Drawn cs t r n (runF 6 (gDraw M A P1 B C D P2)) := by
  obtain ⟨_, _, _, _, _, _, _, _, _, _, _, _, _, _⟩ := ok
  have dn := divOk_of hn hn2
  have nn : n ≠ 0 := by omega
  by_cases c : 0 < r
  · refine ⟨r.fmod n, t, r.fdiv n, ?_, (fmod_rng hn).1, (fmod_rng hn).2, by omega, by omega, fdiv_nn hn hr⟩
    simp [gDraw, pn, c, dn, nn]
  · -- a cell, or what stands for one
    have hcell : ∃ cell : Int, (sIf (tB1 (e2 qNe (ePkIx 0 (eC (.int 0))) (eN dLst aN))) (sAsg (.nm 4) (e2 xIx (ePkIx 0 (eC (.int 0))) (e2 iMod (eN bInt (aC (eVar 3) aN)) (eN bLen (aC (ePkIx 0 (eC (.int 0))) aN))))) bNil) [.io (pn cs (t + 1) r), .val (.int n), .un, .val (.int t), .val (.int (M * t + A)), .un] =
        some (.nx, [.io (pn cs (t + 1) r), .val (.int n), .un, .val (.int t), .val (.int cell), .un]) := by
      cases cs with
      | nil =>
        have e2 := eqT_ints_nil []
        simp only [List.map_nil] at e2
        exact ⟨M * t + A, by simp [pn, e2]⟩
      | cons x xs =>
        have hk := fmod_rng (a := t) (n := (xs.length : Int) + 1) (by omega)
        obtain ⟨c', e1, _⟩ := atI_ints (ns := x :: xs) hk.1 (by simp only [List.length_cons]; omega)
        have nz : ((xs.length : Int) + 1) ≠ 0 := by omega
        have e2 := eqT_ints_nil (x :: xs)
        refine ⟨c', ?_⟩
        simp only [List.map_cons] at e1 e2
        simp [pn, e2, e1, nz]
    obtain ⟨cell, hcell⟩ := hcell
    have m1 : Fx.MulOk M t := .inr (.inl (by omega))
    obtain ⟨ab, hab⟩ : ∃ ab : Int, ab = if cell < 0 then -cell else cell := ⟨_, rfl⟩
    have hb : bAbs [.int cell] = some (.int ab) := by simp [hab]
    obtain ⟨sg, hsg⟩ : ∃ sg : Int, sg = if decide (cell < 0) = true then 1 else 0 := ⟨_, rfl⟩
    have hs : bInt [.bl (decide (cell < 0))] = some (.int sg) := by simp [hsg]
    have hs0 : 0 ≤ sg := by rw [hsg]; split <;> omega
    have p1 : PowOk 10 18 := by unfold PowOk CPow; decide
    by_cases g : t < cs.length ∧ 1000000000000000000 ≤ ab
    · -- a great one
      have m2 : Fx.MulOk 2 (ab - 1000000000000000000) := .inr (.inl (by omega))
      obtain ⟨q1, q2⟩ := g
      refine ⟨(2 * (ab - 1000000000000000000) + sg).fmod n, t + 1, (2 * (ab - 1000000000000000000) + sg).fdiv n, ?_, (fmod_rng hn).1, (fmod_rng hn).2, by omega, by omega, fdiv_nn hn (by omega)⟩
      refine runF_ret (env1 := [.io (pn cs (t + 1) ((2 * (ab - 1000000000000000000) + sg).fdiv n)), .val (.int n), .val (.int (2 * (ab - 1000000000000000000) + sg)), .val (.int t), .val (.int cell), .un]) ?_ rfl
      rw [gDraw]
      rw [bSeq_nx (env1 := [.io (pn cs t r), .val (.int n), .un, .un, .un, .un]) (by simp [pn, c])]
      rw [bSeq_nx (env1 := [.io (pn cs t r), .val (.int n), .un, .val (.int t), .un, .un]) (by simp [pn])]
      rw [bSeq_nx (env1 := [.io (pn cs (t + 1) r), .val (.int n), .un, .val (.int t), .un, .un]) (by simp [pn])]
      rw [bSeq_nx (env1 := [.io (pn cs (t + 1) r), .val (.int n), .un, .val (.int t), .val (.int (M * t + A)), .un]) (by simp [pn, m1])]
      rw [bSeq_nx hcell]
      rw [bSeq_ret (env1 := [.io (pn cs (t + 1) ((2 * (ab - 1000000000000000000) + sg).fdiv n)), .val (.int n), .val (.int (2 * (ab - 1000000000000000000) + sg)), .val (.int t), .val (.int cell), .un])]
      rw [sIf_T (env1 := [.io (pn cs (t + 1) r), .val (.int n), .un, .val (.int t), .val (.int cell), .un])]
      · rw [bSeq_nx (env1 := [.io (pn cs (t + 1) r), .val (.int n), .val (.int (2 * (ab - 1000000000000000000) + sg)), .val (.int t), .val (.int cell), .un]) (by simp [p1, m2, hb, hs, -bAbs, -bInt])]
        rw [bSeq_nx (env1 := [.io (pn cs (t + 1) ((2 * (ab - 1000000000000000000) + sg).fdiv n)), .val (.int n), .val (.int (2 * (ab - 1000000000000000000) + sg)), .val (.int t), .val (.int cell), .un]) (by simp [pn, dn])]
        simp [nn]
      · simp [pn, p1, q1, q2, hb, -bAbs]
    · have hlt := fmod_rng (a := cell) (n := 2147483549) (by decide)
      have m3 : Fx.MulOk M t := m1
      have b0 : 0 ≤ M * t := Int.mul_nonneg (by omega) (by omega)
      have b1 : M * t ≤ 1000000 * 1000000 := Int.mul_le_mul (by omega) (by omega) (by omega) (by omega)
      have p2 : PowOk (cell.fmod 2147483549 + M * t + A) 5 := by unfold PowOk CPow; omega
      obtain ⟨mx, hmx⟩ : ∃ mx : Int, mx = ((cell.fmod 2147483549 + M * t + A) ^ 5).fmod P1 := ⟨_, rfl⟩
      have hx : 0 ≤ mx ∧ mx < P1 := by rw [hmx]; exact fmod_rng (by omega)
      have m4 : Fx.MulOk 2 t := .inr (.inl (by omega))
      have m5 : Fx.MulOk mx (2 * t + B) := .inr (.inl (by omega))
      have m6 : Fx.MulOk C t := .inr (.inl (by omega))
      have m7 : Fx.MulOk (C * t) t := .inr (.inr (by omega))
      have bx : mx * (2 * t + B) ≤ 2147483648 * 3000000 := Int.mul_le_mul (by omega) (by omega) (by omega) (by omega)
      have bx0 : 0 ≤ mx * (2 * t + B) := Int.mul_nonneg hx.1 (by omega)
      have by0' : 0 ≤ C * t := Int.mul_nonneg (by omega) (by omega)
      have by1' : C * t ≤ 1000000 * 1000000 := Int.mul_le_mul (by omega) (by omega) (by omega) (by omega)
      have by1 : C * t * t ≤ 1000000000000 * 1000000 := Int.mul_le_mul (by omega) (by omega) (by omega) (by omega)
      have by0 : 0 ≤ C * t * t := Int.mul_nonneg (by omega) (by omega)
      have p3 : PowOk (mx * (2 * t + B) + C * t * t + D) 3 := by unfold PowOk CPow; omega
      have z1 : P1 ≠ 0 := by omega
      have z2 : P2 ≠ 0 := by omega
      have dk1 : DivOk P1 := divOk_of (by omega) (by omega)
      have dk2 : DivOk P2 := divOk_of (by omega) (by omega)
      obtain ⟨my, hmy⟩ : ∃ my : Int, my = ((mx * (2 * t + B) + C * t * t + D) ^ 3).fmod P2 := ⟨_, rfl⟩
      have d64 : DivOk 64 := by unfold DivOk; decide
      refine ⟨(my.fdiv 64).fmod n, t + 1, r, ?_, (fmod_rng hn).1, (fmod_rng hn).2, by omega, by omega, hr⟩
      refine runF_ret (env1 := [.io (pn cs (t + 1) r), .val (.int n), .un, .val (.int t), .val (.int cell), .val (.int my)]) ?_ rfl
      rw [gDraw]
      rw [bSeq_nx (env1 := [.io (pn cs t r), .val (.int n), .un, .un, .un, .un]) (by simp [pn, c])]
      rw [bSeq_nx (env1 := [.io (pn cs t r), .val (.int n), .un, .val (.int t), .un, .un]) (by simp [pn])]
      rw [bSeq_nx (env1 := [.io (pn cs (t + 1) r), .val (.int n), .un, .val (.int t), .un, .un]) (by simp [pn])]
      rw [bSeq_nx (env1 := [.io (pn cs (t + 1) r), .val (.int n), .un, .val (.int t), .val (.int (M * t + A)), .un]) (by simp [pn, m1])]
      rw [bSeq_nx hcell]
      rw [bSeq_nx (env1 := [.io (pn cs (t + 1) r), .val (.int n), .un, .val (.int t), .val (.int cell), .un])]
      · rw [bSeq_nx (env1 := [.io (pn cs (t + 1) r), .val (.int n), .un, .val (.int t), .val (.int cell), .val (.int mx)]) (by simp [m3, p2, hmx, z1, dk1])]
        rw [bSeq_nx (env1 := [.io (pn cs (t + 1) r), .val (.int n), .un, .val (.int t), .val (.int cell), .val (.int my)]) (by simp [m4, m5, m6, m7, p3, hmy, z2, dk2])]
        simp [nn, d64]
      · rw [sIf_F (env1 := [.io (pn cs (t + 1) r), .val (.int n), .un, .val (.int t), .val (.int cell), .un])]
        · simp
        · by_cases q1 : t < cs.length
          · have q2 : ¬ (1000000000000000000 ≤ ab) := fun z => g ⟨q1, z⟩
            simp [pn, p1, q1, q2, hb, -bAbs]
          · simp [pn, q1]

theorem aC_of {f : EF} {r : AF} {env env1 env2 : Sls} {t : T} {ts : List T} (h : f env = some (t, env1)) (h' : r env1 = some (ts, env2)) : aC f r env = some (t :: ts, env2) := by simp [h, h']
theorem aC_one {f : EF} {env env1 : Sls} {t : T} (h : f env = some (t, env1)) : aC f aN env = some ([t], env1) := by simp [h]
theorem e2_of {g : O2} {f r : EF} {env env1 env2 : Sls} {t u w : T} (h : f env = some (t, env1)) (h' : r env1 = some (u, env2)) (h2 : g t u = some w) : Fx.e2 g f r env = some (w, env2) := by simp [h, h', h2]
theorem eN_of {g : ON} {f : AF} {env env1 : Sls} {ts : List T} {w : T} (h : f env = some (ts, env1)) (h2 : g ts = some w) : eN g f env = some (w, env1) := by simp [h, h2]
theorem xV_of {f : EF} {r : XF} {env env1 env2 : Sls} {t : T} {ts : List Ar} (h : f env = some (t, env1)) (h' : r env1 = some (ts, env2)) : xV f r env = some (.v t :: ts, env2) := by simp [h, h']
/-- the def that draws -/
def DrawF (m : MF) : Prop := ∃ M A P1 B C D P2 : Int, DrawOk M A P1 B C D P2 ∧ m = runF 6 (gDraw M A P1 B C D P2)
theorem e_drawF {m : MF} (hm : DrawF m) {P : T} {k : Int} (h : Pen k P) (hk : k < 1000000) {n : Int} (hn : 0 < n) (hn2 : n < 2 ^ 60) : ∃ d P', m [.io P, .val (.int n)] = some (.int d, [.io P', .val (.int n)]) ∧ 0 ≤ d ∧ d < n ∧ Pen (k + 1) P' := by
  obtain ⟨M, A, P1, B, C, D, P2, ok, rfl⟩ := hm
  obtain ⟨cs, t, r, rfl, h1, h2, h3, h4⟩ := h
  obtain ⟨d, t', r', e, g1, g2, g3, g4, g5⟩ := e_gDraw ok h1 h2 (by omega) h4 hn hn2
  exact ⟨d, _, e, g1, g2, cs, t', r', rfl, h1, by omega, by omega, g5⟩
/-- the def that picks -/
def PickF (m md : MF) : Prop := m = runF 2 (sRet (e2 xIx (eVar 1) (eCall md (xDef [] (xIo 0 (xV (eN bLen (aC (eVar 1) aN)) xN))))))
theorem e_pickF {m md : MF} (hm : PickF m md) (hd : DrawF md) {P : T} {k : Int} (h : Pen k P) (hk : k < 1000000) {xs : List T} (hn : xs ≠ []) (hn2 : xs.length < 1000) : ∃ x P', m [.io P, .val (.lst xs)] = some (x, [.io P', .val (.lst xs)]) ∧ x ∈ xs ∧ Pen (k + 1) P' := by
  have hl : 0 < xs.length := List.length_pos_iff.mpr hn
  obtain ⟨d, P', e, g1, g2, g3⟩ := e_drawF hd h hk (n := xs.length) (by omega) (by omega)
  obtain ⟨c, e2, hc⟩ := atI_mem g1 g2
  refine ⟨c, P', ?_, hc, g3⟩
  rw [hm]
  simp [e, e2]
theorem e_pickFt {m md : MF} (hm : PickF m md) (hd : DrawF md) {P : T} {k : Int} (h : Pen k P) (hk : k < 1000000) {xs : List T} (hn : xs ≠ []) (hn2 : xs.length < 1000) : ∃ x P', m [.io P, .val (.tup xs)] = some (x, [.io P', .val (.tup xs)]) ∧ x ∈ xs ∧ Pen (k + 1) P' := by
  have hl : 0 < xs.length := List.length_pos_iff.mpr hn
  obtain ⟨d, P', e, g1, g2, g3⟩ := e_drawF hd h hk (n := xs.length) (by omega) (by omega)
  obtain ⟨c, e2, hc⟩ := atI_mem g1 g2
  refine ⟨c, P', ?_, hc, g3⟩
  rw [hm]
  simp [e, e2]
/-- the def that makes the pen -/
def PenF (m : MF) : Prop := m = runW 2 (eN dLst (aC (eLc (itS (eSl (eVar 0) pNone (pSome (eC (.int 63))))) (.nm 1) tYesF (eN bInt (aC (eVar 1) aN)) [1]) (aC (eC (.int 0)) (aC (eC (.int 0)) aN))))
theorem lc_penF (x : Sl) (h : isVal x = true) : ∀ (ns : List Int) (s1 : Sl), isIo (some s1) = false → ∃ env', lcL (.nm 1) tYesF (eN bInt (aC (eVar 1) aN)) [1] (ns.map T.int) [x, s1] = some (ns.map T.int, env')
  | [], s1, h1 => ⟨_, rfl⟩
  | n :: ns, s1, h1 => by
    obtain ⟨env', e⟩ := lc_penF x h ns .un rfl
    refine ⟨env', ?_⟩
    cases s1 with
    | io _ => simp at h1
    | _ => simp [e]
theorem e_penF {m : MF} (hm : PenF m) (ns : List Int) (hl : ns.length ≤ 63) : ∃ P, m [.val (.lsf (ns.map T.int))] = some (P, [.val (.lsf (ns.map T.int))]) ∧ Pen 0 P := by
  refine ⟨pn ns 0 0, ?_, ns, 0, 0, rfl, hl, by decide, by decide, by decide⟩
  obtain ⟨env', e⟩ := lc_penF (.val (.lsf (ns.map T.int))) rfl ns .un rfl
  have hc : cutL (ns.map T.int) none (some 63) = ns.map T.int := by
    unfold cutL
    have h0 : HT.sIx (ns.map T.int).length 0 none = 0 := rfl
    rw [h0, List.drop_zero]
    refine List.take_of_length_le ?_
    simp [HT.sIx]
    omega
  have hl2 : ns.length ≤ 100000 := by omega
  rw [hm]
  simp [hc, e, pn, hl2]
  try omega
end Fx

/-! RR: repr of lists of tuples of ints is there. -/
namespace Fx
open PySem PySem.Spec PyProof.Rows L2
theorem piled_le {m : Nat} : ∀ {ts : List Str}, (∀ t ∈ ts, t.length ≤ m) → piled ts ≤ (m + 2) * ts.length
  | [], _ => by simp [piled]
  | t :: r, h => by
    have ih := piled_le (m := m) (ts := r) fun z hz => h z (List.mem_cons_of_mem _ hz)
    have h1 := h t List.mem_cons_self
    have e : piled (t :: r) = t.length + 2 + piled r := by simp [piled] <;> omega
    rw [e, List.length_cons, Nat.mul_add]
    omega
theorem tupleText_le (ts : List Str) : (tupleText ts).length ≤ piled ts + 3 := by
  unfold tupleText
  rw [strLen_append, strLen_append]
  have e1 : ((("(" : String) : Str)).length = 1 := rfl
  have e3 : (((if ts.length == 1 then ",)" else ")" : String) : Str)).length ≤ 2 := by split <;> decide
  rw [e1]
  by_cases h : ts = []
  · subst h
    have : (Str.join ", " []).length = 0 := rfl
    omega
  · have := join_length_add ts h
    omega
theorem textFrom_le : ∀ (ts : List Str) (k : Nat) (acc : Str), (textFrom k acc ts).length ≤ acc.length + piled ts
  | [], _, _ => by simp [textFrom, piled]
  | t :: r, k, acc => by
    have ih := textFrom_le r (k + 1) (acc ++ (if k > 0 then ", " else "" : String) ++ t)
    have e : (acc ++ (if k > 0 then ", " else "" : String) ++ t).length ≤ acc.length + 2 + t.length := by
      rw [strLen_append, strLen_append]
      have : (((if k > 0 then ", " else "" : String)) : Str).length ≤ 2 := by split <;> decide
      omega
    rw [textFrom, piled_cons]
    omega
theorem listText_le (ts : List Str) : (listText ts).length ≤ piled ts + 2 := by
  unfold listText
  rw [strLen_append]
  have h := textFrom_le ts 0 "["
  have e1 : (("[" : String) : Str).length = 1 := rfl
  have e2 : (("]" : String) : Str).length = 1 := rfl
  omega
theorem shownA_len : ∀ (xs : List PyData), (PyData.shownAll xs).length = xs.length
  | [] => rfl
  | x :: xs => by simp [PyData.shownAll, shownA_len xs]
theorem shownA_mem {t : Str} : ∀ {xs : List PyData}, t ∈ PyData.shownAll xs → ∃ x ∈ xs, t = x.shown
  | [], h => by cases h
  | x :: xs, h => by
    rw [PyData.shownAll] at h
    rcases List.mem_cons.mp h with rfl | h
    · exact ⟨x, List.mem_cons_self, rfl⟩
    · obtain ⟨y, hy, e⟩ := shownA_mem h
      exact ⟨y, List.mem_cons_of_mem _ hy, e⟩
theorem shownA_le {m : Nat} {xs : List PyData} (h : ∀ x ∈ xs, x.shown.length ≤ m) : piled (PyData.shownAll xs) ≤ (m + 2) * xs.length := by
  have := piled_le (m := m) (ts := PyData.shownAll xs) fun t ht => by
    obtain ⟨x, hx, rfl⟩ := shownA_mem ht
    exact h x hx
  rwa [shownA_len] at this
theorem shown_int_le {i : Int} (h : i.natAbs.log2 < 1920) : (PyData.int i).shown.length ≤ 1921 := by
  show (Str.ofString (toString i)).length ≤ 1921
  rw [PySem.ofString_length]
  exact int_text_length_le (by decide) h
def dI (p : List Int) : PyData := .tuple (p.map .int)
theorem dI_le {p : List Int} (h : ∀ c ∈ p, Bd 1900 c) : (dI p).shown.length ≤ 1923 * p.length + 3 := by
  unfold dI
  rw [PyData.shown]
  have h1 := tupleText_le (PyData.shownAll (p.map PyData.int))
  have h2 := shownA_le (m := 1921) (xs := p.map PyData.int) fun x hx => by
    obtain ⟨c, hc, rfl⟩ := List.mem_map.mp hx
    exact shown_int_le (by have := (h c hc).le_log; omega)
  rw [List.length_map] at h2
  omega
theorem dI_show : ∀ {p : List Int}, (∀ c ∈ p, Bd 1900 c) → PyData.showableAll (p.map PyData.int) = true
  | [], _ => rfl
  | c :: p, h => by
    have ih := dI_show (p := p) fun z hz => h z (List.mem_cons_of_mem _ hz)
    have h1 := (h c List.mem_cons_self).le_log
    simp [PyData.showableAll, PyData.showable, ih]
    omega
theorem toDs_dI : ∀ ps : List (List Int), toDs (ps.map fun p => T.tup (p.map T.int)) = some (ps.map dI)
  | [] => rfl
  | p :: ps => by simp [toDs_dI ps, toDs_ints, dI]
theorem repr_polys {ps : List (List Int)} (h : ∀ p ∈ ps, (∀ c ∈ p, Bd 1900 c) ∧ p.length ≤ 100) (hl : ps.length ≤ 20) : ∃ s, bRepr [.lst (ps.map fun p => T.tup (p.map T.int))] = some (.str s) := by
  have hs : ∀ {ps : List (List Int)}, (∀ p ∈ ps, (∀ c ∈ p, Bd 1900 c) ∧ p.length ≤ 100) → PyData.showableAll (ps.map dI) = true ∧ PyData.canLayAll0 (ps.map dI) = true ∧ PyData.depthAll (ps.map dI) ≤ 1 := by
    intro ps
    induction ps with
    | nil => intro _; exact ⟨rfl, rfl, by decide⟩
    | cons p ps ih =>
      intro h
      obtain ⟨i1, i2, i3⟩ := ih fun q hq => h q (List.mem_cons_of_mem _ hq)
      have h1 := dI_show (h p List.mem_cons_self).1
      refine ⟨by simp [PyData.showableAll, i1, dI, PyData.showable, h1], by simp [PyData.canLayAll0, i2, dI, PyData.canLay0, lay_ints], ?_⟩
      simp only [List.map_cons, PyData.depthAll, dI, PyData.depth, depthA_ints] at i3 ⊢
      omega
  obtain ⟨h1, h2, h3⟩ := hs h
  have h4 : (PyData.list (ps.map dI)).shown.length ≤ sizeLine := by
    rw [PyData.shown, sizeLine_eq]
    have g1 := listText_le (PyData.shownAll (ps.map dI))
    have g2 := shownA_le (m := 1923 * 100 + 3) (xs := ps.map dI) fun x hx => by
      obtain ⟨p, hp, rfl⟩ := List.mem_map.mp hx
      have := dI_le (h p hp).1
      have := (h p hp).2
      omega
    rw [List.length_map] at g2
    omega
  refine ⟨(PyData.list (ps.map dI)).shown, ?_⟩
  unfold bRepr
  simp only [toD, toDs_dI, Option.map_some, Option.bind_some]
  rw [if_pos]
  simp only [Bool.and_eq_true, decide_eq_true_eq, PyData.showable, PyData.canLay0, PyData.depth]
  refine ⟨⟨⟨h1, h2⟩, ?_⟩, h4⟩
  exact decide_eq_true (by omega)
end Fx

/-! RS: steps of expressions, told by what their parts give. -/
namespace Fx
open PySem PySem.Spec PyProof.Rows L2
section
variable {m : MF} {fa fb fc fd : EF} {env env1 env2 env3 : Sls} {a b c d r : T}
theorem call0 (hm : m [] = some (r, [])) : eCall m (xDef [] xN) env = some (r, env) := by simp [hm]
theorem call1 (h : fa env = some (a, env1)) (hm : m [.val a] = some (r, [.val a])) : eCall m (xDef [] (xV fa xN)) env = some (r, env1) := by simp [h, hm]
theorem call2 (h : fa env = some (a, env1)) (h2 : fb env1 = some (b, env2)) (hm : m [.val a, .val b] = some (r, [.val a, .val b])) : eCall m (xDef [] (xV fa (xV fb xN))) env = some (r, env2) := by simp [h, h2, hm]
theorem call3 (h : fa env = some (a, env1)) (h2 : fb env1 = some (b, env2)) (h3 : fc env2 = some (c, env3)) (hm : m [.val a, .val b, .val c] = some (r, [.val a, .val b, .val c])) : eCall m (xDef [] (xV fa (xV fb (xV fc xN)))) env = some (r, env3) := by simp [h, h2, h3, hm]
/-- both by names, the second one first -/
theorem callK21 {g : {α : Type} → List α → List α → List α} (h : fa env = some (a, env1)) (h2 : fb env1 = some (b, env2)) (hg : g [] [Ar.v a, Ar.v b] = [Ar.v b, Ar.v a]) (hm : m [.val b, .val a] = some (r, [.val b, .val a])) : eCall m (xKw g xN (xV fa (xV fb xN))) env = some (r, env2) := by simp [h, h2, hg, hm]
theorem callK12 {g : {α : Type} → List α → List α → List α} (h : fa env = some (a, env1)) (h2 : fb env1 = some (b, env2)) (hg : g [] [Ar.v a, Ar.v b] = [Ar.v a, Ar.v b]) (hm : m [.val a, .val b] = some (r, [.val a, .val b])) : eCall m (xKw g xN (xV fa (xV fb xN))) env = some (r, env2) := by simp [h, h2, hg, hm]
theorem callK1 {g : {α : Type} → List α → List α → List α} (h : fa env = some (a, env1)) (hg : g [] [Ar.v a] = [Ar.v a]) (hm : m [.val a] = some (r, [.val a])) : eCall m (xKw g xN (xV fa xN)) env = some (r, env1) := by simp [h, hg, hm]
theorem var_of {i : Nat} (h : env[i]? = some (.val a)) : eVar i env = some (a, env) := by simp [h]
/-- a test that says no -/
theorem tb1_of {f : EF} {x : Bool} (h : f env = some (.bl x, env1)) : tB1 f env = some (x, env1) := by simp [h]
theorem bOr_F {f g : BF} {x : Bool} (h : f env = some (false, env1)) (h2 : g env1 = some (x, env2)) : bOr f g env = some (x, env2) := by simp [h, h2]
theorem bOr_T {f g : BF} (h : f env = some (true, env1)) : bOr f g env = some (true, env1) := by simp [h]
theorem bAnd_T {f g : BF} {x : Bool} (h : f env = some (true, env1)) (h2 : g env1 = some (x, env2)) : bAnd f g env = some (x, env2) := by simp [h, h2]
theorem bAnd_F {f g : BF} (h : f env = some (false, env1)) : bAnd f g env = some (false, env1) := by simp [h]
/-- a row `if .. : return ..` that goes on -/
theorem go_on {c : BF} {s : SF} (h : c env = some (false, env1)) : sIf c s bNil env = some (.nx, env1) := by simp [h]
theorem asg_of {i : Nat} (h : fa env = some (a, env1)) (hi : isIo env1[i]? = false) (he : env1.set i (.val a) = env2) : sAsg (.nm i) fa env = some (.nx, env2) := by
  subst he
  simp only [sAsg, h, Option.bind_some, bindP_nm, putS]
  rw [hi]
  rfl
end
end Fx

/-! RS2: calls that get a list of the caller's to write at. -/
namespace Fx
open PySem PySem.Spec PyProof.Rows L2
section
variable {m : MF} {fa fb fc fd : EF} {env env1 env2 env3 : Sls} {a b c d r P P' : T} {i : Nat}
theorem callO0 (h : env[i]? = some (.own P)) (hm : m [.io P] = some (r, [.io P'])) (he : env.set i (.own P') = env1) : eCall m (xDef [] (xIo i xN)) env = some (r, env1) := by
  subst he
  simp [h, hm, ios, resolve]
theorem callI0 (h : env[i]? = some (.io P)) (hm : m [.io P] = some (r, [.io P'])) (he : env.set i (.io P') = env1) : eCall m (xDef [] (xIo i xN)) env = some (r, env1) := by
  subst he
  simp [h, hm, ios, resolve]
theorem callO1 (hi : hasC env i = true) (h0 : fa env = some (a, env1)) (h : env1[i]? = some (.own P)) (hm : m [.io P, .val a] = some (r, [.io P', .val a])) (he : env1.set i (.own P') = env2) : eCall m (xDef [] (xIo i (xV fa xN))) env = some (r, env2) := by
  subst he
  obtain ⟨z, hz⟩ := Option.isSome_iff_exists.mp hi
  simp [hz, h0, h, hm, ios, resolve]
theorem callI1 (hi : hasC env i = true) (h0 : fa env = some (a, env1)) (h : env1[i]? = some (.io P)) (hm : m [.io P, .val a] = some (r, [.io P', .val a])) (he : env1.set i (.io P') = env2) : eCall m (xDef [] (xIo i (xV fa xN))) env = some (r, env2) := by
  subst he
  obtain ⟨z, hz⟩ := Option.isSome_iff_exists.mp hi
  simp [hz, h0, h, hm, ios, resolve]
theorem lcL_step {p : Pat} {fe : EF} {vs : List Nat} {t y : T} {ts ys : List T} {e1 e2 e3 : Sls} (hb : bindP p t env = some e1) (hf : fe e1 = some (y, e2)) (hn : noIo e2 vs = true) (hr : lcL p tYesF fe vs ts (wipeE e2 vs) = some (ys, e3)) : lcL p tYesF fe vs (t :: ts) env = some (y :: ys, e3) := by
  unfold lcL
  rw [hb, Option.bind_some]
  show Option.bind (some (true, e1)) _ = _
  rw [Option.bind_some, if_pos (show (true, e1).1 = true from rfl)]
  show Option.bind (fe e1) _ = _
  rw [hf, Option.bind_some]
  show (if noIo e2 vs = true then _ else _) = _
  rw [if_pos hn]
  show Option.map _ (lcL p tYesF fe vs ts (wipeE e2 vs)) = _
  rw [hr]
  rfl
theorem lcP_step {pi n k : Nat} {p : Pat} {fe : EF} {vs : List Nat} {t y : T} {ts ys : List T} {e1 e2 e3 : Sls} (hl : lstC env pi = some ts) (hk : ts[k]? = some t) (hb : bindP p t env = some e1) (hf : fe e1 = some (y, e2)) (hn : noIo e2 vs = true) (hr : lcP pi p tYesF fe vs n (k + 1) (wipeE e2 vs) = some (ys, e3)) : lcP pi p tYesF fe vs (n + 1) k env = some (y :: ys, e3) := by
  unfold lcP
  rw [hl, Option.bind_some, hk]
  show Option.bind (bindP p t env) _ = _
  rw [hb, Option.bind_some]
  show Option.bind (some (true, e1)) _ = _
  rw [Option.bind_some, if_pos (show (true, e1).1 = true from rfl)]
  show Option.bind (fe e1) _ = _
  rw [hf, Option.bind_some]
  show (if noIo e2 vs = true then _ else _) = _
  rw [if_pos hn]
  show Option.map _ (lcP pi p tYesF fe vs n (k + 1) (wipeE e2 vs)) = _
  rw [hr]
  rfl
theorem eLc_of {fi : AF} {p : Pat} {fe : EF} {vs : List Nat} {ts ys : List T} {e1 e2 : Sls} (hi : fi env = some (ts, e1)) (hn : noIo e1 vs = true) (hl : ts.length ≤ 100000) (hr : lcL p tYesF fe vs ts (wipeE e1 vs) = some (ys, e2)) : eLc fi p tYesF fe vs env = some (.lst ys, e2) := by
  unfold eLc
  rw [hi, Option.bind_some]
  show (if noIo e1 vs = true ∧ ts.length ≤ 100000 then _ else _) = _
  rw [if_pos ⟨hn, hl⟩]
  show Option.map _ (lcL p tYesF fe vs ts (wipeE e1 vs)) = _
  rw [hr]
  rfl
theorem forL_step {p : Pat} {b : SF} {t : T} {ts : List T} {e1 e2 : Sls} {z : Option (Fl × Sls)} (hb : bindP p t env = some e1) (hs : b e1 = some (.nx, e2)) (hr : forL p b ts e2 = z) : forL p b (t :: ts) env = z := by
  rw [forL, hb, Option.bind_some, hs, Option.bind_some]
  exact hr
theorem forLR_step {p : Pat} {b : SF} {vs : List Nat} {t : T} {ts : List T} {e1 e2 : Sls} {z : Option (Fl × Sls)} (hn : noIo env vs = true) (hb : bindP p t (wipeE env vs) = some e1) (hs : b e1 = some (.nx, e2)) (hr : forLR vs p b ts e2 = z) : forLR vs p b (t :: ts) env = z := by
  rw [forLR, if_pos hn, hb, Option.bind_some, hs, Option.bind_some]
  exact hr
theorem forLR_end {p : Pat} {b : SF} {vs : List Nat} {e1 : Sls} (hn : noIo env vs = true) (he : wipeE env vs = e1) : forLR vs p b [] env = some (.nx, e1) := by
  rw [forLR, if_pos hn, he]
end
end Fx

namespace K21
open PySem PySem.Spec PyProof.Rows L2 Fx
def top (i : Nat) : Stmt := PySem.Challenge.pw_allodds_k21_polynomials_moved.main.body.getD i (.Pass ⟨0, 0, 0, 0⟩)
abbrev s_is_integer : Stmt := top 8
abbrev N_is_integer : List Str := ["value"]
theorem sc_is_integer : FnScope N_is_integer ["value"] (defScope s_is_integer) := ⟨rfl, rfl, rfl, by decide +kernel, rfl, by decide +kernel, by decide +kernel⟩
abbrev s_is_listed : Stmt := top 9
abbrev N_is_listed : List Str := ["value"]
theorem sc_is_listed : FnScope N_is_listed ["value"] (defScope s_is_listed) := ⟨rfl, rfl, rfl, by decide +kernel, rfl, by decide +kernel, by decide +kernel⟩
abbrev s_lowest : Stmt := top 11
abbrev N_lowest : List Str := ["top", "bottom", "shared"]
theorem sc_lowest : FnScope N_lowest ["top", "bottom"] (defScope s_lowest) := ⟨rfl, rfl, rfl, by decide +kernel, rfl, by decide +kernel, by decide +kernel⟩
abbrev s_is_ratio : Stmt := top 12
abbrev N_is_ratio : List Str := ["value"]
theorem sc_is_ratio : FnScope N_is_ratio ["value"] (defScope s_is_ratio) := ⟨rfl, rfl, rfl, by decide +kernel, rfl, by decide +kernel, by decide +kernel⟩
abbrev s_ratio : Stmt := top 13
abbrev N_ratio : List Str := ["top", "bottom"]
theorem sc_ratio : FnScope N_ratio ["top", "bottom"] (defScope s_ratio) := ⟨rfl, rfl, rfl, by decide +kernel, rfl, by decide +kernel, by decide +kernel⟩
abbrev s_is_poly : Stmt := top 16
abbrev N_is_poly : List Str := ["value", "one"]
theorem sc_is_poly : FnScope N_is_poly ["value"] (defScope s_is_poly) := ⟨rfl, rfl, rfl, by decide +kernel, rfl, by decide +kernel, by decide +kernel⟩
abbrev s_need_poly : Stmt := top 17
abbrev N_need_poly : List Str := ["value", "part"]
theorem sc_need_poly : FnScope N_need_poly ["value", "part"] (defScope s_need_poly) := ⟨rfl, rfl, rfl, by decide +kernel, rfl, by decide +kernel, by decide +kernel⟩
abbrev s_need_ratio : Stmt := top 18
abbrev N_need_ratio : List Str := ["value", "part"]
theorem sc_need_ratio : FnScope N_need_ratio ["value", "part"] (defScope s_need_ratio) := ⟨rfl, rfl, rfl, by decide +kernel, rfl, by decide +kernel, by decide +kernel⟩
abbrev s_trimmed : Stmt := top 19
abbrev N_trimmed : List Str := ["some", "many"]
theorem sc_trimmed : FnScope N_trimmed ["some"] (defScope s_trimmed) := ⟨rfl, rfl, rfl, by decide +kernel, rfl, by decide +kernel, by decide +kernel⟩
abbrev s_sum_of : Stmt := top 20
abbrev N_sum_of : List Str := ["one", "other", "longer", "rest", "at", "part"]
theorem sc_sum_of : FnScope N_sum_of ["one", "other"] (defScope s_sum_of) := ⟨rfl, rfl, rfl, by decide +kernel, rfl, by decide +kernel, by decide +kernel⟩
abbrev s_product_of : Stmt := top 21
abbrev N_product_of : List Str := ["one", "other", "found", "at", "part", "spot", "its"]
theorem sc_product_of : FnScope N_product_of ["one", "other"] (defScope s_product_of) := ⟨rfl, rfl, rfl, by decide +kernel, rfl, by decide +kernel, by decide +kernel⟩
abbrev s_content_of : Stmt := top 22
abbrev N_content_of : List Str := ["poly", "found", "part"]
theorem sc_content_of : FnScope N_content_of ["poly"] (defScope s_content_of) := ⟨rfl, rfl, rfl, by decide +kernel, rfl, by decide +kernel, by decide +kernel⟩
abbrev s_cleared : Stmt := top 23
abbrev N_cleared : List Str := ["poly", "by", "part"]
theorem sc_cleared : FnScope N_cleared ["poly"] (defScope s_cleared) := ⟨rfl, rfl, rfl, by decide +kernel, rfl, by decide +kernel, by decide +kernel⟩
abbrev s_sign_of : Stmt := top 24
abbrev N_sign_of : List Str := ["number"]
theorem sc_sign_of : FnScope N_sign_of ["number"] (defScope s_sign_of) := ⟨rfl, rfl, rfl, by decide +kernel, rfl, by decide +kernel, by decide +kernel⟩
abbrev s_top_at : Stmt := top 25
abbrev N_top_at : List Str := ["poly", "x", "found", "by", "part"]
theorem sc_top_at : FnScope N_top_at ["poly", "x"] (defScope s_top_at) := ⟨rfl, rfl, rfl, by decide +kernel, rfl, by decide +kernel, by decide +kernel⟩
abbrev s_sign_at_x : Stmt := top 26
abbrev N_sign_at_x : List Str := ["poly", "x"]
theorem sc_sign_at_x : FnScope N_sign_at_x ["poly", "x"] (defScope s_sign_at_x) := ⟨rfl, rfl, rfl, by decide +kernel, rfl, by decide +kernel, by decide +kernel⟩
abbrev s_bottom_power : Stmt := top 27
abbrev N_bottom_power : List Str := ["x", "many", "found", "turn"]
theorem sc_bottom_power : FnScope N_bottom_power ["x", "many"] (defScope s_bottom_power) := ⟨rfl, rfl, rfl, by decide +kernel, rfl, by decide +kernel, by decide +kernel⟩
abbrev s_product : Stmt := top 28
abbrev N_product : List Str := ["one", "other", "first"]
theorem sc_product : FnScope N_product ["one", "other"] (defScope s_product) := ⟨rfl, rfl, rfl, by decide +kernel, rfl, by decide +kernel, by decide +kernel⟩
abbrev s_value : Stmt := top 29
abbrev N_value : List Str := ["poly", "x", "its", "at"]
theorem sc_value : FnScope N_value ["poly", "x"] (defScope s_value) := ⟨rfl, rfl, rfl, by decide +kernel, rfl, by decide +kernel, by decide +kernel⟩
abbrev s_sign_at_ratio : Stmt := top 30
abbrev N_sign_at_ratio : List Str := ["poly", "x", "its"]
theorem sc_sign_at_ratio : FnScope N_sign_at_ratio ["poly", "x"] (defScope s_sign_at_ratio) := ⟨rfl, rfl, rfl, by decide +kernel, rfl, by decide +kernel, by decide +kernel⟩
abbrev s_shifted : Stmt := top 31
abbrev N_shifted : List Str := ["poly", "a", "b", "its", "start", "step", "bottom", "line", "found", "by", "part"]
theorem sc_shifted : FnScope N_shifted ["poly", "a", "b"] (defScope s_shifted) := ⟨rfl, rfl, rfl, by decide +kernel, rfl, by decide +kernel, by decide +kernel⟩
abbrev s__law_pen : Stmt := top 33
abbrev N__law_pen : List Str := ["script", "cell"]
theorem sc__law_pen : FnScope N__law_pen ["script"] (defScope s__law_pen) := ⟨rfl, rfl, rfl, by decide +kernel, rfl, by decide +kernel, by decide +kernel⟩
abbrev s__law_draw : Stmt := top 34
abbrev N__law_draw : List Str := ["pen", "many", "rest", "turn", "cell", "mixed"]
theorem sc__law_draw : FnScope N__law_draw ["pen", "many"] (defScope s__law_draw) := ⟨rfl, rfl, rfl, by decide +kernel, rfl, by decide +kernel, by decide +kernel⟩
abbrev s__law_pick : Stmt := top 35
abbrev N__law_pick : List Str := ["pen", "some"]
theorem sc__law_pick : FnScope N__law_pick ["pen", "some"] (defScope s__law_pick) := ⟨rfl, rfl, rfl, by decide +kernel, rfl, by decide +kernel, by decide +kernel⟩
abbrev s__law_trim : Stmt := top 36
abbrev N__law_trim : List Str := ["some", "found"]
theorem sc__law_trim : FnScope N__law_trim ["some"] (defScope s__law_trim) := ⟨rfl, rfl, rfl, by decide +kernel, rfl, by decide +kernel, by decide +kernel⟩
abbrev s__law_by : Stmt := top 37
abbrev N__law_by : List Str := ["poly", "number", "part"]
theorem sc__law_by : FnScope N__law_by ["poly", "number"] (defScope s__law_by) := ⟨rfl, rfl, rfl, by decide +kernel, rfl, by decide +kernel, by decide +kernel⟩
abbrev s__law_times : Stmt := top 38
abbrev N__law_times : List Str := ["one", "other", "found", "at", "mine", "spot", "its"]
theorem sc__law_times : FnScope N__law_times ["one", "other"] (defScope s__law_times) := ⟨rfl, rfl, rfl, by decide +kernel, rfl, by decide +kernel, by decide +kernel⟩
abbrev s__law_all_times : Stmt := top 39
abbrev N__law_all_times : List Str := ["some", "found", "one"]
theorem sc__law_all_times : FnScope N__law_all_times ["some"] (defScope s__law_all_times) := ⟨rfl, rfl, rfl, by decide +kernel, rfl, by decide +kernel, by decide +kernel⟩
abbrev s__law_gcd : Stmt := top 40
abbrev N__law_gcd : List Str := ["one", "other"]
theorem sc__law_gcd : FnScope N__law_gcd ["one", "other"] (defScope s__law_gcd) := ⟨rfl, rfl, rfl, by decide +kernel, rfl, by decide +kernel, by decide +kernel⟩
abbrev s__law_content : Stmt := top 41
abbrev N__law_content : List Str := ["poly", "found", "part"]
theorem sc__law_content : FnScope N__law_content ["poly"] (defScope s__law_content) := ⟨rfl, rfl, rfl, by decide +kernel, rfl, by decide +kernel, by decide +kernel⟩
abbrev s__law_clear : Stmt := top 42
abbrev N__law_clear : List Str := ["poly", "by", "part"]
theorem sc__law_clear : FnScope N__law_clear ["poly"] (defScope s__law_clear) := ⟨rfl, rfl, rfl, by decide +kernel, rfl, by decide +kernel, by decide +kernel⟩
abbrev s__law_plain : Stmt := top 43
abbrev N__law_plain : List Str := ["poly", "found"]
theorem sc__law_plain : FnScope N__law_plain ["poly"] (defScope s__law_plain) := ⟨rfl, rfl, rfl, by decide +kernel, rfl, by decide +kernel, by decide +kernel⟩
abbrev s__law_ratio : Stmt := top 44
abbrev N__law_ratio : List Str := ["top", "bottom", "by"]
theorem sc__law_ratio : FnScope N__law_ratio ["top", "bottom"] (defScope s__law_ratio) := ⟨rfl, rfl, rfl, by decide +kernel, rfl, by decide +kernel, by decide +kernel⟩
abbrev s__law_poly : Stmt := top 45
abbrev N__law_poly : List Str := ["pen", "most", "at"]
theorem sc__law_poly : FnScope N__law_poly ["pen", "most"] (defScope s__law_poly) := ⟨rfl, rfl, rfl, by decide +kernel, rfl, by decide +kernel, by decide +kernel⟩
abbrev s__law_x : Stmt := top 46
abbrev N__law_x : List Str := ["pen"]
theorem sc__law_x : FnScope N__law_x ["pen"] (defScope s__law_x) := ⟨rfl, rfl, rfl, by decide +kernel, rfl, by decide +kernel, by decide +kernel⟩
abbrev s__law_factor : Stmt := top 47
abbrev N__law_factor : List Str := ["pen", "a", "c", "way", "d"]
theorem sc__law_factor : FnScope N__law_factor ["pen"] (defScope s__law_factor) := ⟨rfl, rfl, rfl, by decide +kernel, rfl, by decide +kernel, by decide +kernel⟩
abbrev s__law_factors : Stmt := top 48
abbrev N__law_factors : List Str := ["pen", "many", "found", "turn", "poly", "roots", "one"]
theorem sc__law_factors : FnScope N__law_factors ["pen", "many"] (defScope s__law_factors) := ⟨rfl, rfl, rfl, by decide +kernel, rfl, by decide +kernel, by decide +kernel⟩
abbrev s__law_made : Stmt := top 49
abbrev N__law_made : List Str := ["pen", "factors", "poly", "roots", "many"]
theorem sc__law_made : FnScope N__law_made ["pen", "factors"] (defScope s__law_made) := ⟨rfl, rfl, rfl, by decide +kernel, rfl, by decide +kernel, by decide +kernel⟩
abbrev s_law : Stmt := top 50
abbrev N_law : List Str := ["script", "pen", "turn", "factors", "poly", "a", "b", "x", "told", "there", "some", "mine", "its", "other", "theirs", "half", "one"]
theorem sc_law : FnScope N_law ["script"] (defScope s_law) := ⟨rfl, rfl, rfl, by decide +kernel, rfl, by decide +kernel, by decide +kernel⟩
def k_MOST_DEGREE : T := (.int 60)
abbrev kw_shifted_0_b_a_poly {α : Type} (us ws : List α) : List α := permG 0 3 [2, 1, 0] us ws
def g_is_integer : SF := (sRet (eAnd (eN bIsi (aC (eVar 0) (aC (eC (.ty .int)) aN))) (eNot (eN bIsi (aC (eVar 0) (aC (eC (.ty .bl)) aN))))))
def m_is_integer : MF := runF 1 g_is_integer
def g_is_listed : SF := (sRet (eN bIsi (aC (eVar 0) (aC (eN dTup (aC (eC (.ty .list)) (aC (eC (.ty .tup)) aN))) aN))))
def m_is_listed : MF := runF 1 g_is_listed
def g_lowest : SF := (bSeq (sAsg (.nm 2) (eN bGcd (aC (eVar 0) (aC (eVar 1) aN))))
    (bSeq (sIf (tB1 (e2 (iCmp fun i j => decide (i < j)) (eVar 1) (eC (.int 0)))) (sRet (eN dTup (aC (e2 iDiv (e1 nNeg (eVar 0)) (eVar 2)) (aC (e2 iDiv (e1 nNeg (eVar 1)) (eVar 2)) aN)))) bNil)
    (sRet (eN dTup (aC (e2 iDiv (eVar 0) (eVar 2)) (aC (e2 iDiv (eVar 1) (eVar 2)) aN))))))
def m_lowest : MF := runF 3 g_lowest
def g_is_ratio : SF := (bSeq (sIf (bOr (bNot (tB1 (eN bIsi (aC (eVar 0) (aC (eC (.ty .tup)) aN))))) (bOr (tB1 (e2 qNe (eN bLen (aC (eVar 0) aN)) (eC (.int 2)))) (bOr (bNot (tB1 (eCall m_is_integer (xDef [] (xV (e2 xIx (eVar 0) (eC (.int 0))) xN))))) (bNot (tB1 (eCall m_is_integer (xDef [] (xV (e2 xIx (eVar 0) (eC (.int 1))) xN)))))))) (sRet (eC (.bl false))) bNil)
    (sRet (eAnd (e2 (iCmp fun i j => decide (j ≤ i)) (e2 xIx (eVar 0) (eC (.int 1))) (eC (.int 1))) (e2 qEq (eN bGcd (aC (e2 xIx (eVar 0) (eC (.int 0))) (aC (e2 xIx (eVar 0) (eC (.int 1))) aN))) (eC (.int 1))))))
def m_is_ratio : MF := runF 1 g_is_ratio
def g_ratio : SF := (bSeq (sIf (bNot (tB1 (eCall m_is_integer (xDef [] (xV (eVar 0) xN))))) sNever bNil)
    (bSeq (sIf (bOr (bNot (tB1 (eCall m_is_integer (xDef [] (xV (eVar 1) xN))))) (tB1 (e2 qEq (eVar 1) (eC (.int 0))))) sNever bNil)
    (sRet (eCall m_lowest (xDef [] (xV (eVar 0) (xV (eVar 1) xN)))))))
def m_ratio : MF := runF 2 g_ratio
def c_is_poly_1 : EF := (eCall m_is_integer (xDef [] (xV (eVar 1) xN)))
def g_is_poly : SF := (bSeq (sIf (bOr (bNot (tB1 (eCall m_is_listed (xDef [] (xV (eVar 0) xN))))) (bNot (tB1 (eN bAll (aC (eLc (itS (eVar 0)) (.nm 1) tYesF c_is_poly_1 [1]) aN))))) (sRet (eC (.bl false))) bNil)
    (sRet (eOr (e2 qEq (eN bLen (aC (eVar 0) aN)) (eC (.int 0))) (e2 qNe (e2 xIx (eVar 0) (e1 nNeg (eC (.int 1)))) (eC (.int 0))))))
def m_is_poly : MF := runF 2 g_is_poly
def g_need_poly : SF := (bSeq (sIf (bNot (tB1 (eCall m_is_poly (xDef [] (xV (eVar 0) xN))))) sNever bNil)
    (bSeq (sIf (tB1 (e2 (iCmp fun i j => decide (j < i)) (eN bLen (aC (eVar 0) aN)) (e2 oAdd (eC k_MOST_DEGREE) (eC (.int 1))))) sNever bNil)
    (sRet (eN bTup (aC (eVar 0) aN)))))
def m_need_poly : MF := runF 2 g_need_poly
def g_need_ratio : SF := (bSeq (sIf (bNot (tB1 (eCall m_is_ratio (xDef [] (xV (eVar 0) xN))))) sNever bNil)
    (sRet (eVar 0)))
def m_need_ratio : MF := runF 2 g_need_ratio
def b_trimmed_1 : SF := (sAsg (.nm 1) (e2 oSub (eVar 1) (eC (.int 1))))
def w_trimmed_1 : BF := (bAnd (tB1 (e2 (iCmp fun i j => decide (j < i)) (eVar 1) (eC (.int 0)))) (tB1 (e2 qEq (e2 xIx (eVar 0) (e2 oSub (eVar 1) (eC (.int 1)))) (eC (.int 0)))))
def g_trimmed : SF := (bSeq (sAsg (.nm 1) (eN bLen (aC (eVar 0) aN)))
    (bSeq (sWhile 1000000 w_trimmed_1 b_trimmed_1)
    (sRet (eN bTup (aC (eSl (eVar 0) pNone (pSome (eVar 1))) aN)))))
def m_trimmed : MF := runF 2 g_trimmed
def c_sum_of_1 : EF := (e2 oAdd (eVar 5) (eIf (tB1 (e2 (iCmp fun i j => decide (i < j)) (eVar 4) (eN bLen (aC (eVar 3) aN)))) (e2 xIx (eVar 3) (eVar 4)) (eC (.int 0))))
def g_sum_of : SF := (bSeq (sAsg (.tup [(.nm 2), (.nm 3)]) (eIf (tB1 (e2 (iCmp fun i j => decide (j ≤ i)) (eN bLen (aC (eVar 0) aN)) (eN bLen (aC (eVar 1) aN)))) (eN dTup (aC (eVar 0) (aC (eVar 1) aN))) (eN dTup (aC (eVar 1) (aC (eVar 0) aN)))))
    (sRet (eCall m_trimmed (xDef [] (xV (eLc (itEnum (aC (eVar 2) aN)) (.tup [(.nm 4), (.nm 5)]) tYesF c_sum_of_1 [4, 5]) xN)))))
def m_sum_of : MF := runF 6 g_sum_of
def b_product_of_1 : SF := (sStore 2 (e2 oAdd (ePkIx 2 (e2 oAdd (eVar 3) (eVar 5))) (e2 oMul (eVar 4) (eVar 6))) (e2 oAdd (eVar 3) (eVar 5)))
def b_product_of_2 : SF := (sIf (tB1 (e2 qNe (eVar 4) (eC (.int 0)))) (sFor (itEnum (aC (eVar 1) aN)) (.tup [(.nm 5), (.nm 6)]) b_product_of_1) bNil)
def g_product_of : SF := (bSeq (sIf (bOr (tB1 (e2 qEq (eVar 0) (eN dTup aN))) (tB1 (e2 qEq (eVar 1) (eN dTup aN)))) (sRet (eN dTup aN)) bNil)
    (bSeq (sOwn 2 (e2 lRep (eN dLst (aC (eC (.int 0)) aN)) (e2 oSub (e2 oAdd (eN bLen (aC (eVar 0) aN)) (eN bLen (aC (eVar 1) aN))) (eC (.int 1)))))
    (bSeq (sFor (itEnum (aC (eVar 0) aN)) (.tup [(.nm 3), (.nm 4)]) b_product_of_2)
    (sRet (eN bTup (aC (eVar 2) aN))))))
def m_product_of : MF := runF 7 g_product_of
def b_content_of_1 : SF := (sAsg (.nm 1) (eN bGcd (aC (eVar 1) (aC (eVar 2) aN))))
def g_content_of : SF := (bSeq (sAsg (.nm 1) (eC (.int 0)))
    (bSeq (sFor (itS (eVar 0)) (.nm 2) b_content_of_1)
    (sRet (eVar 1))))
def m_content_of : MF := runF 3 g_content_of
def c_cleared_1 : EF := (e2 iDiv (eVar 2) (eVar 1))
def g_cleared : SF := (bSeq (sAsg (.nm 1) (eCall m_content_of (xDef [] (xV (eVar 0) xN))))
    (sRet (eIf (tB1 (e2 (iCmp fun i j => decide (i < j)) (eVar 1) (eC (.int 2)))) (eVar 0) (eN bTup (aC (eLc (itS (eVar 0)) (.nm 2) tYesF c_cleared_1 [2]) aN)))))
def m_cleared : MF := runF 3 g_cleared
def g_sign_of : SF := (sRet (e2 oSub (e2 (iCmp fun i j => decide (j < i)) (eVar 0) (eC (.int 0))) (e2 (iCmp fun i j => decide (i < j)) (eVar 0) (eC (.int 0)))))
def m_sign_of : MF := runF 1 g_sign_of
def b_top_at_1 : SF := (bSeq (sAsg (.nm 2) (e2 oAdd (e2 oMul (eVar 2) (e2 xIx (eVar 1) (eC (.int 0)))) (e2 oMul (eVar 4) (eVar 3))))
    (sAsg (.nm 3) (e2 oMul (eVar 3) (e2 xIx (eVar 1) (eC (.int 1))))))
def g_top_at : SF := (bSeq (sAsg (.tup [(.nm 2), (.nm 3)]) (eN dTup (aC (eC (.int 0)) (aC (eC (.int 1)) aN))))
    (bSeq (sFor (itS (eRev (eVar 0))) (.nm 4) b_top_at_1)
    (sRet (eVar 2))))
def m_top_at : MF := runF 5 g_top_at
def g_sign_at_x : SF := (sRet (eCall m_sign_of (xDef [] (xV (eCall m_top_at (xDef [] (xV (eVar 0) (xV (eVar 1) xN)))) xN))))
def m_sign_at_x : MF := runF 2 g_sign_at_x
def b_bottom_power_1 : SF := (sAsg (.nm 2) (e2 oMul (eVar 2) (e2 xIx (eVar 0) (eC (.int 1)))))
def g_bottom_power : SF := (bSeq (sAsg (.nm 2) (eC (.int 1)))
    (bSeq (sFor (itRange1 (aC (eVar 1) aN)) (.nm 3) b_bottom_power_1)
    (sRet (eVar 2))))
def m_bottom_power : MF := runF 4 g_bottom_power
def g_product : SF := (bSeq (sAsg (.nm 2) (eCall m_need_poly (xDef [] (xV (eVar 0) (xV (eC (.str "one")) xN)))))
    (sRet (eCall m_product_of (xDef [] (xV (eVar 2) (xV (eCall m_need_poly (xDef [] (xV (eVar 1) (xV (eC (.str "other")) xN)))) xN))))))
def m_product : MF := runF 3 g_product
def g_value : SF := (bSeq (sAsg (.nm 2) (eCall m_need_poly (xDef [] (xV (eVar 0) (xV (eC (.str "poly")) xN)))))
    (bSeq (sAsg (.nm 3) (eCall m_need_ratio (xDef [] (xV (eVar 1) (xV (eC (.str "x")) xN)))))
    (sRet (eCall m_ratio (xDef [] (xV (eCall m_top_at (xDef [] (xV (eVar 2) (xV (eVar 3) xN)))) (xV (eCall m_bottom_power (xDef [] (xV (eVar 3) (xV (eN bMax (aC (eC (.int 0)) (aC (e2 oSub (eN bLen (aC (eVar 2) aN)) (eC (.int 1))) aN))) xN)))) xN)))))))
def m_value : MF := runF 4 g_value
def g_sign_at_ratio : SF := (bSeq (sAsg (.nm 2) (eCall m_need_poly (xDef [] (xV (eVar 0) (xV (eC (.str "poly")) xN)))))
    (sRet (eCall m_sign_at_x (xDef [] (xV (eVar 2) (xV (eCall m_need_ratio (xDef [] (xV (eVar 1) (xV (eC (.str "x")) xN)))) xN))))))
def m_sign_at_ratio : MF := runF 3 g_sign_at_ratio
def b_shifted_1 : SF := (bSeq (sAsg (.nm 8) (eCall m_sum_of (xDef [] (xV (eCall m_product_of (xDef [] (xV (eVar 8) (xV (eVar 7) xN)))) (xV (eCall m_trimmed (xDef [] (xV (eN dLst (aC (e2 oMul (eVar 10) (eVar 9)) aN)) xN))) xN)))))
    (sAsg (.nm 9) (e2 oMul (eVar 9) (eVar 6))))
def g_shifted : SF := (bSeq (sAsg (.nm 3) (eCall m_need_poly (xDef [] (xV (eVar 0) (xV (eC (.str "poly")) xN)))))
    (bSeq (sPar 4 5 (aC (eCall m_need_ratio (xDef [] (xV (eVar 1) (xV (eC (.str "a")) xN)))) (aC (eCall m_need_ratio (xDef [] (xV (eVar 2) (xV (eC (.str "b")) xN)))) aN)))
    (bSeq (sAsg (.nm 6) (e2 oMul (e2 xIx (eVar 4) (eC (.int 1))) (e2 xIx (eVar 5) (eC (.int 1)))))
    (bSeq (sPar3 7 8 9 (aC (eCall m_trimmed (xDef [] (xV (eN dLst (aC (e2 oMul (e2 xIx (eVar 4) (eC (.int 0))) (e2 xIx (eVar 5) (eC (.int 1)))) (aC (e2 oMul (e2 xIx (eVar 5) (eC (.int 0))) (e2 xIx (eVar 4) (eC (.int 1)))) aN))) xN))) (aC (eN dTup aN) (aC (eC (.int 1)) aN))))
    (bSeq (sFor (itS (eRev (eVar 3))) (.nm 10) b_shifted_1)
    (sRet (eCall m_cleared (xDef [] (xV (eVar 8) xN)))))))))
def m_shifted : MF := runF 11 g_shifted
def c__law_pen_1 : EF := (eN bInt (aC (eVar 1) aN))
def g__law_pen : EF := (eN dLst (aC (eLc (itS (eSl (eVar 0) pNone (pSome (eC (.int 63))))) (.nm 1) tYesF c__law_pen_1 [1]) (aC (eC (.int 0)) (aC (eC (.int 0)) aN))))
def m__law_pen : MF := runW 2 g__law_pen
def g__law_draw : SF := (bSeq (sIf (tB1 (e2 (iCmp fun i j => decide (j < i)) (ePkIx 0 (eC (.int 2))) (eC (.int 0)))) (bSeq (sAsg (.nm 2) (eN bInt (aC (ePkIx 0 (eC (.int 2))) aN)))
    (bSeq (sStore 0 (e2 iDiv (eVar 2) (eVar 1)) (eC (.int 2)))
    (sRet (e2 iMod (eN bInt (aC (eVar 2) aN)) (eVar 1))))) bNil)
    (bSeq (sAsg (.nm 3) (ePkIx 0 (eC (.int 1))))
    (bSeq (sStore 0 (e2 oAdd (eVar 3) (eC (.int 1))) (eC (.int 1)))
    (bSeq (sAsg (.nm 4) (e2 oAdd (e2 oMul (eC (.int 61931)) (eVar 3)) (eC (.int 8563))))
    (bSeq (sIf (tB1 (e2 qNe (ePkIx 0 (eC (.int 0))) (eN dLst aN))) (sAsg (.nm 4) (e2 xIx (ePkIx 0 (eC (.int 0))) (e2 iMod (eN bInt (aC (eVar 3) aN)) (eN bLen (aC (ePkIx 0 (eC (.int 0))) aN))))) bNil)
    (bSeq (sIf (bAnd (tB1 (e2 (iCmp fun i j => decide (i < j)) (eVar 3) (eN bLen (aC (ePkIx 0 (eC (.int 0))) aN)))) (tB1 (e2 (iCmp fun i j => decide (j ≤ i)) (eN bAbs (aC (eVar 4) aN)) (e2 iPow (eC (.int 10)) (eC (.int 18)))))) (bSeq (sAsg (.nm 2) (e2 oAdd (e2 oMul (eC (.int 2)) (e2 oSub (eN bAbs (aC (eVar 4) aN)) (e2 iPow (eC (.int 10)) (eC (.int 18))))) (eN bInt (aC (e2 (iCmp fun i j => decide (i < j)) (eVar 4) (eC (.int 0))) aN))))
    (bSeq (sStore 0 (e2 iDiv (eN bInt (aC (eVar 2) aN)) (eVar 1)) (eC (.int 2)))
    (sRet (e2 iMod (eN bInt (aC (eVar 2) aN)) (eVar 1))))) bNil)
    (bSeq (sAsg (.nm 5) (e2 iMod (eN bInt (aC (e2 iPow (e2 oAdd (e2 oAdd (e2 iMod (eN bInt (aC (eVar 4) aN)) (eC (.int 2147483549))) (e2 oMul (eC (.int 61931)) (eVar 3))) (eC (.int 8563))) (eC (.int 5))) aN)) (eC (.int 2147483587))))
    (bSeq (sAsg (.nm 5) (e2 iMod (eN bInt (aC (e2 iPow (e2 oAdd (e2 oAdd (e2 oMul (eVar 5) (e2 oAdd (e2 oMul (eC (.int 2)) (eVar 3)) (eC (.int 4099)))) (e2 oMul (e2 oMul (eC (.int 8563)) (eVar 3)) (eVar 3))) (eC (.int 61931))) (eC (.int 3))) aN)) (eC (.int 2147483629))))
    (sRet (e2 iMod (eN bInt (aC (e2 iDiv (eVar 5) (eC (.int 64))) aN)) (eVar 1)))))))))))
def m__law_draw : MF := runF 6 g__law_draw
def g__law_pick : SF := (sRet (e2 xIx (eVar 1) (eCall m__law_draw (xDef [] (xIo 0 (xV (eN bLen (aC (eVar 1) aN)) xN))))))
def m__law_pick : MF := runF 2 g__law_pick
def b__law_trim_1 : SF := (sPop 1)
def w__law_trim_1 : BF := (bAnd (tB1 (ePkCmp true 1 (eN dLst aN))) (tB1 (e2 qEq (ePkIx 1 (e1 nNeg (eC (.int 1)))) (eC (.int 0)))))
def g__law_trim : SF := (bSeq (sOwn 1 (eN bList (aC (eVar 0) aN)))
    (bSeq (sWhile 1000000 w__law_trim_1 b__law_trim_1)
    (sRet (eN bTup (aC (eVar 1) aN)))))
def m__law_trim : MF := runF 2 g__law_trim
def c__law_by_1 : EF := (e2 oMul (eVar 2) (eVar 1))
def g__law_by : SF := (sRet (eCall m__law_trim (xDef [] (xV (eLc (itS (eVar 0)) (.nm 2) tYesF c__law_by_1 [2]) xN))))
def m__law_by : MF := runF 3 g__law_by
def b__law_times_1 : SF := (sStore 2 (e2 oAdd (ePkIx 2 (e2 oAdd (eVar 3) (eVar 5))) (e2 oMul (eVar 4) (eVar 6))) (e2 oAdd (eVar 3) (eVar 5)))
def b__law_times_2 : SF := (sFor (itEnum (aC (eVar 1) aN)) (.tup [(.nm 5), (.nm 6)]) b__law_times_1)
def g__law_times : SF := (bSeq (sOwn 2 (e2 lRep (eN dLst (aC (eC (.int 0)) aN)) (e2 oAdd (eN bLen (aC (eVar 0) aN)) (eN bLen (aC (eVar 1) aN)))))
    (bSeq (sFor (itEnum (aC (eVar 0) aN)) (.tup [(.nm 3), (.nm 4)]) b__law_times_2)
    (sRet (eCall m__law_trim (xDef [] (xV (eVar 2) xN))))))
def m__law_times : MF := runF 7 g__law_times
def b__law_all_times_1 : SF := (sAsg (.nm 1) (eCall m__law_times (xDef [] (xV (eVar 1) (xV (eVar 2) xN)))))
def g__law_all_times : SF := (bSeq (sAsg (.nm 1) (eN dTup (aC (eC (.int 1)) aN)))
    (bSeq (sFor (itS (eVar 0)) (.nm 2) b__law_all_times_1)
    (sRet (eVar 1))))
def m__law_all_times : MF := runF 3 g__law_all_times
def b__law_gcd_1 : SF := (sPar 0 1 (aC (eVar 1) (aC (e2 iMod (eN bInt (aC (eVar 0) aN)) (eVar 1)) aN)))
def w__law_gcd_1 : BF := (tB1 (e2 qNe (eVar 1) (eC (.int 0))))
def g__law_gcd : SF := (bSeq (sPar 0 1 (aC (eN bAbs (aC (eVar 0) aN)) (aC (eN bAbs (aC (eVar 1) aN)) aN)))
    (bSeq (sWhile 1000000 w__law_gcd_1 b__law_gcd_1)
    (sRet (eVar 0))))
def m__law_gcd : MF := runF 2 g__law_gcd
def b__law_content_1 : SF := (sAsg (.nm 1) (eCall m__law_gcd (xDef [] (xV (eVar 1) (xV (eVar 2) xN)))))
def g__law_content : SF := (bSeq (sAsg (.nm 1) (eC (.int 0)))
    (bSeq (sFor (itS (eVar 0)) (.nm 2) b__law_content_1)
    (sRet (eVar 1))))
def m__law_content : MF := runF 3 g__law_content
def c__law_clear_1 : EF := (eN bInt (aC (e2 iDiv (eVar 2) (eVar 1)) aN))
def g__law_clear : SF := (bSeq (sAsg (.nm 1) (eCall m__law_content (xDef [] (xV (eVar 0) xN))))
    (sRet (eIf (tB1 (e2 (iCmp fun i j => decide (j < i)) (eVar 1) (eC (.int 1)))) (eN bTup (aC (eLc (itS (eVar 0)) (.nm 2) tYesF c__law_clear_1 [2]) aN)) (eVar 0))))
def m__law_clear : MF := runF 3 g__law_clear
def g__law_plain : SF := (bSeq (sAsg (.nm 1) (eCall m__law_clear (xDef [] (xV (eVar 0) xN))))
    (sRet (eIf (bAnd (tB1 (e2 qNe (eVar 1) (eN dTup aN))) (tB1 (e2 (iCmp fun i j => decide (i < j)) (e2 xIx (eVar 1) (e1 nNeg (eC (.int 1)))) (eC (.int 0))))) (eCall m__law_by (xDef [] (xV (eVar 1) (xV (e1 nNeg (eC (.int 1))) xN)))) (eVar 1))))
def m__law_plain : MF := runF 2 g__law_plain
def g__law_ratio : SF := (bSeq (sAsg (.nm 2) (e2 oMul (eCall m__law_gcd (xDef [] (xV (eVar 0) (xV (eVar 1) xN)))) (eIf (tB1 (e2 (iCmp fun i j => decide (j < i)) (eVar 1) (eC (.int 0)))) (eC (.int 1)) (e1 nNeg (eC (.int 1))))))
    (sRet (eN dTup (aC (eN bInt (aC (e2 iDiv (eVar 0) (eVar 2)) aN)) (aC (eN bInt (aC (e2 iDiv (eVar 1) (eVar 2)) aN)) aN)))))
def m__law_ratio : MF := runF 3 g__law_ratio
def c__law_poly_1 : EF := (eCall m__law_pick (xDef [] (xIo 0 (xV (eN dLst (aC (eC (.int 0)) (aC (eC (.int 0)) (aC (eC (.int 1)) (aC (e1 nNeg (eC (.int 1))) (aC (eC (.int 2)) (aC (e1 nNeg (eC (.int 3))) (aC (eC (.int 5)) (aC (e1 nNeg (eC (.int 7))) (aC (eC (.int 12)) (aC (e2 oSub (eCall m__law_draw (xDef [] (xIo 0 (xV (eC (.int 90)) xN)))) (eC (.int 40))) aN))))))))))) xN))))
def g__law_poly : SF := (sRet (eCall m__law_trim (xDef [] (xV (eLc (itRange1 (aC (eCall m__law_draw (xDef [] (xIo 0 (xV (e2 oAdd (eVar 1) (eC (.int 1))) xN)))) aN)) (.nm 2) tYesF c__law_poly_1 [2]) xN))))
def m__law_poly : MF := runF 3 g__law_poly
def g__law_x : SF := (sRet (eCall m__law_ratio (xDef [] (xV (e2 oSub (eCall m__law_draw (xDef [] (xIo 0 (xV (eC (.int 41)) xN)))) (eC (.int 20))) (xV (e2 oAdd (eC (.int 1)) (eCall m__law_draw (xDef [] (xIo 0 (xV (eC (.int 9)) xN))))) xN)))))
def m__law_x : MF := runF 1 g__law_x
def g__law_factor : SF := (bSeq (sPar 1 2 (aC (e2 oSub (eCall m__law_draw (xDef [] (xIo 0 (xV (eC (.int 13)) xN)))) (eC (.int 6))) (aC (e2 oAdd (eC (.int 1)) (eCall m__law_draw (xDef [] (xIo 0 (xV (eC (.int 5)) xN))))) aN)))
    (bSeq (sAsg (.nm 3) (eCall m__law_draw (xDef [] (xIo 0 (xV (eC (.int 5)) xN)))))
    (bSeq (sIf (tB1 (e2 (iCmp fun i j => decide (i < j)) (eVar 3) (eC (.int 2)))) (sRet (eN dTup (aC (eCall m__law_plain (xDef [] (xV (eN dTup (aC (e2 oSub (eC (.int 0)) (eVar 1)) (aC (eVar 2) aN))) xN))) (aC (eN dLst (aC (eN dTup (aC (eVar 1) (aC (eC (.int 0)) (aC (eC (.int 0)) (aC (eVar 2) aN))))) aN)) aN)))) bNil)
    (bSeq (sAsg (.nm 4) (eCall m__law_pick (xDef [] (xIo 0 (xV (eN dLst (aC (eC (.int 2)) (aC (eC (.int 3)) (aC (eC (.int 5)) (aC (eC (.int 6)) (aC (eC (.int 7)) (aC (eC (.int 10)) (aC (eC (.int 12)) aN)))))))) xN)))))
    (bSeq (sIf (tB1 (e2 qEq (eVar 3) (eC (.int 2)))) (sRet (eN dTup (aC (eCall m__law_plain (xDef [] (xV (eN dTup (aC (e2 oAdd (e2 oMul (eVar 1) (eVar 1)) (eVar 4)) (aC (e2 oMul (e2 oMul (e1 nNeg (eC (.int 2))) (eVar 1)) (eVar 2)) (aC (e2 oMul (eVar 2) (eVar 2)) aN)))) xN))) (aC (eN dLst aN) aN)))) bNil)
    (sRet (eN dTup (aC (eCall m__law_plain (xDef [] (xV (eN dTup (aC (e2 oSub (e2 oMul (eVar 1) (eVar 1)) (eVar 4)) (aC (e2 oMul (e2 oMul (e1 nNeg (eC (.int 2))) (eVar 1)) (eVar 2)) (aC (e2 oMul (eVar 2) (eVar 2)) aN)))) xN))) (aC (eN dLst (aC (eN dTup (aC (eVar 1) (aC (e1 nNeg (eC (.int 1))) (aC (eVar 4) (aC (eVar 2) aN))))) (aC (eN dTup (aC (eVar 1) (aC (eC (.int 1)) (aC (eVar 4) (aC (eVar 2) aN))))) aN))) aN)))))))))
def m__law_factor : MF := runF 5 g__law_factor
def c__law_factors_1 : EF := (e2 xIx (eVar 6) (eC (.int 0)))
def b__law_factors_1 : SF := (bSeq (sAsg (.tup [(.nm 4), (.nm 5)]) (eCall m__law_factor (xDef [] (xIo 0 xN))))
    (sIf (tB1 (e2 qNin (eVar 4) (eLcP 2 (.nm 6) tYesF c__law_factors_1 [6]))) (sApp 2 (eN dTup (aC (eVar 4) (aC (eVar 5) (aC (eCall m__law_pick (xDef [] (xIo 0 (xV (eN dLst (aC (eC (.int 1)) (aC (eC (.int 1)) (aC (eC (.int 1)) (aC (eC (.int 2)) (aC (eC (.int 3)) aN)))))) xN)))) aN))))) bNil))
def g__law_factors : SF := (bSeq (sOwn 2 (eN dLst aN))
    (bSeq (sForR [3, 4, 5, 6] (itRange1 (aC (e2 oAdd (eC (.int 1)) (eCall m__law_draw (xDef [] (xIo 0 (xV (eVar 1) xN))))) aN)) (.nm 3) b__law_factors_1)
    (sRet (eVar 2))))
def m__law_factors : MF := runF 7 g__law_factors
def c__law_made_1 : EF := (e2 oMul (eN dLst (aC (eVar 2) aN)) (eVar 4))
def g__law_made : SF := (sRet (eCall m__law_by (xDef [] (xV (eCall m__law_all_times (xDef [] (xV (eN bSumL (aC (eLc (itS (eVar 1)) (.tup [(.nm 2), (.nm 3), (.nm 4)]) tYesF c__law_made_1 [2, 3, 4]) (aC (eN dLst aN) aN))) xN))) (xV (eCall m__law_pick (xDef [] (xIo 0 (xV (eN dLst (aC (eC (.int 1)) (aC (e1 nNeg (eC (.int 1))) (aC (eC (.int 2)) (aC (e1 nNeg (eC (.int 3))) (aC (eC (.int 6)) aN)))))) xN)))) xN)))))
def m__law_made : MF := runF 5 g__law_made
def c_law_1 : EF := (eN dTup (aC (eCall m_value (xDef [] (xV (eVar 8) (xV (eVar 16) xN)))) (aC (eCall m_value (xDef [] (xV (eVar 4) (xV (eCall m__law_ratio (xDef [] (xV (e2 oAdd (e2 oMul (e2 oMul (e2 xIx (eVar 5) (eC (.int 0))) (e2 xIx (eVar 6) (eC (.int 1)))) (e2 xIx (eVar 16) (eC (.int 1)))) (e2 oMul (e2 oMul (e2 xIx (eVar 6) (eC (.int 0))) (e2 xIx (eVar 16) (eC (.int 0)))) (e2 xIx (eVar 5) (eC (.int 1))))) (xV (e2 oMul (e2 oMul (e2 xIx (eVar 5) (eC (.int 1))) (e2 xIx (eVar 6) (eC (.int 1)))) (e2 xIx (eVar 16) (eC (.int 1)))) xN)))) xN)))) aN)))
def b_law_1 : SF := (sIf (tB1 (e2 qNe (e2 oMul (e2 oMul (e2 oMul (e2 xIx (eVar 11) (eC (.int 0))) (e2 xIx (eVar 13) (eC (.int 1)))) (e2 xIx (eVar 14) (eC (.int 0)))) (e2 xIx (eVar 12) (eC (.int 1)))) (e2 oMul (e2 oMul (e2 oMul (e2 xIx (eVar 13) (eC (.int 0))) (e2 xIx (eVar 11) (eC (.int 1)))) (e2 xIx (eVar 12) (eC (.int 0)))) (e2 xIx (eVar 14) (eC (.int 1)))))) (sRet (eC (.bl false))) bNil)
def b_law_2 : SF := (sFor (itS (eVar 10)) (.tup [(.nm 13), (.nm 14)]) b_law_1)
def b_law_3 : SF := (bSeq (sAsg (.nm 3) (eCall m__law_factors (xDef [] (xIo 1 (xV (eC (.int 3)) xN)))))
    (bSeq (sAsg (.nm 4) (eIf (tB1 (e2 qEq (eCall m__law_draw (xDef [] (xIo 1 (xV (eC (.int 2)) xN)))) (eC (.int 0)))) (eCall m__law_made (xDef [] (xIo 1 (xV (eVar 3) xN)))) (eCall m__law_poly (xDef [] (xIo 1 (xV (eC (.int 7)) xN))))))
    (bSeq (sAsg (.tup [(.nm 5), (.nm 6), (.nm 7)]) (eN dTup (aC (eCall m__law_x (xDef [] (xIo 1 xN))) (aC (eCall m__law_pick (xDef [] (xIo 1 (xV (eN dLst (aC (eCall m__law_x (xDef [] (xIo 1 xN))) (aC (eCall m__law_x (xDef [] (xIo 1 xN))) (aC (eN dTup (aC (eC (.int 1)) (aC (eC (.int 1)) aN))) (aC (eN dTup (aC (e1 nNeg (eC (.int 1))) (aC (eC (.int 1)) aN))) (aC (eN dTup (aC (eC (.int 1)) (aC (eC (.int 2)) aN))) aN)))))) xN)))) (aC (eCall m__law_x (xDef [] (xIo 1 xN))) aN)))))
    (bSeq (sAsg (.nm 8) (eCall m_shifted (xDef [] (xV (eVar 4) (xV (eVar 5) (xV (eVar 6) xN))))))
    (bSeq (sAsg (.nm 9) (eCall m__law_ratio (xDef [] (xV (e2 oAdd (e2 oMul (e2 oMul (e2 xIx (eVar 5) (eC (.int 0))) (e2 xIx (eVar 6) (eC (.int 1)))) (e2 xIx (eVar 7) (eC (.int 1)))) (e2 oMul (e2 oMul (e2 xIx (eVar 6) (eC (.int 0))) (e2 xIx (eVar 7) (eC (.int 0)))) (e2 xIx (eVar 5) (eC (.int 1))))) (xV (e2 oMul (e2 oMul (e2 xIx (eVar 5) (eC (.int 1))) (e2 xIx (eVar 6) (eC (.int 1)))) (e2 xIx (eVar 7) (eC (.int 1)))) xN)))))
    (bSeq (sIf (bOr (tB1 (e2 qNe (eCall m_shifted (xKw kw_shifted_0_b_a_poly xN (xV (eVar 6) (xV (eVar 5) (xV (eN bList (aC (eVar 4) aN)) xN))))) (eVar 8))) (bOr (tB1 (e2 qNin (eCall m__law_content (xDef [] (xV (eVar 8) xN))) (eN dTup (aC (eC (.int 0)) (aC (eC (.int 1)) aN))))) (tB1 (e2 qNe (eCall m_sign_at_ratio (xDef [] (xV (eVar 8) (xV (eVar 7) xN)))) (eCall m_sign_at_ratio (xDef [] (xV (eVar 4) (xV (eVar 9) xN)))))))) (sRet (eC (.bl false))) bNil)
    (bSeq (sAsg (.nm 10) (eLc (itS (eN dTup (aC (eVar 7) (aC (eN dTup (aC (eC (.int 7)) (aC (eC (.int 1)) aN))) (aC (eN dTup (aC (e1 nNeg (eC (.int 3))) (aC (eC (.int 2)) aN))) (aC (eN dTup (aC (eC (.int 1)) (aC (eC (.int 9)) aN))) aN)))))) (.nm 16) tYesF c_law_1 [16]))
    (bSeq (sFor (itS (eVar 10)) (.tup [(.nm 11), (.nm 12)]) b_law_2)
    (bSeq (sIf (bAnd (tB1 (e2 qNe (e2 xIx (eVar 6) (eC (.int 0))) (eC (.int 0)))) (tB1 (e2 qNe (eCall m_shifted (xDef [] (xV (eVar 8) (xV (eCall m__law_ratio (xDef [] (xV (e2 oSub (eC (.int 0)) (e2 oMul (e2 xIx (eVar 5) (eC (.int 0))) (e2 xIx (eVar 6) (eC (.int 1))))) (xV (e2 oMul (e2 xIx (eVar 5) (eC (.int 1))) (e2 xIx (eVar 6) (eC (.int 0)))) xN)))) (xV (eCall m__law_ratio (xDef [] (xV (e2 xIx (eVar 6) (eC (.int 1))) (xV (e2 xIx (eVar 6) (eC (.int 0))) xN)))) xN))))) (eCall m__law_clear (xDef [] (xV (eVar 4) xN)))))) (sRet (eC (.bl false))) bNil)
    (bSeq (sIf (bOr (tB1 (e2 qNe (eCall m_shifted (xDef [] (xV (eVar 4) (xV (eN dTup (aC (eC (.int 0)) (aC (eC (.int 1)) aN))) (xV (eN dTup (aC (eC (.int 1)) (aC (eC (.int 1)) aN))) xN))))) (eCall m__law_clear (xDef [] (xV (eVar 4) xN))))) (bOr (tB1 (e2 qNe (eCall m_shifted (xDef [] (xV (eN dTup aN) (xV (eVar 5) (xV (eVar 6) xN))))) (eN dTup aN))) (tB1 (e2 qNe (eCall m_shifted (xDef [] (xV (eN dTup (aC (eC (.int 4)) aN)) (xV (eVar 5) (xV (eVar 6) xN))))) (eN dTup (aC (eC (.int 1)) aN)))))) (sRet (eC (.bl false))) bNil)
    (sIf (tB1 (e2 qNe (eCall m_shifted (xDef [] (xV (eCall m_product (xDef [] (xV (eVar 4) (xV (eVar 4) xN)))) (xV (eVar 5) (xV (eVar 6) xN))))) (eCall m_product (xDef [] (xV (eVar 8) (xV (eVar 8) xN)))))) (sRet (eC (.bl false))) bNil)))))))))))
def g_law : SF := (bSeq (sOwn 1 (eCall m__law_pen (xDef [] (xV (eVar 0) xN))))
    (bSeq (sForR [2, 3, 4, 5, 6, 7, 8, 9, 10, 16] (itRange1 (aC (eC (.int 8)) aN)) (.nm 2) b_law_3)
    (bSeq (sAsg (.nm 15) (eCall m_shifted (xDef [] (xV (eN dTup (aC (eC (.int 0)) (aC (eC (.int 0)) (aC (eC (.int 0)) (aC (eC (.int 8)) aN))))) (xV (eN dTup (aC (eC (.int 0)) (aC (eC (.int 1)) aN))) (xV (eN dTup (aC (eC (.int 1)) (aC (eC (.int 2)) aN))) xN))))))
    (sRet (eAnd (e2 qEq (eVar 15) (eN dTup (aC (eC (.int 0)) (aC (eC (.int 0)) (aC (eC (.int 0)) (aC (eC (.int 1)) aN)))))) (eAnd (e2 qEq (eCall m_shifted (xDef [] (xV (eN dTup (aC (eC (.int 1)) (aC (e1 nNeg (eC (.int 2))) (aC (eC (.int 1)) aN)))) (xV (eN dTup (aC (eC (.int 1)) (aC (eC (.int 1)) aN))) (xV (eN dTup (aC (e1 nNeg (eC (.int 1))) (aC (eC (.int 1)) aN))) xN))))) (eN dTup (aC (eC (.int 0)) (aC (eC (.int 0)) (aC (eC (.int 1)) aN))))) (eAnd (e2 qEq (eCall m_shifted (xDef [] (xV (eN dTup (aC (e1 nNeg (eC (.int 1))) (aC (eC (.int 1)) aN))) (xV (eN dTup (aC (eC (.int 1)) (aC (eC (.int 3)) aN))) (xV (eN dTup (aC (eC (.int 0)) (aC (eC (.int 1)) aN))) xN))))) (eN dTup (aC (e1 nNeg (eC (.int 1))) aN))) (e2 qEq (eCall m_shifted (xDef [] (xV (eN dTup (aC (e1 nNeg (eC (.int 1))) (aC (eC (.int 3)) aN))) (xV (eN dTup (aC (eC (.int 1)) (aC (eC (.int 3)) aN))) (xV (eN dTup (aC (eC (.int 0)) (aC (eC (.int 1)) aN))) xN))))) (eN dTup aN)))))))))
def m_law : MF := runF 17 g_law
/-- where the defs stand -/
structure Ads where
  c_MOST_DEGREE : Value
  a_is_integer : Addr
  d_is_integer : FuncData
  a_is_listed : Addr
  d_is_listed : FuncData
  a_lowest : Addr
  d_lowest : FuncData
  a_is_ratio : Addr
  d_is_ratio : FuncData
  a_ratio : Addr
  d_ratio : FuncData
  a_is_poly : Addr
  d_is_poly : FuncData
  a_need_poly : Addr
  d_need_poly : FuncData
  a_need_ratio : Addr
  d_need_ratio : FuncData
  a_trimmed : Addr
  d_trimmed : FuncData
  a_sum_of : Addr
  d_sum_of : FuncData
  a_product_of : Addr
  d_product_of : FuncData
  a_content_of : Addr
  d_content_of : FuncData
  a_cleared : Addr
  d_cleared : FuncData
  a_sign_of : Addr
  d_sign_of : FuncData
  a_top_at : Addr
  d_top_at : FuncData
  a_sign_at_x : Addr
  d_sign_at_x : FuncData
  a_bottom_power : Addr
  d_bottom_power : FuncData
  a_product : Addr
  d_product : FuncData
  a_value : Addr
  d_value : FuncData
  a_sign_at_ratio : Addr
  d_sign_at_ratio : FuncData
  a_shifted : Addr
  d_shifted : FuncData
  a__law_pen : Addr
  d__law_pen : FuncData
  a__law_draw : Addr
  d__law_draw : FuncData
  a__law_pick : Addr
  d__law_pick : FuncData
  a__law_trim : Addr
  d__law_trim : FuncData
  a__law_by : Addr
  d__law_by : FuncData
  a__law_times : Addr
  d__law_times : FuncData
  a__law_all_times : Addr
  d__law_all_times : FuncData
  a__law_gcd : Addr
  d__law_gcd : FuncData
  a__law_content : Addr
  d__law_content : FuncData
  a__law_clear : Addr
  d__law_clear : FuncData
  a__law_plain : Addr
  d__law_plain : FuncData
  a__law_ratio : Addr
  d__law_ratio : FuncData
  a__law_poly : Addr
  d__law_poly : FuncData
  a__law_x : Addr
  d__law_x : FuncData
  a__law_factor : Addr
  d__law_factor : FuncData
  a__law_factors : Addr
  d__law_factors : FuncData
  a__law_made : Addr
  d__law_made : FuncData
  a_law : Addr
  d_law : FuncData
structure Txt (K : PySem.W.Frag) (mg : Str → Option Value) (A : Ads) : Prop where
  m_is_integer : mg "is_integer" = some (.ref A.a_is_integer)
  F_is_integer : Fun K "is_integer" "is_integer" s_is_integer A.a_is_integer A.d_is_integer
  i_is_integer : Binds K A.d_is_integer ["value"] []
  m_is_listed : mg "is_listed" = some (.ref A.a_is_listed)
  F_is_listed : Fun K "is_listed" "is_listed" s_is_listed A.a_is_listed A.d_is_listed
  i_is_listed : Binds K A.d_is_listed ["value"] []
  m_lowest : mg "lowest" = some (.ref A.a_lowest)
  F_lowest : Fun K "lowest" "lowest" s_lowest A.a_lowest A.d_lowest
  i_lowest : Binds K A.d_lowest ["top", "bottom"] []
  m_is_ratio : mg "is_ratio" = some (.ref A.a_is_ratio)
  F_is_ratio : Fun K "is_ratio" "is_ratio" s_is_ratio A.a_is_ratio A.d_is_ratio
  i_is_ratio : Binds K A.d_is_ratio ["value"] []
  m_ratio : mg "ratio" = some (.ref A.a_ratio)
  F_ratio : FunV K "ratio" "ratio" s_ratio [(.int 1)] A.a_ratio A.d_ratio
  i_ratio : Binds K A.d_ratio ["top", "bottom"] []
  m_is_poly : mg "is_poly" = some (.ref A.a_is_poly)
  F_is_poly : Fun K "is_poly" "is_poly" s_is_poly A.a_is_poly A.d_is_poly
  i_is_poly : Binds K A.d_is_poly ["value"] []
  m_need_poly : mg "need_poly" = some (.ref A.a_need_poly)
  F_need_poly : Fun K "need_poly" "need_poly" s_need_poly A.a_need_poly A.d_need_poly
  i_need_poly : Binds K A.d_need_poly ["value", "part"] []
  m_need_ratio : mg "need_ratio" = some (.ref A.a_need_ratio)
  F_need_ratio : Fun K "need_ratio" "need_ratio" s_need_ratio A.a_need_ratio A.d_need_ratio
  i_need_ratio : Binds K A.d_need_ratio ["value", "part"] []
  m_trimmed : mg "trimmed" = some (.ref A.a_trimmed)
  F_trimmed : Fun K "trimmed" "trimmed" s_trimmed A.a_trimmed A.d_trimmed
  i_trimmed : Binds K A.d_trimmed ["some"] []
  m_sum_of : mg "sum_of" = some (.ref A.a_sum_of)
  F_sum_of : Fun K "sum_of" "sum_of" s_sum_of A.a_sum_of A.d_sum_of
  i_sum_of : Binds K A.d_sum_of ["one", "other"] []
  m_product_of : mg "product_of" = some (.ref A.a_product_of)
  F_product_of : Fun K "product_of" "product_of" s_product_of A.a_product_of A.d_product_of
  i_product_of : Binds K A.d_product_of ["one", "other"] []
  m_content_of : mg "content_of" = some (.ref A.a_content_of)
  F_content_of : Fun K "content_of" "content_of" s_content_of A.a_content_of A.d_content_of
  i_content_of : Binds K A.d_content_of ["poly"] []
  m_cleared : mg "cleared" = some (.ref A.a_cleared)
  F_cleared : Fun K "cleared" "cleared" s_cleared A.a_cleared A.d_cleared
  i_cleared : Binds K A.d_cleared ["poly"] []
  m_sign_of : mg "sign_of" = some (.ref A.a_sign_of)
  F_sign_of : Fun K "sign_of" "sign_of" s_sign_of A.a_sign_of A.d_sign_of
  i_sign_of : Binds K A.d_sign_of ["number"] []
  m_top_at : mg "top_at" = some (.ref A.a_top_at)
  F_top_at : Fun K "top_at" "top_at" s_top_at A.a_top_at A.d_top_at
  i_top_at : Binds K A.d_top_at ["poly", "x"] []
  m_sign_at_x : mg "sign_at_x" = some (.ref A.a_sign_at_x)
  F_sign_at_x : Fun K "sign_at_x" "sign_at_x" s_sign_at_x A.a_sign_at_x A.d_sign_at_x
  i_sign_at_x : Binds K A.d_sign_at_x ["poly", "x"] []
  m_bottom_power : mg "bottom_power" = some (.ref A.a_bottom_power)
  F_bottom_power : Fun K "bottom_power" "bottom_power" s_bottom_power A.a_bottom_power A.d_bottom_power
  i_bottom_power : Binds K A.d_bottom_power ["x", "many"] []
  m_product : mg "product" = some (.ref A.a_product)
  F_product : Fun K "product" "product" s_product A.a_product A.d_product
  i_product : Binds K A.d_product ["one", "other"] []
  m_value : mg "value" = some (.ref A.a_value)
  F_value : Fun K "value" "value" s_value A.a_value A.d_value
  i_value : Binds K A.d_value ["poly", "x"] []
  m_sign_at_ratio : mg "sign_at_ratio" = some (.ref A.a_sign_at_ratio)
  F_sign_at_ratio : Fun K "sign_at_ratio" "sign_at_ratio" s_sign_at_ratio A.a_sign_at_ratio A.d_sign_at_ratio
  i_sign_at_ratio : Binds K A.d_sign_at_ratio ["poly", "x"] []
  m_shifted : mg "shifted" = some (.ref A.a_shifted)
  F_shifted : Fun K "shifted" "shifted" s_shifted A.a_shifted A.d_shifted
  i_shifted : Binds K A.d_shifted ["poly", "a", "b"] []
  m__law_pen : mg "_law_pen" = some (.ref A.a__law_pen)
  F__law_pen : Fun K "_law_pen" "_law_pen" s__law_pen A.a__law_pen A.d__law_pen
  i__law_pen : Binds K A.d__law_pen ["script"] []
  m__law_draw : mg "_law_draw" = some (.ref A.a__law_draw)
  F__law_draw : Fun K "_law_draw" "_law_draw" s__law_draw A.a__law_draw A.d__law_draw
  i__law_draw : Binds K A.d__law_draw ["pen", "many"] []
  m__law_pick : mg "_law_pick" = some (.ref A.a__law_pick)
  F__law_pick : Fun K "_law_pick" "_law_pick" s__law_pick A.a__law_pick A.d__law_pick
  i__law_pick : Binds K A.d__law_pick ["pen", "some"] []
  m__law_trim : mg "_law_trim" = some (.ref A.a__law_trim)
  F__law_trim : Fun K "_law_trim" "_law_trim" s__law_trim A.a__law_trim A.d__law_trim
  i__law_trim : Binds K A.d__law_trim ["some"] []
  m__law_by : mg "_law_by" = some (.ref A.a__law_by)
  F__law_by : Fun K "_law_by" "_law_by" s__law_by A.a__law_by A.d__law_by
  i__law_by : Binds K A.d__law_by ["poly", "number"] []
  m__law_times : mg "_law_times" = some (.ref A.a__law_times)
  F__law_times : Fun K "_law_times" "_law_times" s__law_times A.a__law_times A.d__law_times
  i__law_times : Binds K A.d__law_times ["one", "other"] []
  m__law_all_times : mg "_law_all_times" = some (.ref A.a__law_all_times)
  F__law_all_times : Fun K "_law_all_times" "_law_all_times" s__law_all_times A.a__law_all_times A.d__law_all_times
  i__law_all_times : Binds K A.d__law_all_times ["some"] []
  m__law_gcd : mg "_law_gcd" = some (.ref A.a__law_gcd)
  F__law_gcd : Fun K "_law_gcd" "_law_gcd" s__law_gcd A.a__law_gcd A.d__law_gcd
  i__law_gcd : Binds K A.d__law_gcd ["one", "other"] []
  m__law_content : mg "_law_content" = some (.ref A.a__law_content)
  F__law_content : Fun K "_law_content" "_law_content" s__law_content A.a__law_content A.d__law_content
  i__law_content : Binds K A.d__law_content ["poly"] []
  m__law_clear : mg "_law_clear" = some (.ref A.a__law_clear)
  F__law_clear : Fun K "_law_clear" "_law_clear" s__law_clear A.a__law_clear A.d__law_clear
  i__law_clear : Binds K A.d__law_clear ["poly"] []
  m__law_plain : mg "_law_plain" = some (.ref A.a__law_plain)
  F__law_plain : Fun K "_law_plain" "_law_plain" s__law_plain A.a__law_plain A.d__law_plain
  i__law_plain : Binds K A.d__law_plain ["poly"] []
  m__law_ratio : mg "_law_ratio" = some (.ref A.a__law_ratio)
  F__law_ratio : Fun K "_law_ratio" "_law_ratio" s__law_ratio A.a__law_ratio A.d__law_ratio
  i__law_ratio : Binds K A.d__law_ratio ["top", "bottom"] []
  m__law_poly : mg "_law_poly" = some (.ref A.a__law_poly)
  F__law_poly : Fun K "_law_poly" "_law_poly" s__law_poly A.a__law_poly A.d__law_poly
  i__law_poly : Binds K A.d__law_poly ["pen", "most"] []
  m__law_x : mg "_law_x" = some (.ref A.a__law_x)
  F__law_x : Fun K "_law_x" "_law_x" s__law_x A.a__law_x A.d__law_x
  i__law_x : Binds K A.d__law_x ["pen"] []
  m__law_factor : mg "_law_factor" = some (.ref A.a__law_factor)
  F__law_factor : Fun K "_law_factor" "_law_factor" s__law_factor A.a__law_factor A.d__law_factor
  i__law_factor : Binds K A.d__law_factor ["pen"] []
  m__law_factors : mg "_law_factors" = some (.ref A.a__law_factors)
  F__law_factors : Fun K "_law_factors" "_law_factors" s__law_factors A.a__law_factors A.d__law_factors
  i__law_factors : Binds K A.d__law_factors ["pen", "many"] []
  m__law_made : mg "_law_made" = some (.ref A.a__law_made)
  F__law_made : Fun K "_law_made" "_law_made" s__law_made A.a__law_made A.d__law_made
  i__law_made : Binds K A.d__law_made ["pen", "factors"] []
  m_law : mg "law" = some (.ref A.a_law)
  F_law : Fun K "law" "law" s_law A.a_law A.d_law
  i_law : Binds K A.d_law ["script"] []
  b_abs : mg "abs" = none
  b_all : mg "all" = none
  b_bool : mg "bool" = none
  b_enumerate : mg "enumerate" = none
  b_int : mg "int" = none
  b_isinstance : mg "isinstance" = none
  b_len : mg "len" = none
  b_list : mg "list" = none
  b_max : mg "max" = none
  b_range : mg "range" = none
  b_sum : mg "sum" = none
  b_tuple : mg "tuple" = none
  g_MOST_DEGREE : mg "MOST_DEGREE" = some A.c_MOST_DEGREE
  r_MOST_DEGREE : RepK K A.c_MOST_DEGREE k_MOST_DEGREE
  g_gcd : mg "gcd" = some (.builtin "math.gcd")
section
variable {P : Program} {w : World} {K : PySem.W.Frag} {mg : Str → Option Value} {base : Heap} {A : Ads}
theorem kw_shifted_0_b_a_poly_b {f : Addr} {fd : FuncData} (F : Fun K "shifted" "shifted" s_shifted f fd) : KBn K fd ["poly", "a", "b"] 0 ["b", "a", "poly"] (fun us ws => kw_shifted_0_b_a_poly us ws) (fun vs zs => kw_shifted_0_b_a_poly vs zs) :=
  fun_kbn (g := kw_shifted_0_b_a_poly) F (fun r q => permG_rel r q) fun _ _ _ _ _ _ us ws h1 h2 => match us, ws, h1, h2 with | [], [_, _, _], _, _ => rfl
theorem kw_shifted_0_b_a_poly_r {R : V → Ar → Prop} {vs zs : List V} {as bs : List Ar} (h1 : vs.length = 0) (h2 : zs.length = 3) (p : Paired R vs as) (q : Paired R zs bs) : Paired R (kw_shifted_0_b_a_poly vs zs) (kw_shifted_0_b_a_poly as bs) ∧ (kw_shifted_0_b_a_poly vs zs).length = 3 := permG_r (by decide) rfl h1 h2 p q
theorem ok_is_integer (T : Txt K mg A) : FnG P w K mg base CX0 1 A.a_is_integer A.d_is_integer ["value"] (spF K 1 m_is_integer) :=
  fn_ok T.F_is_integer sc_is_integer rfl rfl (by decide) fun cdv A' outer s H E hr hgd =>
    (bv_one (sv_ret (ev_and (ev_callB ct_isi (by rfl) T.b_isinstance (by decide +kernel) (ea_cons (ev_var (pv 0)) (ea_cons (ev_ty (n := .int) (by rfl) T.b_int (by decide +kernel)) ea_nil))) (ev_one (ev_not (ev_callB ct_isi (by rfl) T.b_isinstance (by decide +kernel) (ea_cons (ev_var (pv 0)) (ea_cons (ev_ty (n := .bl) (by rfl) T.b_bool (by decide +kernel)) ea_nil))))))))
theorem ok_is_listed (T : Txt K mg A) : FnG P w K mg base CX0 1 A.a_is_listed A.d_is_listed ["value"] (spF K 1 m_is_listed) :=
  fn_ok T.F_is_listed sc_is_listed rfl rfl (by decide) fun cdv A' outer s H E hr hgd =>
    (bv_one (sv_ret (ev_callB ct_isi (by rfl) T.b_isinstance (by decide +kernel) (ea_cons (ev_var (pv 0)) (ea_cons (ev_tup (ea_cons (ev_ty (n := .list) (by rfl) T.b_list (by decide +kernel)) (ea_cons (ev_ty (n := .tup) (by rfl) T.b_tuple (by decide +kernel)) ea_nil))) ea_nil)))))
theorem ok_lowest (T : Txt K mg A) : FnG P w K mg base CX0 1 A.a_lowest A.d_lowest ["top", "bottom"] (spF K 2 m_lowest) :=
  fn_ok T.F_lowest sc_lowest rfl rfl (by decide) fun cdv A' outer s H E hr hgd =>
    (bv_cons (sv_set (i := 2) sc_lowest.nd rfl (by first | exact Or.inl rfl | exact Or.inr rfl) (ev_callG ct_gcd (by rfl) T.g_gcd (ea_cons (ev_var (pv 0)) (ea_cons (ev_var (pv 1)) ea_nil))))
    (bv_cons (sv_if (tv_cmp ot_iLt (ev_var (pv 1)) ev_int (nomark _)) (bv_one (sv_ret (ev_tup (ea_cons (ev_bin ot_iDiv (ev_un ut_neg (ev_var (pv 0))) (ev_var (pv 2))) (ea_cons (ev_bin ot_iDiv (ev_un ut_neg (ev_var (pv 1))) (ev_var (pv 2))) ea_nil))))) bv_nil)
    (bv_one (sv_ret (ev_tup (ea_cons (ev_bin ot_iDiv (ev_var (pv 0)) (ev_var (pv 2))) (ea_cons (ev_bin ot_iDiv (ev_var (pv 1)) (ev_var (pv 2))) ea_nil)))))))
theorem ok_is_ratio (T : Txt K mg A) : FnG P w K mg base CX0 2 A.a_is_ratio A.d_is_ratio ["value"] (spF K 1 m_is_ratio) :=
  fn_ok T.F_is_ratio sc_is_ratio rfl rfl (by decide) fun cdv A' outer s H E hr hgd =>
    (bv_cons (sv_if (tw_tv (tw_or (tv_not (tv_val (ev_callB ct_isi (by rfl) T.b_isinstance (by decide +kernel) (ea_cons (ev_var (pv 0)) (ea_cons (ev_ty (n := .tup) (by rfl) T.b_tuple (by decide +kernel)) ea_nil))))) (tw_or (tv_cmp (ot_ne hr.units) (ev_callB ct_len (by rfl) T.b_len (by decide +kernel) (ea_cons (ev_var (pv 0)) ea_nil)) ev_int (nomark _)) (tw_or (tv_not (tv_val (ev_call (ok_is_integer T) (hr.mono (by decide)) hgd (by rfl) T.m_is_integer T.F_is_integer.kp T.i_is_integer .nil (fun _ => .nil) rfl (xa_val (ev_ix it_ix (ev_var (pv 0)) ev_int (fun _ _ => rfl)) xa_nil) (hlen := xl_of (xl_val xl_nil))))) (tw_or1 (tv_not (tv_val (ev_call (ok_is_integer T) (hr.mono (by decide)) hgd (by rfl) T.m_is_integer T.F_is_integer.kp T.i_is_integer .nil (fun _ => .nil) rfl (xa_val (ev_ix it_ix (ev_var (pv 0)) ev_int (fun _ _ => rfl)) xa_nil) (hlen := xl_of (xl_val xl_nil)))))))))) (bv_one (sv_ret ev_bl)) bv_nil)
    (bv_one (sv_ret (ev_and (ev_cmp ot_iGe (ev_ix it_ix (ev_var (pv 0)) ev_int (fun _ _ => rfl)) ev_int (nomark _)) (ev_one (ev_cmp (ot_eq hr.units) (ev_callG ct_gcd (by rfl) T.g_gcd (ea_cons (ev_ix it_ix (ev_var (pv 0)) ev_int (fun _ _ => rfl)) (ea_cons (ev_ix it_ix (ev_var (pv 0)) ev_int (fun _ _ => rfl)) ea_nil))) ev_int (nomark _)))))))
theorem ok_ratio (T : Txt K mg A) : FnG P w K mg base CX0 2 A.a_ratio A.d_ratio ["top", "bottom"] (spF K 2 m_ratio) :=
  fn_okV T.F_ratio sc_ratio rfl rfl (by decide) fun cdv A' outer s H E hr hgd =>
    (bv_cons (sv_if (tv_not (tv_val (ev_call (ok_is_integer T) (hr.mono (by decide)) hgd (by rfl) T.m_is_integer T.F_is_integer.kp T.i_is_integer .nil (fun _ => .nil) rfl (xa_val (ev_var (pv 0)) xa_nil) (hlen := xl_of (xl_val xl_nil))))) (bv_one sv_never) bv_nil)
    (bv_cons (sv_if (tw_tv (tw_or (tv_not (tv_val (ev_call (ok_is_integer T) (hr.mono (by decide)) hgd (by rfl) T.m_is_integer T.F_is_integer.kp T.i_is_integer .nil (fun _ => .nil) rfl (xa_val (ev_var (pv 1)) xa_nil) (hlen := xl_of (xl_val xl_nil))))) (tw_or1 (tv_cmp (ot_eq hr.units) (ev_var (pv 1)) ev_int (nomark _))))) (bv_one sv_never) bv_nil)
    (bv_one (sv_ret (ev_call (ok_lowest T) (hr.mono (by decide)) hgd (by rfl) T.m_lowest T.F_lowest.kp T.i_lowest .nil (fun _ => .nil) rfl (xa_val (ev_var (pv 0)) (xa_val (ev_var (pv 1)) xa_nil)) (hlen := xl_of (xl_val (xl_val xl_nil))))))))
theorem ok_is_poly (T : Txt K mg A) : FnG P w K mg base CX0 2 A.a_is_poly A.d_is_poly ["value"] (spF K 1 m_is_poly) :=
  fn_ok T.F_is_poly sc_is_poly rfl rfl (by decide) fun cdv A' outer s H E hr hgd =>
    (bv_cons (sv_if (tw_tv (tw_or (tv_not (tv_val (ev_call (ok_is_listed T) (hr.mono (by decide)) hgd (by rfl) T.m_is_listed T.F_is_listed.kp T.i_is_listed .nil (fun _ => .nil) rfl (xa_val (ev_var (pv 0)) xa_nil) (hlen := xl_of (xl_val xl_nil))))) (tw_or1 (tv_not (tv_val (ev_callB (ct_all rfl) (by rfl) T.b_all (by decide +kernel) (ea_cons (ev_ew (ew_lc (own := [("one", 1)]) rfl sc_is_poly.nd (iv_seq (ev_var (pv 0))) (blkOk_by (N := N_is_poly) (sc := defScope s_is_poly) (by decide +kernel)) (fun _ _ _ _ _ => (gv_name (i := 1) sc_is_poly.nd rfl (by first | exact Or.inl rfl | exact Or.inr rfl))) (fun _ _ _ _ _ => tsv_nil) (fun _ _ _ _ _ => (ev_call (ok_is_integer T) (hr.mono (by decide)) hgd (by rfl) T.m_is_integer T.F_is_integer.kp T.i_is_integer .nil (fun _ => .nil) rfl (xa_val (ev_var (pv 1)) xa_nil) (hlen := xl_of (xl_val xl_nil)))) (by decide))) ea_nil))))))) (bv_one (sv_ret ev_bl)) bv_nil)
    (bv_one (sv_ret (ev_or (ev_cmp (ot_eq hr.units) (ev_callB ct_len (by rfl) T.b_len (by decide +kernel) (ea_cons (ev_var (pv 0)) ea_nil)) ev_int (nomark _)) (ev_one (ev_cmp (ot_ne hr.units) (ev_ix it_ix (ev_var (pv 0)) (ev_un ut_neg ev_int) (fun _ _ => rfl)) ev_int (nomark _)))))))
theorem ok_need_poly (T : Txt K mg A) : FnG P w K mg base CX0 3 A.a_need_poly A.d_need_poly ["value", "part"] (spF K 2 m_need_poly) :=
  fn_ok T.F_need_poly sc_need_poly rfl rfl (by decide) fun cdv A' outer s H E hr hgd =>
    (bv_cons (sv_if (tv_not (tv_val (ev_call (ok_is_poly T) (hr.mono (by decide)) hgd (by rfl) T.m_is_poly T.F_is_poly.kp T.i_is_poly .nil (fun _ => .nil) rfl (xa_val (ev_var (pv 0)) xa_nil) (hlen := xl_of (xl_val xl_nil))))) (bv_one sv_never) bv_nil)
    (bv_cons (sv_if (tv_cmp ot_iGt (ev_callB ct_len (by rfl) T.b_len (by decide +kernel) (ea_cons (ev_var (pv 0)) ea_nil)) (ev_bin ot_add (ev_glob (by rfl) T.g_MOST_DEGREE T.r_MOST_DEGREE) ev_int) (nomark _)) (bv_one sv_never) bv_nil)
    (bv_one (sv_ret (ev_callTy ct_tup (by rfl) T.b_tuple (by decide +kernel) (ea_cons (ev_var (pv 0)) ea_nil))))))
theorem ok_need_ratio (T : Txt K mg A) : FnG P w K mg base CX0 3 A.a_need_ratio A.d_need_ratio ["value", "part"] (spF K 2 m_need_ratio) :=
  fn_ok T.F_need_ratio sc_need_ratio rfl rfl (by decide) fun cdv A' outer s H E hr hgd =>
    (bv_cons (sv_if (tv_not (tv_val (ev_call (ok_is_ratio T) (hr.mono (by decide)) hgd (by rfl) T.m_is_ratio T.F_is_ratio.kp T.i_is_ratio .nil (fun _ => .nil) rfl (xa_val (ev_var (pv 0)) xa_nil) (hlen := xl_of (xl_val xl_nil))))) (bv_one sv_never) bv_nil)
    (bv_one (sv_ret (ev_var (pv 0)))))
theorem ok_trimmed (T : Txt K mg A) : FnG P w K mg base CX0 1 A.a_trimmed A.d_trimmed ["some"] (spF K 1 m_trimmed) :=
  fn_ok T.F_trimmed sc_trimmed rfl rfl (by decide) fun cdv A' outer s H E hr hgd =>
    (bv_cons (sv_set (i := 1) sc_trimmed.nd rfl (by first | exact Or.inl rfl | exact Or.inr rfl) (ev_callB ct_len (by rfl) T.b_len (by decide +kernel) (ea_cons (ev_var (pv 0)) ea_nil)))
    (bv_cons (sv_while 1000000 PassesOwn.never (tw_tv (tw_and (tv_cmp ot_iGt (ev_var (pv 1)) ev_int (nomark _)) (tw_and1 (tv_cmp (ot_eq hr.units) (ev_ix it_ix (ev_var (pv 0)) (ev_bin ot_sub (ev_var (pv 1)) ev_int) (fun _ _ => rfl)) ev_int (nomark _))))) (bv_one (sv_set (i := 1) sc_trimmed.nd rfl (by first | exact Or.inl rfl | exact Or.inr rfl) (ev_bin ot_sub (ev_var (pv 1)) ev_int))))
    (bv_one (sv_ret (ev_callTy ct_tup (by rfl) T.b_tuple (by decide +kernel) (ea_cons (ev_slice (ev_var (pv 0)) pv_none (pv_some (ev_var (pv 1)))) ea_nil))))))
theorem ok_sum_of (T : Txt K mg A) : FnG P w K mg base CX0 2 A.a_sum_of A.d_sum_of ["one", "other"] (spF K 2 m_sum_of) :=
  fn_ok T.F_sum_of sc_sum_of rfl rfl (by decide) fun cdv A' outer s H E hr hgd =>
    (bv_cons (sv_asg (ev_ifExp (tv_cmp ot_iGe (ev_callB ct_len (by rfl) T.b_len (by decide +kernel) (ea_cons (ev_var (pv 0)) ea_nil)) (ev_callB ct_len (by rfl) T.b_len (by decide +kernel) (ea_cons (ev_var (pv 1)) ea_nil)) (nomark _)) (ev_tup (ea_cons (ev_var (pv 0)) (ea_cons (ev_var (pv 1)) ea_nil))) (ev_tup (ea_cons (ev_var (pv 1)) (ea_cons (ev_var (pv 0)) ea_nil)))) (gv_tup rfl (gvs_cons (gv_name (i := 2) sc_sum_of.nd rfl (by first | exact Or.inl rfl | exact Or.inr rfl)) (gvs_cons (gv_name (i := 3) sc_sum_of.nd rfl (by first | exact Or.inl rfl | exact Or.inr rfl)) gvs_nil))))
    (bv_one (sv_ret (ev_call (ok_trimmed T) (hr.mono (by decide)) hgd (by rfl) T.m_trimmed T.F_trimmed.kp T.i_trimmed .nil (fun _ => .nil) rfl (xa_val (ev_ew (ew_lc (own := [("at", 4), ("part", 5)]) rfl sc_sum_of.nd (iv_enum (by rfl) T.b_enumerate (ea_cons (ev_var (pv 2)) ea_nil)) (blkOk_by (N := N_sum_of) (sc := defScope s_sum_of) (by decide +kernel)) (fun _ _ _ _ _ => (gv_tup rfl (gvs_cons (gv_name (i := 4) sc_sum_of.nd rfl (by first | exact Or.inl rfl | exact Or.inr rfl)) (gvs_cons (gv_name (i := 5) sc_sum_of.nd rfl (by first | exact Or.inl rfl | exact Or.inr rfl)) gvs_nil)))) (fun _ _ _ _ _ => tsv_nil) (fun _ _ _ _ _ => (ev_bin ot_add (ev_var (pv 5)) (ev_ifExp (tv_cmp ot_iLt (ev_var (pv 4)) (ev_callB ct_len (by rfl) T.b_len (by decide +kernel) (ea_cons (ev_var (pv 3)) ea_nil)) (nomark _)) (ev_ix it_ix (ev_var (pv 3)) (ev_var (pv 4)) (fun _ _ => rfl)) ev_int))) (by decide))) xa_nil) (hlen := xl_of (xl_val xl_nil))))))
theorem ok_product_of (T : Txt K mg A) : FnG P w K mg base CX0 1 A.a_product_of A.d_product_of ["one", "other"] (spF K 2 m_product_of) :=
  fn_ok T.F_product_of sc_product_of rfl rfl (by decide) fun cdv A' outer s H E hr hgd =>
    (bv_cons (sv_if (tw_tv (tw_or (tv_cmp (ot_eq hr.units) (ev_var (pv 0)) (ev_tup ea_nil) (nomark _)) (tw_or1 (tv_cmp (ot_eq hr.units) (ev_var (pv 1)) (ev_tup ea_nil) (nomark _))))) (bv_one (sv_ret (ev_tup ea_nil))) bv_nil)
    (bv_cons (sv_own (i := 2) sc_product_of.nd rfl (by first | exact Or.inl rfl | exact Or.inr rfl) (ew_bin ow_lRep (ev_lst (ea_cons ev_int ea_nil)) (ev_bin ot_sub (ev_bin ot_add (ev_callB ct_len (by rfl) T.b_len (by decide +kernel) (ea_cons (ev_var (pv 0)) ea_nil)) (ev_callB ct_len (by rfl) T.b_len (by decide +kernel) (ea_cons (ev_var (pv 1)) ea_nil))) ev_int)))
    (bv_cons (sv_for PassesOwn.never rfl (iv_enum (by rfl) T.b_enumerate (ea_cons (ev_var (pv 0)) ea_nil)) (gv_tup rfl (gvs_cons (gv_name (i := 3) sc_product_of.nd rfl (by first | exact Or.inl rfl | exact Or.inr rfl)) (gvs_cons (gv_name (i := 4) sc_product_of.nd rfl (by first | exact Or.inl rfl | exact Or.inr rfl)) gvs_nil))) (bv_one (sv_if (tv_cmp (ot_ne hr.units) (ev_var (pv 4)) ev_int (nomark _)) (bv_one (sv_for PassesOwn.never rfl (iv_enum (by rfl) T.b_enumerate (ea_cons (ev_var (pv 1)) ea_nil)) (gv_tup rfl (gvs_cons (gv_name (i := 5) sc_product_of.nd rfl (by first | exact Or.inl rfl | exact Or.inr rfl)) (gvs_cons (gv_name (i := 6) sc_product_of.nd rfl (by first | exact Or.inl rfl | exact Or.inr rfl)) gvs_nil))) (bv_one (sv_store (pv 2) (ev_bin ot_add (ev_pkIx (pv 2) (ev_bin ot_add (ev_var (pv 3)) (ev_var (pv 5))) (fun _ _ => rfl)) (ev_bin ot_mul (ev_var (pv 4)) (ev_var (pv 6)))) (ev_bin ot_add (ev_var (pv 3)) (ev_var (pv 5))))))) bv_nil)))
    (bv_one (sv_ret (ev_callTy ct_tup (by rfl) T.b_tuple (by decide +kernel) (ea_cons (ev_var (pv 2)) ea_nil)))))))
theorem ok_content_of (T : Txt K mg A) : FnG P w K mg base CX0 1 A.a_content_of A.d_content_of ["poly"] (spF K 1 m_content_of) :=
  fn_ok T.F_content_of sc_content_of rfl rfl (by decide) fun cdv A' outer s H E hr hgd =>
    (bv_cons (sv_set (i := 1) sc_content_of.nd rfl (by first | exact Or.inl rfl | exact Or.inr rfl) ev_int)
    (bv_cons (sv_for PassesOwn.never rfl (iv_seq (ev_var (pv 0))) (gv_name (i := 2) sc_content_of.nd rfl (by first | exact Or.inl rfl | exact Or.inr rfl)) (bv_one (sv_set (i := 1) sc_content_of.nd rfl (by first | exact Or.inl rfl | exact Or.inr rfl) (ev_callG ct_gcd (by rfl) T.g_gcd (ea_cons (ev_var (pv 1)) (ea_cons (ev_var (pv 2)) ea_nil))))))
    (bv_one (sv_ret (ev_var (pv 1))))))
theorem ok_cleared (T : Txt K mg A) : FnG P w K mg base CX0 2 A.a_cleared A.d_cleared ["poly"] (spF K 1 m_cleared) :=
  fn_ok T.F_cleared sc_cleared rfl rfl (by decide) fun cdv A' outer s H E hr hgd =>
    (bv_cons (sv_set (i := 1) sc_cleared.nd rfl (by first | exact Or.inl rfl | exact Or.inr rfl) (ev_call (ok_content_of T) (hr.mono (by decide)) hgd (by rfl) T.m_content_of T.F_content_of.kp T.i_content_of .nil (fun _ => .nil) rfl (xa_val (ev_var (pv 0)) xa_nil) (hlen := xl_of (xl_val xl_nil))))
    (bv_one (sv_ret (ev_ifExp (tv_cmp ot_iLt (ev_var (pv 1)) ev_int (nomark _)) (ev_var (pv 0)) (ev_callTy ct_tup (by rfl) T.b_tuple (by decide +kernel) (ea_cons (ev_ew (ew_lc (own := [("part", 2)]) rfl sc_cleared.nd (iv_seq (ev_var (pv 0))) (blkOk_by (N := N_cleared) (sc := defScope s_cleared) (by decide +kernel)) (fun _ _ _ _ _ => (gv_name (i := 2) sc_cleared.nd rfl (by first | exact Or.inl rfl | exact Or.inr rfl))) (fun _ _ _ _ _ => tsv_nil) (fun _ _ _ _ _ => (ev_bin ot_iDiv (ev_var (pv 2)) (ev_var (pv 1)))) (by decide))) ea_nil))))))
theorem ok_sign_of (T : Txt K mg A) : FnG P w K mg base CX0 1 A.a_sign_of A.d_sign_of ["number"] (spF K 1 m_sign_of) :=
  fn_ok T.F_sign_of sc_sign_of rfl rfl (by decide) fun cdv A' outer s H E hr hgd =>
    (bv_one (sv_ret (ev_bin ot_sub (ev_cmp ot_iGt (ev_var (pv 0)) ev_int (nomark _)) (ev_cmp ot_iLt (ev_var (pv 0)) ev_int (nomark _)))))
theorem ok_top_at (T : Txt K mg A) : FnG P w K mg base CX0 1 A.a_top_at A.d_top_at ["poly", "x"] (spF K 2 m_top_at) :=
  fn_ok T.F_top_at sc_top_at rfl rfl (by decide) fun cdv A' outer s H E hr hgd =>
    (bv_cons (sv_asg (ev_tup (ea_cons ev_int (ea_cons ev_int ea_nil))) (gv_tup rfl (gvs_cons (gv_name (i := 2) sc_top_at.nd rfl (by first | exact Or.inl rfl | exact Or.inr rfl)) (gvs_cons (gv_name (i := 3) sc_top_at.nd rfl (by first | exact Or.inl rfl | exact Or.inr rfl)) gvs_nil))))
    (bv_cons (sv_for PassesOwn.never rfl (iv_seq (ev_rev (ev_var (pv 0)))) (gv_name (i := 4) sc_top_at.nd rfl (by first | exact Or.inl rfl | exact Or.inr rfl)) (bv_cons (sv_set (i := 2) sc_top_at.nd rfl (by first | exact Or.inl rfl | exact Or.inr rfl) (ev_bin ot_add (ev_bin ot_mul (ev_var (pv 2)) (ev_ix it_ix (ev_var (pv 1)) ev_int (fun _ _ => rfl))) (ev_bin ot_mul (ev_var (pv 4)) (ev_var (pv 3)))))
    (bv_one (sv_set (i := 3) sc_top_at.nd rfl (by first | exact Or.inl rfl | exact Or.inr rfl) (ev_bin ot_mul (ev_var (pv 3)) (ev_ix it_ix (ev_var (pv 1)) ev_int (fun _ _ => rfl)))))))
    (bv_one (sv_ret (ev_var (pv 2))))))
theorem ok_sign_at_x (T : Txt K mg A) : FnG P w K mg base CX0 2 A.a_sign_at_x A.d_sign_at_x ["poly", "x"] (spF K 2 m_sign_at_x) :=
  fn_ok T.F_sign_at_x sc_sign_at_x rfl rfl (by decide) fun cdv A' outer s H E hr hgd =>
    (bv_one (sv_ret (ev_call (ok_sign_of T) (hr.mono (by decide)) hgd (by rfl) T.m_sign_of T.F_sign_of.kp T.i_sign_of .nil (fun _ => .nil) rfl (xa_val (ev_call (ok_top_at T) (hr.mono (by decide)) hgd (by rfl) T.m_top_at T.F_top_at.kp T.i_top_at .nil (fun _ => .nil) rfl (xa_val (ev_var (pv 0)) (xa_val (ev_var (pv 1)) xa_nil)) (hlen := xl_of (xl_val (xl_val xl_nil)))) xa_nil) (hlen := xl_of (xl_val xl_nil)))))
theorem ok_bottom_power (T : Txt K mg A) : FnG P w K mg base CX0 1 A.a_bottom_power A.d_bottom_power ["x", "many"] (spF K 2 m_bottom_power) :=
  fn_ok T.F_bottom_power sc_bottom_power rfl rfl (by decide) fun cdv A' outer s H E hr hgd =>
    (bv_cons (sv_set (i := 2) sc_bottom_power.nd rfl (by first | exact Or.inl rfl | exact Or.inr rfl) ev_int)
    (bv_cons (sv_for PassesOwn.never rfl (iv_range1 (by rfl) T.b_range (ea_cons (ev_var (pv 1)) ea_nil)) (gv_name (i := 3) sc_bottom_power.nd rfl (by first | exact Or.inl rfl | exact Or.inr rfl)) (bv_one (sv_set (i := 2) sc_bottom_power.nd rfl (by first | exact Or.inl rfl | exact Or.inr rfl) (ev_bin ot_mul (ev_var (pv 2)) (ev_ix it_ix (ev_var (pv 0)) ev_int (fun _ _ => rfl))))))
    (bv_one (sv_ret (ev_var (pv 2))))))
theorem ok_product (T : Txt K mg A) : FnG P w K mg base CX0 4 A.a_product A.d_product ["one", "other"] (spF K 2 m_product) :=
  fn_ok T.F_product sc_product rfl rfl (by decide) fun cdv A' outer s H E hr hgd =>
    (bv_cons (sv_set (i := 2) sc_product.nd rfl (by first | exact Or.inl rfl | exact Or.inr rfl) (ev_call (ok_need_poly T) (hr.mono (by decide)) hgd (by rfl) T.m_need_poly T.F_need_poly.kp T.i_need_poly .nil (fun _ => .nil) rfl (xa_val (ev_var (pv 0)) (xa_val ev_str xa_nil)) (hlen := xl_of (xl_val (xl_val xl_nil)))))
    (bv_one (sv_ret (ev_call (ok_product_of T) (hr.mono (by decide)) hgd (by rfl) T.m_product_of T.F_product_of.kp T.i_product_of .nil (fun _ => .nil) rfl (xa_val (ev_var (pv 2)) (xa_val (ev_call (ok_need_poly T) (hr.mono (by decide)) hgd (by rfl) T.m_need_poly T.F_need_poly.kp T.i_need_poly .nil (fun _ => .nil) rfl (xa_val (ev_var (pv 1)) (xa_val ev_str xa_nil)) (hlen := xl_of (xl_val (xl_val xl_nil)))) xa_nil)) (hlen := xl_of (xl_val (xl_val xl_nil)))))))
theorem ok_value (T : Txt K mg A) : FnG P w K mg base CX0 4 A.a_value A.d_value ["poly", "x"] (spF K 2 m_value) :=
  fn_ok T.F_value sc_value rfl rfl (by decide) fun cdv A' outer s H E hr hgd =>
    (bv_cons (sv_set (i := 2) sc_value.nd rfl (by first | exact Or.inl rfl | exact Or.inr rfl) (ev_call (ok_need_poly T) (hr.mono (by decide)) hgd (by rfl) T.m_need_poly T.F_need_poly.kp T.i_need_poly .nil (fun _ => .nil) rfl (xa_val (ev_var (pv 0)) (xa_val ev_str xa_nil)) (hlen := xl_of (xl_val (xl_val xl_nil)))))
    (bv_cons (sv_set (i := 3) sc_value.nd rfl (by first | exact Or.inl rfl | exact Or.inr rfl) (ev_call (ok_need_ratio T) (hr.mono (by decide)) hgd (by rfl) T.m_need_ratio T.F_need_ratio.kp T.i_need_ratio .nil (fun _ => .nil) rfl (xa_val (ev_var (pv 1)) (xa_val ev_str xa_nil)) (hlen := xl_of (xl_val (xl_val xl_nil)))))
    (bv_one (sv_ret (ev_call (ok_ratio T) (hr.mono (by decide)) hgd (by rfl) T.m_ratio T.F_ratio.kp T.i_ratio .nil (fun _ => .nil) rfl (xa_val (ev_call (ok_top_at T) (hr.mono (by decide)) hgd (by rfl) T.m_top_at T.F_top_at.kp T.i_top_at .nil (fun _ => .nil) rfl (xa_val (ev_var (pv 2)) (xa_val (ev_var (pv 3)) xa_nil)) (hlen := xl_of (xl_val (xl_val xl_nil)))) (xa_val (ev_call (ok_bottom_power T) (hr.mono (by decide)) hgd (by rfl) T.m_bottom_power T.F_bottom_power.kp T.i_bottom_power .nil (fun _ => .nil) rfl (xa_val (ev_var (pv 3)) (xa_val (ev_callB (ct_max rfl) (by rfl) T.b_max (by decide +kernel) (ea_cons ev_int (ea_cons (ev_bin ot_sub (ev_callB ct_len (by rfl) T.b_len (by decide +kernel) (ea_cons (ev_var (pv 2)) ea_nil)) ev_int) ea_nil))) xa_nil)) (hlen := xl_of (xl_val (xl_val xl_nil)))) xa_nil)) (hlen := xl_of (xl_val (xl_val xl_nil))))))))
theorem ok_sign_at_ratio (T : Txt K mg A) : FnG P w K mg base CX0 4 A.a_sign_at_ratio A.d_sign_at_ratio ["poly", "x"] (spF K 2 m_sign_at_ratio) :=
  fn_ok T.F_sign_at_ratio sc_sign_at_ratio rfl rfl (by decide) fun cdv A' outer s H E hr hgd =>
    (bv_cons (sv_set (i := 2) sc_sign_at_ratio.nd rfl (by first | exact Or.inl rfl | exact Or.inr rfl) (ev_call (ok_need_poly T) (hr.mono (by decide)) hgd (by rfl) T.m_need_poly T.F_need_poly.kp T.i_need_poly .nil (fun _ => .nil) rfl (xa_val (ev_var (pv 0)) (xa_val ev_str xa_nil)) (hlen := xl_of (xl_val (xl_val xl_nil)))))
    (bv_one (sv_ret (ev_call (ok_sign_at_x T) (hr.mono (by decide)) hgd (by rfl) T.m_sign_at_x T.F_sign_at_x.kp T.i_sign_at_x .nil (fun _ => .nil) rfl (xa_val (ev_var (pv 2)) (xa_val (ev_call (ok_need_ratio T) (hr.mono (by decide)) hgd (by rfl) T.m_need_ratio T.F_need_ratio.kp T.i_need_ratio .nil (fun _ => .nil) rfl (xa_val (ev_var (pv 1)) (xa_val ev_str xa_nil)) (hlen := xl_of (xl_val (xl_val xl_nil)))) xa_nil)) (hlen := xl_of (xl_val (xl_val xl_nil)))))))
theorem ok_shifted (T : Txt K mg A) : FnG P w K mg base CX0 4 A.a_shifted A.d_shifted ["poly", "a", "b"] (spF K 3 m_shifted) :=
  fn_ok T.F_shifted sc_shifted rfl rfl (by decide) fun cdv A' outer s H E hr hgd =>
    (bv_cons (sv_set (i := 3) sc_shifted.nd rfl (by first | exact Or.inl rfl | exact Or.inr rfl) (ev_call (ok_need_poly T) (hr.mono (by decide)) hgd (by rfl) T.m_need_poly T.F_need_poly.kp T.i_need_poly .nil (fun _ => .nil) rfl (xa_val (ev_var (pv 0)) (xa_val ev_str xa_nil)) (hlen := xl_of (xl_val (xl_val xl_nil)))))
    (bv_cons (sv_par (i := 4) (j := 5) rfl sc_shifted.nd rfl rfl (by decide) rfl rfl (ea_cons (ev_call (ok_need_ratio T) (hr.mono (by decide)) hgd (by rfl) T.m_need_ratio T.F_need_ratio.kp T.i_need_ratio .nil (fun _ => .nil) rfl (xa_val (ev_var (pv 1)) (xa_val ev_str xa_nil)) (hlen := xl_of (xl_val (xl_val xl_nil)))) (ea_cons (ev_call (ok_need_ratio T) (hr.mono (by decide)) hgd (by rfl) T.m_need_ratio T.F_need_ratio.kp T.i_need_ratio .nil (fun _ => .nil) rfl (xa_val (ev_var (pv 2)) (xa_val ev_str xa_nil)) (hlen := xl_of (xl_val (xl_val xl_nil)))) ea_nil)) (by rfl))
    (bv_cons (sv_set (i := 6) sc_shifted.nd rfl (by first | exact Or.inl rfl | exact Or.inr rfl) (ev_bin ot_mul (ev_ix it_ix (ev_var (pv 4)) ev_int (fun _ _ => rfl)) (ev_ix it_ix (ev_var (pv 5)) ev_int (fun _ _ => rfl))))
    (bv_cons (sv_par3 (i := 7) (j := 8) (l := 9) rfl sc_shifted.nd rfl rfl rfl (by decide) (by decide) (by decide) rfl rfl rfl (ea_cons (ev_call (ok_trimmed T) (hr.mono (by decide)) hgd (by rfl) T.m_trimmed T.F_trimmed.kp T.i_trimmed .nil (fun _ => .nil) rfl (xa_val (ev_lst (ea_cons (ev_bin ot_mul (ev_ix it_ix (ev_var (pv 4)) ev_int (fun _ _ => rfl)) (ev_ix it_ix (ev_var (pv 5)) ev_int (fun _ _ => rfl))) (ea_cons (ev_bin ot_mul (ev_ix it_ix (ev_var (pv 5)) ev_int (fun _ _ => rfl)) (ev_ix it_ix (ev_var (pv 4)) ev_int (fun _ _ => rfl))) ea_nil))) xa_nil) (hlen := xl_of (xl_val xl_nil))) (ea_cons (ev_tup ea_nil) (ea_cons ev_int ea_nil))) (by rfl))
    (bv_cons (sv_for PassesOwn.never rfl (iv_seq (ev_rev (ev_var (pv 3)))) (gv_name (i := 10) sc_shifted.nd rfl (by first | exact Or.inl rfl | exact Or.inr rfl)) (bv_cons (sv_set (i := 8) sc_shifted.nd rfl (by first | exact Or.inl rfl | exact Or.inr rfl) (ev_call (ok_sum_of T) (hr.mono (by decide)) hgd (by rfl) T.m_sum_of T.F_sum_of.kp T.i_sum_of .nil (fun _ => .nil) rfl (xa_val (ev_call (ok_product_of T) (hr.mono (by decide)) hgd (by rfl) T.m_product_of T.F_product_of.kp T.i_product_of .nil (fun _ => .nil) rfl (xa_val (ev_var (pv 8)) (xa_val (ev_var (pv 7)) xa_nil)) (hlen := xl_of (xl_val (xl_val xl_nil)))) (xa_val (ev_call (ok_trimmed T) (hr.mono (by decide)) hgd (by rfl) T.m_trimmed T.F_trimmed.kp T.i_trimmed .nil (fun _ => .nil) rfl (xa_val (ev_lst (ea_cons (ev_bin ot_mul (ev_var (pv 10)) (ev_var (pv 9))) ea_nil)) xa_nil) (hlen := xl_of (xl_val xl_nil))) xa_nil)) (hlen := xl_of (xl_val (xl_val xl_nil)))))
    (bv_one (sv_set (i := 9) sc_shifted.nd rfl (by first | exact Or.inl rfl | exact Or.inr rfl) (ev_bin ot_mul (ev_var (pv 9)) (ev_var (pv 6)))))))
    (bv_one (sv_ret (ev_call (ok_cleared T) (hr.mono (by decide)) hgd (by rfl) T.m_cleared T.F_cleared.kp T.i_cleared .nil (fun _ => .nil) rfl (xa_val (ev_var (pv 8)) xa_nil) (hlen := xl_of (xl_val xl_nil))))))))))
theorem ok__law_pen (T : Txt K mg A) : FnG P w K mg base CX0 1 A.a__law_pen A.d__law_pen ["script"] (spW K 1 m__law_pen) :=
  fn_okW T.F__law_pen sc__law_pen rfl rfl (by decide) fun cdv A' outer s H E hr hgd => pss_one (ps_ret (ew_lst (ea_cons (ev_ew (ew_lc (own := [("cell", 1)]) rfl sc__law_pen.nd (iv_seq (ev_slice (ev_var (pv 0)) pv_none (pv_some ev_int))) (blkOk_by (N := N__law_pen) (sc := defScope s__law_pen) (by decide +kernel)) (fun _ _ _ _ _ => (gv_name (i := 1) sc__law_pen.nd rfl (by first | exact Or.inl rfl | exact Or.inr rfl))) (fun _ _ _ _ _ => tsv_nil) (fun _ _ _ _ _ => (ev_callTy ct_int (by rfl) T.b_int (by decide +kernel) (ea_cons (ev_var (pv 1)) ea_nil))) (by decide))) (ea_cons ev_int (ea_cons ev_int ea_nil)))))
theorem ok__law_draw (T : Txt K mg A) : FnG P w K mg base CX0 1 A.a__law_draw A.d__law_draw ["pen", "many"] (spF K 2 m__law_draw) :=
  fn_ok T.F__law_draw sc__law_draw rfl rfl (by decide) fun cdv A' outer s H E hr hgd =>
    (bv_cons (sv_if (tv_cmp ot_iGt (ev_pkIx (pv 0) ev_int (fun _ _ => rfl)) ev_int (nomark _)) (bv_cons (sv_set (i := 2) sc__law_draw.nd rfl (by first | exact Or.inl rfl | exact Or.inr rfl) (ev_callTy ct_int (by rfl) T.b_int (by decide +kernel) (ea_cons (ev_pkIx (pv 0) ev_int (fun _ _ => rfl)) ea_nil)))
    (bv_cons (sv_store (pv 0) (ev_bin ot_iDiv (ev_var (pv 2)) (ev_var (pv 1))) ev_int)
    (bv_one (sv_ret (ev_bin ot_iMod (ev_callTy ct_int (by rfl) T.b_int (by decide +kernel) (ea_cons (ev_var (pv 2)) ea_nil)) (ev_var (pv 1))))))) bv_nil)
    (bv_cons (sv_set (i := 3) sc__law_draw.nd rfl (by first | exact Or.inl rfl | exact Or.inr rfl) (ev_pkIx (pv 0) ev_int (fun _ _ => rfl)))
    (bv_cons (sv_store (pv 0) (ev_bin ot_add (ev_var (pv 3)) ev_int) ev_int)
    (bv_cons (sv_set (i := 4) sc__law_draw.nd rfl (by first | exact Or.inl rfl | exact Or.inr rfl) (ev_bin ot_add (ev_bin ot_mul ev_int (ev_var (pv 3))) ev_int))
    (bv_cons (sv_if (tv_cmp (ot_ne hr.units) (ev_pkIx (pv 0) ev_int (fun _ _ => rfl)) (ev_lst ea_nil) (nomark _)) (bv_one (sv_set (i := 4) sc__law_draw.nd rfl (by first | exact Or.inl rfl | exact Or.inr rfl) (ev_ix it_ix (ev_pkIx (pv 0) ev_int (fun _ _ => rfl)) (ev_bin ot_iMod (ev_callTy ct_int (by rfl) T.b_int (by decide +kernel) (ea_cons (ev_var (pv 3)) ea_nil)) (ev_callB ct_len (by rfl) T.b_len (by decide +kernel) (ea_cons (ev_pkIx (pv 0) ev_int (fun _ _ => rfl)) ea_nil))) (fun _ _ => rfl)))) bv_nil)
    (bv_cons (sv_if (tw_tv (tw_and (tv_cmp ot_iLt (ev_var (pv 3)) (ev_callB ct_len (by rfl) T.b_len (by decide +kernel) (ea_cons (ev_pkIx (pv 0) ev_int (fun _ _ => rfl)) ea_nil)) (nomark _)) (tw_and1 (tv_cmp ot_iGe (ev_callB ct_abs (by rfl) T.b_abs (by decide +kernel) (ea_cons (ev_var (pv 4)) ea_nil)) (ev_bin ot_iPow ev_int ev_int) (nomark _))))) (bv_cons (sv_set (i := 2) sc__law_draw.nd rfl (by first | exact Or.inl rfl | exact Or.inr rfl) (ev_bin ot_add (ev_bin ot_mul ev_int (ev_bin ot_sub (ev_callB ct_abs (by rfl) T.b_abs (by decide +kernel) (ea_cons (ev_var (pv 4)) ea_nil)) (ev_bin ot_iPow ev_int ev_int))) (ev_callTy ct_int (by rfl) T.b_int (by decide +kernel) (ea_cons (ev_cmp ot_iLt (ev_var (pv 4)) ev_int (nomark _)) ea_nil))))
    (bv_cons (sv_store (pv 0) (ev_bin ot_iDiv (ev_callTy ct_int (by rfl) T.b_int (by decide +kernel) (ea_cons (ev_var (pv 2)) ea_nil)) (ev_var (pv 1))) ev_int)
    (bv_one (sv_ret (ev_bin ot_iMod (ev_callTy ct_int (by rfl) T.b_int (by decide +kernel) (ea_cons (ev_var (pv 2)) ea_nil)) (ev_var (pv 1))))))) bv_nil)
    (bv_cons (sv_set (i := 5) sc__law_draw.nd rfl (by first | exact Or.inl rfl | exact Or.inr rfl) (ev_bin ot_iMod (ev_callTy ct_int (by rfl) T.b_int (by decide +kernel) (ea_cons (ev_bin ot_iPow (ev_bin ot_add (ev_bin ot_add (ev_bin ot_iMod (ev_callTy ct_int (by rfl) T.b_int (by decide +kernel) (ea_cons (ev_var (pv 4)) ea_nil)) ev_int) (ev_bin ot_mul ev_int (ev_var (pv 3)))) ev_int) ev_int) ea_nil)) ev_int))
    (bv_cons (sv_set (i := 5) sc__law_draw.nd rfl (by first | exact Or.inl rfl | exact Or.inr rfl) (ev_bin ot_iMod (ev_callTy ct_int (by rfl) T.b_int (by decide +kernel) (ea_cons (ev_bin ot_iPow (ev_bin ot_add (ev_bin ot_add (ev_bin ot_mul (ev_var (pv 5)) (ev_bin ot_add (ev_bin ot_mul ev_int (ev_var (pv 3))) ev_int)) (ev_bin ot_mul (ev_bin ot_mul ev_int (ev_var (pv 3))) (ev_var (pv 3)))) ev_int) ev_int) ea_nil)) ev_int))
    (bv_one (sv_ret (ev_bin ot_iMod (ev_callTy ct_int (by rfl) T.b_int (by decide +kernel) (ea_cons (ev_bin ot_iDiv (ev_var (pv 5)) ev_int) ea_nil)) (ev_var (pv 1)))))))))))))
theorem ok__law_pick (T : Txt K mg A) : FnG P w K mg base CX0 2 A.a__law_pick A.d__law_pick ["pen", "some"] (spF K 2 m__law_pick) :=
  fn_ok T.F__law_pick sc__law_pick rfl rfl (by decide) fun cdv A' outer s H E hr hgd =>
    (bv_one (sv_ret (ev_ix it_ix (ev_var (pv 1)) (ev_call (ok__law_draw T) (hr.mono (by decide)) hgd (by rfl) T.m__law_draw T.F__law_draw.kp T.i__law_draw .nil (fun _ => .nil) rfl (xa_io (pv 0) (xa_val (ev_callB ct_len (by rfl) T.b_len (by decide +kernel) (ea_cons (ev_var (pv 1)) ea_nil)) xa_nil)) (hlen := xl_of (xl_io (xl_val xl_nil)))) (fun _ _ => rfl))))
theorem ok__law_trim (T : Txt K mg A) : FnG P w K mg base CX0 1 A.a__law_trim A.d__law_trim ["some"] (spF K 1 m__law_trim) :=
  fn_ok T.F__law_trim sc__law_trim rfl rfl (by decide) fun cdv A' outer s H E hr hgd =>
    (bv_cons (sv_own (i := 1) sc__law_trim.nd rfl (by first | exact Or.inl rfl | exact Or.inr rfl) (ew_list (by rfl) T.b_list (ev_var (pv 0))))
    (bv_cons (sv_while 1000000 PassesOwn.never (tw_tv (tw_and (tv_pkNe hr.units (pv 1) (ev_lst ea_nil) (nomark _)) (tw_and1 (tv_cmp (ot_eq hr.units) (ev_pkIx (pv 1) (ev_un ut_neg ev_int) (fun _ _ => rfl)) ev_int (nomark _))))) (bv_one (sv_pop (pv 1))))
    (bv_one (sv_ret (ev_callTy ct_tup (by rfl) T.b_tuple (by decide +kernel) (ea_cons (ev_var (pv 1)) ea_nil))))))
theorem ok__law_by (T : Txt K mg A) : FnG P w K mg base CX0 2 A.a__law_by A.d__law_by ["poly", "number"] (spF K 2 m__law_by) :=
  fn_ok T.F__law_by sc__law_by rfl rfl (by decide) fun cdv A' outer s H E hr hgd =>
    (bv_one (sv_ret (ev_call (ok__law_trim T) (hr.mono (by decide)) hgd (by rfl) T.m__law_trim T.F__law_trim.kp T.i__law_trim .nil (fun _ => .nil) rfl (xa_val (ev_ew (ew_lc (own := [("part", 2)]) rfl sc__law_by.nd (iv_seq (ev_var (pv 0))) (blkOk_by (N := N__law_by) (sc := defScope s__law_by) (by decide +kernel)) (fun _ _ _ _ _ => (gv_name (i := 2) sc__law_by.nd rfl (by first | exact Or.inl rfl | exact Or.inr rfl))) (fun _ _ _ _ _ => tsv_nil) (fun _ _ _ _ _ => (ev_bin ot_mul (ev_var (pv 2)) (ev_var (pv 1)))) (by decide))) xa_nil) (hlen := xl_of (xl_val xl_nil)))))
theorem ok__law_times (T : Txt K mg A) : FnG P w K mg base CX0 2 A.a__law_times A.d__law_times ["one", "other"] (spF K 2 m__law_times) :=
  fn_ok T.F__law_times sc__law_times rfl rfl (by decide) fun cdv A' outer s H E hr hgd =>
    (bv_cons (sv_own (i := 2) sc__law_times.nd rfl (by first | exact Or.inl rfl | exact Or.inr rfl) (ew_bin ow_lRep (ev_lst (ea_cons ev_int ea_nil)) (ev_bin ot_add (ev_callB ct_len (by rfl) T.b_len (by decide +kernel) (ea_cons (ev_var (pv 0)) ea_nil)) (ev_callB ct_len (by rfl) T.b_len (by decide +kernel) (ea_cons (ev_var (pv 1)) ea_nil)))))
    (bv_cons (sv_for PassesOwn.never rfl (iv_enum (by rfl) T.b_enumerate (ea_cons (ev_var (pv 0)) ea_nil)) (gv_tup rfl (gvs_cons (gv_name (i := 3) sc__law_times.nd rfl (by first | exact Or.inl rfl | exact Or.inr rfl)) (gvs_cons (gv_name (i := 4) sc__law_times.nd rfl (by first | exact Or.inl rfl | exact Or.inr rfl)) gvs_nil))) (bv_one (sv_for PassesOwn.never rfl (iv_enum (by rfl) T.b_enumerate (ea_cons (ev_var (pv 1)) ea_nil)) (gv_tup rfl (gvs_cons (gv_name (i := 5) sc__law_times.nd rfl (by first | exact Or.inl rfl | exact Or.inr rfl)) (gvs_cons (gv_name (i := 6) sc__law_times.nd rfl (by first | exact Or.inl rfl | exact Or.inr rfl)) gvs_nil))) (bv_one (sv_store (pv 2) (ev_bin ot_add (ev_pkIx (pv 2) (ev_bin ot_add (ev_var (pv 3)) (ev_var (pv 5))) (fun _ _ => rfl)) (ev_bin ot_mul (ev_var (pv 4)) (ev_var (pv 6)))) (ev_bin ot_add (ev_var (pv 3)) (ev_var (pv 5))))))))
    (bv_one (sv_ret (ev_call (ok__law_trim T) (hr.mono (by decide)) hgd (by rfl) T.m__law_trim T.F__law_trim.kp T.i__law_trim .nil (fun _ => .nil) rfl (xa_val (ev_var (pv 2)) xa_nil) (hlen := xl_of (xl_val xl_nil)))))))
theorem ok__law_all_times (T : Txt K mg A) : FnG P w K mg base CX0 3 A.a__law_all_times A.d__law_all_times ["some"] (spF K 1 m__law_all_times) :=
  fn_ok T.F__law_all_times sc__law_all_times rfl rfl (by decide) fun cdv A' outer s H E hr hgd =>
    (bv_cons (sv_set (i := 1) sc__law_all_times.nd rfl (by first | exact Or.inl rfl | exact Or.inr rfl) (ev_tup (ea_cons ev_int ea_nil)))
    (bv_cons (sv_for PassesOwn.never rfl (iv_seq (ev_var (pv 0))) (gv_name (i := 2) sc__law_all_times.nd rfl (by first | exact Or.inl rfl | exact Or.inr rfl)) (bv_one (sv_set (i := 1) sc__law_all_times.nd rfl (by first | exact Or.inl rfl | exact Or.inr rfl) (ev_call (ok__law_times T) (hr.mono (by decide)) hgd (by rfl) T.m__law_times T.F__law_times.kp T.i__law_times .nil (fun _ => .nil) rfl (xa_val (ev_var (pv 1)) (xa_val (ev_var (pv 2)) xa_nil)) (hlen := xl_of (xl_val (xl_val xl_nil)))))))
    (bv_one (sv_ret (ev_var (pv 1))))))
theorem ok__law_gcd (T : Txt K mg A) : FnG P w K mg base CX0 1 A.a__law_gcd A.d__law_gcd ["one", "other"] (spF K 2 m__law_gcd) :=
  fn_ok T.F__law_gcd sc__law_gcd rfl rfl (by decide) fun cdv A' outer s H E hr hgd =>
    (bv_cons (sv_par (i := 0) (j := 1) rfl sc__law_gcd.nd rfl rfl (by decide) rfl rfl (ea_cons (ev_callB ct_abs (by rfl) T.b_abs (by decide +kernel) (ea_cons (ev_var (pv 0)) ea_nil)) (ea_cons (ev_callB ct_abs (by rfl) T.b_abs (by decide +kernel) (ea_cons (ev_var (pv 1)) ea_nil)) ea_nil)) (by rfl))
    (bv_cons (sv_while 1000000 PassesOwn.never (tv_cmp (ot_ne hr.units) (ev_var (pv 1)) ev_int (nomark _)) (bv_one (sv_par (i := 0) (j := 1) rfl sc__law_gcd.nd rfl rfl (by decide) rfl rfl (ea_cons (ev_var (pv 1)) (ea_cons (ev_bin ot_iMod (ev_callTy ct_int (by rfl) T.b_int (by decide +kernel) (ea_cons (ev_var (pv 0)) ea_nil)) (ev_var (pv 1))) ea_nil)) (by rfl))))
    (bv_one (sv_ret (ev_var (pv 0))))))
theorem ok__law_content (T : Txt K mg A) : FnG P w K mg base CX0 2 A.a__law_content A.d__law_content ["poly"] (spF K 1 m__law_content) :=
  fn_ok T.F__law_content sc__law_content rfl rfl (by decide) fun cdv A' outer s H E hr hgd =>
    (bv_cons (sv_set (i := 1) sc__law_content.nd rfl (by first | exact Or.inl rfl | exact Or.inr rfl) ev_int)
    (bv_cons (sv_for PassesOwn.never rfl (iv_seq (ev_var (pv 0))) (gv_name (i := 2) sc__law_content.nd rfl (by first | exact Or.inl rfl | exact Or.inr rfl)) (bv_one (sv_set (i := 1) sc__law_content.nd rfl (by first | exact Or.inl rfl | exact Or.inr rfl) (ev_call (ok__law_gcd T) (hr.mono (by decide)) hgd (by rfl) T.m__law_gcd T.F__law_gcd.kp T.i__law_gcd .nil (fun _ => .nil) rfl (xa_val (ev_var (pv 1)) (xa_val (ev_var (pv 2)) xa_nil)) (hlen := xl_of (xl_val (xl_val xl_nil)))))))
    (bv_one (sv_ret (ev_var (pv 1))))))
theorem ok__law_clear (T : Txt K mg A) : FnG P w K mg base CX0 3 A.a__law_clear A.d__law_clear ["poly"] (spF K 1 m__law_clear) :=
  fn_ok T.F__law_clear sc__law_clear rfl rfl (by decide) fun cdv A' outer s H E hr hgd =>
    (bv_cons (sv_set (i := 1) sc__law_clear.nd rfl (by first | exact Or.inl rfl | exact Or.inr rfl) (ev_call (ok__law_content T) (hr.mono (by decide)) hgd (by rfl) T.m__law_content T.F__law_content.kp T.i__law_content .nil (fun _ => .nil) rfl (xa_val (ev_var (pv 0)) xa_nil) (hlen := xl_of (xl_val xl_nil))))
    (bv_one (sv_ret (ev_ifExp (tv_cmp ot_iGt (ev_var (pv 1)) ev_int (nomark _)) (ev_callTy ct_tup (by rfl) T.b_tuple (by decide +kernel) (ea_cons (ev_ew (ew_lc (own := [("part", 2)]) rfl sc__law_clear.nd (iv_seq (ev_var (pv 0))) (blkOk_by (N := N__law_clear) (sc := defScope s__law_clear) (by decide +kernel)) (fun _ _ _ _ _ => (gv_name (i := 2) sc__law_clear.nd rfl (by first | exact Or.inl rfl | exact Or.inr rfl))) (fun _ _ _ _ _ => tsv_nil) (fun _ _ _ _ _ => (ev_callTy ct_int (by rfl) T.b_int (by decide +kernel) (ea_cons (ev_bin ot_iDiv (ev_var (pv 2)) (ev_var (pv 1))) ea_nil))) (by decide))) ea_nil)) (ev_var (pv 0))))))
theorem ok__law_plain (T : Txt K mg A) : FnG P w K mg base CX0 4 A.a__law_plain A.d__law_plain ["poly"] (spF K 1 m__law_plain) :=
  fn_ok T.F__law_plain sc__law_plain rfl rfl (by decide) fun cdv A' outer s H E hr hgd =>
    (bv_cons (sv_set (i := 1) sc__law_plain.nd rfl (by first | exact Or.inl rfl | exact Or.inr rfl) (ev_call (ok__law_clear T) (hr.mono (by decide)) hgd (by rfl) T.m__law_clear T.F__law_clear.kp T.i__law_clear .nil (fun _ => .nil) rfl (xa_val (ev_var (pv 0)) xa_nil) (hlen := xl_of (xl_val xl_nil))))
    (bv_one (sv_ret (ev_ifExp (tw_tv (tw_and (tv_cmp (ot_ne hr.units) (ev_var (pv 1)) (ev_tup ea_nil) (nomark _)) (tw_and1 (tv_cmp ot_iLt (ev_ix it_ix (ev_var (pv 1)) (ev_un ut_neg ev_int) (fun _ _ => rfl)) ev_int (nomark _))))) (ev_call (ok__law_by T) (hr.mono (by decide)) hgd (by rfl) T.m__law_by T.F__law_by.kp T.i__law_by .nil (fun _ => .nil) rfl (xa_val (ev_var (pv 1)) (xa_val (ev_un ut_neg ev_int) xa_nil)) (hlen := xl_of (xl_val (xl_val xl_nil)))) (ev_var (pv 1))))))
theorem ok__law_ratio (T : Txt K mg A) : FnG P w K mg base CX0 2 A.a__law_ratio A.d__law_ratio ["top", "bottom"] (spF K 2 m__law_ratio) :=
  fn_ok T.F__law_ratio sc__law_ratio rfl rfl (by decide) fun cdv A' outer s H E hr hgd =>
    (bv_cons (sv_set (i := 2) sc__law_ratio.nd rfl (by first | exact Or.inl rfl | exact Or.inr rfl) (ev_bin ot_mul (ev_call (ok__law_gcd T) (hr.mono (by decide)) hgd (by rfl) T.m__law_gcd T.F__law_gcd.kp T.i__law_gcd .nil (fun _ => .nil) rfl (xa_val (ev_var (pv 0)) (xa_val (ev_var (pv 1)) xa_nil)) (hlen := xl_of (xl_val (xl_val xl_nil)))) (ev_ifExp (tv_cmp ot_iGt (ev_var (pv 1)) ev_int (nomark _)) ev_int (ev_un ut_neg ev_int))))
    (bv_one (sv_ret (ev_tup (ea_cons (ev_callTy ct_int (by rfl) T.b_int (by decide +kernel) (ea_cons (ev_bin ot_iDiv (ev_var (pv 0)) (ev_var (pv 2))) ea_nil)) (ea_cons (ev_callTy ct_int (by rfl) T.b_int (by decide +kernel) (ea_cons (ev_bin ot_iDiv (ev_var (pv 1)) (ev_var (pv 2))) ea_nil)) ea_nil))))))
theorem ok__law_poly (T : Txt K mg A) : FnG P w K mg base CX0 3 A.a__law_poly A.d__law_poly ["pen", "most"] (spF K 2 m__law_poly) :=
  fn_ok T.F__law_poly sc__law_poly rfl rfl (by decide) fun cdv A' outer s H E hr hgd =>
    (bv_one (sv_ret (ev_call (ok__law_trim T) (hr.mono (by decide)) hgd (by rfl) T.m__law_trim T.F__law_trim.kp T.i__law_trim .nil (fun _ => .nil) rfl (xa_val (ev_ew (ew_lc (own := [("at", 2)]) rfl sc__law_poly.nd (iv_range1 (by rfl) T.b_range (ea_cons (ev_call (ok__law_draw T) (hr.mono (by decide)) hgd (by rfl) T.m__law_draw T.F__law_draw.kp T.i__law_draw .nil (fun _ => .nil) rfl (xa_io (pv 0) (xa_val (ev_bin ot_add (ev_var (pv 1)) ev_int) xa_nil)) (hlen := xl_of (xl_io (xl_val xl_nil)))) ea_nil)) (blkOk_by (N := N__law_poly) (sc := defScope s__law_poly) (by decide +kernel)) (fun _ _ _ _ _ => (gv_name (i := 2) sc__law_poly.nd rfl (by first | exact Or.inl rfl | exact Or.inr rfl))) (fun _ _ _ _ _ => tsv_nil) (fun _ _ _ _ _ => (ev_call (ok__law_pick T) (hr.mono (by decide)) hgd (by rfl) T.m__law_pick T.F__law_pick.kp T.i__law_pick .nil (fun _ => .nil) rfl (xa_io (pv 0) (xa_val (ev_lst (ea_cons ev_int (ea_cons ev_int (ea_cons ev_int (ea_cons (ev_un ut_neg ev_int) (ea_cons ev_int (ea_cons (ev_un ut_neg ev_int) (ea_cons ev_int (ea_cons (ev_un ut_neg ev_int) (ea_cons ev_int (ea_cons (ev_bin ot_sub (ev_call (ok__law_draw T) (hr.mono (by decide)) hgd (by rfl) T.m__law_draw T.F__law_draw.kp T.i__law_draw .nil (fun _ => .nil) rfl (xa_io (pv 0) (xa_val ev_int xa_nil)) (hlen := xl_of (xl_io (xl_val xl_nil)))) ev_int) ea_nil))))))))))) xa_nil)) (hlen := xl_of (xl_io (xl_val xl_nil))))) (by decide))) xa_nil) (hlen := xl_of (xl_val xl_nil)))))
theorem ok__law_x (T : Txt K mg A) : FnG P w K mg base CX0 3 A.a__law_x A.d__law_x ["pen"] (spF K 1 m__law_x) :=
  fn_ok T.F__law_x sc__law_x rfl rfl (by decide) fun cdv A' outer s H E hr hgd =>
    (bv_one (sv_ret (ev_call (ok__law_ratio T) (hr.mono (by decide)) hgd (by rfl) T.m__law_ratio T.F__law_ratio.kp T.i__law_ratio .nil (fun _ => .nil) rfl (xa_val (ev_bin ot_sub (ev_call (ok__law_draw T) (hr.mono (by decide)) hgd (by rfl) T.m__law_draw T.F__law_draw.kp T.i__law_draw .nil (fun _ => .nil) rfl (xa_io (pv 0) (xa_val ev_int xa_nil)) (hlen := xl_of (xl_io (xl_val xl_nil)))) ev_int) (xa_val (ev_bin ot_add ev_int (ev_call (ok__law_draw T) (hr.mono (by decide)) hgd (by rfl) T.m__law_draw T.F__law_draw.kp T.i__law_draw .nil (fun _ => .nil) rfl (xa_io (pv 0) (xa_val ev_int xa_nil)) (hlen := xl_of (xl_io (xl_val xl_nil))))) xa_nil)) (hlen := xl_of (xl_val (xl_val xl_nil))))))
theorem ok__law_factor (T : Txt K mg A) : FnG P w K mg base CX0 5 A.a__law_factor A.d__law_factor ["pen"] (spF K 1 m__law_factor) :=
  fn_ok T.F__law_factor sc__law_factor rfl rfl (by decide) fun cdv A' outer s H E hr hgd =>
    (bv_cons (sv_par (i := 1) (j := 2) rfl sc__law_factor.nd rfl rfl (by decide) rfl rfl (ea_cons (ev_bin ot_sub (ev_call (ok__law_draw T) (hr.mono (by decide)) hgd (by rfl) T.m__law_draw T.F__law_draw.kp T.i__law_draw .nil (fun _ => .nil) rfl (xa_io (pv 0) (xa_val ev_int xa_nil)) (hlen := xl_of (xl_io (xl_val xl_nil)))) ev_int) (ea_cons (ev_bin ot_add ev_int (ev_call (ok__law_draw T) (hr.mono (by decide)) hgd (by rfl) T.m__law_draw T.F__law_draw.kp T.i__law_draw .nil (fun _ => .nil) rfl (xa_io (pv 0) (xa_val ev_int xa_nil)) (hlen := xl_of (xl_io (xl_val xl_nil))))) ea_nil)) (by rfl))
    (bv_cons (sv_set (i := 3) sc__law_factor.nd rfl (by first | exact Or.inl rfl | exact Or.inr rfl) (ev_call (ok__law_draw T) (hr.mono (by decide)) hgd (by rfl) T.m__law_draw T.F__law_draw.kp T.i__law_draw .nil (fun _ => .nil) rfl (xa_io (pv 0) (xa_val ev_int xa_nil)) (hlen := xl_of (xl_io (xl_val xl_nil)))))
    (bv_cons (sv_if (tv_cmp ot_iLt (ev_var (pv 3)) ev_int (nomark _)) (bv_one (sv_ret (ev_tup (ea_cons (ev_call (ok__law_plain T) (hr.mono (by decide)) hgd (by rfl) T.m__law_plain T.F__law_plain.kp T.i__law_plain .nil (fun _ => .nil) rfl (xa_val (ev_tup (ea_cons (ev_bin ot_sub ev_int (ev_var (pv 1))) (ea_cons (ev_var (pv 2)) ea_nil))) xa_nil) (hlen := xl_of (xl_val xl_nil))) (ea_cons (ev_lst (ea_cons (ev_tup (ea_cons (ev_var (pv 1)) (ea_cons ev_int (ea_cons ev_int (ea_cons (ev_var (pv 2)) ea_nil))))) ea_nil)) ea_nil))))) bv_nil)
    (bv_cons (sv_set (i := 4) sc__law_factor.nd rfl (by first | exact Or.inl rfl | exact Or.inr rfl) (ev_call (ok__law_pick T) (hr.mono (by decide)) hgd (by rfl) T.m__law_pick T.F__law_pick.kp T.i__law_pick .nil (fun _ => .nil) rfl (xa_io (pv 0) (xa_val (ev_lst (ea_cons ev_int (ea_cons ev_int (ea_cons ev_int (ea_cons ev_int (ea_cons ev_int (ea_cons ev_int (ea_cons ev_int ea_nil)))))))) xa_nil)) (hlen := xl_of (xl_io (xl_val xl_nil)))))
    (bv_cons (sv_if (tv_cmp (ot_eq hr.units) (ev_var (pv 3)) ev_int (nomark _)) (bv_one (sv_ret (ev_tup (ea_cons (ev_call (ok__law_plain T) (hr.mono (by decide)) hgd (by rfl) T.m__law_plain T.F__law_plain.kp T.i__law_plain .nil (fun _ => .nil) rfl (xa_val (ev_tup (ea_cons (ev_bin ot_add (ev_bin ot_mul (ev_var (pv 1)) (ev_var (pv 1))) (ev_var (pv 4))) (ea_cons (ev_bin ot_mul (ev_bin ot_mul (ev_un ut_neg ev_int) (ev_var (pv 1))) (ev_var (pv 2))) (ea_cons (ev_bin ot_mul (ev_var (pv 2)) (ev_var (pv 2))) ea_nil)))) xa_nil) (hlen := xl_of (xl_val xl_nil))) (ea_cons (ev_lst ea_nil) ea_nil))))) bv_nil)
    (bv_one (sv_ret (ev_tup (ea_cons (ev_call (ok__law_plain T) (hr.mono (by decide)) hgd (by rfl) T.m__law_plain T.F__law_plain.kp T.i__law_plain .nil (fun _ => .nil) rfl (xa_val (ev_tup (ea_cons (ev_bin ot_sub (ev_bin ot_mul (ev_var (pv 1)) (ev_var (pv 1))) (ev_var (pv 4))) (ea_cons (ev_bin ot_mul (ev_bin ot_mul (ev_un ut_neg ev_int) (ev_var (pv 1))) (ev_var (pv 2))) (ea_cons (ev_bin ot_mul (ev_var (pv 2)) (ev_var (pv 2))) ea_nil)))) xa_nil) (hlen := xl_of (xl_val xl_nil))) (ea_cons (ev_lst (ea_cons (ev_tup (ea_cons (ev_var (pv 1)) (ea_cons (ev_un ut_neg ev_int) (ea_cons (ev_var (pv 4)) (ea_cons (ev_var (pv 2)) ea_nil))))) (ea_cons (ev_tup (ea_cons (ev_var (pv 1)) (ea_cons ev_int (ea_cons (ev_var (pv 4)) (ea_cons (ev_var (pv 2)) ea_nil))))) ea_nil))) ea_nil))))))))))
theorem ok__law_factors (T : Txt K mg A) : FnG P w K mg base CX0 6 A.a__law_factors A.d__law_factors ["pen", "many"] (spF K 2 m__law_factors) :=
  fn_ok T.F__law_factors sc__law_factors rfl rfl (by decide) fun cdv A' outer s H E hr hgd =>
    (bv_cons (sv_own (i := 2) sc__law_factors.nd rfl (by first | exact Or.inl rfl | exact Or.inr rfl) (ew_lst ea_nil))
    (bv_cons (sv_forR [3, 4, 5, 6] PassesOwn.never rfl (iv_range1 (by rfl) T.b_range (ea_cons (ev_bin ot_add ev_int (ev_call (ok__law_draw T) (hr.mono (by decide)) hgd (by rfl) T.m__law_draw T.F__law_draw.kp T.i__law_draw .nil (fun _ => .nil) rfl (xa_io (pv 0) (xa_val (ev_var (pv 1)) xa_nil)) (hlen := xl_of (xl_io (xl_val xl_nil))))) ea_nil)) (gv_name (i := 3) sc__law_factors.nd rfl (by first | exact Or.inl rfl | exact Or.inr rfl)) (bv_cons (sv_asg (ev_call (ok__law_factor T) (hr.mono (by decide)) hgd (by rfl) T.m__law_factor T.F__law_factor.kp T.i__law_factor .nil (fun _ => .nil) rfl (xa_io (pv 0) xa_nil) (hlen := xl_of (xl_io xl_nil))) (gv_tup rfl (gvs_cons (gv_name (i := 4) sc__law_factors.nd rfl (by first | exact Or.inl rfl | exact Or.inr rfl)) (gvs_cons (gv_name (i := 5) sc__law_factors.nd rfl (by first | exact Or.inl rfl | exact Or.inr rfl)) gvs_nil))))
    (bv_one (sv_if (tv_cmp (ot_nin hr.units) (ev_var (pv 4)) (ev_ew (ew_lcP (own := [("one", 6)]) rfl sc__law_factors.nd (pv 2) (blkOk_by (N := N__law_factors) (sc := defScope s__law_factors) (by decide +kernel)) (fun _ _ _ _ _ => (gv_name (i := 6) sc__law_factors.nd rfl (by first | exact Or.inl rfl | exact Or.inr rfl))) (fun _ _ _ _ _ => tsv_nil) (fun _ _ _ _ _ => (ev_ix it_ix (ev_var (pv 6)) ev_int (fun _ _ => rfl))) (by decide))) (by rfl)) (bv_one (sv_app (pv 2) (ev_tup (ea_cons (ev_var (pv 4)) (ea_cons (ev_var (pv 5)) (ea_cons (ev_call (ok__law_pick T) (hr.mono (by decide)) hgd (by rfl) T.m__law_pick T.F__law_pick.kp T.i__law_pick .nil (fun _ => .nil) rfl (xa_io (pv 0) (xa_val (ev_lst (ea_cons ev_int (ea_cons ev_int (ea_cons ev_int (ea_cons ev_int (ea_cons ev_int ea_nil)))))) xa_nil)) (hlen := xl_of (xl_io (xl_val xl_nil)))) ea_nil)))))) bv_nil))))
    (bv_one (sv_ret (ev_var (pv 2))))))
theorem ok__law_made (T : Txt K mg A) : FnG P w K mg base CX0 4 A.a__law_made A.d__law_made ["pen", "factors"] (spF K 2 m__law_made) :=
  fn_ok T.F__law_made sc__law_made rfl rfl (by decide) fun cdv A' outer s H E hr hgd =>
    (bv_one (sv_ret (ev_call (ok__law_by T) (hr.mono (by decide)) hgd (by rfl) T.m__law_by T.F__law_by.kp T.i__law_by .nil (fun _ => .nil) rfl (xa_val (ev_call (ok__law_all_times T) (hr.mono (by decide)) hgd (by rfl) T.m__law_all_times T.F__law_all_times.kp T.i__law_all_times .nil (fun _ => .nil) rfl (xa_val (ev_callB (ct_sumL rfl) (by rfl) T.b_sum (by decide +kernel) (ea_cons (ev_ew (ew_lc (own := [("poly", 2), ("roots", 3), ("many", 4)]) rfl sc__law_made.nd (iv_seq (ev_var (pv 1))) (blkOk_by (N := N__law_made) (sc := defScope s__law_made) (by decide +kernel)) (fun _ _ _ _ _ => (gv_tup rfl (gvs_cons (gv_name (i := 2) sc__law_made.nd rfl (by first | exact Or.inl rfl | exact Or.inr rfl)) (gvs_cons (gv_name (i := 3) sc__law_made.nd rfl (by first | exact Or.inl rfl | exact Or.inr rfl)) (gvs_cons (gv_name (i := 4) sc__law_made.nd rfl (by first | exact Or.inl rfl | exact Or.inr rfl)) gvs_nil))))) (fun _ _ _ _ _ => tsv_nil) (fun _ _ _ _ _ => (ev_bin ot_mul (ev_lst (ea_cons (ev_var (pv 2)) ea_nil)) (ev_var (pv 4)))) (by decide))) (ea_cons (ev_lst ea_nil) ea_nil))) xa_nil) (hlen := xl_of (xl_val xl_nil))) (xa_val (ev_call (ok__law_pick T) (hr.mono (by decide)) hgd (by rfl) T.m__law_pick T.F__law_pick.kp T.i__law_pick .nil (fun _ => .nil) rfl (xa_io (pv 0) (xa_val (ev_lst (ea_cons ev_int (ea_cons (ev_un ut_neg ev_int) (ea_cons ev_int (ea_cons (ev_un ut_neg ev_int) (ea_cons ev_int ea_nil)))))) xa_nil)) (hlen := xl_of (xl_io (xl_val xl_nil)))) xa_nil)) (hlen := xl_of (xl_val (xl_val xl_nil))))))
theorem ok_law (T : Txt K mg A) : FnG P w K mg base CX0 7 A.a_law A.d_law ["script"] (spF K 1 m_law) :=
  fn_ok T.F_law sc_law rfl rfl (by decide) fun cdv A' outer s H E hr hgd =>
    (bv_cons (sv_own (i := 1) sc_law.nd rfl (by first | exact Or.inl rfl | exact Or.inr rfl) (ew_call (ok__law_pen T) (hr.mono (by decide)) hgd (by rfl) T.m__law_pen T.F__law_pen.kp T.i__law_pen rfl (xa_val (ev_var (pv 0)) xa_nil) (hlen := xl_of (xl_val xl_nil))))
    (bv_cons (sv_forR [2, 3, 4, 5, 6, 7, 8, 9, 10, 16] PassesOwn.never rfl (iv_range1 (by rfl) T.b_range (ea_cons ev_int ea_nil)) (gv_name (i := 2) sc_law.nd rfl (by first | exact Or.inl rfl | exact Or.inr rfl)) (bv_cons (sv_set (i := 3) sc_law.nd rfl (by first | exact Or.inl rfl | exact Or.inr rfl) (ev_call (ok__law_factors T) (hr.mono (by decide)) hgd (by rfl) T.m__law_factors T.F__law_factors.kp T.i__law_factors .nil (fun _ => .nil) rfl (xa_io (pv 1) (xa_val ev_int xa_nil)) (hlen := xl_of (xl_io (xl_val xl_nil)))))
    (bv_cons (sv_set (i := 4) sc_law.nd rfl (by first | exact Or.inl rfl | exact Or.inr rfl) (ev_ifExp (tv_cmp (ot_eq hr.units) (ev_call (ok__law_draw T) (hr.mono (by decide)) hgd (by rfl) T.m__law_draw T.F__law_draw.kp T.i__law_draw .nil (fun _ => .nil) rfl (xa_io (pv 1) (xa_val ev_int xa_nil)) (hlen := xl_of (xl_io (xl_val xl_nil)))) ev_int (nomark _)) (ev_call (ok__law_made T) (hr.mono (by decide)) hgd (by rfl) T.m__law_made T.F__law_made.kp T.i__law_made .nil (fun _ => .nil) rfl (xa_io (pv 1) (xa_val (ev_var (pv 3)) xa_nil)) (hlen := xl_of (xl_io (xl_val xl_nil)))) (ev_call (ok__law_poly T) (hr.mono (by decide)) hgd (by rfl) T.m__law_poly T.F__law_poly.kp T.i__law_poly .nil (fun _ => .nil) rfl (xa_io (pv 1) (xa_val ev_int xa_nil)) (hlen := xl_of (xl_io (xl_val xl_nil))))))
    (bv_cons (sv_asg (ev_tup (ea_cons (ev_call (ok__law_x T) (hr.mono (by decide)) hgd (by rfl) T.m__law_x T.F__law_x.kp T.i__law_x .nil (fun _ => .nil) rfl (xa_io (pv 1) xa_nil) (hlen := xl_of (xl_io xl_nil))) (ea_cons (ev_call (ok__law_pick T) (hr.mono (by decide)) hgd (by rfl) T.m__law_pick T.F__law_pick.kp T.i__law_pick .nil (fun _ => .nil) rfl (xa_io (pv 1) (xa_val (ev_lst (ea_cons (ev_call (ok__law_x T) (hr.mono (by decide)) hgd (by rfl) T.m__law_x T.F__law_x.kp T.i__law_x .nil (fun _ => .nil) rfl (xa_io (pv 1) xa_nil) (hlen := xl_of (xl_io xl_nil))) (ea_cons (ev_call (ok__law_x T) (hr.mono (by decide)) hgd (by rfl) T.m__law_x T.F__law_x.kp T.i__law_x .nil (fun _ => .nil) rfl (xa_io (pv 1) xa_nil) (hlen := xl_of (xl_io xl_nil))) (ea_cons (ev_tup (ea_cons ev_int (ea_cons ev_int ea_nil))) (ea_cons (ev_tup (ea_cons (ev_un ut_neg ev_int) (ea_cons ev_int ea_nil))) (ea_cons (ev_tup (ea_cons ev_int (ea_cons ev_int ea_nil))) ea_nil)))))) xa_nil)) (hlen := xl_of (xl_io (xl_val xl_nil)))) (ea_cons (ev_call (ok__law_x T) (hr.mono (by decide)) hgd (by rfl) T.m__law_x T.F__law_x.kp T.i__law_x .nil (fun _ => .nil) rfl (xa_io (pv 1) xa_nil) (hlen := xl_of (xl_io xl_nil))) ea_nil)))) (gv_tup rfl (gvs_cons (gv_name (i := 5) sc_law.nd rfl (by first | exact Or.inl rfl | exact Or.inr rfl)) (gvs_cons (gv_name (i := 6) sc_law.nd rfl (by first | exact Or.inl rfl | exact Or.inr rfl)) (gvs_cons (gv_name (i := 7) sc_law.nd rfl (by first | exact Or.inl rfl | exact Or.inr rfl)) gvs_nil)))))
    (bv_cons (sv_set (i := 8) sc_law.nd rfl (by first | exact Or.inl rfl | exact Or.inr rfl) (ev_call (ok_shifted T) (hr.mono (by decide)) hgd (by rfl) T.m_shifted T.F_shifted.kp T.i_shifted .nil (fun _ => .nil) rfl (xa_val (ev_var (pv 4)) (xa_val (ev_var (pv 5)) (xa_val (ev_var (pv 6)) xa_nil))) (hlen := xl_of (xl_val (xl_val (xl_val xl_nil))))))
    (bv_cons (sv_set (i := 9) sc_law.nd rfl (by first | exact Or.inl rfl | exact Or.inr rfl) (ev_call (ok__law_ratio T) (hr.mono (by decide)) hgd (by rfl) T.m__law_ratio T.F__law_ratio.kp T.i__law_ratio .nil (fun _ => .nil) rfl (xa_val (ev_bin ot_add (ev_bin ot_mul (ev_bin ot_mul (ev_ix it_ix (ev_var (pv 5)) ev_int (fun _ _ => rfl)) (ev_ix it_ix (ev_var (pv 6)) ev_int (fun _ _ => rfl))) (ev_ix it_ix (ev_var (pv 7)) ev_int (fun _ _ => rfl))) (ev_bin ot_mul (ev_bin ot_mul (ev_ix it_ix (ev_var (pv 6)) ev_int (fun _ _ => rfl)) (ev_ix it_ix (ev_var (pv 7)) ev_int (fun _ _ => rfl))) (ev_ix it_ix (ev_var (pv 5)) ev_int (fun _ _ => rfl)))) (xa_val (ev_bin ot_mul (ev_bin ot_mul (ev_ix it_ix (ev_var (pv 5)) ev_int (fun _ _ => rfl)) (ev_ix it_ix (ev_var (pv 6)) ev_int (fun _ _ => rfl))) (ev_ix it_ix (ev_var (pv 7)) ev_int (fun _ _ => rfl))) xa_nil)) (hlen := xl_of (xl_val (xl_val xl_nil)))))
    (bv_cons (sv_if (tw_tv (tw_or (tv_cmp (ot_ne hr.units) (ev_callK0 (n := 3) (ks := ["b", "a", "poly"]) (g := kw_shifted_0_b_a_poly) (ok_shifted T) (hr.mono (by decide)) hgd (by rfl) T.m_shifted T.F_shifted.kp (kw_shifted_0_b_a_poly_b T.F_shifted) kw_shifted_0_b_a_poly_r (xk_val (ev_var (pv 6)) (xk_val (ev_var (pv 5)) (xk_val (ev_callTy ct_list (by rfl) T.b_list (by decide +kernel) (ea_cons (ev_var (pv 4)) ea_nil)) xk_nil))) (xl_of (xl_val (xl_val (xl_val xl_nil))))) (ev_var (pv 8)) (nomark _)) (tw_or (tv_cmp (ot_nin hr.units) (ev_call (ok__law_content T) (hr.mono (by decide)) hgd (by rfl) T.m__law_content T.F__law_content.kp T.i__law_content .nil (fun _ => .nil) rfl (xa_val (ev_var (pv 8)) xa_nil) (hlen := xl_of (xl_val xl_nil))) (ev_tup (ea_cons ev_int (ea_cons ev_int ea_nil))) (by rfl)) (tw_or1 (tv_cmp (ot_ne hr.units) (ev_call (ok_sign_at_ratio T) (hr.mono (by decide)) hgd (by rfl) T.m_sign_at_ratio T.F_sign_at_ratio.kp T.i_sign_at_ratio .nil (fun _ => .nil) rfl (xa_val (ev_var (pv 8)) (xa_val (ev_var (pv 7)) xa_nil)) (hlen := xl_of (xl_val (xl_val xl_nil)))) (ev_call (ok_sign_at_ratio T) (hr.mono (by decide)) hgd (by rfl) T.m_sign_at_ratio T.F_sign_at_ratio.kp T.i_sign_at_ratio .nil (fun _ => .nil) rfl (xa_val (ev_var (pv 4)) (xa_val (ev_var (pv 9)) xa_nil)) (hlen := xl_of (xl_val (xl_val xl_nil)))) (nomark _)))))) (bv_one (sv_ret ev_bl)) bv_nil)
    (bv_cons (sv_setLc (i := 10) (own := [("one", 16)]) rfl sc_law.nd rfl rfl (sw_true rfl rfl rfl (by decide +kernel)) (iv_seq (ev_tup (ea_cons (ev_var (pv 7)) (ea_cons (ev_tup (ea_cons ev_int (ea_cons ev_int ea_nil))) (ea_cons (ev_tup (ea_cons (ev_un ut_neg ev_int) (ea_cons ev_int ea_nil))) (ea_cons (ev_tup (ea_cons ev_int (ea_cons ev_int ea_nil))) ea_nil)))))) (blkOk_by (N := N_law) (sc := defScope s_law) (by decide +kernel)) (fun _ _ _ _ _ => (gv_name (i := 16) sc_law.nd rfl (by first | exact Or.inl rfl | exact Or.inr rfl))) (fun _ _ _ _ _ => tsv_nil) (fun _ _ _ _ _ => (ev_tup (ea_cons (ev_call (ok_value T) (hr.mono (by decide)) hgd (by rfl) T.m_value T.F_value.kp T.i_value .nil (fun _ => .nil) rfl (xa_val (ev_var (pv 8)) (xa_val (ev_var (pv 16)) xa_nil)) (hlen := xl_of (xl_val (xl_val xl_nil)))) (ea_cons (ev_call (ok_value T) (hr.mono (by decide)) hgd (by rfl) T.m_value T.F_value.kp T.i_value .nil (fun _ => .nil) rfl (xa_val (ev_var (pv 4)) (xa_val (ev_call (ok__law_ratio T) (hr.mono (by decide)) hgd (by rfl) T.m__law_ratio T.F__law_ratio.kp T.i__law_ratio .nil (fun _ => .nil) rfl (xa_val (ev_bin ot_add (ev_bin ot_mul (ev_bin ot_mul (ev_ix it_ix (ev_var (pv 5)) ev_int (fun _ _ => rfl)) (ev_ix it_ix (ev_var (pv 6)) ev_int (fun _ _ => rfl))) (ev_ix it_ix (ev_var (pv 16)) ev_int (fun _ _ => rfl))) (ev_bin ot_mul (ev_bin ot_mul (ev_ix it_ix (ev_var (pv 6)) ev_int (fun _ _ => rfl)) (ev_ix it_ix (ev_var (pv 16)) ev_int (fun _ _ => rfl))) (ev_ix it_ix (ev_var (pv 5)) ev_int (fun _ _ => rfl)))) (xa_val (ev_bin ot_mul (ev_bin ot_mul (ev_ix it_ix (ev_var (pv 5)) ev_int (fun _ _ => rfl)) (ev_ix it_ix (ev_var (pv 6)) ev_int (fun _ _ => rfl))) (ev_ix it_ix (ev_var (pv 16)) ev_int (fun _ _ => rfl))) xa_nil)) (hlen := xl_of (xl_val (xl_val xl_nil)))) xa_nil)) (hlen := xl_of (xl_val (xl_val xl_nil)))) ea_nil)))) (by decide))
    (bv_cons (sv_for PassesOwn.never rfl (iv_seq (ev_var (pv 10))) (gv_tup rfl (gvs_cons (gv_name (i := 11) sc_law.nd rfl (by first | exact Or.inl rfl | exact Or.inr rfl)) (gvs_cons (gv_name (i := 12) sc_law.nd rfl (by first | exact Or.inl rfl | exact Or.inr rfl)) gvs_nil))) (bv_one (sv_for PassesOwn.never rfl (iv_seq (ev_var (pv 10))) (gv_tup rfl (gvs_cons (gv_name (i := 13) sc_law.nd rfl (by first | exact Or.inl rfl | exact Or.inr rfl)) (gvs_cons (gv_name (i := 14) sc_law.nd rfl (by first | exact Or.inl rfl | exact Or.inr rfl)) gvs_nil))) (bv_one (sv_if (tv_cmp (ot_ne hr.units) (ev_bin ot_mul (ev_bin ot_mul (ev_bin ot_mul (ev_ix it_ix (ev_var (pv 11)) ev_int (fun _ _ => rfl)) (ev_ix it_ix (ev_var (pv 13)) ev_int (fun _ _ => rfl))) (ev_ix it_ix (ev_var (pv 14)) ev_int (fun _ _ => rfl))) (ev_ix it_ix (ev_var (pv 12)) ev_int (fun _ _ => rfl))) (ev_bin ot_mul (ev_bin ot_mul (ev_bin ot_mul (ev_ix it_ix (ev_var (pv 13)) ev_int (fun _ _ => rfl)) (ev_ix it_ix (ev_var (pv 11)) ev_int (fun _ _ => rfl))) (ev_ix it_ix (ev_var (pv 12)) ev_int (fun _ _ => rfl))) (ev_ix it_ix (ev_var (pv 14)) ev_int (fun _ _ => rfl))) (nomark _)) (bv_one (sv_ret ev_bl)) bv_nil)))))
    (bv_cons (sv_if (tw_tv (tw_and (tv_cmp (ot_ne hr.units) (ev_ix it_ix (ev_var (pv 6)) ev_int (fun _ _ => rfl)) ev_int (nomark _)) (tw_and1 (tv_cmp (ot_ne hr.units) (ev_call (ok_shifted T) (hr.mono (by decide)) hgd (by rfl) T.m_shifted T.F_shifted.kp T.i_shifted .nil (fun _ => .nil) rfl (xa_val (ev_var (pv 8)) (xa_val (ev_call (ok__law_ratio T) (hr.mono (by decide)) hgd (by rfl) T.m__law_ratio T.F__law_ratio.kp T.i__law_ratio .nil (fun _ => .nil) rfl (xa_val (ev_bin ot_sub ev_int (ev_bin ot_mul (ev_ix it_ix (ev_var (pv 5)) ev_int (fun _ _ => rfl)) (ev_ix it_ix (ev_var (pv 6)) ev_int (fun _ _ => rfl)))) (xa_val (ev_bin ot_mul (ev_ix it_ix (ev_var (pv 5)) ev_int (fun _ _ => rfl)) (ev_ix it_ix (ev_var (pv 6)) ev_int (fun _ _ => rfl))) xa_nil)) (hlen := xl_of (xl_val (xl_val xl_nil)))) (xa_val (ev_call (ok__law_ratio T) (hr.mono (by decide)) hgd (by rfl) T.m__law_ratio T.F__law_ratio.kp T.i__law_ratio .nil (fun _ => .nil) rfl (xa_val (ev_ix it_ix (ev_var (pv 6)) ev_int (fun _ _ => rfl)) (xa_val (ev_ix it_ix (ev_var (pv 6)) ev_int (fun _ _ => rfl)) xa_nil)) (hlen := xl_of (xl_val (xl_val xl_nil)))) xa_nil))) (hlen := xl_of (xl_val (xl_val (xl_val xl_nil))))) (ev_call (ok__law_clear T) (hr.mono (by decide)) hgd (by rfl) T.m__law_clear T.F__law_clear.kp T.i__law_clear .nil (fun _ => .nil) rfl (xa_val (ev_var (pv 4)) xa_nil) (hlen := xl_of (xl_val xl_nil))) (nomark _))))) (bv_one (sv_ret ev_bl)) bv_nil)
    (bv_cons (sv_if (tw_tv (tw_or (tv_cmp (ot_ne hr.units) (ev_call (ok_shifted T) (hr.mono (by decide)) hgd (by rfl) T.m_shifted T.F_shifted.kp T.i_shifted .nil (fun _ => .nil) rfl (xa_val (ev_var (pv 4)) (xa_val (ev_tup (ea_cons ev_int (ea_cons ev_int ea_nil))) (xa_val (ev_tup (ea_cons ev_int (ea_cons ev_int ea_nil))) xa_nil))) (hlen := xl_of (xl_val (xl_val (xl_val xl_nil))))) (ev_call (ok__law_clear T) (hr.mono (by decide)) hgd (by rfl) T.m__law_clear T.F__law_clear.kp T.i__law_clear .nil (fun _ => .nil) rfl (xa_val (ev_var (pv 4)) xa_nil) (hlen := xl_of (xl_val xl_nil))) (nomark _)) (tw_or (tv_cmp (ot_ne hr.units) (ev_call (ok_shifted T) (hr.mono (by decide)) hgd (by rfl) T.m_shifted T.F_shifted.kp T.i_shifted .nil (fun _ => .nil) rfl (xa_val (ev_tup ea_nil) (xa_val (ev_var (pv 5)) (xa_val (ev_var (pv 6)) xa_nil))) (hlen := xl_of (xl_val (xl_val (xl_val xl_nil))))) (ev_tup ea_nil) (nomark _)) (tw_or1 (tv_cmp (ot_ne hr.units) (ev_call (ok_shifted T) (hr.mono (by decide)) hgd (by rfl) T.m_shifted T.F_shifted.kp T.i_shifted .nil (fun _ => .nil) rfl (xa_val (ev_tup (ea_cons ev_int ea_nil)) (xa_val (ev_var (pv 5)) (xa_val (ev_var (pv 6)) xa_nil))) (hlen := xl_of (xl_val (xl_val (xl_val xl_nil))))) (ev_tup (ea_cons ev_int ea_nil)) (nomark _)))))) (bv_one (sv_ret ev_bl)) bv_nil)
    (bv_one (sv_if (tv_cmp (ot_ne hr.units) (ev_call (ok_shifted T) (hr.mono (by decide)) hgd (by rfl) T.m_shifted T.F_shifted.kp T.i_shifted .nil (fun _ => .nil) rfl (xa_val (ev_call (ok_product T) (hr.mono (by decide)) hgd (by rfl) T.m_product T.F_product.kp T.i_product .nil (fun _ => .nil) rfl (xa_val (ev_var (pv 4)) (xa_val (ev_var (pv 4)) xa_nil)) (hlen := xl_of (xl_val (xl_val xl_nil)))) (xa_val (ev_var (pv 5)) (xa_val (ev_var (pv 6)) xa_nil))) (hlen := xl_of (xl_val (xl_val (xl_val xl_nil))))) (ev_call (ok_product T) (hr.mono (by decide)) hgd (by rfl) T.m_product T.F_product.kp T.i_product .nil (fun _ => .nil) rfl (xa_val (ev_var (pv 8)) (xa_val (ev_var (pv 8)) xa_nil)) (hlen := xl_of (xl_val (xl_val xl_nil)))) (nomark _)) (bv_one (sv_ret ev_bl)) bv_nil)))))))))))))
    (bv_cons (sv_set (i := 15) sc_law.nd rfl (by first | exact Or.inl rfl | exact Or.inr rfl) (ev_call (ok_shifted T) (hr.mono (by decide)) hgd (by rfl) T.m_shifted T.F_shifted.kp T.i_shifted .nil (fun _ => .nil) rfl (xa_val (ev_tup (ea_cons ev_int (ea_cons ev_int (ea_cons ev_int (ea_cons ev_int ea_nil))))) (xa_val (ev_tup (ea_cons ev_int (ea_cons ev_int ea_nil))) (xa_val (ev_tup (ea_cons ev_int (ea_cons ev_int ea_nil))) xa_nil))) (hlen := xl_of (xl_val (xl_val (xl_val xl_nil))))))
    (bv_one (sv_ret (ev_and (ev_cmp (ot_eq hr.units) (ev_var (pv 15)) (ev_tup (ea_cons ev_int (ea_cons ev_int (ea_cons ev_int (ea_cons ev_int ea_nil))))) (nomark _)) (ev_and (ev_cmp (ot_eq hr.units) (ev_call (ok_shifted T) (hr.mono (by decide)) hgd (by rfl) T.m_shifted T.F_shifted.kp T.i_shifted .nil (fun _ => .nil) rfl (xa_val (ev_tup (ea_cons ev_int (ea_cons (ev_un ut_neg ev_int) (ea_cons ev_int ea_nil)))) (xa_val (ev_tup (ea_cons ev_int (ea_cons ev_int ea_nil))) (xa_val (ev_tup (ea_cons (ev_un ut_neg ev_int) (ea_cons ev_int ea_nil))) xa_nil))) (hlen := xl_of (xl_val (xl_val (xl_val xl_nil))))) (ev_tup (ea_cons ev_int (ea_cons ev_int (ea_cons ev_int ea_nil)))) (nomark _)) (ev_and (ev_cmp (ot_eq hr.units) (ev_call (ok_shifted T) (hr.mono (by decide)) hgd (by rfl) T.m_shifted T.F_shifted.kp T.i_shifted .nil (fun _ => .nil) rfl (xa_val (ev_tup (ea_cons (ev_un ut_neg ev_int) (ea_cons ev_int ea_nil))) (xa_val (ev_tup (ea_cons ev_int (ea_cons ev_int ea_nil))) (xa_val (ev_tup (ea_cons ev_int (ea_cons ev_int ea_nil))) xa_nil))) (hlen := xl_of (xl_val (xl_val (xl_val xl_nil))))) (ev_tup (ea_cons (ev_un ut_neg ev_int) ea_nil)) (nomark _)) (ev_one (ev_cmp (ot_eq hr.units) (ev_call (ok_shifted T) (hr.mono (by decide)) hgd (by rfl) T.m_shifted T.F_shifted.kp T.i_shifted .nil (fun _ => .nil) rfl (xa_val (ev_tup (ea_cons (ev_un ut_neg ev_int) (ea_cons ev_int ea_nil))) (xa_val (ev_tup (ea_cons ev_int (ea_cons ev_int ea_nil))) (xa_val (ev_tup (ea_cons ev_int (ea_cons ev_int ea_nil))) xa_nil))) (hlen := xl_of (xl_val (xl_val (xl_val xl_nil))))) (ev_tup ea_nil) (nomark _)))))))))))
end
end K21

/-! the program's polynomials, as in k17 -/
namespace K21
open PySem PySem.Spec PyProof.Rows L2 Fx Fx.RP
abbrev vi (a : Int) : Sl := .val (.int a)
abbrev vr (q : Rat) : Sl := .val (rt q)
abbrev is (p : List Int) : List T := p.map T.int
abbrev pz (p : List Int) : T := .tup (is p)
abbrev vp (p : List Int) : Sl := .val (pz p)
abbrev vl (p : List Int) : Sl := .val (.lst (is p))
theorem is_cons (c : Int) (p : List Int) : is (c :: p) = .int c :: is p := rfl
theorem at_int {p : List Int} {k : Nat} (h : k < p.length) : L2.atI (is p) (k : Int) = some (.int (p.getD k 0)) := by
  unfold L2.atI ixN
  rw [List.length_map, if_pos (by omega), if_pos (by omega)]
  simp [h]
theorem trim_loop (p : List Int) (hl : p.length ≤ 100000) : ∀ (m n : Nat), m < n → m ≤ p.length → (∀ j, m ≤ j → p.getD j 0 = 0) →
    ∃ m' : Nat, whileL w_trimmed_1 b_trimmed_1 n [vl p, vi m] = some (.nx, [vl p, vi m']) ∧ p.take m' = trim p
  | 0, n + 1, _, _, hz => ⟨0, by
      unfold whileL
      simp [w_trimmed_1], trim_take p 0 (Nat.zero_le _) hz (.inl rfl)⟩
  | m + 1, n + 1, hn, hm, hz => by
    have e1 : ((m + 1 : Nat) : Int) - 1 = (m : Int) := by omega
    have e2 := at_int (p := p) (k := m) (by omega)
    have e3 : (0 : Int) < (m : Int) + 1 := by omega
    by_cases h0 : p.getD m 0 = 0
    · obtain ⟨m', h1, h2⟩ := trim_loop p hl m n (by omega) (by omega) fun j hj => by
        by_cases z : j = m
        · subst z; exact h0
        · exact hz j (by omega)
      refine ⟨m', ?_, h2⟩
      generalize p.getD m 0 = z at e2 h0
      subst h0
      have c1 : w_trimmed_1 [vl p, vi ((m + 1 : Nat) : Int)] = some (true, [vl p, vi ((m + 1 : Nat) : Int)]) := by simp [w_trimmed_1, e2, e3]
      have c2 : b_trimmed_1 [vl p, vi ((m + 1 : Nat) : Int)] = some (.nx, [vl p, vi m]) := by simp [b_trimmed_1]
      unfold whileL
      rw [← h1, c1, Option.bind_some, if_pos rfl, c2, Option.bind_some]
    · refine ⟨m + 1, ?_, trim_take p (m + 1) hm hz (.inr (by simpa using h0))⟩
      generalize p.getD m 0 = z at e2 h0
      have c1 : w_trimmed_1 [vl p, vi ((m + 1 : Nat) : Int)] = some (false, [vl p, vi ((m + 1 : Nat) : Int)]) := by simp [w_trimmed_1, e2, e3, h0]
      unfold whileL
      rw [c1, Option.bind_some, if_neg Bool.false_ne_true]
theorem sIx_n (n d k : Nat) : HT.sIx n d (some (k : Int)) = min k n := by
  show (if (k : Int) < 0 then ((k : Int) + (n : Int)).toNat else min (k : Int).toNat n) = min k n
  rw [if_neg (by omega), Int.toNat_natCast]
theorem cut_take {α : Type} (xs : List α) (m : Nat) : cutL xs none (some (m : Int)) = xs.take m := by
  unfold cutL
  rw [sIx_n]
  show (xs.drop 0).take (min m xs.length - 0) = _
  rw [List.drop_zero, Nat.sub_zero]
  by_cases h : m ≤ xs.length
  · rw [Nat.min_eq_left h]
  · rw [Nat.min_eq_right (by omega), List.take_of_length_le (Nat.le_refl _), List.take_of_length_le (by omega)]
theorem cut_tail {α : Type} (xs : List α) : cutL xs (some 1) none = xs.tail := by
  unfold cutL
  have h : HT.sIx xs.length 0 (some 1) = min 1 xs.length := sIx_n xs.length 0 1
  rw [h]
  show (xs.drop (min 1 xs.length)).take (xs.length - min 1 xs.length) = _
  cases xs with
  | nil => rfl
  | cons a xs =>
    have e : min 1 (a :: xs).length = 1 := by simp only [List.length_cons]; omega
    rw [e]
    simp
theorem e_trimmed {p : List Int} (hl : p.length ≤ 100000) : m_trimmed [vl p] = some (pz (trim p), [vl p]) := by
  obtain ⟨m', h1, h2⟩ := trim_loop p hl p.length 1000000 (by omega) (Nat.le_refl _) (fun j hj => by rw [List.getD_eq_getElem?_getD, List.getElem?_eq_none hj]; rfl)
  refine runF_ret (env1 := [vl p, vi m']) ?_ rfl
  rw [g_trimmed, bSeq_nx (env1 := [vl p, vi p.length]) (by simp)]
  rw [bSeq_nx (env1 := [vl p, vi m']) (by unfold sWhile; exact h1), ← h2]
  simp [cut_take]
theorem e_is_integer {a : Int} : m_is_integer [vi a] = some (.bl true, [vi a]) := by simp [m_is_integer, g_is_integer]
theorem e_is_listed_t {ts : List T} : m_is_listed [.val (.tup ts)] = some (.bl true, [.val (.tup ts)]) := by simp [m_is_listed, g_is_listed]
theorem e_is_listed_l {ts : List T} : m_is_listed [.val (.lst ts)] = some (.bl true, [.val (.lst ts)]) := by simp [m_is_listed, g_is_listed]
theorem lc_ints {x : Sl} (h : isIo (some x) = false) : ∀ p : List Int, lcL (.nm 1) tYesF c_is_poly_1 [1] (is p) [x, .un] = some ((p.map fun _ => T.bl true), [x, .un])
  | [] => rfl
  | a :: p => by
    have ih := lc_ints h p
    have e : c_is_poly_1 [x, vi a] = some (.bl true, [x, vi a]) := by simp [c_is_poly_1, e_is_integer]
    simp [e, ih, h]
@[simp] theorem bools_true : ∀ p : List Int, bools (p.map fun _ => T.bl true) = some (p.map fun _ => true)
  | [] => rfl
  | a :: p => by
    have ih := bools_true p
    simp [ih]
@[simp] theorem all_id (p : List Int) : (p.map fun _ => true).all id = true := by
  induction p with
  | nil => rfl
  | cons a p ih => simp
theorem at_last {p : List Int} (h : p ≠ []) : L2.atI (is p) (-1) = some (.int (p.getLast h)) := by
  have hl : 0 < p.length := List.length_pos_iff.mpr h
  unfold L2.atI ixN
  rw [List.length_map, if_neg (by omega), if_pos (by omega), List.getLast_eq_getElem]
  have e : ((-1 : Int) + (p.length : Int)).toNat = p.length - 1 := by omega
  rw [Option.bind_some, e, List.getElem?_map, List.getElem?_eq_getElem (by omega)]
  rfl
theorem e_is_poly_t {p : List Int} (ht : Tr p) (hl : p.length ≤ 100000) : m_is_poly [vp p] = some (.bl true, [vp p]) := by
  have e1 := e_is_listed_t (ts := is p)
  have e2 := lc_ints (x := vp p) rfl p
  by_cases h : p = []
  · subst h
    simp [m_is_poly, g_is_poly, e1]
  · have e4 := at_last h
    have e5 := ht h
    have e6 : ¬ (p.length : Int) = 0 := by have := List.length_pos_iff.mpr h; omega
    simp [m_is_poly, g_is_poly, e1, e2, e4, e5, e6, hl, h]
theorem e_is_poly_l {p : List Int} (ht : Tr p) (hl : p.length ≤ 100000) : m_is_poly [vl p] = some (.bl true, [vl p]) := by
  have e1 := e_is_listed_l (ts := is p)
  have e2 := lc_ints (x := vl p) rfl p
  by_cases h : p = []
  · subst h
    simp [m_is_poly, g_is_poly, e_is_listed_l]
  · have e4 := at_last h
    have e5 := ht h
    have e6 : ¬ (p.length : Int) = 0 := by have := List.length_pos_iff.mpr h; omega
    simp [m_is_poly, g_is_poly, e1, e2, e4, e5, e6, hl, h]
theorem e_need_poly_t {p : List Int} (ht : Tr p) (hl : p.length ≤ 61) (s : T) : m_need_poly [vp p, .val s] = some (pz p, [vp p, .val s]) := by
  have e1 := e_is_poly_t ht (by omega)
  have e2 : ¬ (61 : Int) < p.length := by omega
  simp [m_need_poly, g_need_poly, e1, e2, k_MOST_DEGREE]
theorem e_need_poly_l {p : List Int} (ht : Tr p) (hl : p.length ≤ 61) (s : T) : m_need_poly [vl p, .val s] = some (pz p, [vl p, .val s]) := by
  have e1 := e_is_poly_l ht (by omega)
  have e2 : ¬ (61 : Int) < p.length := by omega
  simp [m_need_poly, g_need_poly, e1, e2, k_MOST_DEGREE]
def numFrom (k : Nat) (ts : List T) : List T := (ts.zipIdx k).map fun p => .tup [.int (p.2 : Nat), p.1]
theorem num_0 (ts : List T) : numT ts = numFrom 0 ts := rfl
theorem num_nil (k : Nat) : numFrom k [] = [] := rfl
theorem num_cons (k : Nat) (t : T) (ts : List T) : numFrom k (t :: ts) = .tup [.int (k : Nat), t] :: numFrom (k + 1) ts := rfl
theorem lc_sum (a b : Sl) (q : List Int) (ha : isIo (some a) = false) (hb : isIo (some b) = false) (long : Sl) (hc : isIo (some long) = false) : ∀ (p : List Int) (k : Nat), q.length ≤ k + p.length →
    lcL (.tup [.nm 4, .nm 5]) tYesF c_sum_of_1 [4, 5] (numFrom k (is p)) [a, b, long, vp q, .un, .un]
      = some (is (addL p (q.drop k)), [a, b, long, vp q, .un, .un])
  | [], k, _ => by
    simp [num_nil, addL]
  | c :: p, k, h => by
    have ih := lc_sum a b q ha hb long hc p (k + 1) (by simp only [List.length_cons] at h; omega)
    rw [is_cons, num_cons]
    by_cases hk : k < q.length
    · have e1 := at_int (p := q) hk
      have e2 : q.drop k = q.getD k 0 :: q.drop (k + 1) := by
        rw [List.drop_eq_getElem_cons hk, List.getD_eq_getElem?_getD, List.getElem?_eq_getElem hk]
        rfl
      rw [e2, addL]
      have e3 : (k : Int) < q.length := by omega
      generalize q.getD k 0 = z at e1
      have e : c_sum_of_1 [a, b, long, vp q, vi k, vi c] = some (.int (c + z), [a, b, long, vp q, vi k, vi c]) := by simp [c_sum_of_1, e1, e3]
      simp [e, ih, ha, hb, hc]
    · have e2 : q.drop k = [] := List.drop_eq_nil_of_le (by omega)
      have e2' : q.drop (k + 1) = [] := List.drop_eq_nil_of_le (by omega)
      rw [e2'] at ih
      rw [e2, addL]
      have e3 : ¬ (k : Int) < q.length := by omega
      have e : c_sum_of_1 [a, b, long, vp q, vi k, vi c] = some (.int (c + 0), [a, b, long, vp q, vi k, vi c]) := by simp [c_sum_of_1, e3]
      simp [e, ih, ha, hb, hc]
theorem e_sum_of {p q : List Int} (hp : p.length ≤ 1000) (hq : q.length ≤ 1000) : ∃ r, m_sum_of [vp p, vp q] = some (pz r, [vp p, vp q]) ∧ Tr r ∧ (∀ x, ev x r = ev x p + ev x q) ∧ nrm r ≤ nrm p + nrm q ∧ r.length ≤ max p.length q.length := by
  have len : ∀ (p q : List Int), q.length ≤ p.length → (addL p q).length = p.length := by
    intro p
    induction p with
    | nil => intro q h; simp [addL]
    | cons a p ih =>
      intro q h
      cases q with
      | nil => simp [addL, ih [] (by simp)]
      | cons b q => simp [addL, ih q (by simpa using h)]
  by_cases h : q.length ≤ p.length
  · have e1 := lc_sum (vp p) (vp q) q rfl rfl (vp p) rfl p 0 (by omega)
    have l1 := len p q h
    have e2 := e_trimmed (p := addL p q) (by omega)
    have l2 := len_trim (addL p q)
    refine ⟨trim (addL p q), ?_, tr_trim _, fun x => by rw [ev_trim, ev_addL x h], by rw [nrm_trim]; exact nrm_addL, by omega⟩
    have h' : (q.length : Int) ≤ p.length := by omega
    rw [List.drop_zero] at e1
    have e3 : (numT (is p)).length ≤ 100000 := by rw [numT_len, List.length_map]; omega
    rw [← num_0] at e1
    refine runF_ret (env1 := [vp p, vp q, vp p, vp q, .un, .un]) ?_ rfl
    rw [g_sum_of, bSeq_nx (env1 := [vp p, vp q, vp p, vp q, .un, .un]) (by simp [h'])]
    simp [e1, e2, e3]
  · have h2 : p.length ≤ q.length := by omega
    have e1 := lc_sum (vp p) (vp q) p rfl rfl (vp q) rfl q 0 (by omega)
    have l1 := len q p h2
    have e2 := e_trimmed (p := addL q p) (by omega)
    have l2 := len_trim (addL q p)
    refine ⟨trim (addL q p), ?_, tr_trim _, fun x => by rw [ev_trim, ev_addL x h2, Int.add_comm], by rw [nrm_trim, Nat.add_comm]; exact nrm_addL, by omega⟩
    have h' : ¬ (q.length : Int) ≤ p.length := by omega
    rw [List.drop_zero] at e1
    have e3 : (numT (is q)).length ≤ 100000 := by rw [numT_len, List.length_map]; omega
    rw [← num_0] at e1
    refine runF_ret (env1 := [vp p, vp q, vp q, vp p, .un, .un]) ?_ rfl
    rw [g_sum_of, bSeq_nx (env1 := [vp p, vp q, vp q, vp p, .un, .un]) (by simp [h'])]
    simp [e1, e2, e3]
/-- a slot that is no list of the caller's or one's own -/
def Pl (x : Sl) : Prop := x = .un ∨ ∃ t, x = .val t
theorem pl_un : Pl .un := .inl rfl
theorem pl_val (t : T) : Pl (.val t) := .inr ⟨t, rfl⟩
theorem prod_inner {a b : Sl} (ha : isIo (some a) = false) (hb : isIo (some b) = false) (at1 : Nat) (c : Int) : ∀ (q : List Int) (k : Nat) (f : List Int) (x y : Sl), Pl x → Pl y → (∀ z ∈ q, Fx.MulOk c z) → at1 + k + q.length ≤ f.length →
    ∃ x' y', forL (.tup [.nm 5, .nm 6]) b_product_of_1 (numFrom k (is q)) [a, b, .own (.lst (is f)), vi at1, vi c, x, y] = some (.nx, [a, b, .own (.lst (is (addFrom c (at1 + k) q f))), vi at1, vi c, x', y']) ∧ Pl x' ∧ Pl y'
  | [], k, f, x, y, hx, hy, _, _ => ⟨x, y, rfl, hx, hy⟩
  | z :: q, k, f, x, y, hx, hy, hm, hl => by
    simp only [List.length_cons] at hl
    have m := hm z List.mem_cons_self
    have e1 := at_int (p := f) (k := at1 + k) (by omega)
    have e0 : ((at1 + k : Nat) : Int) = (at1 : Int) + k := by omega
    rw [e0] at e1
    have e2 : ixN f.length ((at1 : Int) + k) = some (at1 + k) := by unfold ixN; rw [if_pos (by omega), if_pos (by omega)]; congr 1
    obtain ⟨x', y', h1, h2, h3⟩ := prod_inner ha hb at1 c q (k + 1) (f.set (at1 + k) (f.getD (at1 + k) 0 + c * z)) (vi k) (vi z) (pl_val _) (pl_val _) (fun w hw => hm w (List.mem_cons_of_mem _ hw)) (by rw [List.length_set]; omega)
    refine ⟨x', y', ?_, h2, h3⟩
    have e3 : b_product_of_1 [a, b, .own (.lst (is f)), vi at1, vi c, vi k, vi z] = some (.nx, [a, b, .own (.lst (is (f.set (at1 + k) (f.getD (at1 + k) 0 + c * z)))), vi at1, vi c, vi k, vi z]) := by
      generalize f.getD (at1 + k) 0 = w at e1
      have e4 : is (f.set (at1 + k) (w + c * z)) = (is f).set (at1 + k) (.int (w + c * z)) := by simp [is, List.map_set]
      rw [e4]
      simp [b_product_of_1, e1, e2, m]
    have e5 : addFrom c (at1 + k) (z :: q) f = addFrom c (at1 + (k + 1)) q (f.set (at1 + k) (f.getD (at1 + k) 0 + c * z)) := rfl
    have e6 : bindP (.tup [.nm 5, .nm 6]) (.tup [.int k, .int z]) [a, b, .own (.lst (is f)), vi at1, vi c, x, y] = some [a, b, .own (.lst (is f)), vi at1, vi c, vi k, vi z] := by
      rcases hx with rfl | ⟨_, rfl⟩ <;> rcases hy with rfl | ⟨_, rfl⟩ <;> simp
    rw [is_cons, num_cons, e5, ← h1, forL, e6, Option.bind_some, e3, Option.bind_some]
theorem prod_outer {P q : List Int} (hq : q.length ≤ 1000) : ∀ (p : List Int) (k : Nat) (f : List Int) (x y z w : Sl), Pl x → Pl y → Pl z → Pl w → (∀ c ∈ p, ∀ z ∈ q, Fx.MulOk c z) → k + p.length + q.length ≤ f.length + 1 →
    ∃ x' y' z' w', forL (.tup [.nm 3, .nm 4]) b_product_of_2 (numFrom k (is p)) [vp P, vp q, .own (.lst (is f)), x, y, z, w] = some (.nx, [vp P, vp q, .own (.lst (is (mulFrom q k p f))), x', y', z', w'])
  | [], k, f, x, y, z, w, hx, hy, hz, hw, _, _ => ⟨x, y, z, w, rfl⟩
  | c :: p, k, f, x, y, z, w, hx, hy, hz, hw, hm, hl => by
    simp only [List.length_cons] at hl
    have e6 : bindP (.tup [.nm 3, .nm 4]) (.tup [.int k, .int c]) [vp P, vp q, .own (.lst (is f)), x, y, z, w] = some [vp P, vp q, .own (.lst (is f)), vi k, vi c, z, w] := by
      rcases hx with rfl | ⟨_, rfl⟩ <;> rcases hy with rfl | ⟨_, rfl⟩ <;> simp
    have step : ∃ z1 w1, b_product_of_2 [vp P, vp q, .own (.lst (is f)), vi k, vi c, z, w] = some (.nx, [vp P, vp q, .own (.lst (is (addFrom c k q f))), vi k, vi c, z1, w1]) ∧ Pl z1 ∧ Pl w1 := by
      by_cases h0 : c = 0
      · subst h0
        refine ⟨z, w, ?_, hz, hw⟩
        rw [addFrom_0]
        simp [b_product_of_2]
      · obtain ⟨z1, w1, h1, h2, h3⟩ := prod_inner (a := vp P) (b := vp q) rfl rfl k c q 0 f z w hz hw (fun u hu => hm c List.mem_cons_self u hu) (by omega)
        refine ⟨z1, w1, ?_, h2, h3⟩
        rw [b_product_of_2, sIf_T (env1 := [vp P, vp q, .own (.lst (is f)), vi k, vi c, z, w]) (by simp [h0])]
        rw [sFor_of (ts := numFrom 0 (is q)) (env1 := [vp P, vp q, .own (.lst (is f)), vi k, vi c, z, w]) (by simp [num_0]), h1]
        rfl
    obtain ⟨z1, w1, e7, pz1, pw1⟩ := step
    obtain ⟨x', y', z', w', e8⟩ := prod_outer hq p (k + 1) (addFrom c k q f) (vi k) (vi c) z1 w1 (pl_val _) (pl_val _) pz1 pw1 (fun d hd => hm d (List.mem_cons_of_mem _ hd)) (by rw [addFrom_len]; omega)
    refine ⟨x', y', z', w', ?_⟩
    rw [is_cons, num_cons, forL, e6, Option.bind_some, e7, Option.bind_some]
    exact e8
theorem e_product_of {p q : List Int} (hp : p.length ≤ 1000) (hq : q.length ≤ 1000) (hm : ∀ c ∈ p, ∀ z ∈ q, Fx.MulOk c z) : m_product_of [vp p, vp q] = some (pz (mul p q), [vp p, vp q]) := by
  have q1 := eqT_tints0 p
  have q2 := eqT_tints0 q
  by_cases h1 : p = []
  · have : mul p q = [] := by unfold mul; rw [if_pos (.inl h1)]
    rw [this]
    have q1' : eqT (.tup (is p)) (.tup []) = some true := by rw [q1]; simp [h1]
    simp [m_product_of, g_product_of, q1']
  · by_cases h2 : q = []
    · have : mul p q = [] := by unfold mul; rw [if_pos (.inr h2)]
      rw [this]
      have q1' : eqT (.tup (is p)) (.tup []) = some false := by rw [q1]; simp [h1]
      have q2' : eqT (.tup (is q)) (.tup []) = some true := by rw [q2]; simp [h2]
      simp [m_product_of, g_product_of, q1', q2']
    · have lp : 0 < p.length := List.length_pos_iff.mpr h1
      have lq : 0 < q.length := List.length_pos_iff.mpr h2
      have hn : (noughts (p.length + q.length - 1)).length = p.length + q.length - 1 := by simp [noughts]
      obtain ⟨x', y', z', w', e1⟩ := prod_outer (P := p) hq p 0 (noughts (p.length + q.length - 1)) .un .un .un .un pl_un pl_un pl_un pl_un hm (by rw [hn]; omega)
      have e2 : mul p q = mulFrom q 0 p (noughts (p.length + q.length - 1)) := by unfold mul; rw [if_neg (by simp [h1, h2])]
      rw [e2]
      refine runF_ret (env1 := [vp p, vp q, .val (.lst (is (mulFrom q 0 p (noughts (p.length + q.length - 1))))), x', y', z', w']) ?_ rfl
      rw [g_product_of, bSeq_nx (env1 := [vp p, vp q, .un, .un, .un, .un, .un]) (by simp [q1, q2, h1, h2])]
      rw [bSeq_nx (env1 := [vp p, vp q, .own (.lst (is (noughts (p.length + q.length - 1)))), .un, .un, .un, .un])]
      · rw [bSeq_nx (env1 := [vp p, vp q, .own (.lst (is (mulFrom q 0 p (noughts (p.length + q.length - 1))))), x', y', z', w'])]
        · simp
        · rw [sFor_of (ts := numFrom 0 (is p)) (env1 := [vp p, vp q, .own (.lst (is (noughts (p.length + q.length - 1)))), .un, .un, .un, .un]) (by simp [num_0])]
          exact e1
      · have i1 : ((p.length : Int) + q.length - 1).toNat = p.length + q.length - 1 := by omega
        have i2 : -1000000 ≤ (p.length : Int) + q.length - 1 ∧ (p.length : Int) + q.length - 1 ≤ 1000000 := by omega
        have i3 : p.length + q.length - 1 ≤ 100000 := by omega
        have r := rep_noughts (p.length + q.length - 1)
        simp [i1, i2, i3, r]
theorem mulOk_l {a b : Int} (h : Bd 60 a) : Fx.MulOk a b := .inr (.inl (by unfold Bd at h; omega))
theorem mulOk_r {a b : Int} (h : Bd 60 b) : Fx.MulOk a b := .inr (.inr (by unfold Bd at h; omega))
def sg (z : Int) : Int := (if 0 < z then 1 else 0) - (if z < 0 then 1 else 0)
theorem e_sign_of {z : Int} : m_sign_of [vi z] = some (.int (sg z), [vi z]) := by
  simp [m_sign_of, g_sign_of, sg]
theorem bp_loop {u v : Int} (hv : Bd 60 v) : ∀ (ts : List T) (k : Nat) (m : Sl) (x : Sl), Pl x → Pl m → ∃ x', forL (.nm 3) b_bottom_power_1 ts [.val (.tup [.int u, .int v]), m, vi (v ^ k), x] = some (.nx, [.val (.tup [.int u, .int v]), m, vi (v ^ (k + ts.length)), x'])
  | [], k, m, x, _, _ => ⟨x, rfl⟩
  | t :: ts, k, m, x, hx, hm => by
    obtain ⟨x', h⟩ := bp_loop hv ts (k + 1) m (.val t) (pl_val _) hm
    refine ⟨x', ?_⟩
    have m1 : Fx.MulOk (v ^ k) v := mulOk_r hv
    have e1 : b_bottom_power_1 [.val (.tup [.int u, .int v]), m, vi (v ^ k), .val t] = some (.nx, [.val (.tup [.int u, .int v]), m, vi (v ^ (k + 1)), .val t]) := by
      rcases hm with rfl | ⟨_, rfl⟩ <;> simp [b_bottom_power_1, m1, Int.pow_succ]
    have e2 : bindP (.nm 3) t [.val (.tup [.int u, .int v]), m, vi (v ^ k), x] = some [.val (.tup [.int u, .int v]), m, vi (v ^ k), .val t] := by
      rcases hx with rfl | ⟨_, rfl⟩ <;> simp
    have e3 : k + (t :: ts).length = k + 1 + ts.length := by simp; omega
    rw [e3, forL, e2, Option.bind_some, e1, Option.bind_some, ← h]
theorem itR1 {f : AF} {env env1 : Sls} {n : Int} (h : f env = some ([.int n], env1)) (h1 : -1000000000 < n) (h2 : n < 1000000000) : itRange1 f env = some (Fx.rangeT 0 n.toNat, env1) := by
  unfold itRange1
  rw [h, Option.bind_some]
  exact if_pos ⟨h1, h2⟩
theorem e_bottom_power {u v : Int} {n : Nat} (hv : Bd 60 v) (hn : n ≤ 1000) : m_bottom_power [.val (.tup [.int u, .int v]), vi n] = some (.int (v ^ n), [.val (.tup [.int u, .int v]), vi n]) := by
  obtain ⟨x', h⟩ := bp_loop (u := u) hv (Fx.rangeT 0 n) 0 (vi n) .un pl_un (pl_val _)
  rw [Fx.rangeT_len, Nat.zero_add, Int.pow_zero] at h
  refine runF_ret (env1 := [.val (.tup [.int u, .int v]), vi n, vi (v ^ n), x']) ?_ rfl
  rw [g_bottom_power, bSeq_nx (env1 := [.val (.tup [.int u, .int v]), vi n, vi 1, .un]) (by simp)]
  rw [bSeq_nx (env1 := [.val (.tup [.int u, .int v]), vi n, vi (v ^ n), x'])]
  · simp
  · have i1 : (-1000000000 : Int) < (n : Int) ∧ (n : Int) < 1000000000 := ⟨by omega, by omega⟩
    have e1 : aC (eVar 1) aN [.val (.tup [.int u, .int v]), vi n, vi 1, .un] = some ([.int n], [.val (.tup [.int u, .int v]), vi n, vi 1, .un]) := by simp
    have e0 := itR1 e1 i1.1 i1.2
    rw [Int.toNat_natCast] at e0
    rw [sFor_of e0]
    exact h
theorem e_product {p q : List Int} (tp : Tr p) (tq : Tr q) (hp : p.length ≤ 61) (hq : q.length ≤ 61) (hm : ∀ c ∈ p, ∀ z ∈ q, Fx.MulOk c z) :
    m_product [vp p, vp q] = some (pz (mul p q), [vp p, vp q]) ∧ m_product [vl p, vp q] = some (pz (mul p q), [vl p, vp q]) := by
  have e := e_product_of (p := p) (q := q) (by omega) (by omega) hm
  have n1 := e_need_poly_t tp hp (.str "one")
  have n2 := e_need_poly_t tq hq (.str "other")
  have n3 := e_need_poly_l tp hp (.str "one")
  exact ⟨by simp [m_product, g_product, n1, n2, e], by simp [m_product, g_product, n3, n2, e]⟩
theorem e_lowest {a b : Int} {n : Nat} (h0 : b ≠ 0) (hb : Bd n b) (hn : n < 9000) : m_lowest [vi a, vi b] = some (rt (Rat.divInt a b), [vi a, vi b]) := by
  have hd : DivOk (Nat.gcd a.natAbs b.natAbs : Nat) := (gcd_bd h0 hb).divOk (by have := gcd_pos (a := a) h0; omega) hn
  by_cases c : b < 0
  · simp [m_lowest, g_lowest, hd, c, rt, num_neg c, den_neg c]
  · have c' : 0 < b := by omega
    simp [m_lowest, g_lowest, hd, c, rt, num_pos c', den_posi c']
theorem e_ratio {a b : Int} {n : Nat} (h0 : b ≠ 0) (hb : Bd n b) (hn : n < 9000) : m_ratio [vi a, vi b] = some (rt (Rat.divInt a b), [vi a, vi b]) := by
  have e := e_lowest (a := a) h0 hb hn
  simp [m_ratio, g_ratio, e_is_integer, h0, e]
theorem e_is_ratio {p : Rat} : m_is_ratio [vr p] = some (.bl true, [vr p]) := by
  have h1 : (1 : Int) ≤ p.den := by have := den_pos p; omega
  have h2 : Nat.gcd p.num.natAbs p.den = 1 := p.reduced
  simp [m_is_ratio, g_is_ratio, rt, e_is_integer, h1, h2]
theorem e_need_ratio {p : Rat} (s : T) : m_need_ratio [vr p, .val s] = some (rt p, [vr p, .val s]) := by
  simp [m_need_ratio, g_need_ratio, e_is_ratio]
theorem bd_pow {n : Nat} {v : Int} (h : Bd n v) : ∀ k, Bd (n * k + 1) (v ^ k)
  | 0 => by unfold Bd; simp
  | k + 1 => by
    have ih := bd_pow h k
    rw [Int.pow_succ]
    exact (ih.mul h).mono (by rw [Nat.mul_succ]; omega)
theorem trim_snoc (c : Int) : ∀ p : List Int, trim (p ++ [c]) = if c = 0 then trim p else p ++ [c]
  | [] => by simp [trim]
  | a :: p => by
    have ih := trim_snoc c p
    rw [List.cons_append, trim, ih]
    by_cases h : c = 0
    · simp [h, trim]
    · simp [h]
theorem lt_loop (x : T) : ∀ (n : Nat) (p : List Int), p.length < n → p.length ≤ 100000 → whileL w__law_trim_1 b__law_trim_1 n [.val x, .own (.lst (is p))] = some (.nx, [.val x, .own (.lst (is (trim p)))])
  | 0, p, h, _ => absurd h (by omega)
  | n + 1, p, h, hl => by
    rcases List.eq_nil_or_concat p with rfl | ⟨q, c, hp0⟩
    · have e0 : eqT (.lst []) (.lst []) = some true := rfl
      unfold whileL
      simp [w__law_trim_1, e0, trim]
    · rw [List.concat_eq_append] at hp0
      subst hp0
      have e1 := at_last (p := q ++ [c]) (by simp)
      have e1l : (q ++ [c]).getLast (by simp) = c := by simp
      rw [e1l] at e1
      have e2 : eqT (.lst (is (q ++ [c]))) (.lst []) = some false := by
        have := eqT_lints (q ++ [c]) []
        simpa using this
      rw [List.length_append, List.length_singleton] at h hl
      generalize hp : q ++ [c] = P at e1 e2
      have c1 : w__law_trim_1 [.val x, .own (.lst (is P))] = some (decide (c = 0), [.val x, .own (.lst (is P))]) := by simp [w__law_trim_1, e1, e2]; rfl
      unfold whileL
      rw [c1, Option.bind_some]
      by_cases h0 : c = 0
      · have c2 : b__law_trim_1 [.val x, .own (.lst (is P))] = some (.nx, [.val x, .own (.lst (is q))]) := by
          have e3 : is P ≠ [] := by rw [← hp]; simp [is]
          have e4 : (is P).dropLast = is q := by rw [← hp]; simp [is]
          show sPop 1 _ = _
          unfold sPop
          show (if is P = [] then none else some (Fl.nx, setCont [.val x, .own (.lst (is P))] 1 (.lst (is P).dropLast))) = _
          rw [if_neg e3, e4]
          rfl
        have e5 := lt_loop x n q (by omega) (by omega)
        have e6 := trim_snoc c q
        rw [if_pos h0] at e6
        rw [hp] at e6
        rw [e6, ← e5, if_pos (by simpa using h0), c2, Option.bind_some]
      · have e6 := trim_snoc c q
        rw [if_neg h0] at e6
        rw [hp] at e6
        rw [e6, if_neg (by simpa using h0)]
theorem e__law_trim {p : List Int} (hl : p.length ≤ 10000) : m__law_trim [vl p] = some (pz (trim p), [vl p]) := by
  have h := lt_loop (.lst (is p)) 1000000 p (by omega) (by omega)
  refine runF_ret (env1 := [vl p, .val (.lst (is (trim p)))]) ?_ rfl
  rw [g__law_trim, bSeq_nx (env1 := [vl p, .own (.lst (is p))]) (by simp)]
  rw [bSeq_nx (env1 := [vl p, .own (.lst (is (trim p)))]) (by unfold sWhile; exact h)]
  simp
theorem ev_app_noughts (x : Int) (n : Nat) : ∀ p, ev x (p ++ noughts n) = ev x p
  | [] => ev_noughts x n
  | a :: p => by rw [List.cons_append, ev, ev_app_noughts x n p, ev]
theorem o_rep {n : Nat} (h : n ≤ 1000) : oMul (.lst [.int 0]) (.int n) = some (.lst (is (noughts n))) := by
  have r := rep_noughts n
  have i2 : (-1000000 : Int) ≤ (n : Int) ∧ (n : Int) ≤ 1000000 := by omega
  have i3 : n ≤ 100000 := by omega
  simp [i2, i3, r]
theorem o_cat {p q : List Int} (h : p.length + q.length ≤ 100000) : oAdd (.lst (is p)) (.lst (is q)) = some (.lst (is (p ++ q))) := by
  simp [h]
theorem lc_lby {a : Sl} (ha : isIo (some a) = false) (c : Int) : ∀ p : List Int, (∀ z ∈ p, Fx.MulOk z c) → lcL (.nm 2) tYesF c__law_by_1 [2] (is p) [a, vi c, .un] = some (is (p.map fun z => z * c), [a, vi c, .un])
  | [], _ => rfl
  | z :: p, h => by
    have ih := lc_lby ha c p fun y hy => h y (List.mem_cons_of_mem _ hy)
    have m := h z List.mem_cons_self
    have e : c__law_by_1 [a, vi c, vi z] = some (.int (z * c), [a, vi c, vi z]) := by simp [c__law_by_1, m]
    rw [is_cons, List.map_cons, is_cons]
    simp [e, ih, ha]
theorem e__law_by {p : List Int} {c : Int} (hp : p.length ≤ 1000) (hm : ∀ z ∈ p, Fx.MulOk z c) : m__law_by [vp p, vi c] = some (pz (trim (p.map fun z => z * c)), [vp p, vi c]) := by
  have e1 := lc_lby (a := vp p) rfl c p hm
  have e2 := e__law_trim (p := p.map fun z => z * c) (by rw [List.length_map]; omega)
  have e3 : p.length ≤ 100000 := by omega
  generalize (p.map fun z => z * c) = w at e1 e2
  simp [m__law_by, g__law_by, e1, e2, e3]
theorem times_outer {P q : List Int} (hq : q.length ≤ 1000) : ∀ (p : List Int) (k : Nat) (f : List Int) (x y z w : Sl), Pl x → Pl y → Pl z → Pl w → (∀ c ∈ p, ∀ z ∈ q, Fx.MulOk c z) → k + p.length + q.length ≤ f.length →
    ∃ x' y' z' w', forL (.tup [.nm 3, .nm 4]) b__law_times_2 (numFrom k (is p)) [vp P, vp q, .own (.lst (is f)), x, y, z, w] = some (.nx, [vp P, vp q, .own (.lst (is (mulFrom q k p f))), x', y', z', w'])
  | [], k, f, x, y, z, w, hx, hy, hz, hw, _, _ => ⟨x, y, z, w, rfl⟩
  | c :: p, k, f, x, y, z, w, hx, hy, hz, hw, hm, hl => by
    simp only [List.length_cons] at hl
    have e6 : bindP (.tup [.nm 3, .nm 4]) (.tup [.int k, .int c]) [vp P, vp q, .own (.lst (is f)), x, y, z, w] = some [vp P, vp q, .own (.lst (is f)), vi k, vi c, z, w] := by
      rcases hx with rfl | ⟨_, rfl⟩ <;> rcases hy with rfl | ⟨_, rfl⟩ <;> simp
    have step : ∃ z1 w1, b__law_times_2 [vp P, vp q, .own (.lst (is f)), vi k, vi c, z, w] = some (.nx, [vp P, vp q, .own (.lst (is (addFrom c k q f))), vi k, vi c, z1, w1]) ∧ Pl z1 ∧ Pl w1 := by
      obtain ⟨z1, w1, h1, h2, h3⟩ := prod_inner (a := vp P) (b := vp q) rfl rfl k c q 0 f z w hz hw (fun u hu => hm c List.mem_cons_self u hu) (by omega)
      refine ⟨z1, w1, ?_, h2, h3⟩
      rw [b__law_times_2]
      rw [sFor_of (ts := numFrom 0 (is q)) (env1 := [vp P, vp q, .own (.lst (is f)), vi k, vi c, z, w]) (by simp [num_0])]
      exact h1
    obtain ⟨z1, w1, e7, pz1, pw1⟩ := step
    obtain ⟨x', y', z', w', e8⟩ := times_outer hq p (k + 1) (addFrom c k q f) (vi k) (vi c) z1 w1 (pl_val _) (pl_val _) pz1 pw1 (fun d hd => hm d (List.mem_cons_of_mem _ hd)) (by rw [addFrom_len]; omega)
    refine ⟨x', y', z', w', ?_⟩
    rw [is_cons, num_cons, forL, e6, Option.bind_some, e7, Option.bind_some]
    exact e8
theorem e__law_times {p q : List Int} (tp : Tr p) (tq : Tr q) (hp : p.length ≤ 400) (hq : q.length ≤ 400) (hm : ∀ c ∈ p, ∀ z ∈ q, Fx.MulOk c z) : m__law_times [vp p, vp q] = some (pz (mul p q), [vp p, vp q]) := by
  have hn : (noughts (p.length + q.length)).length = p.length + q.length := by simp [noughts]
  obtain ⟨x', y', z', w', e1⟩ := times_outer (P := p) (by omega) p 0 (noughts (p.length + q.length)) .un .un .un .un pl_un pl_un pl_un pl_un hm (by rw [hn]; omega)
  have e2 : trim (mulFrom q 0 p (noughts (p.length + q.length))) = mul p q := by
    refine RP.ext (tr_trim _) (tr_mul tp tq) fun x => ?_
    rw [ev_trim, ev_mul]
    by_cases h : p = []
    · subst h
      simp [mulFrom, ev_noughts, ev]
    · rw [ev_mulFrom x q p 0 _ h (by rw [hn]; omega), ev_noughts]
      simp
  have l1 := mulFrom_len q p 0 (noughts (p.length + q.length))
  rw [hn] at l1
  have e3 := e__law_trim (p := mulFrom q 0 p (noughts (p.length + q.length))) (by omega)
  rw [e2] at e3
  generalize mulFrom q 0 p (noughts (p.length + q.length)) = R at e1 e3
  have e4 := o_rep (n := p.length + q.length) (by omega)
  refine runF_ret (env1 := [vp p, vp q, vl R, x', y', z', w']) ?_ rfl
  rw [g__law_times, bSeq_nx (env1 := [vp p, vp q, .own (.lst (is (noughts (p.length + q.length)))), .un, .un, .un, .un])]
  · rw [bSeq_nx (env1 := [vp p, vp q, .own (.lst (is R)), x', y', z', w'])]
    · generalize mul p q = S at e3
      simp [e3]
    · rw [sFor_of (ts := numFrom 0 (is p)) (env1 := [vp p, vp q, .own (.lst (is (noughts (p.length + q.length)))), .un, .un, .un, .un]) (by simp [num_0])]
      exact e1
  · have i1 : ((p.length : Int) + q.length).toNat = p.length + q.length := by omega
    have i2 : -1000000 ≤ (p.length : Int) + q.length ∧ (p.length : Int) + q.length ≤ 1000000 := by omega
    have i3 : p.length + q.length ≤ 100000 := by omega
    have r := rep_noughts (p.length + q.length)
    simp [i1, i2, i3, r]
theorem gcd_loop : ∀ (k : Nat) (a b : Int) (n : Nat), b.natAbs < 2 ^ k → 2 * k < n → 0 ≤ a → 0 ≤ b → ∃ n' : Nat, 0 < n' ∧ whileL w__law_gcd_1 b__law_gcd_1 n [vi a, vi b] = whileL w__law_gcd_1 b__law_gcd_1 n' [vi (Nat.gcd a.natAbs b.natAbs : Nat), vi 0]
  | k, a, b, n, hb, hn, ha, hb0 => by
    have turn : ∀ (a b : Int) (n : Nat), b ≠ 0 → whileL w__law_gcd_1 b__law_gcd_1 (n + 1) [vi a, vi b] = whileL w__law_gcd_1 b__law_gcd_1 n [vi b, vi (a.fmod b)] := by
      intro a b n h
      have c1 : w__law_gcd_1 [vi a, vi b] = some (true, [vi a, vi b]) := by simp [w__law_gcd_1, h]
      have c2 : b__law_gcd_1 [vi a, vi b] = some (.nx, [vi b, vi (a.fmod b)]) := by simp [b__law_gcd_1, h]
      rw [whileL, c1, Option.bind_some, if_pos rfl, c2, Option.bind_some]
    induction k generalizing a b n with
    | zero =>
      have : b = 0 := by simp at hb; exact hb
      subst this
      refine ⟨n, by omega, ?_⟩
      have : ((Nat.gcd a.natAbs (0 : Int).natAbs : Nat) : Int) = a := by simp; omega
      rw [this]
    | succ k ih =>
      by_cases h0 : b = 0
      · subst h0
        refine ⟨n, by omega, ?_⟩
        have : ((Nat.gcd a.natAbs (0 : Int).natAbs : Nat) : Int) = a := by simp; omega
        rw [this]
      · obtain ⟨n, rfl⟩ : ∃ m, n = m + 2 := ⟨n - 2, by omega⟩
        rw [turn a b (n + 1) h0]
        have hf := fmod_rng (a := a) (n := b) (by omega)
        by_cases h1 : a.fmod b = 0
        · have e3 := fmod_gcd a b
          rw [h1] at e3 ⊢
          refine ⟨n + 1, by omega, ?_⟩
          rw [← e3]
          have : ((Nat.gcd b.natAbs (0 : Int).natAbs : Nat) : Int) = b := by simp; omega
          rw [this]
        · rw [turn b (a.fmod b) n h1]
          have hh := fmod_half h0 h1
          have hf2 := fmod_rng (a := b) (n := a.fmod b) (by omega)
          obtain ⟨n', e0, e1⟩ := ih (a.fmod b) (b.fmod (a.fmod b)) n (by rw [Nat.pow_succ] at hb; omega) (by omega) hf.1 hf2.1
          exact ⟨n', e0, by rw [e1, fmod_gcd, fmod_gcd]⟩
theorem e__law_gcd {a b : Int} {n : Nat} (hb : Bd n b) (hn : n < 400000) : m__law_gcd [vi a, vi b] = some (.int (Nat.gcd a.natAbs b.natAbs : Nat), [vi a, vi b]) := by
  obtain ⟨n', h0, e⟩ := gcd_loop n a.natAbs b.natAbs 1000000 hb (by omega) (by omega) (by omega)
  rw [Int.natAbs_natCast, Int.natAbs_natCast] at e
  obtain ⟨m, rfl⟩ : ∃ m, n' = m + 1 := ⟨n' - 1, by omega⟩
  have c1 : w__law_gcd_1 [vi (Nat.gcd a.natAbs b.natAbs : Nat), vi 0] = some (false, [vi (Nat.gcd a.natAbs b.natAbs : Nat), vi 0]) := by simp [w__law_gcd_1]
  have w1 : whileL w__law_gcd_1 b__law_gcd_1 (m + 1) [vi (Nat.gcd a.natAbs b.natAbs : Nat), vi 0] = some (.nx, [vi (Nat.gcd a.natAbs b.natAbs : Nat), vi 0]) := by
    rw [whileL, c1, Option.bind_some, if_neg Bool.false_ne_true]
  rw [w1] at e
  have a1 : (if a < 0 then -a else a) = (a.natAbs : Int) := by split <;> omega
  have a2 : (if b < 0 then -b else b) = (b.natAbs : Int) := by split <;> omega
  refine runF_ret (env1 := [vi (Nat.gcd a.natAbs b.natAbs : Nat), vi 0]) ?_ rfl
  rw [g__law_gcd, bSeq_nx (env1 := [vi a.natAbs, vi b.natAbs]) (by simp [a1, a2])]
  rw [bSeq_nx (env1 := [vi (Nat.gcd a.natAbs b.natAbs : Nat), vi 0]) (by unfold sWhile; exact e)]
  simp
theorem nrm_le {m : Nat} : ∀ {p : List Int}, (∀ c ∈ p, c.natAbs ≤ m) → nrm p ≤ m * p.length
  | [], _ => by simp [nrm]
  | c :: p, h => by
    have ih := nrm_le (m := m) (p := p) fun z hz => h z (List.mem_cons_of_mem _ hz)
    have h1 := h c List.mem_cons_self
    rw [nrm, List.length_cons, Nat.mul_add]
    omega
/-- a drawn polynomial -/
structure Py (n : Nat) (p : List Int) : Prop where
  tr : Tr p
  len : p.length ≤ n
  nrm : nrm p ≤ 50 * n
theorem bdm {p : List Int} {n : Nat} (h : nrm p ≤ n) (hn : n < 2 ^ 60) : ∀ c ∈ p, Bd 60 c := fun c hc => by
  have := mem_nrm hc
  unfold Bd
  omega
theorem eqT_tint (p q : List Int) : Fx.eqT (pz p) (pz q) = some (decide (p = q)) := eqT_tints p q
theorem eqT_tint0 (p : List Int) : Fx.eqT (pz p) (.tup []) = some (decide (p = [])) := eqT_tints p []
theorem bMax0 (n : Nat) : bMax [.int 0, .int ((n : Int) - 1)] = some (.int ((n - 1 : Nat) : Int)) := by
  rcases Nat.eq_zero_or_pos n with h | h
  · rw [h]; rfl
  · have h2 : ((n : Int) - 1) = ((n - 1 : Nat) : Int) := by omega
    have h3 : ¬ ((n - 1 : Nat) : Int) < 0 := by omega
    rw [h2]
    generalize ((n - 1 : Nat) : Int) = w at h3
    have h4 : w = 0 ∨ 0 < w := by omega
    rcases h4 with rfl | h4
    · rfl
    · simp [bMax]; omega
theorem sg_mul (a b : Int) : sg (a * b) = sg a * sg b := by
  unfold sg
  rcases Int.lt_trichotomy a 0 with h | h | h <;> rcases Int.lt_trichotomy b 0 with g | g | g
  · have := Int.mul_pos_of_neg_of_neg h g
    rw [if_pos this, if_neg (by omega), if_neg (by omega), if_pos h, if_neg (by omega), if_pos g]; rfl
  · subst g; simp
  · have := Int.mul_neg_of_neg_of_pos h g
    rw [if_neg (by omega), if_pos this, if_neg (by omega), if_pos h, if_pos g, if_neg (by omega)]; rfl
  · subst h; simp
  · subst h; simp
  · subst h; simp
  · have := Int.mul_neg_of_pos_of_neg h g
    rw [if_neg (by omega), if_pos this, if_pos h, if_neg (by omega), if_neg (by omega), if_pos g]; rfl
  · subst g; simp
  · have := Int.mul_pos h g
    rw [if_pos this, if_neg (by omega), if_pos h, if_neg (by omega), if_pos g, if_neg (by omega)]; rfl
end K21

namespace K21
open PySem PySem.Spec PyProof.Rows L2 Fx Fx.RP
/-! tops, values, signs -/
theorem top_loop {P : Sl} {u v : Int} (hP : Pl P) (hu : Bd 60 u) (hv : Bd 60 v) : ∀ (p r : List Int) (x : Sl), Pl x → (∀ c ∈ p, Bd 3000 c) → (p ++ r).length ≤ 100 →
    ∃ x', forL (.nm 4) b_top_at_1 (is p.reverse) [P, .val (.tup [.int u, .int v]), vi (RP.top u v r), vi (v ^ r.length), x] = some (.nx, [P, .val (.tup [.int u, .int v]), vi (RP.top u v (p ++ r)), vi (v ^ (p ++ r).length), x']) := by
  intro p
  induction h : p.reverse generalizing p with
  | nil =>
    intro r x hx _ _
    have : p = [] := by simpa using h
    subst this
    exact ⟨x, rfl⟩
  | cons c q ih =>
    intro r x hx hp hl
    have hpq : p = q.reverse ++ [c] := by rw [← List.reverse_reverse p, h, List.reverse_cons]
    subst hpq
    obtain ⟨x', h1⟩ := ih q.reverse (by simp) (c :: r) (vi c) (pl_val _) (fun d hd => hp d (by simp at hd ⊢; exact .inl hd)) (by simp at hl ⊢; omega)
    refine ⟨x', ?_⟩
    have e1 : b_top_at_1 [P, .val (.tup [.int u, .int v]), vi (RP.top u v r), vi (v ^ r.length), vi c] = some (.nx, [P, .val (.tup [.int u, .int v]), vi (RP.top u v (c :: r)), vi (v ^ (c :: r).length), vi c]) := by
      have m1 : Fx.MulOk (RP.top u v r) u := mulOk_r hu
      have m2 : Fx.MulOk c (v ^ r.length) := (hp c (by simp)).mulOk (bd_pow hv _) (by simp at hl; omega)
      have m3 : Fx.MulOk (v ^ r.length) v := mulOk_r hv
      rcases hP with rfl | ⟨_, rfl⟩ <;> simp [b_top_at_1, m1, m2, m3, RP.top, Int.pow_succ]
    have e2 : bindP (.nm 4) (.int c) [P, .val (.tup [.int u, .int v]), vi (RP.top u v r), vi (v ^ r.length), x] = some [P, .val (.tup [.int u, .int v]), vi (RP.top u v r), vi (v ^ r.length), vi c] := by
      rcases hx with rfl | ⟨_, rfl⟩ <;> simp
    have e3 : q.reverse ++ [c] ++ r = q.reverse ++ (c :: r) := by simp
    rw [e3, is_cons, forL, e2, Option.bind_some, e1, Option.bind_some, ← h1]
theorem e_top_at {p : List Int} {u v : Int} (hu : Bd 60 u) (hv : Bd 60 v) (hp : ∀ c ∈ p, Bd 3000 c) (hl : p.length ≤ 100) : m_top_at [vp p, .val (.tup [.int u, .int v])] = some (.int (RP.top u v p), [vp p, .val (.tup [.int u, .int v])]) := by
  obtain ⟨x', h1⟩ := top_loop (P := vp p) (pl_val _) hu hv p [] .un pl_un hp (by rw [List.append_nil]; exact hl)
  rw [List.append_nil, show RP.top u v [] = 0 from rfl, List.length_nil, Int.pow_zero] at h1
  refine runF_ret (env1 := [vp p, .val (.tup [.int u, .int v]), vi (RP.top u v p), vi (v ^ p.length), x']) ?_ rfl
  rw [g_top_at, bSeq_nx (env1 := [vp p, .val (.tup [.int u, .int v]), vi 0, vi 1, .un]) (by simp)]
  have e0 : is p.reverse = (is p).reverse := by simp [is]
  rw [bSeq_nx (env1 := [vp p, .val (.tup [.int u, .int v]), vi (RP.top u v p), vi (v ^ p.length), x'])]
  · simp
  · rw [sFor_of (ts := is p.reverse) (env1 := [vp p, .val (.tup [.int u, .int v]), vi 0, vi 1, .un]) (by rw [e0]; simp)]
    exact h1
theorem e_sign_at_x {p : List Int} {u v : Int} (hu : Bd 60 u) (hv : Bd 60 v) (hp : ∀ c ∈ p, Bd 3000 c) (hl : p.length ≤ 100) : m_sign_at_x [vp p, .val (.tup [.int u, .int v])] = some (.int (sg (RP.top u v p)), [vp p, .val (.tup [.int u, .int v])]) := by
  have e1 := e_top_at hu hv hp hl
  simp [m_sign_at_x, g_sign_at_x, e1, e_sign_of]
theorem den_cast (x : Rat) : ((x.den : Int) : Rat) ≠ 0 := fun h => den_ne x (cinj h)
theorem num_den (x : Rat) : ((x.num : Int) : Rat) / ((x.den : Int) : Rat) = x := by rw [← Rat.divInt_eq_div]; exact Rat.num_divInt_den x
theorem top_evq (x : Rat) (p : List Int) : ((RP.top x.num x.den p : Int) : Rat) * ((x.den : Int) : Rat) = ((x.den : Int) : Rat) ^ p.length * evq x p := by
  rw [← topq_int, topq_div _ _ (den_cast x), num_den]
theorem vx_evq (p : List Int) (x : Rat) : Rat.divInt (RP.top x.num x.den p) ((x.den : Int) ^ (p.length - 1)) = evq x p := by
  rw [Rat.divInt_eq_div, cpow]
  have h := top_evq x p
  have hd := den_cast x
  cases p with
  | nil => simp [RP.top, evq]; grind
  | cons a p =>
    have e : (a :: p).length - 1 = p.length := by simp
    rw [e]
    rw [List.length_cons, Rat.pow_succ] at h
    have hp : ((x.den : Int) : Rat) ^ p.length ≠ 0 := fun z => by
      rw [← cpow] at z
      exact Int.pow_ne_zero (den_ne x) (cinj z)
    generalize ((x.den : Int) : Rat) ^ p.length = w at h hp ⊢
    generalize ((RP.top x.num x.den (a :: p) : Int) : Rat) = t at h ⊢
    have h2 : t = w * evq x (a :: p) := by grind
    rw [h2, Rat.mul_comm w]
    exact Rat.mul_div_cancel hp
def sgq (q : Rat) : Int := (if 0 < q then 1 else 0) - (if q < 0 then 1 else 0)
theorem sg_cast (z : Int) : sg z = sgq z := by
  unfold sg sgq
  have e1 : (0 < z) = ((0 : Rat) < (z : Rat)) := by rw [show (0 : Rat) = ((0 : Int) : Rat) from rfl, Rat.intCast_lt_intCast]
  have e2 : (z < 0) = ((z : Rat) < (0 : Rat)) := by rw [show (0 : Rat) = ((0 : Int) : Rat) from rfl, Rat.intCast_lt_intCast]
  simp only [e1, e2]
theorem triq (q : Rat) : q < 0 ∨ q = 0 ∨ 0 < q := by grind
theorem sgq_pos {w q : Rat} (h : 0 < w) : sgq (w * q) = sgq q := by
  unfold sgq
  have e1 : (0 < w * q) ↔ (0 < q) := by
    constructor
    · intro z
      rcases triq q with c | c | c
      · have := Rat.mul_pos h (show 0 < -q by grind); grind
      · subst c; grind
      · exact c
    · exact fun z => Rat.mul_pos h z
  have e2 : (w * q < 0) ↔ (q < 0) := by
    constructor
    · intro z
      rcases triq q with c | c | c
      · exact c
      · subst c; grind
      · have := Rat.mul_pos h c; grind
    · intro z
      have := Rat.mul_pos h (show 0 < -q by grind); grind
  simp only [e1, e2]
theorem pow_posq (x : Rat) (n : Nat) : 0 < ((x.den : Int) : Rat) ^ n := by
  rw [← cpow, show (0 : Rat) = ((0 : Int) : Rat) from rfl, Rat.intCast_lt_intCast]
  exact Int.pow_pos (den_pos x)
theorem sg_top (x : Rat) (p : List Int) : sg (RP.top x.num x.den p) = sgq (evq x p) := by
  have h := top_evq x p
  have h1 := pow_posq x 1
  rw [show ((x.den : Int) : Rat) ^ 1 = ((x.den : Int) : Rat) by grind] at h1
  rw [sg_cast, ← sgq_pos h1, Rat.mul_comm, h, sgq_pos (pow_posq x _)]
theorem e_value {A : T} {p : List Int} {x : Rat} (hA : ∀ s : T, m_need_poly [.val A, .val s] = some (pz p, [.val A, .val s])) (hx : Sz 60 x) (hp : ∀ c ∈ p, Bd 3000 c) (hl : p.length ≤ 61) : m_value [.val A, vr x] = some (rt (evq x p), [.val A, vr x]) := by
  have n1 := hA (.str "poly")
  have n2 := e_need_ratio (p := x) (.str "x")
  have e := e_top_at hx.num hx.den hp (by omega)
  have b := e_bottom_power (u := x.num) (n := p.length - 1) hx.den (by omega)
  have hd : (x.den : Int) ^ (p.length - 1) ≠ 0 := Int.pow_ne_zero (den_ne x)
  have hz : 60 * (p.length - 1) + 1 < 9000 := by omega
  have r := e_ratio (a := RP.top x.num x.den p) hd (bd_pow hx.den (p.length - 1)) hz
  rw [vx_evq] at r
  have mx := bMax0 p.length
  have e0 : (vr x) = .val (.tup [.int x.num, .int x.den]) := rfl
  rw [← e0] at e b
  refine runF_ret (env1 := [.val A, vr x, vp p, vr x]) ?_ rfl
  rw [g_value, bSeq_nx (env1 := [.val A, vr x, vp p, .un]) (asg_of (call2 (var_of rfl) rfl n1) rfl rfl)]
  rw [bSeq_nx (env1 := [.val A, vr x, vp p, vr x]) (asg_of (call2 (var_of rfl) rfl n2) rfl rfl)]
  have q : eCall m_ratio (xDef [] (xV (eCall m_top_at (xDef [] (xV (eVar 2) (xV (eVar 3) xN)))) (xV (eCall m_bottom_power (xDef [] (xV (eVar 3) (xV (eN bMax (aC (eC (.int 0)) (aC (Fx.e2 oSub (eN bLen (aC (eVar 2) aN)) (eC (.int 1))) aN))) xN)))) xN))) [.val A, vr x, vp p, vr x] = some (rt (evq x p), [.val A, vr x, vp p, vr x]) := by
    refine call2 (call2 (var_of rfl) (var_of rfl) e) (call2 (var_of rfl) (eN_of (aC_of rfl (aC_one (e2_of (t := .int p.length) (eN_of (aC_one (var_of rfl)) ?_) rfl ?_))) mx) b) r
    · simp
    · simp
  show (eCall m_ratio _ _).map _ = _
  rw [q]
  rfl
theorem e_sar {A : T} {p : List Int} {x : Rat} (hA : ∀ s : T, m_need_poly [.val A, .val s] = some (pz p, [.val A, .val s])) (hx : Sz 60 x) (hp : ∀ c ∈ p, Bd 3000 c) (hl : p.length ≤ 61) : m_sign_at_ratio [.val A, vr x] = some (.int (sgq (evq x p)), [.val A, vr x]) := by
  have n1 := hA (.str "poly")
  have n2 := e_need_ratio (p := x) (.str "x")
  have e := e_sign_at_x hx.num hx.den hp (by omega)
  rw [sg_top] at e
  have e0 : (vr x) = .val (.tup [.int x.num, .int x.den]) := rfl
  rw [← e0] at e
  refine runF_ret (env1 := [.val A, vr x, vp p]) ?_ rfl
  rw [g_sign_at_ratio, bSeq_nx (env1 := [.val A, vr x, vp p]) (asg_of (call2 (var_of rfl) rfl n1) rfl rfl)]
  show (eCall m_sign_at_x _ _).map _ = _
  rw [call2 (var_of rfl) (call2 (var_of rfl) rfl n2) e]
  rfl
/-! contents -/
theorem co_loop {P : T} : ∀ (p : List Int) (g : Nat) (x : Sl), Pl x → ∃ x', forL (.nm 2) b_content_of_1 (is p) [.val P, vi g, x] = some (.nx, [.val P, vi (Nat.gcd g (cont p) : Nat), x'])
  | [], g, x, _ => ⟨x, by simp [cont]⟩
  | c :: p, g, x, hx => by
    obtain ⟨x', h⟩ := co_loop (P := P) p (Nat.gcd g c.natAbs) (vi c) (pl_val _)
    refine ⟨x', ?_⟩
    have e1 : b_content_of_1 [.val P, vi g, vi c] = some (.nx, [.val P, vi (Nat.gcd g c.natAbs : Nat), vi c]) := by simp [b_content_of_1]
    have e2 : bindP (.nm 2) (.int c) [.val P, vi g, x] = some [.val P, vi g, vi c] := by
      rcases hx with rfl | ⟨_, rfl⟩ <;> simp
    rw [is_cons, forL, e2, Option.bind_some, e1, Option.bind_some]
    rw [cont, ← Nat.gcd_assoc]
    exact h
theorem e_content_of {p : List Int} : m_content_of [vp p] = some (.int (cont p), [vp p]) := by
  obtain ⟨x', h⟩ := co_loop (P := pz p) p 0 .un pl_un
  rw [Nat.gcd_zero_left] at h
  refine runF_ret (env1 := [vp p, vi (cont p), x']) ?_ rfl
  rw [g_content_of, bSeq_nx (env1 := [vp p, vi 0, .un]) (asg_of rfl rfl rfl)]
  rw [bSeq_nx (env1 := [vp p, vi (cont p), x'])]
  · exact congrArg _ rfl
  · rw [sFor_of (ts := is p) (env1 := [vp p, vi 0, .un]) (by simp)]
    exact h
theorem lc_clr {a : Sl} (ha : isIo (some a) = false) (c : Int) (hc : Fx.DivOk c) : ∀ p : List Int, lcL (.nm 2) tYesF c_cleared_1 [2] (is p) [a, vi c, .un] = some (is (p.map fun z => z.fdiv c), [a, vi c, .un])
  | [] => rfl
  | z :: p => by
    have ih := lc_clr ha c hc p
    have e : c_cleared_1 [a, vi c, vi z] = some (.int (z.fdiv c), [a, vi c, vi z]) := by simp [c_cleared_1, hc]
    rw [is_cons, List.map_cons, is_cons]
    simp [e, ih, ha]
theorem e_cleared {p : List Int} (hp : p.length ≤ 1000) (hc : Bd 8000 (cont p)) : m_cleared [vp p] = some (pz (clr p), [vp p]) := by
  have e0 := e_content_of (p := p)
  refine runF_ret (env1 := [vp p, vi (cont p), .un]) ?_ rfl
  rw [g_cleared, bSeq_nx (env1 := [vp p, vi (cont p), .un]) (asg_of (call1 (var_of rfl) e0) rfl rfl)]
  unfold clr
  by_cases h : cont p < 2
  · have h' : (cont p : Int) < 2 := by omega
    rw [if_pos h]
    simp [h']
  · have h' : ¬ (cont p : Int) < 2 := by omega
    have e1 := lc_clr (a := vp p) rfl (cont p) (hc.divOk (by omega) (by decide)) p
    have e3 : p.length ≤ 100000 := by omega
    rw [if_neg h]
    generalize (p.map fun z => z.fdiv (cont p : Int)) = w at e1
    simp [h', e1, e3]
/-! shifted -/
theorem e_sum_of' {p q : List Int} (hp : p.length ≤ 1000) (hq : q.length ≤ 1000) : m_sum_of [vp p, vp q] = some (pz (padd p q), [vp p, vp q]) := by
  obtain ⟨r, e, t, h, _, _⟩ := e_sum_of hp hq
  have : r = padd p q := RP.ext t (tr_padd p q) fun x => by rw [h, ev_padd]
  rw [← this]
  exact e
/-- what the loop of shifted needs of sizes -/
theorem sh_loop {A a b P s e : T} {line : List Int} {v : Int} (hl : line.length ≤ 2) (hlb : ∀ c ∈ line, Bd 60 c) (hv : Bd 60 v) : ∀ (p r : List Int) (x : Sl), Pl x → (∀ c ∈ p, Bd 3000 c) → (p ++ r).length ≤ 100 →
    ∃ x', forL (.nm 10) b_shifted_1 (is p.reverse) [.val A, .val a, .val b, .val P, .val s, .val e, vi v, vp line, vp (hor line v r), vi (v ^ r.length), x] = some (.nx, [.val A, .val a, .val b, .val P, .val s, .val e, vi v, vp line, vp (hor line v (p ++ r)), vi (v ^ (p ++ r).length), x']) := by
  intro p
  induction h : p.reverse generalizing p with
  | nil =>
    intro r x hx _ _
    have : p = [] := by simpa using h
    subst this
    exact ⟨x, rfl⟩
  | cons c q ih =>
    intro r x hx hp hz
    have hpq : p = q.reverse ++ [c] := by rw [← List.reverse_reverse p, h, List.reverse_cons]
    subst hpq
    obtain ⟨x', h1⟩ := ih q.reverse (by simp) (c :: r) (vi c) (pl_val _) (fun d hd => hp d (by simp at hd ⊢; exact .inl hd)) (by simp at hz ⊢; omega)
    refine ⟨x', ?_⟩
    have l1 := len_hor hl v r
    have hr : r.length ≤ 100 := by simp at hz; omega
    have m2 : Fx.MulOk c (v ^ r.length) := (hp c (by simp)).mulOk (bd_pow hv _) (by omega)
    have m3 : Fx.MulOk (v ^ r.length) v := mulOk_r hv
    have c1 := e_product_of (p := hor line v r) (q := line) (by omega) (by omega) (fun _ _ z hz => mulOk_r (hlb z hz))
    have c2 := e_trimmed (p := [c * v ^ r.length]) (by simp)
    have l2 := len_mul (hor line v r) line
    have l3 := len_trim [c * v ^ r.length]
    have c3 := e_sum_of' (p := mul (hor line v r) line) (q := trim [c * v ^ r.length]) (by omega) (by simp at l3; omega)
    have e1 : b_shifted_1 [.val A, .val a, .val b, .val P, .val s, .val e, vi v, vp line, vp (hor line v r), vi (v ^ r.length), vi c] = some (.nx, [.val A, .val a, .val b, .val P, .val s, .val e, vi v, vp line, vp (hor line v (c :: r)), vi (v ^ (c :: r).length), vi c]) := by
      have e4 : v ^ (c :: r).length = v ^ r.length * v := by rw [List.length_cons, Int.pow_succ]
      rw [e4, b_shifted_1, bSeq_nx (env1 := [.val A, .val a, .val b, .val P, .val s, .val e, vi v, vp line, vp (hor line v (c :: r)), vi (v ^ r.length), vi c]) (asg_of (call2 (call2 (var_of rfl) (var_of rfl) c1) (call1 (eN_of (aC_one (e2_of (w := .int (c * v ^ r.length)) (var_of rfl) (var_of rfl) (by simp [m2]))) rfl) c2) c3) rfl rfl)]
      exact asg_of (e2_of (w := .int (v ^ r.length * v)) (var_of rfl) (var_of rfl) (by simp [m3])) rfl rfl
    have e2 : bindP (.nm 10) (.int c) [.val A, .val a, .val b, .val P, .val s, .val e, vi v, vp line, vp (hor line v r), vi (v ^ r.length), x] = some [.val A, .val a, .val b, .val P, .val s, .val e, vi v, vp line, vp (hor line v r), vi (v ^ r.length), vi c] := by
      rcases hx with rfl | ⟨_, rfl⟩ <;> rfl
    have e3 : q.reverse ++ [c] ++ r = q.reverse ++ (c :: r) := by simp
    rw [e3, is_cons, forL, e2, Option.bind_some, e1, Option.bind_some, ← h1]
/-- the line a + b x, times its bottom -/
def ln (a b : Rat) : List Int := trim [a.num * b.den, b.num * a.den]
def bt (a b : Rat) : Int := a.den * b.den
def sh (a b : Rat) (p : List Int) : List Int := clr (hor (ln a b) (bt a b) p)
theorem len_ln (a b : Rat) : (ln a b).length ≤ 2 := len_trim [a.num * b.den, b.num * a.den]
theorem nrm_ln {a b : Rat} {n : Nat} (ha : Sz n a) (hb : Sz n b) : nrm (ln a b) ≤ 2 ^ (2 * n + 1) := by
  unfold ln
  rw [nrm_trim]
  simp only [nrm]
  have h1 := ha.num.mul hb.den
  have h2 := hb.num.mul ha.den
  unfold Bd at h1 h2
  have e : 2 ^ (2 * n + 1) = 2 ^ (n + n) + 2 ^ (n + n) := by rw [Nat.pow_succ, show 2 * n = n + n by omega]; omega
  omega
theorem nat_bt {a b : Rat} {n : Nat} (ha : Sz n a) (hb : Sz n b) : (bt a b).natAbs ≤ 2 ^ (2 * n + 1) := by
  have h1 := ha.den.mul hb.den
  unfold bt
  unfold Bd at h1
  have e : 2 ^ (2 * n + 1) = 2 ^ (n + n) * 2 := by rw [Nat.pow_succ, show 2 * n = n + n by omega]
  omega
theorem e_shifted {A : T} {p : List Int} {a b : Rat} (hA : ∀ s : T, m_need_poly [.val A, .val s] = some (pz p, [.val A, .val s])) (ha : Sz 14 a) (hb : Sz 14 b) (hp : nrm p < 2 ^ 3000) (hl : p.length ≤ 61) : m_shifted [.val A, vr a, vr b] = some (pz (sh a b p), [.val A, vr a, vr b]) := by
  have n1 := hA (.str "poly")
  have n2 := e_need_ratio (p := a) (.str "a")
  have n3 := e_need_ratio (p := b) (.str "b")
  have hpb : ∀ c ∈ p, Bd 3000 c := fun c hc => by
    have := mem_nrm hc
    unfold Bd
    omega
  have m1 := ha.den.mulOk hb.den (by decide)
  have m2 := ha.num.mulOk hb.den (by decide)
  have m3 := hb.num.mulOk ha.den (by decide)
  have hv : Bd 60 (bt a b) := (ha.den.mul hb.den).mono (by decide)
  have hnl := nrm_ln ha hb
  have hlb : ∀ c ∈ ln a b, Bd 60 c := fun c hc => by
    have := mem_nrm hc
    unfold Bd
    omega
  have t1 := e_trimmed (p := [a.num * b.den, b.num * a.den]) (by simp)
  obtain ⟨x', h1⟩ := sh_loop (A := A) (a := rt a) (b := rt b) (P := pz p) (s := rt a) (e := rt b) (len_ln a b) hlb hv p [] .un pl_un hpb (by rw [List.append_nil]; omega)
  rw [List.append_nil, List.length_nil, Int.pow_zero] at h1
  have hc : Bd 8000 (cont (hor (ln a b) (bt a b) p)) := by
    have g1 := nrm_hor hnl (nat_bt ha hb) (Nat.two_pow_pos _) p
    have g2 := cont_le (p := hor (ln a b) (bt a b) p)
    have g3 : (2 ^ (2 * 14 + 1)) ^ p.length ≤ 2 ^ (29 * 61) := by
      rw [← Nat.pow_mul]
      exact Nat.pow_le_pow_right (by decide) (Nat.mul_le_mul_left _ hl)
    have g4 : nrm p * (2 ^ (2 * 14 + 1)) ^ p.length ≤ 2 ^ 3000 * 2 ^ (29 * 61) := Nat.mul_le_mul (by omega) g3
    rw [← Nat.pow_add] at g4
    unfold Bd
    rw [Int.natAbs_natCast]
    refine Nat.lt_of_le_of_lt (Nat.le_trans g2 (Nat.le_trans g1 g4)) (Nat.pow_lt_pow_right (by decide) (by decide))
  have l1 := len_hor (len_ln a b) (bt a b) p
  have c1 := e_cleared (p := hor (ln a b) (bt a b) p) (by omega) hc
  have e0 : (vr a) = .val (.tup [.int a.num, .int a.den]) := rfl
  have e1 : (vr b) = .val (.tup [.int b.num, .int b.den]) := rfl
  refine runF_ret (env1 := [.val A, vr a, vr b, vp p, vr a, vr b, vi (bt a b), vp (ln a b), vp (hor (ln a b) (bt a b) p), vi ((bt a b) ^ p.length), x']) ?_ rfl
  rw [g_shifted, bSeq_nx (env1 := [.val A, vr a, vr b, vp p, .un, .un, .un, .un, .un, .un, .un]) (asg_of (call2 (var_of rfl) rfl n1) rfl rfl)]
  rw [bSeq_nx (env1 := [.val A, vr a, vr b, vp p, vr a, vr b, .un, .un, .un, .un, .un])]
  rotate_left
  · unfold sPar
    rw [aC_of (call2 (var_of rfl) rfl n2) (aC_one (call2 (var_of rfl) rfl n3))]
    rfl
  rw [bSeq_nx (env1 := [.val A, vr a, vr b, vp p, vr a, vr b, vi (bt a b), .un, .un, .un, .un]) (asg_of (e2_of (w := .int (bt a b)) (e2_of (w := .int a.den) (var_of rfl) rfl rfl) (e2_of (w := .int b.den) (var_of rfl) rfl rfl) (by simp [m1, bt])) rfl rfl)]
  rw [bSeq_nx (env1 := [.val A, vr a, vr b, vp p, vr a, vr b, vi (bt a b), vp (ln a b), vp (hor (ln a b) (bt a b) []), vi 1, .un])]
  rotate_left
  · unfold sPar3
    rw [aC_of (t := pz (ln a b)) (call1 (eN_of (aC_of (t := .int (a.num * b.den)) (e2_of (e2_of (w := .int a.num) (var_of rfl) rfl rfl) (e2_of (w := .int b.den) (var_of rfl) rfl rfl) (by simp [m2])) (aC_one (t := .int (b.num * a.den)) (e2_of (e2_of (w := .int b.num) (var_of rfl) rfl rfl) (e2_of (w := .int a.den) (var_of rfl) rfl rfl) (by simp [m3])))) rfl) t1) (aC_of (t := pz []) rfl (aC_one rfl))]
    rfl
  rw [bSeq_nx (env1 := [.val A, vr a, vr b, vp p, vr a, vr b, vi (bt a b), vp (ln a b), vp (hor (ln a b) (bt a b) p), vi ((bt a b) ^ p.length), x'])]
  rotate_left
  · have e0 : is p.reverse = (is p).reverse := by simp [is]
    rw [sFor_of (ts := is p.reverse) (env1 := [.val A, vr a, vr b, vp p, vr a, vr b, vi (bt a b), vp (ln a b), vp (hor (ln a b) (bt a b) []), vi 1, .un]) (by rw [e0]; rfl)]
    exact h1
  show (eCall m_cleared _ _).map _ = _
  rw [call1 (var_of rfl) c1]
  rfl
end K21

/-! what a moved polynomial is -/
namespace K21
open PySem PySem.Spec PyProof.Rows L2 Fx Fx.RP
theorem cpos {n : Int} (h : 0 < n) : (0 : Rat) < (n : Rat) := by rw [show (0 : Rat) = ((0 : Int) : Rat) from rfl, Rat.intCast_lt_intCast]; exact h
theorem clr_q (p : List Int) : ∃ c : Rat, 0 < c ∧ ∀ x, evq x (clr p) = c * evq x p := by
  obtain ⟨g, h0, e, _⟩ := clr_spec p
  have hg : (0 : Rat) < ((g : Int) : Rat) := cpos (by omega)
  refine ⟨(((g : Int) : Rat))⁻¹, Rat.inv_pos.mpr hg, fun x => ?_⟩
  have h : evq x p = evq x (clr p) * ((g : Int) : Rat) := by
    have := congrArg (evq x) e
    rwa [evq_map_mul] at this
  rw [h]
  have h1 : ((g : Int) : Rat) ≠ 0 := by grind
  have h2 : (((g : Int) : Rat))⁻¹ * ((g : Int) : Rat) = 1 := Rat.inv_mul_cancel _ h1
  grind
theorem evq_ln (a b x : Rat) : evq x (ln a b) = ((bt a b : Int) : Rat) * (a + b * x) := by
  unfold ln bt
  rw [evq_trim]
  simp only [evq, cmul]
  have h1 := Rat.num_divInt_den a
  have h2 := Rat.num_divInt_den b
  have da := den_cast a
  have db := den_cast b
  have ea : ((a.num : Int) : Rat) = a * ((a.den : Int) : Rat) := by
    have := num_den a
    generalize ((a.num : Int) : Rat) = n at this ⊢
    generalize ((a.den : Int) : Rat) = d at this da ⊢
    rw [← this, Rat.div_mul_cancel da]
  have eb : ((b.num : Int) : Rat) = b * ((b.den : Int) : Rat) := by
    have := num_den b
    generalize ((b.num : Int) : Rat) = n at this ⊢
    generalize ((b.den : Int) : Rat) = d at this db ⊢
    rw [← this, Rat.div_mul_cancel db]
  rw [ea, eb]
  grind
theorem bt_pos (a b : Rat) : 0 < bt a b := Int.mul_pos (den_pos a) (den_pos b)
theorem sh_q (a b : Rat) (p : List Int) : ∃ c : Rat, 0 < c ∧ ∀ x, evq x (sh a b p) = c * evq (a + b * x) p := by
  obtain ⟨c, hc, h⟩ := clr_q (hor (ln a b) (bt a b) p)
  have hb : (0 : Rat) < ((bt a b : Int) : Rat) := cpos (bt_pos a b)
  have hb0 : ((bt a b : Int) : Rat) ≠ 0 := by grind
  have hp : ∀ n : Nat, (0 : Rat) < ((bt a b : Int) : Rat) ^ n := fun n => by
    rw [← cpow]
    exact cpos (Int.pow_pos (bt_pos a b))
  refine ⟨c * (((bt a b : Int) : Rat) ^ p.length * (((bt a b : Int) : Rat))⁻¹), Rat.mul_pos hc (Rat.mul_pos (hp _) (Rat.inv_pos.mpr hb)), fun x => ?_⟩
  unfold sh
  rw [h, evq_hor]
  have h1 := topq_div (evq x (ln a b)) ((bt a b : Int) : Rat) hb0 p
  have h2 : evq x (ln a b) / ((bt a b : Int) : Rat) = a + b * x := by
    rw [evq_ln, Rat.mul_comm]
    exact Rat.mul_div_cancel hb0
  rw [h2] at h1
  have h3 : (((bt a b : Int) : Rat))⁻¹ * ((bt a b : Int) : Rat) = 1 := Rat.inv_mul_cancel _ hb0
  generalize topq (evq x (ln a b)) ((bt a b : Int) : Rat) p = t at h1 ⊢
  generalize (((bt a b : Int) : Rat))⁻¹ = i at h3 ⊢
  generalize ((bt a b : Int) : Rat) ^ p.length = w at h1 ⊢
  generalize ((bt a b : Int) : Rat) = v at h1 h3 ⊢
  generalize evq (a + b * x) p = y at h1 ⊢
  have : t = w * y * i := by
    have : t * v * i = w * y * i := by rw [h1]
    grind
  rw [this]
  grind
theorem tr_ln (a b : Rat) : Tr (ln a b) := tr_trim _
theorem tr_sh (a b : Rat) (p : List Int) : Tr (sh a b p) := tr_clr (tr_hor (tr_ln a b) _ p)
theorem cont_clr (p : List Int) : cont (clr p) ≤ 1 := by
  obtain ⟨_, _, _, h⟩ := clr_spec p
  exact h
theorem cont_sh (a b : Rat) (p : List Int) : cont (sh a b p) ≤ 1 := cont_clr _
theorem len_sh (a b : Rat) (p : List Int) : (sh a b p).length ≤ p.length := by
  unfold sh
  rw [len_clr]
  exact len_hor (len_ln a b) _ p
theorem nrm_sh {a b : Rat} {n : Nat} (ha : Sz n a) (hb : Sz n b) (p : List Int) : nrm (sh a b p) ≤ nrm p * 2 ^ ((2 * n + 1) * p.length) := by
  have g1 := nrm_hor (nrm_ln ha hb) (nat_bt ha hb) (Nat.two_pow_pos _) p
  rw [← Nat.pow_mul] at g1
  exact Nat.le_trans (nrm_clr _) g1
theorem same_q {p q : List Int} {c d : Rat} (hc : 0 < c) (hd : 0 < d) (tp : Tr p) (tq : Tr q) (cp : cont p ≤ 1) (cq : cont q ≤ 1) (h : ∀ x : Rat, c * evq x p = d * evq x q) : p = q := by
  have nc : 0 < c.num := by have := (Rat.lt_iff 0 c).mp hc; simpa using this
  have nd : 0 < d.num := by have := (Rat.lt_iff 0 d).mp hd; simpa using this
  refine same_of (m := (c.num * d.den).toNat) (n := (d.num * c.den).toNat) (by have := Int.mul_pos nc (den_pos d); omega) (by have := Int.mul_pos nd (den_pos c); omega) tp tq cp cq fun x => ?_
  have h1 := h x
  rw [evq_int, evq_int] at h1
  rw [Int.toNat_of_nonneg (Int.le_of_lt (Int.mul_pos nc (den_pos d))), Int.toNat_of_nonneg (Int.le_of_lt (Int.mul_pos nd (den_pos c)))]
  apply cinj
  rw [cmul, cmul, cmul, cmul]
  have ec : ((c.num : Int) : Rat) = c * ((c.den : Int) : Rat) := by
    have := num_den c
    have dc := den_cast c
    generalize ((c.num : Int) : Rat) = n at this ⊢
    generalize ((c.den : Int) : Rat) = e at this dc ⊢
    rw [← this, Rat.div_mul_cancel dc]
  have ed : ((d.num : Int) : Rat) = d * ((d.den : Int) : Rat) := by
    have := num_den d
    have dc := den_cast d
    generalize ((d.num : Int) : Rat) = n at this ⊢
    generalize ((d.den : Int) : Rat) = e at this dc ⊢
    rw [← this, Rat.div_mul_cancel dc]
  rw [ec, ed]
  grind
end K21

/-! the law's own defs -/
namespace K21
open PySem PySem.Spec PyProof.Rows L2 Fx Fx.RP
theorem d_draw : DrawF m__law_draw := ⟨61931, 8563, 2147483587, 4099, 8563, 61931, 2147483629, by constructor <;> decide, rfl⟩
theorem d_pick : PickF m__law_pick m__law_draw := rfl
theorem d_pen : PenF m__law_pen := rfl
/-! contents -/
theorem lco_loop {P : T} : ∀ (p : List Int) (g : Nat) (x : Sl), Pl x → (∀ c ∈ p, Bd 8000 c) → ∃ x', forL (.nm 2) b__law_content_1 (is p) [.val P, vi g, x] = some (.nx, [.val P, vi (Nat.gcd g (cont p) : Nat), x'])
  | [], g, x, _, _ => ⟨x, by simp [cont]⟩
  | c :: p, g, x, hx, hb => by
    obtain ⟨x', h⟩ := lco_loop (P := P) p (Nat.gcd g c.natAbs) (vi c) (pl_val _) fun z hz => hb z (List.mem_cons_of_mem _ hz)
    refine ⟨x', ?_⟩
    have e0 := e__law_gcd (a := (g : Int)) (hb c List.mem_cons_self) (by decide)
    rw [Int.natAbs_natCast] at e0
    have e1 : b__law_content_1 [.val P, vi g, vi c] = some (.nx, [.val P, vi (Nat.gcd g c.natAbs : Nat), vi c]) := asg_of (call2 (var_of rfl) (var_of rfl) e0) rfl rfl
    have e2 : bindP (.nm 2) (.int c) [.val P, vi g, x] = some [.val P, vi g, vi c] := by
      rcases hx with rfl | ⟨_, rfl⟩ <;> rfl
    rw [is_cons, forL, e2, Option.bind_some, e1, Option.bind_some]
    rw [cont, ← Nat.gcd_assoc]
    exact h
theorem e__law_content {p : List Int} (hb : ∀ c ∈ p, Bd 8000 c) : m__law_content [vp p] = some (.int (cont p), [vp p]) := by
  obtain ⟨x', h⟩ := lco_loop (P := pz p) p 0 .un pl_un hb
  rw [Nat.gcd_zero_left] at h
  refine runF_ret (env1 := [vp p, vi (cont p), x']) ?_ rfl
  rw [g__law_content, bSeq_nx (env1 := [vp p, vi 0, .un]) (asg_of rfl rfl rfl)]
  rw [bSeq_nx (env1 := [vp p, vi (cont p), x'])]
  · rfl
  · rw [sFor_of (ts := is p) (env1 := [vp p, vi 0, .un]) rfl]
    exact h
theorem lc_lclr {a : Sl} (ha : isIo (some a) = false) (c : Int) (hc : Fx.DivOk c) : ∀ p : List Int, lcL (.nm 2) tYesF c__law_clear_1 [2] (is p) [a, vi c, .un] = some (is (p.map fun z => z.fdiv c), [a, vi c, .un])
  | [] => rfl
  | z :: p => by
    have ih := lc_lclr ha c hc p
    have e : c__law_clear_1 [a, vi c, vi z] = some (.int (z.fdiv c), [a, vi c, vi z]) := by simp [c__law_clear_1, hc]
    rw [is_cons, List.map_cons, is_cons]
    simp [e, ih, ha]
theorem e__law_clear {p : List Int} (hp : p.length ≤ 1000) (hb : ∀ c ∈ p, Bd 8000 c) (hc : Bd 8000 (cont p)) : m__law_clear [vp p] = some (pz (clr p), [vp p]) := by
  have e0 := e__law_content hb
  refine runF_ret (env1 := [vp p, vi (cont p), .un]) ?_ rfl
  rw [g__law_clear, bSeq_nx (env1 := [vp p, vi (cont p), .un]) (asg_of (call1 (var_of rfl) e0) rfl rfl)]
  unfold clr
  by_cases h : cont p < 2
  · have h' : ¬ (1 : Int) < (cont p : Int) := by omega
    rw [if_pos h]
    simp [h']
  · have h' : (1 : Int) < (cont p : Int) := by omega
    have e1 := lc_lclr (a := vp p) rfl (cont p) (hc.divOk (by omega) (by decide)) p
    have e3 : p.length ≤ 100000 := by omega
    rw [if_neg h]
    generalize (p.map fun z => z.fdiv (cont p : Int)) = w at e1
    simp [h', e1, e3]
theorem bd_nrm {p : List Int} {n : Nat} (h : nrm p < 2 ^ n) : ∀ c ∈ p, Bd n c := fun c hc => by
  have := mem_nrm hc
  unfold Bd
  omega
theorem bd_cont {p : List Int} {n : Nat} (h : nrm p < 2 ^ n) : Bd n (cont p) := by
  have := cont_le (p := p)
  unfold Bd
  rw [Int.natAbs_natCast]
  omega
theorem e__law_plain {p : List Int} (tp : Tr p) (hl : p.length ≤ 100) (hp : nrm p < 2 ^ 60) : ∃ q, m__law_plain [vp p] = some (pz q, [vp p]) ∧ Tr q ∧ q.length ≤ p.length ∧ nrm q ≤ nrm p := by
  have e := e__law_clear (p := p) (by omega) (bd_nrm (Nat.lt_of_lt_of_le hp (Nat.pow_le_pow_right (by decide) (by decide)))) (bd_cont (Nat.lt_of_lt_of_le hp (Nat.pow_le_pow_right (by decide) (by decide))))
  have tc := tr_clr tp
  have lc := len_clr p
  have nc := nrm_clr p
  have q1 := eqT_tint0 (clr p)
  by_cases h : clr p = []
  · refine ⟨clr p, ?_, tc, by omega, nc⟩
    refine runF_ret (env1 := [vp p, vp (clr p)]) ?_ rfl
    rw [g__law_plain, bSeq_nx (env1 := [vp p, vp (clr p)]) (asg_of (call1 (var_of rfl) e) rfl rfl)]
    have q1' : Fx.eqT (pz (clr p)) (.tup []) = some true := by rw [q1]; simp [h]
    generalize clr p = w at q1'
    simp [q1']
  · have q1' : Fx.eqT (pz (clr p)) (.tup []) = some false := by rw [q1]; simp [h]
    have q2 := at_last h
    have eb := e__law_by (p := clr p) (c := -1) (by omega) (fun z _ => mulOk_r (by unfold Bd; decide))
    by_cases c : (clr p).getLast h < 0
    · refine ⟨trim ((clr p).map fun z => z * (-1)), ?_, tr_trim _, by have := len_trim ((clr p).map fun z => z * (-1)); rw [List.length_map] at this; omega, by rw [nrm_trim, nrm_map_mul]; simpa using nc⟩
      refine runF_ret (env1 := [vp p, vp (clr p)]) ?_ rfl
      rw [g__law_plain, bSeq_nx (env1 := [vp p, vp (clr p)]) (asg_of (call1 (var_of rfl) e) rfl rfl)]
      generalize (clr p).getLast h = l at q2 c
      generalize trim ((clr p).map fun z => z * (-1)) = r at eb
      generalize clr p = w at q1' q2 eb
      simp [q1', q2, c, eb]
    · refine ⟨clr p, ?_, tc, by omega, nc⟩
      refine runF_ret (env1 := [vp p, vp (clr p)]) ?_ rfl
      rw [g__law_plain, bSeq_nx (env1 := [vp p, vp (clr p)]) (asg_of (call1 (var_of rfl) e) rfl rfl)]
      generalize (clr p).getLast h = l at q2 c
      generalize clr p = w at q1' q2
      simp [q1', q2, c]
/-! ratios, of any bottom but 0 -/
theorem e__law_ratio {a b : Int} {n : Nat} (h0 : b ≠ 0) (hb : Bd n b) (hn : n < 9000) : m__law_ratio [vi a, vi b] = some (rt (Rat.divInt a b), [vi a, vi b]) := by
  have hd : DivOk (Nat.gcd a.natAbs b.natAbs : Nat) := (gcd_bd (by omega) hb).divOk (by have := gcd_pos (a := a) (b := b) (by omega); omega) hn
  have e := e__law_gcd (a := a) hb (by omega)
  have hg : ((Nat.gcd a.natAbs b.natAbs : Nat) : Int) ≠ 0 := by have := gcd_pos (a := a) (b := b) (by omega); omega
  have m1 : Fx.MulOk (Nat.gcd a.natAbs b.natAbs : Nat) 1 := mulOk_r (by unfold Bd; decide)
  have m2 : Fx.MulOk (Nat.gcd a.natAbs b.natAbs : Nat) (-1) := mulOk_r (by unfold Bd; decide)
  have hd2 : DivOk (-((Nat.gcd a.natAbs b.natAbs : Nat) : Int)) := by
    have := hd.2
    exact ⟨by omega, by rw [Int.natAbs_neg]; exact this⟩
  unfold rt
  by_cases c : 0 < b
  · rw [num_pos c, den_posi c]
    generalize ((Nat.gcd a.natAbs b.natAbs : Nat) : Int) = g at e hd hg m1
    simp [m__law_ratio, g__law_ratio, e, hd, hg, m1, c]
  · have c' : b < 0 := by omega
    have f1 : ∀ z g : Int, (-z).fdiv g = z.fdiv (-g) := fun z g => by rw [← Int.neg_fdiv_neg z (-g), Int.neg_neg]
    rw [num_neg c', den_neg c', f1, f1]
    have h9 : -((Nat.gcd a.natAbs b.natAbs : Nat) : Int) ≠ 0 := by omega
    have m3 : ((Nat.gcd a.natAbs b.natAbs : Nat) : Int) * (-1) = -((Nat.gcd a.natAbs b.natAbs : Nat) : Int) := by omega
    generalize ((Nat.gcd a.natAbs b.natAbs : Nat) : Int) = g at e hd hg m2 h9 m3 hd2
    simp [m__law_ratio, g__law_ratio, e, m2, c, m3, hd2, h9]
end K21

/-! the law's own draws -/
namespace K21
open PySem PySem.Spec PyProof.Rows L2 Fx Fx.RP
theorem e_draw {P : T} {k : Int} (h : Pen k P) (hk : k < 1000000) {n : Int} (hn : 0 < n) (hn2 : n < 2 ^ 60) : ∃ d P', m__law_draw [.io P, vi n] = some (.int d, [.io P', vi n]) ∧ 0 ≤ d ∧ d < n ∧ Pen (k + 1) P' := e_drawF d_draw h hk hn hn2
theorem lc_poly : ∀ (ts : List T) (P : T) (k : Int) (a : T), Pen k P → k + 2 * ts.length < 900000 → ∃ p P', lcL (.nm 2) tYesF c__law_poly_1 [2] ts [.io P, .val a, .un] = some (is p, [.io P', .val a, .un]) ∧ p.length = ts.length ∧ (∀ c ∈ p, c.natAbs ≤ 50) ∧ Pen (k + 2 * ts.length) P'
  | [], P, k, a, h, hk => ⟨[], P, rfl, rfl, fun _ h => (nomatch h), by simpa using h⟩
  | t :: ts, P, k, a, h, hk => by
    simp only [List.length_cons] at hk ⊢
    obtain ⟨d, P1, e1, g1, g2, h1⟩ := e_draw h (by omega) (n := 90) (by decide) (by decide)
    obtain ⟨x, P2, e2, hx, h2⟩ := e_pickF d_pick d_draw h1 (by omega) (xs := [.int 0, .int 0, .int 1, .int (-1), .int 2, .int (-3), .int 5, .int (-7), .int 12, .int (d - 40)]) (by simp) (by simp)
    have hc : ∃ c : Int, x = .int c ∧ c.natAbs ≤ 50 := by
      simp only [List.mem_cons, List.not_mem_nil, or_false] at hx
      rcases hx with rfl | rfl | rfl | rfl | rfl | rfl | rfl | rfl | rfl | rfl <;> exact ⟨_, rfl, by omega⟩
    obtain ⟨c, rfl, hc⟩ := hc
    obtain ⟨p, P', e3, l3, b3, h3⟩ := lc_poly ts P2 (k + 1 + 1) a h2 (by omega)
    refine ⟨c :: p, P', ?_, by simp [l3], fun z hz => ?_, h3.mono (by omega)⟩
    · have e : c__law_poly_1 [.io P, .val a, .val t] = some (.int c, [.io P2, .val a, .val t]) := by simp [c__law_poly_1, e1, e2]
      rw [is_cons]
      simp [e, e3]
    · rcases List.mem_cons.mp hz with rfl | hz
      · exact hc
      · exact b3 z hz
/-- a polynomial of a turn -/
structure Pm (p : List Int) : Prop where
  tr : Tr p
  len : p.length ≤ 29
  nrm : nrm p < 2 ^ 80
theorem e__law_poly {P : T} {k : Int} (h : Pen k P) (hk : k < 700000) {n : Nat} (hn : n ≤ 20) : ∃ p P', m__law_poly [.io P, vi n] = some (pz p, [.io P', vi n]) ∧ Pm p ∧ Pen (k + 50) P' := by
  obtain ⟨d, P1, e1, g1, g2, h1⟩ := e_draw h (by omega) (n := (n : Int) + 1) (by omega) (by omega)
  obtain ⟨d, rfl⟩ : ∃ m : Nat, d = m := ⟨d.toNat, by omega⟩
  obtain ⟨p, P2, e2, l2, b2, h2⟩ := lc_poly (Fx.rangeT 0 d) P1 (k + 1) (.int n) h1 (by rw [Fx.rangeT_len]; omega)
  rw [Fx.rangeT_len] at l2 h2
  have e3 := e__law_trim (p := p) (by omega)
  have l3 := len_trim p
  refine ⟨trim p, P2, ?_, ⟨tr_trim p, by omega, ?_⟩, h2.mono (by omega)⟩
  · have a1 : aC (eCall m__law_draw (xDef [] (xIo 0 (xV (Fx.e2 oAdd (eVar 1) (eC (.int 1))) xN)))) aN [.io P, vi n, .un] = some ([.int d], [.io P1, vi n, .un]) := by simp [e1]
    have i0 := itR1 a1 (by omega) (by omega)
    rw [Int.toNat_natCast] at i0
    have hl : (Fx.rangeT 0 d).length ≤ 100000 := by rw [Fx.rangeT_len]; omega
    generalize Fx.rangeT 0 d = R at e2 i0 hl
    unfold m__law_poly g__law_poly
    generalize itRange1 (aC (eCall m__law_draw (xDef [] (xIo 0 (xV (Fx.e2 oAdd (eVar 1) (eC (.int 1))) xN)))) aN) = F at i0
    simp [i0, e2, e3, hl]
  · rw [nrm_trim]
    have := nrm_le b2
    have : 50 * p.length ≤ 50 * n := Nat.mul_le_mul_left _ (by omega)
    omega
theorem e__law_x {P : T} {k : Int} (h : Pen k P) (hk : k < 700000) : ∃ x P', m__law_x [.io P] = some (rt x, [.io P']) ∧ Sz 5 x ∧ Pen (k + 2) P' := by
  obtain ⟨d1, P1, e1, a1, a2, h1⟩ := e_draw h (by omega) (n := 41) (by decide) (by decide)
  obtain ⟨d2, P2, e2, b1, b2, h2⟩ := e_draw h1 (by omega) (n := 9) (by decide) (by decide)
  have e3 := e__law_ratio (a := d1 - 20) (b := 1 + d2) (n := 60) (by omega) (by unfold Bd; omega) (by decide)
  refine ⟨Rat.divInt (d1 - 20) (1 + d2), P2, ?_, sz_divInt (by omega) (n := 5) (by unfold Bd; omega) (by unfold Bd; omega), h2.mono (by omega)⟩
  generalize rt (Rat.divInt (d1 - 20) (1 + d2)) = z at e3
  simp [m__law_x, g__law_x, e1, e2, e3]
/-! products of many -/
def prodL (r : List Int) (ps : List (List Int)) : List Int := ps.foldl mul r
/-- a factor -/
structure Gf (q : List Int) : Prop where
  tr : Tr q
  len : q.length ≤ 3
  nrm : nrm q ≤ 256
theorem prodL_ok : ∀ (ps : List (List Int)) (r : List Int), (∀ q ∈ ps, Gf q) → Tr r → Tr (prodL r ps) ∧ (prodL r ps).length ≤ r.length + 3 * ps.length ∧ nrm (prodL r ps) ≤ nrm r * 256 ^ ps.length
  | [], r, _, hr => ⟨hr, by simp [prodL], by simp [prodL]⟩
  | q :: ps, r, h, hr => by
    have g := h q List.mem_cons_self
    obtain ⟨h1, h2, h3⟩ := prodL_ok ps (mul r q) (fun z hz => h z (List.mem_cons_of_mem _ hz)) (tr_mul hr g.tr)
    have l := len_mul r q
    have n := nrm_mul r q
    have gl := g.len
    refine ⟨h1, ?_, ?_⟩
    · show (prodL (mul r q) ps).length ≤ _
      rw [List.length_cons]
      omega
    · show nrm (prodL (mul r q) ps) ≤ _
      rw [List.length_cons, Nat.pow_succ, Nat.mul_comm (256 ^ ps.length), ← Nat.mul_assoc]
      exact Nat.le_trans h3 (Nat.mul_le_mul_right _ (Nat.le_trans n (Nat.mul_le_mul_left _ g.nrm)))
theorem at_loop {A : Sl} (hA : Pl A) : ∀ (ps : List (List Int)) (r : List Int) (x : Sl), Pl x → (∀ q ∈ ps, Gf q) → Tr r → r.length + 3 * ps.length ≤ 300 →
    ∃ x', forL (.nm 2) b__law_all_times_1 (ps.map pz) [A, vp r, x] = some (.nx, [A, vp (prodL r ps), x'])
  | [], r, x, _, _, _, _ => ⟨x, rfl⟩
  | q :: ps, r, x, hx, h, hr, hl => by
    have g := h q List.mem_cons_self
    have l := len_mul r q
    have gl := g.len
    rw [List.length_cons] at hl
    obtain ⟨x', ih⟩ := at_loop hA ps (mul r q) (vp q) (pl_val _) (fun z hz => h z (List.mem_cons_of_mem _ hz)) (tr_mul hr g.tr) (by omega)
    refine ⟨x', ?_⟩
    have e := e__law_times hr g.tr (by omega) (by omega) (fun c _ z hz => mulOk_r (bdm g.nrm (by decide) z hz))
    have e1 : b__law_all_times_1 [A, vp r, vp q] = some (.nx, [A, vp (mul r q), vp q]) := asg_of (call2 (var_of rfl) (var_of rfl) e) rfl rfl
    have e2 : bindP (.nm 2) (pz q) [A, vp r, x] = some [A, vp r, vp q] := by
      rcases hx with rfl | ⟨_, rfl⟩ <;> rfl
    rw [List.map_cons, forL, e2, Option.bind_some, e1, Option.bind_some]
    exact ih
theorem tr_one : Tr [1] := by intro h; simp
theorem e__law_all_times {ps : List (List Int)} (h : ∀ q ∈ ps, Gf q) (hl : ps.length ≤ 90) : m__law_all_times [.val (.lst (ps.map pz))] = some (pz (prodL [1] ps), [.val (.lst (ps.map pz))]) := by
  obtain ⟨x', h1⟩ := at_loop (A := .val (.lst (ps.map pz))) (pl_val _) ps [1] .un pl_un h tr_one (by simp; omega)
  refine runF_ret (env1 := [.val (.lst (ps.map pz)), vp (prodL [1] ps), x']) ?_ rfl
  rw [g__law_all_times, bSeq_nx (env1 := [.val (.lst (ps.map pz)), vp [1], .un]) (asg_of rfl rfl rfl)]
  rw [bSeq_nx (env1 := [.val (.lst (ps.map pz)), vp (prodL [1] ps), x']) (by rw [sFor_of (ts := ps.map pz) (env1 := [.val (.lst (ps.map pz)), vp [1], .un]) rfl]; exact h1)]
  rfl
/-! factors -/
theorem nrm2 (a b : Int) : nrm [a, b] = a.natAbs + b.natAbs := by simp [nrm]
theorem nrm3 (a b c : Int) : nrm [a, b, c] = a.natAbs + (b.natAbs + c.natAbs) := by simp [nrm]
theorem abs_mul_le {a b : Int} {m n : Nat} (h : a.natAbs ≤ m) (h' : b.natAbs ≤ n) : (a * b).natAbs ≤ m * n := by
  rw [Int.natAbs_mul]
  exact Nat.mul_le_mul h h'
theorem plain_of {p : List Int} (tp : Tr p) (hl : p.length ≤ 3) (hn : nrm p ≤ 256) : ∃ q, m__law_plain [vp p] = some (pz q, [vp p]) ∧ Gf q := by
  obtain ⟨q, e, t, l, n⟩ := e__law_plain tp (by omega) (by omega)
  exact ⟨q, e, t, by omega, by omega⟩
theorem mok60 {a b : Int} (h : a.natAbs ≤ 1000) : Fx.MulOk a b := mulOk_l (by unfold Bd; omega)
theorem e__law_factor {P : T} {k : Int} (h : Pen k P) (hk : k < 700000) : ∃ q X P', m__law_factor [.io P] = some (.tup [pz q, X], [.io P']) ∧ Gf q ∧ Pen (k + 4) P' := by
  obtain ⟨d1, P1, e1, a1, b1, h1⟩ := e_draw h (by omega) (n := 13) (by decide) (by decide)
  obtain ⟨d2, P2, e2, a2, b2, h2⟩ := e_draw h1 (by omega) (n := 5) (by decide) (by decide)
  obtain ⟨w, P3, e3, a3, b3, h3⟩ := e_draw h2 (by omega) (n := 5) (by decide) (by decide)
  obtain ⟨a, ha⟩ : ∃ a : Int, a = d1 - 6 := ⟨_, rfl⟩
  obtain ⟨c, hc⟩ : ∃ c : Int, c = 1 + d2 := ⟨_, rfl⟩
  have s1 : sPar 1 2 (aC (Fx.e2 oSub (eCall m__law_draw (xDef [] (xIo 0 (xV (eC (.int 13)) xN)))) (eC (.int 6))) (aC (Fx.e2 oAdd (eC (.int 1)) (eCall m__law_draw (xDef [] (xIo 0 (xV (eC (.int 5)) xN))))) aN)) [.io P, .un, .un, .un, .un] = some (.nx, [.io P2, vi a, vi c, .un, .un]) := by
    unfold sPar
    rw [aC_of (t := .int a) (e2_of (callI1 rfl rfl rfl e1 rfl) rfl (by simp [ha])) (aC_one (t := .int c) (e2_of rfl (callI1 rfl rfl rfl e2 rfl) (by simp [hc])))]
    rfl
  have s2 : sAsg (.nm 3) (eCall m__law_draw (xDef [] (xIo 0 (xV (eC (.int 5)) xN)))) [.io P2, vi a, vi c, .un, .un] = some (.nx, [.io P3, vi a, vi c, vi w, .un]) := asg_of (callI1 rfl rfl rfl e3 rfl) rfl rfl
  by_cases c1 : w < 2
  · obtain ⟨q, e4, g⟩ := plain_of (p := [0 - a, c]) (by intro _; simp; omega) (by simp) (by rw [nrm2]; omega)
    refine ⟨q, .lst [.tup [.int a, .int 0, .int 0, .int c]], P3, runF_ret (env1 := [.io P3, vi a, vi c, vi w, .un]) ?_ rfl, g, h3.mono (by omega)⟩
    unfold g__law_factor
    show bSeq _ _ [.io P, .un, .un, .un, .un] = _
    rw [bSeq_nx s1, bSeq_nx s2]
    refine bSeq_ret ?_
    rw [sIf_T (env1 := [.io P3, vi a, vi c, vi w, .un]) (tb1_of (e2_of (var_of rfl) rfl (by simp [c1])))]
    have q1 : eCall m__law_plain (xDef [] (xV (eN dTup (aC (Fx.e2 oSub (eC (.int 0)) (eVar 1)) (aC (eVar 2) aN))) xN)) [.io P3, vi a, vi c, vi w, .un] = some (pz q, [.io P3, vi a, vi c, vi w, .un]) := call1 (a := pz [0 - a, c]) (eN_of (aC_of (e2_of rfl (var_of rfl) rfl) (aC_one (var_of rfl))) rfl) e4
    unfold sRet
    rw [eN_of (aC_of q1 (aC_one rfl)) rfl]
    rfl
  · obtain ⟨x, P4, e4, hx, h4⟩ := e_pickF d_pick d_draw h3 (by omega) (xs := [.int 2, .int 3, .int 5, .int 6, .int 7, .int 10, .int 12]) (by simp) (by simp)
    have hd : ∃ d : Int, x = .int d ∧ 2 ≤ d ∧ d ≤ 12 := by
      simp only [List.mem_cons, List.not_mem_nil, or_false] at hx
      rcases hx with rfl | rfl | rfl | rfl | rfl | rfl | rfl <;> exact ⟨_, rfl, by omega⟩
    obtain ⟨d, rfl, hd1, hd2⟩ := hd
    have aa := abs_mul_le (a := a) (b := a) (m := 6) (n := 6) (by omega) (by omega)
    have cc := abs_mul_le (a := c) (b := c) (m := 5) (n := 5) (by omega) (by omega)
    have c2a : (-2 * a).natAbs ≤ 12 := by omega
    have ac := abs_mul_le (a := -2 * a) (b := c) (m := 12) (n := 5) c2a (by omega)
    have hcc : c * c ≠ 0 := by
      have := Int.mul_pos (show 0 < c by omega) (show 0 < c by omega)
      omega
    have m1 : Fx.MulOk a a := mok60 (by omega)
    have m2 : Fx.MulOk (-2) a := mok60 (by decide)
    have m3 : Fx.MulOk (-2 * a) c := mok60 (by omega)
    have m4 : Fx.MulOk c c := mok60 (by omega)
    have s3 : sAsg (.nm 4) (eCall m__law_pick (xDef [] (xIo 0 (xV (eN dLst (aC (eC (.int 2)) (aC (eC (.int 3)) (aC (eC (.int 5)) (aC (eC (.int 6)) (aC (eC (.int 7)) (aC (eC (.int 10)) (aC (eC (.int 12)) aN)))))))) xN)))) [.io P3, vi a, vi c, vi w, .un] = some (.nx, [.io P4, vi a, vi c, vi w, vi d]) := asg_of (callI1 rfl rfl rfl e4 rfl) rfl rfl
    have k1 : Fx.e2 oMul (eVar 1) (eVar 1) [.io P4, vi a, vi c, vi w, vi d] = some (.int (a * a), [.io P4, vi a, vi c, vi w, vi d]) := e2_of (var_of rfl) (var_of rfl) (by simp [m1])
    have k2 : Fx.e2 oMul (Fx.e2 oMul (Fx.e1 nNeg (eC (.int 2))) (eVar 1)) (eVar 2) [.io P4, vi a, vi c, vi w, vi d] = some (.int (-2 * a * c), [.io P4, vi a, vi c, vi w, vi d]) := e2_of (e2_of (w := .int (-2 * a)) (t := .int (-2)) rfl (var_of rfl) (by simp [m2])) (var_of rfl) (by simp [m3])
    have k3 : Fx.e2 oMul (eVar 2) (eVar 2) [.io P4, vi a, vi c, vi w, vi d] = some (.int (c * c), [.io P4, vi a, vi c, vi w, vi d]) := e2_of (var_of rfl) (var_of rfl) (by simp [m4])
    have s4 : sIf (tB1 (Fx.e2 (iCmp fun i j => decide (i < j)) (eVar 3) (eC (.int 2)))) (sRet (eN dTup (aC (eCall m__law_plain (xDef [] (xV (eN dTup (aC (Fx.e2 oSub (eC (.int 0)) (eVar 1)) (aC (eVar 2) aN))) xN))) (aC (eN dLst (aC (eN dTup (aC (eVar 1) (aC (eC (.int 0)) (aC (eC (.int 0)) (aC (eVar 2) aN))))) aN)) aN)))) bNil [.io P3, vi a, vi c, vi w, .un] = some (.nx, [.io P3, vi a, vi c, vi w, .un]) := go_on (tb1_of (e2_of (var_of rfl) rfl (by simp [c1])))
    by_cases c2 : w = 2
    · obtain ⟨q, e5, g⟩ := plain_of (p := [a * a + d, -2 * a * c, c * c]) (by intro _; exact hcc) (by simp) (by rw [nrm3]; omega)
      refine ⟨q, .lst [], P4, runF_ret (env1 := [.io P4, vi a, vi c, vi w, vi d]) ?_ rfl, g, h4.mono (by omega)⟩
      unfold g__law_factor
      show bSeq _ _ [.io P, .un, .un, .un, .un] = _
      rw [bSeq_nx s1, bSeq_nx s2, bSeq_nx s4, bSeq_nx s3]
      refine bSeq_ret ?_
      rw [sIf_T (env1 := [.io P4, vi a, vi c, vi w, vi d]) (tb1_of (e2_of (var_of rfl) rfl (by simp [c2])))]
      have q1 : eCall m__law_plain (xDef [] (xV (eN dTup (aC (Fx.e2 oAdd (Fx.e2 oMul (eVar 1) (eVar 1)) (eVar 4)) (aC (Fx.e2 oMul (Fx.e2 oMul (Fx.e1 nNeg (eC (.int 2))) (eVar 1)) (eVar 2)) (aC (Fx.e2 oMul (eVar 2) (eVar 2)) aN)))) xN)) [.io P4, vi a, vi c, vi w, vi d] = some (pz q, [.io P4, vi a, vi c, vi w, vi d]) := call1 (a := pz [a * a + d, -2 * a * c, c * c]) (eN_of (aC_of (e2_of k1 (var_of rfl) rfl) (aC_of k2 (aC_one k3))) rfl) e5
      unfold sRet
      rw [eN_of (aC_of q1 (aC_one rfl)) rfl]
      rfl
    · obtain ⟨q, e5, g⟩ := plain_of (p := [a * a - d, -2 * a * c, c * c]) (by intro _; exact hcc) (by simp) (by rw [nrm3]; omega)
      refine ⟨q, .lst [.tup [.int a, .int (-1), .int d, .int c], .tup [.int a, .int 1, .int d, .int c]], P4, runF_ret (env1 := [.io P4, vi a, vi c, vi w, vi d]) ?_ rfl, g, h4.mono (by omega)⟩
      unfold g__law_factor
      show bSeq _ _ [.io P, .un, .un, .un, .un] = _
      rw [bSeq_nx s1, bSeq_nx s2, bSeq_nx s4, bSeq_nx s3, bSeq_nx (env1 := [.io P4, vi a, vi c, vi w, vi d]) (go_on (tb1_of (e2_of (var_of rfl) rfl (by simp [c2]))))]
      have q1 : eCall m__law_plain (xDef [] (xV (eN dTup (aC (Fx.e2 oSub (Fx.e2 oMul (eVar 1) (eVar 1)) (eVar 4)) (aC (Fx.e2 oMul (Fx.e2 oMul (Fx.e1 nNeg (eC (.int 2))) (eVar 1)) (eVar 2)) (aC (Fx.e2 oMul (eVar 2) (eVar 2)) aN)))) xN)) [.io P4, vi a, vi c, vi w, vi d] = some (pz q, [.io P4, vi a, vi c, vi w, vi d]) := call1 (a := pz [a * a - d, -2 * a * c, c * c]) (eN_of (aC_of (e2_of k1 (var_of rfl) rfl) (aC_of k2 (aC_one k3))) rfl) e5
      unfold sRet
      rw [eN_of (aC_of q1 (aC_one rfl)) rfl]
      rfl
end K21

/-! rows of factors, what is made of them -/
namespace K21
open PySem PySem.Spec PyProof.Rows L2 Fx Fx.RP
/-- a factor, its roots, how often -/
abbrev Ft := List Int × T × Nat
def ft (f : Ft) : T := .tup [pz f.1, f.2.1, .int f.2.2]
structure Fg (f : Ft) : Prop where
  g : Gf f.1
  m : f.2.2 ≤ 3
theorem lcP_f {A B D X : Sl} (hX : isIo (some X) = false) {x : T} : ∀ (j n k : Nat) (fs : List Ft), fs.length - k = j → k ≤ fs.length → j < n →
    lcP 2 (.nm 6) tYesF c__law_factors_1 [6] n k [A, B, .own (.lst (fs.map ft)), D, vp q, X, .un] = some ((fs.drop k).map fun f => pz f.1, [A, B, .own (.lst (fs.map ft)), D, vp q, X, .un]) := by
  intro j
  induction j with
  | zero =>
    intro n k fs hj hk hn
    obtain ⟨n, rfl⟩ : ∃ m, n = m + 1 := ⟨n - 1, by omega⟩
    have e1 : (fs.map ft)[k]? = none := by rw [List.getElem?_eq_none]; simp; omega
    unfold lcP
    show Option.bind (some (fs.map ft)) _ = _
    rw [Option.bind_some, e1, List.drop_eq_nil_of_le (by omega)]
    rfl
  | succ j ih =>
    intro n k fs hj hk hn
    obtain ⟨n, rfl⟩ : ∃ m, n = m + 1 := ⟨n - 1, by omega⟩
    have hlt : k < fs.length := by omega
    have e1 : (fs.map ft)[k]? = some (ft fs[k]) := by simp [hlt]
    have ih := ih n (k + 1) fs (by omega) (by omega) (by omega)
    have e2 : c__law_factors_1 [A, B, .own (.lst (fs.map ft)), D, vp q, X, .val (ft fs[k])] = some (pz fs[k].1, [A, B, .own (.lst (fs.map ft)), D, vp q, X, .val (ft fs[k])]) := by simp [c__law_factors_1, ft]
    rw [List.drop_eq_getElem_cons hlt, List.map_cons]
    exact lcP_step (ts := fs.map ft) rfl e1 rfl e2 rfl ih
theorem nin_ok (q : List Int) (qs : List (List Int)) : ∃ b, qNin (pz q) (.lst (qs.map pz)) = some (.bl b) := by
  have h1 : toD (pz q) = some (dI q) := by show (toDs (q.map T.int)).map PyData.tuple = _; rw [toDs_ints]; rfl
  have h2 := toDs_dI qs
  have h3 : (dI q).depth ≤ 60 := by simp only [dI, PyData.depth, depthA_ints]; omega
  unfold qNin inT
  rw [h1, Option.bind_some]
  show ∃ b, Option.map _ (Option.bind (toDs (qs.map pz)) _) = _
  rw [show qs.map pz = qs.map fun p => T.tup (p.map T.int) from rfl, h2, Option.bind_some, if_pos h3]
  exact ⟨_, rfl⟩
theorem pl_io {X : Sl} (h : Pl X) : isIo (some X) = false := by
  rcases h with rfl | ⟨_, rfl⟩ <;> rfl
/-- a turn -/
theorem fa_turn {P : T} {k : Int} (h : Pen k P) (hk : k < 700000) {M : T} {fs : List Ft} (hf : ∀ f ∈ fs, Fg f) (hl : fs.length < 1000) (t : T) :
    ∃ (P' : T) (fs' : List Ft) (q : List Int) (X : T), b__law_factors_1 [.io P, .val M, .own (.lst (fs.map ft)), .val t, .un, .un, .un] = some (.nx, [.io P', .val M, .own (.lst (fs'.map ft)), .val t, vp q, .val X, .un]) ∧ (∀ f ∈ fs', Fg f) ∧ fs'.length ≤ fs.length + 1 ∧ Pen (k + 5) P' := by
  obtain ⟨q, X, P1, e1, g, h1⟩ := e__law_factor h (by omega)
  obtain ⟨b, hb⟩ := nin_ok q (fs.map Prod.fst)
  have e2 := lcP_f (A := .io P1) (B := .val M) (D := .val t) (X := .val X) (q := q) rfl (x := X) fs.length 100000 0 fs (by omega) (by omega) (by omega)
  rw [List.drop_zero, ← show (fs.map Prod.fst).map pz = fs.map fun f => pz f.1 by rw [List.map_map]; rfl] at e2
  obtain ⟨E, hE⟩ : ∃ E : Sls, E = [.io P1, .val M, .own (.lst (fs.map ft)), .val t, vp q, .val X, .un] := ⟨_, rfl⟩
  have e3 : eLcP 2 (.nm 6) tYesF c__law_factors_1 [6] E = some (.lst ((fs.map Prod.fst).map pz), E) := by
    subst hE
    unfold eLcP
    rw [if_pos ⟨rfl, rfl⟩]
    show Option.map _ (lcP 2 (.nm 6) tYesF c__law_factors_1 [6] 100000 0 [.io P1, .val M, .own (.lst (fs.map ft)), .val t, vp q, .val X, .un]) = _
    rw [e2]
    rfl
  have s1 : sAsg (.tup [.nm 4, .nm 5]) (eCall m__law_factor (xDef [] (xIo 0 xN))) [.io P, .val M, .own (.lst (fs.map ft)), .val t, .un, .un, .un] = some (.nx, E) := by
    subst hE
    unfold sAsg
    rw [callI0 rfl e1 rfl, Option.bind_some]
    rfl
  have v4 : eVar 4 E = some (pz q, E) := by subst hE; rfl
  have v5 : eVar 5 E = some (X, E) := by subst hE; rfl
  have c1 : tB1 (Fx.e2 qNin (eVar 4) (eLcP 2 (.nm 6) tYesF c__law_factors_1 [6])) E = some (b, E) := tb1_of (e2_of v4 e3 hb)
  cases b with
  | false =>
    refine ⟨P1, fs, q, X, ?_, hf, by omega, h1.mono (by omega)⟩
    unfold b__law_factors_1
    rw [bSeq_nx s1, go_on c1, hE]
  | true =>
    obtain ⟨x, P2, e4, hx, h2⟩ := e_pickF d_pick d_draw h1 (by omega) (xs := [.int 1, .int 1, .int 1, .int 2, .int 3]) (by simp) (by simp)
    have hd : ∃ m : Nat, x = .int m ∧ m ≤ 3 := by
      simp only [List.mem_cons, List.not_mem_nil, or_false] at hx
      rcases hx with rfl | rfl | rfl | rfl | rfl
      · exact ⟨1, rfl, by omega⟩
      · exact ⟨1, rfl, by omega⟩
      · exact ⟨1, rfl, by omega⟩
      · exact ⟨2, rfl, by omega⟩
      · exact ⟨3, rfl, by omega⟩
    obtain ⟨m, rfl, hm⟩ := hd
    refine ⟨P2, fs ++ [(q, X, m)], q, X, ?_, ?_, by simp, h2.mono (by omega)⟩
    · unfold b__law_factors_1
      rw [bSeq_nx s1, sIf_T c1]
      have a1 : eN dTup (aC (eVar 4) (aC (eVar 5) (aC (eCall m__law_pick (xDef [] (xIo 0 (xV (eN dLst (aC (eC (.int 1)) (aC (eC (.int 1)) (aC (eC (.int 1)) (aC (eC (.int 2)) (aC (eC (.int 3)) aN)))))) xN)))) aN))) E = some (ft (q, X, m), [.io P2, .val M, .own (.lst (fs.map ft)), .val t, vp q, .val X, .un]) := by
        refine eN_of (aC_of v4 (aC_of v5 (aC_one (callI1 (by subst hE; rfl) rfl (by subst hE; rfl) e4 (by subst hE; rfl))))) rfl
      have hl' : (fs.map ft).length < 100000 := by rw [List.length_map]; omega
      unfold sApp
      have hL : hasL E 2 = true := by subst hE; rfl
      rw [if_pos hL, a1, Option.bind_some]
      show (if (fs.map ft).length < 100000 then _ else _) = _
      rw [if_pos hl', List.map_append]
      rfl
    · intro f hf'
      rcases List.mem_append.mp hf' with h | h
      · exact hf f h
      · simp only [List.mem_singleton] at h
        subst h
        exact ⟨g, hm⟩
theorem fa_loop {M : T} : ∀ (ts : List T) {P : T} {k : Int} {fs : List Ft} {a b c d : Sl}, Pl a → Pl b → Pl c → Pl d → Pen k P → k + 5 * ts.length < 700000 → (∀ f ∈ fs, Fg f) → fs.length + ts.length < 1000 →
    ∃ (P' : T) (fs' : List Ft), forLR [3, 4, 5, 6] (.nm 3) b__law_factors_1 ts [.io P, .val M, .own (.lst (fs.map ft)), a, b, c, d] = some (.nx, [.io P', .val M, .own (.lst (fs'.map ft)), .un, .un, .un, .un]) ∧ (∀ f ∈ fs', Fg f) ∧ fs'.length ≤ fs.length + ts.length ∧ Pen (k + 5 * ts.length) P'
  | [], P, k, fs, a, b, c, d, ha, hb, hc, hd, h, hk, hf, hl => by
    refine ⟨P, fs, ?_, hf, by simp, by simpa using h⟩
    unfold forLR
    rw [if_pos (by rcases ha with rfl | ⟨_, rfl⟩ <;> rcases hb with rfl | ⟨_, rfl⟩ <;> rcases hc with rfl | ⟨_, rfl⟩ <;> rcases hd with rfl | ⟨_, rfl⟩ <;> rfl)]
    rfl
  | t :: ts, P, k, fs, a, b, c, d, ha, hb, hc, hd, h, hk, hf, hl => by
    simp only [List.length_cons] at hk hl ⊢
    obtain ⟨P1, fs1, q, X, e1, f1, l1, h1⟩ := fa_turn (M := M) h (by omega) hf (by omega) t
    obtain ⟨P2, fs2, e2, f2, l2, h2⟩ := fa_loop (M := M) ts (pl_val t) (pl_val (pz q)) (pl_val X) pl_un h1 (by omega) f1 (by omega)
    refine ⟨P2, fs2, ?_, f2, by omega, h2.mono (by omega)⟩
    unfold forLR
    rw [if_pos (by rcases ha with rfl | ⟨_, rfl⟩ <;> rcases hb with rfl | ⟨_, rfl⟩ <;> rcases hc with rfl | ⟨_, rfl⟩ <;> rcases hd with rfl | ⟨_, rfl⟩ <;> rfl)]
    show Option.bind (bindP (.nm 3) t [.io P, .val M, .own (.lst (fs.map ft)), .un, .un, .un, .un]) _ = _
    rw [show bindP (.nm 3) t [.io P, .val M, .own (.lst (fs.map ft)), .un, .un, .un, .un] = some [.io P, .val M, .own (.lst (fs.map ft)), .val t, .un, .un, .un] from rfl, Option.bind_some, e1, Option.bind_some]
    exact e2
theorem e__law_factors {P : T} {k : Int} (h : Pen k P) (hk : k < 600000) : ∃ (fs : List Ft) (P' : T), m__law_factors [.io P, vi 3] = some (.lst (fs.map ft), [.io P', vi 3]) ∧ (∀ f ∈ fs, Fg f) ∧ fs.length ≤ 3 ∧ Pen (k + 20) P' := by
  obtain ⟨d, P1, e1, g1, g2, h1⟩ := e_draw h (by omega) (n := 3) (by decide) (by decide)
  obtain ⟨d, rfl⟩ : ∃ m : Nat, d = m := ⟨d.toNat, by omega⟩
  obtain ⟨P2, fs, e2, f2, l2, h2⟩ := fa_loop (M := .int 3) (Fx.rangeT 0 (1 + d)) (fs := []) pl_un pl_un pl_un pl_un h1 (by rw [Fx.rangeT_len]; omega) (fun _ h => nomatch h) (by rw [Fx.rangeT_len]; simp; omega)
  rw [Fx.rangeT_len] at l2 h2
  refine ⟨fs, P2, runF_ret (env1 := [.io P2, vi 3, .val (.lst (fs.map ft)), .un, .un, .un, .un]) ?_ rfl, f2, by simp at l2; omega, h2.mono (by omega)⟩
  unfold g__law_factors
  show bSeq _ _ [.io P, vi 3, .un, .un, .un, .un, .un] = _
  rw [bSeq_nx (env1 := [.io P, vi 3, .own (.lst []), .un, .un, .un, .un]) rfl]
  rw [bSeq_nx (env1 := [.io P2, vi 3, .own (.lst (fs.map ft)), .un, .un, .un, .un])]
  · simp
  · have a1 : aC (Fx.e2 oAdd (eC (.int 1)) (eCall m__law_draw (xDef [] (xIo 0 (xV (eVar 1) xN))))) aN [.io P, vi 3, .own (.lst []), .un, .un, .un, .un] = some ([.int (1 + (d : Int))], [.io P1, vi 3, .own (.lst []), .un, .un, .un, .un]) := aC_one (e2_of rfl (callI1 rfl (var_of rfl) rfl e1 rfl) (by simp))
    have i0 := itR1 a1 (by omega) (by omega)
    rw [show (1 + (d : Int)).toNat = 1 + d by omega] at i0
    unfold sForR
    rw [i0, Option.bind_some]
    exact e2
/-! what is made -/
def ofF (fs : List Ft) : List (List Int) := (fs.map fun f => List.replicate f.2.2 f.1).flatten
theorem ofF_ok : ∀ {fs : List Ft}, (∀ f ∈ fs, Fg f) → (∀ q ∈ ofF fs, Gf q) ∧ (ofF fs).length ≤ 3 * fs.length
  | [], _ => ⟨fun q h => by simp [ofF] at h, by simp [ofF]⟩
  | f :: fs, h => by
    obtain ⟨h1, h2⟩ := ofF_ok (fs := fs) fun g hg => h g (List.mem_cons_of_mem _ hg)
    have hf := h f List.mem_cons_self
    have hm := hf.m
    unfold ofF at h1 h2 ⊢
    rw [List.map_cons, List.flatten_cons]
    refine ⟨fun q hq => ?_, ?_⟩
    · rcases List.mem_append.mp hq with h | h
      · rw [(List.mem_replicate.mp h).2]; exact hf.g
      · exact h1 q h
    · rw [List.length_append, List.length_replicate, List.length_cons]
      omega
theorem lc_made {P F : T} : ∀ {fs : List Ft}, (∀ f ∈ fs, Fg f) → lcL (.tup [.nm 2, .nm 3, .nm 4]) tYesF c__law_made_1 [2, 3, 4] (fs.map ft) [.io P, .val F, .un, .un, .un] = some (fs.map fun f => T.lst ((List.replicate f.2.2 f.1).map pz), [.io P, .val F, .un, .un, .un])
  | [], _ => rfl
  | (q, X, m) :: fs, h => by
    have ih := lc_made (P := P) (F := F) (fs := fs) fun g hg => h g (List.mem_cons_of_mem _ hg)
    have hm : m ≤ 3 := (h (q, X, m) List.mem_cons_self).m
    have e1 : c__law_made_1 [.io P, .val F, vp q, .val X, vi m] = some (.lst ((List.replicate m q).map pz), [.io P, .val F, vp q, .val X, vi m]) := by
      have i1 : (-1000000 : Int) ≤ m ∧ (m : Int) ≤ 1000000 := by omega
      have i2 : m ≤ 100000 := by omega
      rw [List.map_replicate]
      refine e2_of (t := .lst [pz q]) (eN_of (aC_one (var_of rfl)) rfl) (var_of rfl) ?_
      simp [i1, i2]
    rw [List.map_cons, List.map_cons]
    exact lcL_step rfl e1 rfl ih
theorem lsts_made : ∀ fs : List Ft, lsts (fs.map fun f => T.lst ((List.replicate f.2.2 f.1).map pz)) = some (fs.map fun f => (List.replicate f.2.2 f.1).map pz)
  | [] => rfl
  | f :: fs => by rw [List.map_cons, lsts, lsts_made fs]; rfl
theorem flat_made (fs : List Ft) : (fs.map fun f => (List.replicate f.2.2 f.1).map pz).flatten = (ofF fs).map pz := by
  unfold ofF
  rw [List.map_flatten, List.map_map]
  rfl
theorem e__law_made {P : T} {k : Int} (h : Pen k P) (hk : k < 600000) {fs : List Ft} (hf : ∀ f ∈ fs, Fg f) (hl : fs.length ≤ 3) : ∃ p P', m__law_made [.io P, .val (.lst (fs.map ft))] = some (pz p, [.io P', .val (.lst (fs.map ft))]) ∧ Pm p ∧ Pen (k + 1) P' := by
  obtain ⟨g1, g2⟩ := ofF_ok hf
  have e1 := e__law_all_times (ps := ofF fs) g1 (by omega)
  obtain ⟨t1, l1, n1⟩ := prodL_ok (ofF fs) [1] g1 tr_one
  have n2 : (256 : Nat) ^ (ofF fs).length ≤ 256 ^ 9 := Nat.pow_le_pow_right (by decide) (by omega)
  have n3 : nrm (prodL [1] (ofF fs)) ≤ 256 ^ 9 := by
    have : nrm [1] = 1 := rfl
    rw [this] at n1
    omega
  obtain ⟨x, P1, e2, hx, h1⟩ := e_pickF d_pick d_draw h (by omega) (xs := [.int 1, .int (-1), .int 2, .int (-3), .int 6]) (by simp) (by simp)
  have hd : ∃ c : Int, x = .int c ∧ c.natAbs ≤ 6 := by
    simp only [List.mem_cons, List.not_mem_nil, or_false] at hx
    rcases hx with rfl | rfl | rfl | rfl | rfl <;> exact ⟨_, rfl, by omega⟩
  obtain ⟨c, rfl, hc⟩ := hd
  simp only [List.length_singleton] at l1
  have e3 := e__law_by (p := prodL [1] (ofF fs)) (c := c) (by omega) (fun z _ => mulOk_r (by unfold Bd; omega))
  have l3 := len_trim ((prodL [1] (ofF fs)).map fun z => z * c)
  rw [List.length_map] at l3
  refine ⟨_, P1, runF_ret (env1 := [.io P1, .val (.lst (fs.map ft)), .un, .un, .un]) ?_ rfl, ⟨tr_trim ((prodL [1] (ofF fs)).map fun z => z * c), by omega, ?_⟩, h1⟩
  · unfold g__law_made sRet
    show Option.map _ (eCall m__law_by _ [.io P, .val (.lst (fs.map ft)), .un, .un, .un]) = _
    have a1 : eLc (itS (eVar 1)) (.tup [.nm 2, .nm 3, .nm 4]) tYesF c__law_made_1 [2, 3, 4] [.io P, .val (.lst (fs.map ft)), .un, .un, .un] = some (.lst (fs.map fun f => T.lst ((List.replicate f.2.2 f.1).map pz)), [.io P, .val (.lst (fs.map ft)), .un, .un, .un]) := by
      exact eLc_of (ts := fs.map ft) rfl rfl (by rw [List.length_map]; omega) (lc_made hf)
    have a2 : bSumL [.lst (fs.map fun f => T.lst ((List.replicate f.2.2 f.1).map pz)), .lst []] = some (.lst ((ofF fs).map pz)) := by
      unfold bSumL
      show Option.bind (lsts _) _ = _
      rw [lsts_made, Option.bind_some, flat_made, if_pos (by rw [List.length_map]; simp; omega)]
      rfl
    rw [call2 (call1 (eN_of (aC_of a1 (aC_one rfl)) a2) e1) (callI1 rfl rfl rfl e2 rfl) e3]
    rfl
  · rw [nrm_trim, nrm_map_mul]
    have : nrm (prodL [1] (ofF fs)) * c.natAbs ≤ 256 ^ 9 * 6 := Nat.mul_le_mul n3 hc
    omega
end K21

/-! the plain law: what is asked of a moved polynomial -/
namespace K21
open PySem PySem.Spec PyProof.Rows L2 Fx Fx.RP
theorem sgn_sh (a b x : Rat) (p : List Int) : sgq (evq x (sh a b p)) = sgq (evq (a + b * x) p) := by
  obtain ⟨c, hc, h⟩ := sh_q a b p
  rw [h, sgq_pos hc]
theorem num_eq (x : Rat) : ((x.num : Int) : Rat) = x * ((x.den : Int) : Rat) := by
  have := num_den x
  have dc := den_cast x
  generalize ((x.num : Int) : Rat) = n at this ⊢
  generalize ((x.den : Int) : Rat) = e at this dc ⊢
  rw [← this, Rat.div_mul_cancel dc]
theorem div_of {n d : Int} {q : Rat} (hd : d ≠ 0) (h : (n : Rat) = q * (d : Rat)) : Rat.divInt n d = q := by
  rw [Rat.divInt_eq_div, h]
  exact Rat.mul_div_cancel (fun z => hd (cinj z))
theorem there_eq (a b x : Rat) : Rat.divInt (a.num * b.den * x.den + b.num * x.num * a.den) (a.den * b.den * x.den) = a + b * x := by
  refine div_of (Int.mul_ne_zero (Int.mul_ne_zero (den_ne a) (den_ne b)) (den_ne x)) ?_
  rw [cadd, cmul, cmul, cmul, cmul, cmul, cmul, num_eq a, num_eq b, num_eq x]
  grind
theorem num_ne {b : Rat} (h : b.num ≠ 0) : b ≠ 0 := fun z => h (by rw [z]; rfl)
theorem back_a (a b : Rat) (h : b.num ≠ 0) : Rat.divInt (0 - a.num * b.den) (a.den * b.num) = -(a * b⁻¹) := by
  refine div_of (Int.mul_ne_zero (den_ne a) h) ?_
  have h2 : b⁻¹ * b = 1 := Rat.inv_mul_cancel _ (num_ne h)
  rw [Int.zero_sub, Rat.intCast_neg, cmul, cmul, num_eq a, num_eq b]
  generalize b⁻¹ = i at h2 ⊢
  grind
theorem back_b (b : Rat) (h : b.num ≠ 0) : Rat.divInt b.den b.num = b⁻¹ := by
  refine div_of h ?_
  have h2 : b⁻¹ * b = 1 := Rat.inv_mul_cancel _ (num_ne h)
  rw [num_eq b]
  generalize b⁻¹ = i at h2 ⊢
  grind
theorem moved_back (a b : Rat) (h : b.num ≠ 0) {p : List Int} (tp : Tr p) : sh (Rat.divInt (0 - a.num * b.den) (a.den * b.num)) (Rat.divInt b.den b.num) (sh a b p) = clr p := by
  rw [back_a a b h, back_b b h]
  have h2 : b⁻¹ * b = 1 := Rat.inv_mul_cancel _ (num_ne h)
  obtain ⟨c1, g1, e1⟩ := sh_q a b p
  obtain ⟨c2, g2, e2⟩ := sh_q (-(a * b⁻¹)) b⁻¹ (sh a b p)
  obtain ⟨c3, g3, e3⟩ := clr_q p
  refine same_q g3 (Rat.mul_pos g2 g1) (tr_sh _ _ _) (tr_clr tp) (cont_sh _ _ _) (cont_clr p) fun x => ?_
  rw [e2, e1, e3]
  have : a + b * (-(a * b⁻¹) + b⁻¹ * x) = x := by
    generalize b⁻¹ = i at h2 ⊢
    grind
  rw [this]
  generalize evq x p = w
  grind
theorem not_moved {p : List Int} (tp : Tr p) : sh 0 1 p = clr p := by
  obtain ⟨c1, g1, e1⟩ := sh_q 0 1 p
  obtain ⟨c3, g3, e3⟩ := clr_q p
  refine same_q g3 g1 (tr_sh _ _ _) (tr_clr tp) (cont_sh _ _ _) (cont_clr p) fun x => ?_
  rw [e1, e3]
  have : (0 : Rat) + 1 * x = x := by grind
  rw [this]
  generalize evq x p = w
  grind
theorem sh_nil (a b : Rat) : sh a b [] = [] := rfl
theorem tr_1 : Tr [1] := by intro h; simp
theorem sh_four (a b : Rat) : sh a b [4] = [1] := by
  obtain ⟨c1, g1, e1⟩ := sh_q a b [4]
  refine same_q (c := 1) (d := c1 * 4) (by decide) (Rat.mul_pos g1 (by decide)) (tr_sh _ _ _) tr_1 (cont_sh _ _ _) (by decide) fun x => ?_
  rw [e1]
  simp only [evq]
  have c4 : ((4 : Int) : Rat) = 4 := rfl
  have c1 : ((1 : Int) : Rat) = 1 := rfl
  rw [c4, c1]
  grind
theorem cont_zero_tr {p : List Int} (tp : Tr p) (h : cont p = 0) : p = [] := by
  refine Classical.byContradiction fun z => ?_
  exact tp z (cont_zero h _ (List.getLast_mem z))
theorem sh_square (a b : Rat) {p : List Int} (tp : Tr p) : sh a b (mul p p) = mul (sh a b p) (sh a b p) := by
  obtain ⟨c1, g1, e1⟩ := sh_q a b p
  obtain ⟨c2, g2, e2⟩ := sh_q a b (mul p p)
  have ts := tr_sh a b p
  have hc : cont (mul (sh a b p) (sh a b p)) ≤ 1 := by
    have h := cont_sh a b p
    rcases Nat.lt_or_ge (cont (sh a b p)) 1 with h0 | h0
    · have := cont_zero_tr ts (by omega)
      rw [this]
      decide
    · have h1 : cont (sh a b p) = 1 := by omega
      rw [cont_square h1 h1]
      exact Nat.le_refl 1
  refine same_q (Rat.mul_pos g1 g1) g2 (tr_sh _ _ _) (tr_mul ts ts) (cont_sh _ _ _) hc fun x => ?_
  rw [e2, evq_mul, evq_mul, e1]
  generalize evq (a + b * x) p = w
  grind
theorem cross (a b : Rat) (p : List Int) (y z : Rat) : (evq y (sh a b p)).num * (evq z (sh a b p)).den * (evq (a + b * z) p).num * (evq (a + b * y) p).den = (evq z (sh a b p)).num * (evq y (sh a b p)).den * (evq (a + b * y) p).num * (evq (a + b * z) p).den := by
  obtain ⟨c1, g1, e1⟩ := sh_q a b p
  have h1 := e1 y
  have h2 := e1 z
  generalize evq y (sh a b p) = m at h1 ⊢
  generalize evq z (sh a b p) = o at h2 ⊢
  generalize evq (a + b * y) p = i at h1 ⊢
  generalize evq (a + b * z) p = t at h2 ⊢
  apply cinj
  rw [cmul, cmul, cmul, cmul, cmul, cmul, num_eq m, num_eq o, num_eq i, num_eq t, h1, h2]
  grind
/-! sizes -/
theorem top_le {u v : Int} {M : Nat} (hu : u.natAbs ≤ M) (hv : v.natAbs ≤ M) (hM : 0 < M) : ∀ p : List Int, (RP.top u v p).natAbs ≤ nrm p * M ^ p.length
  | [] => by simp [RP.top]
  | c :: p => by
    have ih := top_le hu hv hM p
    have e : RP.top u v (c :: p) = RP.top u v p * u + c * v ^ p.length := rfl
    have h1 : (RP.top u v p * u).natAbs ≤ nrm p * M ^ p.length * M := by
      rw [Int.natAbs_mul]
      exact Nat.mul_le_mul ih hu
    have h2 : (c * v ^ p.length).natAbs ≤ c.natAbs * (M ^ p.length * M) := by
      rw [Int.natAbs_mul, Int.natAbs_pow]
      refine Nat.mul_le_mul_left _ (Nat.le_trans (Nat.pow_le_pow_left hv _) ?_)
      exact Nat.le_mul_of_pos_right _ hM
    rw [e, nrm, List.length_cons, Nat.pow_succ, Nat.add_mul]
    have h3 := Int.natAbs_add_le (RP.top u v p * u) (c * v ^ p.length)
    rw [Nat.mul_assoc] at h1
    omega
theorem sz_evq {p : List Int} {x : Rat} {n : Nat} (hx : Sz n x) (hp : nrm p < 2 ^ 3000) (hl : p.length ≤ 61) : Sz (3000 + n * 61 + 1) (evq x p) := by
  rw [← vx_evq]
  have hd : (x.den : Int) ^ (p.length - 1) ≠ 0 := Int.pow_ne_zero (den_ne x)
  have a1 := hx.num
  have a2 := hx.den
  unfold Bd at a1 a2
  have h1 := top_le (u := x.num) (v := x.den) (M := 2 ^ n) (by omega) (by omega) (Nat.two_pow_pos n) p
  rw [← Nat.pow_mul] at h1
  have h2 : 2 ^ (n * p.length) ≤ 2 ^ (n * 61) := Nat.pow_le_pow_right (by decide) (Nat.mul_le_mul_left _ hl)
  have h3 : nrm p * 2 ^ (n * p.length) ≤ 2 ^ 3000 * 2 ^ (n * 61) := Nat.mul_le_mul (Nat.le_of_lt hp) h2
  rw [← Nat.pow_add] at h3
  have h4 : 2 ^ (3000 + n * 61) < 2 ^ (3000 + n * 61 + 1) := Nat.pow_lt_pow_right (by decide) (by omega)
  refine sz_divInt hd ?_ ?_
  · unfold Bd
    exact Nat.lt_of_le_of_lt h1 (Nat.lt_of_le_of_lt h3 h4)
  · refine (bd_pow hx.den (p.length - 1)).mono ?_
    have : n * (p.length - 1) ≤ n * 61 := Nat.mul_le_mul_left _ (by omega)
    omega
end K21

/-! a turn of the law -/
namespace K21
open PySem PySem.Spec PyProof.Rows L2 Fx Fx.RP
theorem callK3 {m : MF} {fa fb fc : EF} {env env1 env2 env3 : Sls} {a b c d e f r : T} {g : {α : Type} → List α → List α → List α} (h : fa env = some (a, env1)) (h2 : fb env1 = some (b, env2)) (h3 : fc env2 = some (c, env3)) (hg : g [] [Ar.v a, Ar.v b, Ar.v c] = [Ar.v d, Ar.v e, Ar.v f]) (hm : m [.val d, .val e, .val f] = some (r, [.val d, .val e, .val f])) : eCall m (xKw g xN (xV fa (xV fb (xV fc xN)))) env = some (r, env3) := by simp [h, h2, h3, hg, hm]
theorem qne_int {u v : Int} (h : u = v) : qNe (.int u) (.int v) = some (.bl false) := by subst h; simp [qNe]
theorem qne_pz {p q : List Int} (h : p = q) : qNe (pz p) (pz q) = some (.bl false) := by
  subst h
  show (Fx.eqT (pz p) (pz p)).map _ = _
  rw [eqT_tint]
  simp
theorem ix0 (q : Rat) : xIx (rt q) (.int 0) = some (.int q.num) := rfl
theorem ix1 (q : Rat) : xIx (rt q) (.int 1) = some (.int q.den) := rfl
theorem e__law_ratio_n {a b : Int} {n : Nat} (h0 : b ≠ 0) (hb : Bd n b) (hn : n < 9000) : m__law_ratio [vi a, vi b] = some (rt (Rat.divInt a b), [vi a, vi b]) := e__law_ratio h0 hb hn
/-- the slots in a turn -/
abbrev Ev (s0 : Sl) (P t F : T) (p : List Int) (a b x : Rat) (q : List Int) (y : Rat) (D : T) (m1 m2 m3 m4 s16 : Sl) : Sls := [s0, .own P, .val t, .val F, vp p, vr a, vr b, vr x, vp q, vr y, .val D, m1, m2, m3, m4, .un, s16]
section
variable {s0 : Sl} {P t F : T} {p : List Int} {a b x : Rat} {q : List Int} {y : Rat} {D : T} {m1 m2 m3 m4 s16 : Sl}
theorem mul_ix {i j : Nat} {env : Sls} {f : EF} {c d : Int} (h : f env = some (.int c, env)) (h2 : Fx.e2 xIx (eVar i) (eC (.int j)) env = some (.int d, env)) (hm : Fx.MulOk c d) : Fx.e2 oMul f (Fx.e2 xIx (eVar i) (eC (.int j))) env = some (.int (c * d), env) := e2_of h h2 (by simp [hm])
/-- one pair beside one -/
theorem b1_ok {M I O K : Rat} {n : Nat} (hM : Sz n M) (hI : Sz n I) (hO : Sz n O) (hK : Sz n K) (hn : n < 100000) (h : M.num * O.den * K.num * I.den = O.num * M.den * I.num * K.den) :
    b_law_1 (Ev s0 P t F p a b x q y D (vr M) (vr I) (vr O) (vr K) s16) = some (.nx, Ev s0 P t F p a b x q y D (vr M) (vr I) (vr O) (vr K) s16) := by
  have u1 := hM.num.mulOk hO.den (by omega)
  have u2 := (hM.num.mul hO.den).mulOk hK.num (by omega)
  have u3 := ((hM.num.mul hO.den).mul hK.num).mulOk hI.den (by omega)
  have w1 := hO.num.mulOk hM.den (by omega)
  have w2 := (hO.num.mul hM.den).mulOk hI.num (by omega)
  have w3 := ((hO.num.mul hM.den).mul hI.num).mulOk hK.den (by omega)
  exact go_on (tb1_of (e2_of
    (mul_ix (mul_ix (mul_ix (e2_of (var_of rfl) rfl (ix0 M)) (e2_of (var_of rfl) rfl (ix1 O)) u1) (e2_of (var_of rfl) rfl (ix0 K)) u2) (e2_of (var_of rfl) rfl (ix1 I)) u3)
    (mul_ix (mul_ix (mul_ix (e2_of (var_of rfl) rfl (ix0 O)) (e2_of (var_of rfl) rfl (ix1 M)) w1) (e2_of (var_of rfl) rfl (ix0 I)) w2) (e2_of (var_of rfl) rfl (ix1 K)) w3)
    (qne_int h)))
/-- what is said at a ratio -/
def pr (a b : Rat) (p : List Int) (y : Rat) : T := .tup [rt (evq y (sh a b p)), rt (evq (a + b * y) p)]
theorem b2_loop {n : Nat} {M : Rat} (hn : n < 100000) (hM : Sz n (evq M (sh a b p))) (hI : Sz n (evq (a + b * M) p)) : ∀ (zs : List Rat) (m3 m4 : Sl), Pl m3 → Pl m4 → (∀ z ∈ zs, Sz n (evq z (sh a b p)) ∧ Sz n (evq (a + b * z) p)) →
    ∃ m3' m4', Pl m3' ∧ Pl m4' ∧ forL (.tup [.nm 13, .nm 14]) b_law_1 (zs.map (pr a b p)) (Ev s0 P t F p a b x q y D (vr (evq M (sh a b p))) (vr (evq (a + b * M) p)) m3 m4 s16) = some (.nx, Ev s0 P t F p a b x q y D (vr (evq M (sh a b p))) (vr (evq (a + b * M) p)) m3' m4' s16)
  | [], m3, m4, h3, h4, _ => ⟨m3, m4, h3, h4, rfl⟩
  | z :: zs, m3, m4, h3, h4, h => by
    obtain ⟨g1, g2⟩ := h z List.mem_cons_self
    obtain ⟨m3', m4', k3, k4, e⟩ := b2_loop hn hM hI zs (vr (evq z (sh a b p))) (vr (evq (a + b * z) p)) (pl_val _) (pl_val _) fun w hw => h w (List.mem_cons_of_mem _ hw)
    refine ⟨m3', m4', k3, k4, forL_step ?_ (b1_ok hM hI g1 g2 hn (cross a b p M z)) e⟩
    rcases h3 with rfl | ⟨_, rfl⟩ <;> rcases h4 with rfl | ⟨_, rfl⟩ <;> rfl
theorem b3_loop {n : Nat} (hn : n < 100000) {all : List Rat} (ha : ∀ z ∈ all, Sz n (evq z (sh a b p)) ∧ Sz n (evq (a + b * z) p)) : ∀ (ys : List Rat) (m1 m2 m3 m4 : Sl), Pl m1 → Pl m2 → Pl m3 → Pl m4 → (∀ z ∈ ys, Sz n (evq z (sh a b p)) ∧ Sz n (evq (a + b * z) p)) →
    ∃ m1' m2' m3' m4', Pl m1' ∧ Pl m2' ∧ Pl m3' ∧ Pl m4' ∧ forL (.tup [.nm 11, .nm 12]) b_law_2 (ys.map (pr a b p)) (Ev s0 P t F p a b x q y (.lst (all.map (pr a b p))) m1 m2 m3 m4 s16) = some (.nx, Ev s0 P t F p a b x q y (.lst (all.map (pr a b p))) m1' m2' m3' m4' s16)
  | [], m1, m2, m3, m4, h1, h2, h3, h4, _ => ⟨m1, m2, m3, m4, h1, h2, h3, h4, rfl⟩
  | z :: ys, m1, m2, m3, m4, h1, h2, h3, h4, h => by
    obtain ⟨g1, g2⟩ := h z List.mem_cons_self
    obtain ⟨m3', m4', k3, k4, e⟩ := b2_loop (s0 := s0) (P := P) (t := t) (F := F) (x := x) (q := q) (y := y) (D := .lst (all.map (pr a b p))) (s16 := s16) hn g1 g2 all m3 m4 h3 h4 ha
    obtain ⟨m1', m2', n3, n4, j1, j2, j3, j4, e2⟩ := b3_loop hn ha ys (vr (evq z (sh a b p))) (vr (evq (a + b * z) p)) m3' m4' (pl_val _) (pl_val _) k3 k4 fun w hw => h w (List.mem_cons_of_mem _ hw)
    refine ⟨m1', m2', n3, n4, j1, j2, j3, j4, forL_step (e1 := Ev s0 P t F p a b x q y (.lst (all.map (pr a b p))) (vr (evq z (sh a b p))) (vr (evq (a + b * z) p)) m3 m4 s16) ?_ ?_ e2⟩
    · rcases h1 with rfl | ⟨_, rfl⟩ <;> rcases h2 with rfl | ⟨_, rfl⟩ <;> rfl
    · unfold b_law_2
      rw [sFor_of (ts := all.map (pr a b p)) (env1 := Ev s0 P t F p a b x q y (.lst (all.map (pr a b p))) (vr (evq z (sh a b p))) (vr (evq (a + b * z) p)) m3 m4 s16) rfl]
      exact e
/-- where a ratio is led -/
theorem led {env : Sls} {i : Nat} {z : Rat} (h5 : env[5]? = some (vr a)) (h6 : env[6]? = some (vr b)) (hi : env[i]? = some (vr z)) (ha : Sz 5 a) (hb : Sz 5 b) (hz : Sz 5 z) :
    eCall m__law_ratio (xDef [] (xV (Fx.e2 oAdd (Fx.e2 oMul (Fx.e2 oMul (Fx.e2 xIx (eVar 5) (eC (.int 0))) (Fx.e2 xIx (eVar 6) (eC (.int 1)))) (Fx.e2 xIx (eVar i) (eC (.int 1)))) (Fx.e2 oMul (Fx.e2 oMul (Fx.e2 xIx (eVar 6) (eC (.int 0))) (Fx.e2 xIx (eVar i) (eC (.int 0)))) (Fx.e2 xIx (eVar 5) (eC (.int 1))))) (xV (Fx.e2 oMul (Fx.e2 oMul (Fx.e2 xIx (eVar 5) (eC (.int 1))) (Fx.e2 xIx (eVar 6) (eC (.int 1)))) (Fx.e2 xIx (eVar i) (eC (.int 1)))) xN))) env = some (rt (a + b * z), env) := by
  have u1 := ha.num.mulOk hb.den (by omega)
  have u2 := (ha.num.mul hb.den).mulOk hz.den (by omega)
  have w1 := hb.num.mulOk hz.num (by omega)
  have w2 := (hb.num.mul hz.num).mulOk ha.den (by omega)
  have r1 := ha.den.mulOk hb.den (by omega)
  have r2 := (ha.den.mul hb.den).mulOk hz.den (by omega)
  have e := e__law_ratio_n (a := a.num * b.den * z.den + b.num * z.num * a.den) (Int.mul_ne_zero (Int.mul_ne_zero (den_ne a) (den_ne b)) (den_ne z)) ((ha.den.mul hb.den).mul hz.den) (by decide)
  rw [there_eq] at e
  refine call2 (e2_of (mul_ix (mul_ix (e2_of (var_of h5) rfl (ix0 a)) (e2_of (var_of h6) rfl (ix1 b)) u1) (e2_of (var_of hi) rfl (ix1 z)) u2) (mul_ix (mul_ix (e2_of (var_of h6) rfl (ix0 b)) (e2_of (var_of hi) rfl (ix0 z)) w1) (e2_of (var_of h5) rfl (ix1 a)) w2) rfl) (mul_ix (mul_ix (e2_of (var_of h5) rfl (ix1 a)) (e2_of (var_of h6) rfl (ix1 b)) r1) (e2_of (var_of hi) rfl (ix1 z)) r2) e
theorem sz_led {z : Rat} (ha : Sz 5 a) (hb : Sz 5 b) (hz : Sz 5 z) : Sz 60 (a + b * z) := by
  rw [← there_eq]
  refine sz_divInt (Int.mul_ne_zero (Int.mul_ne_zero (den_ne a) (den_ne b)) (den_ne z)) (Bd.mono ?_ (show 16 ≤ 60 by decide)) (((ha.den.mul hb.den).mul hz.den).mono (by decide))
  exact ((ha.num.mul hb.den).mul hz.den).add ((hb.num.mul hz.num).mul ha.den)
end
/-- what is known of a turn's polynomials -/
structure Kn (p : List Int) (a b : Rat) : Prop where
  p : Pm p
  a : Sz 5 a
  b : Sz 5 b
theorem Kn.lt {p : List Int} {a b : Rat} (h : Kn p a b) : nrm (sh a b p) < 2 ^ 400 := by
  have h1 := nrm_sh h.a h.b p
  have l := h.p.len
  have h2 : 2 ^ ((2 * 5 + 1) * p.length) ≤ 2 ^ 319 := Nat.pow_le_pow_right (by decide) (by omega)
  have h3 := Nat.mul_le_mul (Nat.le_of_lt h.p.nrm) h2
  rw [← Nat.pow_add] at h3
  exact Nat.lt_of_le_of_lt (Nat.le_trans h1 h3) (Nat.pow_lt_pow_right (by decide) (by decide))
theorem Kn.len {p : List Int} {a b : Rat} (h : Kn p a b) : (sh a b p).length ≤ 29 := Nat.le_trans (len_sh a b p) h.p.len
theorem lt3000 {n m : Nat} (h : n < 2 ^ m) (hm : m ≤ 3000) : n < 2 ^ 3000 := Nat.lt_of_lt_of_le h (Nat.pow_le_pow_right (by decide) hm)
theorem bd3000 {p : List Int} (h : nrm p < 2 ^ 3000) : ∀ c ∈ p, Bd 3000 c := bd_nrm h
theorem Kn.sz {p : List Int} {a b : Rat} (h : Kn p a b) {z : Rat} (hz : Sz 5 z) : Sz 6661 (evq z (sh a b p)) ∧ Sz 6661 (evq (a + b * z) p) := by
  have l := h.p.len
  have l2 := h.len
  have w := sz_evq (p := sh a b p) (n := 60) ⟨hz.num.mono (by decide), hz.den.mono (by decide)⟩ (lt3000 h.lt (by decide)) (by omega)
  have w2 := sz_evq (p := p) (n := 60) (sz_led h.a h.b hz) (lt3000 h.p.nrm (by decide)) (by omega)
  exact ⟨w, w2⟩
theorem lc_said {s0 : Sl} {P t F : T} {p : List Int} {a b x y : Rat} {D m1 m2 m3 m4 : Sl} (kn : Kn p a b) : ∀ ys : List Rat, (∀ z ∈ ys, Sz 5 z) →
    lcL (.nm 16) tYesF c_law_1 [16] (ys.map rt) [s0, .own P, .val t, .val F, vp p, vr a, vr b, vr x, vp (sh a b p), vr y, D, m1, m2, m3, m4, .un, .un] = some (ys.map (pr a b p), [s0, .own P, .val t, .val F, vp p, vr a, vr b, vr x, vp (sh a b p), vr y, D, m1, m2, m3, m4, .un, .un])
  | [], _ => rfl
  | z :: ys, h => by
    have ih := lc_said (s0 := s0) (P := P) (t := t) (F := F) (x := x) (y := y) (D := D) (m1 := m1) (m2 := m2) (m3 := m3) (m4 := m4) kn ys fun w hw => h w (List.mem_cons_of_mem _ hw)
    have hz := h z List.mem_cons_self
    have l := kn.p.len
    have l2 := kn.len
    have ok1 : ∀ s : T, m_need_poly [.val (pz p), .val s] = some (pz p, [.val (pz p), .val s]) := e_need_poly_t kn.p.tr (by omega)
    have ok2 : ∀ s : T, m_need_poly [.val (pz (sh a b p)), .val s] = some (pz (sh a b p), [.val (pz (sh a b p)), .val s]) := e_need_poly_t (tr_sh a b p) (by omega)
    have v1 := e_value ok2 (x := z) ⟨hz.num.mono (by decide), hz.den.mono (by decide)⟩ (bd3000 (lt3000 kn.lt (by decide))) (by omega)
    have v2 := e_value ok1 (x := a + b * z) (sz_led kn.a kn.b hz) (bd3000 (lt3000 kn.p.nrm (by decide))) (by omega)
    have e : c_law_1 [s0, .own P, .val t, .val F, vp p, vr a, vr b, vr x, vp (sh a b p), vr y, D, m1, m2, m3, m4, .un, vr z] = some (pr a b p z, [s0, .own P, .val t, .val F, vp p, vr a, vr b, vr x, vp (sh a b p), vr y, D, m1, m2, m3, m4, .un, vr z]) :=
      eN_of (aC_of (call2 (var_of rfl) (var_of rfl) v1) (aC_one (call2 (var_of rfl) (led rfl rfl rfl kn.a kn.b hz) v2))) rfl
    rw [List.map_cons, List.map_cons]
    exact lcL_step rfl e rfl ih
end K21

/-! a turn of the law, whole -/
namespace K21
open PySem PySem.Spec PyProof.Rows L2 Fx Fx.RP
theorem eIf_T {c : BF} {f g : EF} {env env1 : Sls} (h : c env = some (true, env1)) : eIf c f g env = f env1 := by simp [h]
theorem eIf_F {c : BF} {f g : EF} {env env1 : Sls} (h : c env = some (false, env1)) : eIf c f g env = g env1 := by simp [h]
def q71 : Rat := ⟨7, 1, by decide, by decide⟩
def q32 : Rat := ⟨-3, 2, by decide, by decide⟩
def q19 : Rat := ⟨1, 9, by decide, by decide⟩
def q11 : Rat := ⟨1, 1, by decide, by decide⟩
def qm1 : Rat := ⟨-1, 1, by decide, by decide⟩
def q12 : Rat := ⟨1, 2, by decide, by decide⟩
theorem q11_one : q11 = 1 := rfl
theorem sz_q {q : Rat} (h : q.num.natAbs < 32 ∧ q.den < 32) : Sz 5 q := ⟨by unfold Bd; omega, by unfold Bd; omega⟩
theorem nin01 {n : Nat} (h : n ≤ 1) : qNin (.int n) (.tup [.int 0, .int 1]) = some (.bl false) := by
  rcases Nat.lt_or_ge n 1 with h0 | h0
  · have : n = 0 := by omega
    subst this
    rfl
  · have : n = 1 := by omega
    subst this
    rfl
/-- the calls of a turn, each with what it gives -/
structure Calls (p : List Int) (a b x : Rat) : Prop where
  s1 : m_shifted [vp p, vr a, vr b] = some (pz (sh a b p), [vp p, vr a, vr b])
  s2 : m_shifted [vl p, vr a, vr b] = some (pz (sh a b p), [vl p, vr a, vr b])
  co : m__law_content [vp (sh a b p)] = some (.int (cont (sh a b p)), [vp (sh a b p)])
  g1 : m_sign_at_ratio [vp (sh a b p), vr x] = some (.int (sgq (evq x (sh a b p))), [vp (sh a b p), vr x])
  g2 : m_sign_at_ratio [vp p, vr (a + b * x)] = some (.int (sgq (evq (a + b * x) p)), [vp p, vr (a + b * x)])
  cl : m__law_clear [vp p] = some (pz (clr p), [vp p])
  s3 : b.num ≠ 0 → m_shifted [vp (sh a b p), vr (Rat.divInt (0 - a.num * b.den) (a.den * b.num)), vr (Rat.divInt b.den b.num)] = some (pz (clr p), [vp (sh a b p), vr (Rat.divInt (0 - a.num * b.den) (a.den * b.num)), vr (Rat.divInt b.den b.num)])
  r1 : b.num ≠ 0 → m__law_ratio [vi (0 - a.num * b.den), vi (a.den * b.num)] = some (rt (Rat.divInt (0 - a.num * b.den) (a.den * b.num)), [vi (0 - a.num * b.den), vi (a.den * b.num)])
  r2 : b.num ≠ 0 → m__law_ratio [vi b.den, vi b.num] = some (rt (Rat.divInt b.den b.num), [vi b.den, vi b.num])
  s4 : m_shifted [vp p, vr 0, vr 1] = some (pz (clr p), [vp p, vr 0, vr 1])
  s5 : m_shifted [vp [], vr a, vr b] = some (pz [], [vp [], vr a, vr b])
  s6 : m_shifted [vp [4], vr a, vr b] = some (pz [1], [vp [4], vr a, vr b])
  p1 : m_product [vp p, vp p] = some (pz (mul p p), [vp p, vp p])
  p2 : m_product [vp (sh a b p), vp (sh a b p)] = some (pz (mul (sh a b p) (sh a b p)), [vp (sh a b p), vp (sh a b p)])
  s7 : m_shifted [vp (mul p p), vr a, vr b] = some (pz (mul (sh a b p) (sh a b p)), [vp (mul p p), vr a, vr b])
theorem need_t {p : List Int} (h : Tr p) (l : p.length ≤ 61) : ∀ s : T, m_need_poly [.val (pz p), .val s] = some (pz p, [.val (pz p), .val s]) := e_need_poly_t h l
theorem need_l {p : List Int} (h : Tr p) (l : p.length ≤ 61) : ∀ s : T, m_need_poly [.val (.lst (is p)), .val s] = some (pz p, [.val (.lst (is p)), .val s]) := e_need_poly_l h l
theorem Sz.up {n m : Nat} {q : Rat} (h : Sz n q) (l : n ≤ m) : Sz m q := ⟨h.num.mono l, h.den.mono l⟩
theorem calls {p : List Int} {a b x : Rat} (kn : Kn p a b) (hx : Sz 5 x) : Calls p a b x := by
  have l := kn.p.len
  have l2 := kn.len
  have tp := kn.p.tr
  have ts := tr_sh a b p
  have a14 := Sz.up kn.a (show 5 ≤ 14 by decide)
  have b14 := Sz.up kn.b (show 5 ≤ 14 by decide)
  have np := lt3000 kn.p.nrm (by decide)
  have ns := lt3000 kn.lt (by decide)
  have lm := len_mul p p
  have nm : nrm (mul p p) < 2 ^ 160 := by
    have h1 := nrm_mul p p
    have h2 := Nat.mul_lt_mul'' kn.p.nrm kn.p.nrm
    rw [← Nat.pow_add] at h2
    exact Nat.lt_of_le_of_lt h1 h2
  have mp : ∀ c ∈ p, ∀ z ∈ p, Fx.MulOk c z := fun c hc z hz => (bd_nrm kn.p.nrm c hc).mulOk (bd_nrm kn.p.nrm z hz) (by decide)
  have ms : ∀ c ∈ sh a b p, ∀ z ∈ sh a b p, Fx.MulOk c z := fun c hc z hz => (bd_nrm kn.lt c hc).mulOk (bd_nrm kn.lt z hz) (by decide)
  have sz1 : b.num ≠ 0 → Sz 14 (Rat.divInt (0 - a.num * b.den) (a.den * b.num)) := fun h => sz_divInt (Int.mul_ne_zero (den_ne a) h) (by rw [Int.zero_sub]; exact (kn.a.num.mul kn.b.den).neg.mono (by decide)) ((kn.a.den.mul kn.b.num).mono (by decide))
  have sz2 : b.num ≠ 0 → Sz 14 (Rat.divInt b.den b.num) := fun h => sz_divInt h (kn.b.den.mono (by decide)) (kn.b.num.mono (by decide))
  constructor
  · exact e_shifted (need_t tp (by omega)) a14 b14 np (by omega)
  · exact e_shifted (need_l tp (by omega)) a14 b14 np (by omega)
  · exact e__law_content (fun c hc => (bd_nrm kn.lt c hc).mono (by decide))
  · exact e_sar (need_t ts (by omega)) (Sz.up hx (by decide)) (bd3000 ns) (by omega)
  · exact e_sar (need_t tp (by omega)) (sz_led kn.a kn.b hx) (bd3000 np) (by omega)
  · exact e__law_clear (by omega) (fun c hc => (bd_nrm kn.p.nrm c hc).mono (by decide)) ((bd_cont kn.p.nrm).mono (by decide))
  · intro h
    have e := e_shifted (need_t ts (by omega)) (sz1 h) (sz2 h) ns (by omega)
    rw [moved_back a b h tp] at e
    exact e
  · intro h
    exact e__law_ratio (Int.mul_ne_zero (den_ne a) h) (kn.a.den.mul kn.b.num) (by decide)
  · intro h
    exact e__law_ratio h kn.b.num (by decide)
  · have e := e_shifted (a := 0) (b := 1) (need_t tp (by omega)) (Sz.up (sz_q (by decide)) (by decide)) (Sz.up (sz_q (by decide)) (by decide)) np (by omega)
    rw [not_moved tp] at e
    exact e
  · exact e_shifted (p := []) (need_t tr_nil (by decide)) a14 b14 (lt3000 (m := 1) (by decide) (by decide)) (by decide)
  · have e := e_shifted (p := [4]) (need_t (fun _ => by simp) (by decide)) a14 b14 (lt3000 (m := 4) (by decide) (by decide)) (by decide)
    rw [sh_four] at e
    exact e
  · exact (e_product tp tp (by omega) (by omega) mp).1
  · exact (e_product ts ts (by omega) (by omega) ms).1
  · have e := e_shifted (p := mul p p) (need_t (tr_mul tp tp) (by omega)) a14 b14 (lt3000 nm (by decide)) (by omega)
    rw [sh_square a b tp] at e
    exact e
theorem e_turn {s0 m1 m2 m3 m4 : Sl} {P : T} {k : Int} (h : Pen k P) (hk : k < 500000) (h1 : Pl m1) (h2 : Pl m2) (h3 : Pl m3) (h4 : Pl m4) (t : T) : ∃ P' F p a b x q y D m1' m2' m3' m4',
    b_law_3 [s0, .own P, .val t, .un, .un, .un, .un, .un, .un, .un, .un, m1, m2, m3, m4, .un, .un] = some (.nx, Ev s0 P' t F p a b x q y D m1' m2' m3' m4' .un) ∧ Pen (k + 100) P' ∧ Pl m1' ∧ Pl m2' ∧ Pl m3' ∧ Pl m4' := by
  obtain ⟨fs, P1, e1, f1, fl, k1⟩ := e__law_factors h (by omega)
  obtain ⟨d, P2, e2, d0, d1, k2⟩ := e_draw k1 (by omega) (n := 2) (by decide) (by decide)
  -- the polynomial
  have hp : ∃ p P3, eIf (tB1 (Fx.e2 qEq (eCall m__law_draw (xDef [] (xIo 1 (xV (eC (.int 2)) xN)))) (eC (.int 0)))) (eCall m__law_made (xDef [] (xIo 1 (xV (eVar 3) xN)))) (eCall m__law_poly (xDef [] (xIo 1 (xV (eC (.int 7)) xN)))) [s0, .own P1, .val t, .val (.lst (fs.map ft)), .un, .un, .un, .un, .un, .un, .un, m1, m2, m3, m4, .un, .un] = some (pz p, [s0, .own P3, .val t, .val (.lst (fs.map ft)), .un, .un, .un, .un, .un, .un, .un, m1, m2, m3, m4, .un, .un]) ∧ Pm p ∧ Pen (k + 80) P3 := by
    by_cases c : d = 0
    · obtain ⟨p, P3, e3, y, k3⟩ := e__law_made k2 (by omega) f1 fl
      refine ⟨p, P3, ?_, y, k3.mono (by omega)⟩
      rw [eIf_T (env1 := [s0, .own P2, .val t, .val (.lst (fs.map ft)), .un, .un, .un, .un, .un, .un, .un, m1, m2, m3, m4, .un, .un]) (tb1_of (e2_of (callO1 rfl rfl rfl e2 rfl) rfl (by simp [c])))]
      exact callO1 rfl rfl rfl e3 rfl
    · obtain ⟨p, P3, e3, y, k3⟩ := e__law_poly k2 (by omega) (n := 7) (by decide)
      have e3 : m__law_poly [.io P2, vi 7] = some (pz p, [.io P3, vi 7]) := e3
      refine ⟨p, P3, ?_, y, k3.mono (by omega)⟩
      rw [eIf_F (env1 := [s0, .own P2, .val t, .val (.lst (fs.map ft)), .un, .un, .un, .un, .un, .un, .un, m1, m2, m3, m4, .un, .un]) (tb1_of (e2_of (callO1 rfl rfl rfl e2 rfl) rfl (by simp [c])))]
      exact callO1 rfl rfl rfl e3 rfl
  obtain ⟨p, P3, e3, y3, k3⟩ := hp
  obtain ⟨F, hF⟩ : ∃ F, F = T.lst (fs.map ft) := ⟨_, rfl⟩
  obtain ⟨a, P4, e4, y4, k4⟩ := e__law_x k3 (by omega)
  obtain ⟨x2, P5, e5, y5, k5⟩ := e__law_x k4 (by omega)
  obtain ⟨x3, P6, e6, y6, k6⟩ := e__law_x k5 (by omega)
  obtain ⟨X, P7, e7, hX, k7⟩ := e_pickF d_pick d_draw k6 (by omega) (xs := [rt x2, rt x3, .tup [.int 1, .int 1], .tup [.int (-1), .int 1], .tup [.int 1, .int 2]]) (by simp) (by simp)
  have hb : ∃ b : Rat, X = rt b ∧ Sz 5 b := by
    simp only [List.mem_cons, List.not_mem_nil, or_false] at hX
    rcases hX with rfl | rfl | rfl | rfl | rfl
    · exact ⟨x2, rfl, y5⟩
    · exact ⟨x3, rfl, y6⟩
    · exact ⟨q11, rfl, sz_q (by decide)⟩
    · exact ⟨qm1, rfl, sz_q (by decide)⟩
    · exact ⟨q12, rfl, sz_q (by decide)⟩
  obtain ⟨b, rfl, y7⟩ := hb
  obtain ⟨x, P8, e8, y8, k8⟩ := e__law_x k7 (by omega)
  have kn : Kn p a b := ⟨y3, y4, y7⟩
  have cs := calls kn y8
  have l := y3.len
  have l2 := kn.len
  -- the loops
  obtain ⟨all, hall⟩ : ∃ all : List Rat, all = [x, q71, q32, q19] := ⟨_, rfl⟩
  have szs : ∀ z ∈ all, Sz 5 z := by
    intro z hz
    rw [hall] at hz
    simp only [List.mem_cons, List.not_mem_nil, or_false] at hz
    rcases hz with rfl | rfl | rfl | rfl
    · exact y8
    · exact sz_q (by decide)
    · exact sz_q (by decide)
    · exact sz_q (by decide)
  have szl : ∀ z ∈ all, Sz 6661 (evq z (sh a b p)) ∧ Sz 6661 (evq (a + b * z) p) := fun z hz => kn.sz (szs z hz)
  obtain ⟨m1', m2', m3', m4', j1, j2, j3, j4, lo⟩ := b3_loop (s0 := s0) (P := P8) (t := t) (F := F) (x := x) (q := sh a b p) (y := a + b * x) (s16 := .un) (by decide) szl all m1 m2 m3 m4 h1 h2 h3 h4 szl
  have lc := lc_said (s0 := s0) (P := P8) (t := t) (F := F) (x := x) (y := a + b * x) (D := .un) (m1 := m1) (m2 := m2) (m3 := m3) (m4 := m4) kn all szs
  refine ⟨P8, F, p, a, b, x, sh a b p, a + b * x, .lst (all.map (pr a b p)), m1', m2', m3', m4', ?_, k8.mono (by omega), j1, j2, j3, j4⟩
  rw [b_law_3]
  rw [bSeq_nx (env1 := [s0, .own P1, .val t, .val F, .un, .un, .un, .un, .un, .un, .un, m1, m2, m3, m4, .un, .un]) (asg_of (callO1 rfl rfl rfl e1 rfl) rfl (by rw [hF]; rfl))]
  rw [← hF] at e3
  rw [bSeq_nx (env1 := [s0, .own P3, .val t, .val F, vp p, .un, .un, .un, .un, .un, .un, m1, m2, m3, m4, .un, .un]) (asg_of e3 rfl rfl)]
  rw [bSeq_nx (env1 := [s0, .own P8, .val t, .val F, vp p, vr a, vr b, vr x, .un, .un, .un, m1, m2, m3, m4, .un, .un])]
  rotate_left
  · unfold sAsg
    rw [eN_of (env1 := [s0, .own P8, .val t, .val F, vp p, .un, .un, .un, .un, .un, .un, m1, m2, m3, m4, .un, .un]) (aC_of (t := rt a) (callO0 rfl e4 rfl) (aC_of (t := rt b) (callO1 rfl (eN_of (aC_of (callO0 rfl e5 rfl) (aC_of (callO0 rfl e6 rfl) (aC_of rfl (aC_of rfl (aC_one rfl))))) rfl) rfl e7 rfl) (aC_one (t := rt x) (callO0 rfl e8 rfl)))) rfl]
    rfl
  rw [bSeq_nx (env1 := [s0, .own P8, .val t, .val F, vp p, vr a, vr b, vr x, vp (sh a b p), .un, .un, m1, m2, m3, m4, .un, .un]) (asg_of (call3 (var_of rfl) (var_of rfl) (var_of rfl) cs.s1) rfl rfl)]
  obtain ⟨E, hE⟩ : ∃ E : Sls, E = [s0, .own P8, .val t, .val F, vp p, vr a, vr b, vr x, vp (sh a b p), vr (a + b * x), .un, m1, m2, m3, m4, .un, .un] := ⟨_, rfl⟩
  rw [bSeq_nx (env1 := E) (asg_of (led (i := 7) rfl rfl rfl y4 y7 y8) rfl (by rw [hE]; rfl))]
  rw [bSeq_nx (env1 := E)]
  rotate_left
  · have v4 : eVar 4 E = some (pz p, E) := by rw [hE]; rfl
    have v5 : eVar 5 E = some (rt a, E) := by rw [hE]; rfl
    have v6 : eVar 6 E = some (rt b, E) := by rw [hE]; rfl
    have v7 : eVar 7 E = some (rt x, E) := by rw [hE]; rfl
    have v8 : eVar 8 E = some (pz (sh a b p), E) := by rw [hE]; rfl
    have v9 : eVar 9 E = some (rt (a + b * x), E) := by rw [hE]; rfl
    have w4 : eN bList (aC (eVar 4) aN) E = some (.lst (is p), E) := eN_of (aC_one v4) rfl
    exact go_on (bOr_F (tb1_of (e2_of (callK3 v6 v5 w4 rfl cs.s2) v8 (qne_pz rfl))) (bOr_F (tb1_of (e2_of (call1 v8 cs.co) (eN_of (aC_of rfl (aC_one rfl)) rfl) (nin01 (cont_sh a b p)))) (tb1_of (e2_of (call2 v8 v7 cs.g1) (call2 v4 v9 cs.g2) (qne_int (sgn_sh a b x p))))))
  subst hE
  rw [bSeq_nx (env1 := Ev s0 P8 t F p a b x (sh a b p) (a + b * x) (.lst (all.map (pr a b p))) m1 m2 m3 m4 .un)]
  rotate_left
  · refine asg_of (eLc_of (ts := all.map rt) (e1 := [s0, .own P8, .val t, .val F, vp p, vr a, vr b, vr x, vp (sh a b p), vr (a + b * x), .un, m1, m2, m3, m4, .un, .un]) ?_ rfl (by rw [hall]; exact Nat.le_of_ble_eq_true rfl) lc) rfl rfl
    rw [hall]
    rfl
  rw [bSeq_nx (env1 := Ev s0 P8 t F p a b x (sh a b p) (a + b * x) (.lst (all.map (pr a b p))) m1' m2' m3' m4' .un)]
  rotate_left
  · rw [sFor_of (ts := all.map (pr a b p)) (env1 := Ev s0 P8 t F p a b x (sh a b p) (a + b * x) (.lst (all.map (pr a b p))) m1 m2 m3 m4 .un) rfl]
    exact lo
  obtain ⟨E, hE⟩ : ∃ E : Sls, E = Ev s0 P8 t F p a b x (sh a b p) (a + b * x) (.lst (all.map (pr a b p))) m1' m2' m3' m4' .un := ⟨_, rfl⟩
  rw [← hE]
  have v4 : eVar 4 E = some (pz p, E) := by rw [hE]; rfl
  have v5 : eVar 5 E = some (rt a, E) := by rw [hE]; rfl
  have v6 : eVar 6 E = some (rt b, E) := by rw [hE]; rfl
  have v8 : eVar 8 E = some (pz (sh a b p), E) := by rw [hE]; rfl
  have a0 : Fx.e2 xIx (eVar 5) (eC (.int 0)) E = some (.int a.num, E) := e2_of v5 rfl (ix0 a)
  have a1 : Fx.e2 xIx (eVar 5) (eC (.int 1)) E = some (.int a.den, E) := e2_of v5 rfl (ix1 a)
  have b0 : Fx.e2 xIx (eVar 6) (eC (.int 0)) E = some (.int b.num, E) := e2_of v6 rfl (ix0 b)
  have b1 : Fx.e2 xIx (eVar 6) (eC (.int 1)) E = some (.int b.den, E) := e2_of v6 rfl (ix1 b)
  rw [bSeq_nx (env1 := E)]
  rotate_left
  · by_cases c : b.num = 0
    · exact go_on (bAnd_F (tb1_of (e2_of b0 rfl (qne_int c))))
    · have u1 := y4.num.mulOk y7.den (by omega)
      have u2 := y4.den.mulOk y7.num (by omega)
      refine go_on (bAnd_T (tb1_of (e2_of b0 rfl (w := .bl true) (by simp [qNe, c]))) (tb1_of (e2_of (call3 v8 (call2 (e2_of rfl (e2_of a0 b1 (w := .int (a.num * b.den)) (by simp [u1])) rfl) (e2_of a1 b0 (w := .int (a.den * b.num)) (by simp [u2])) (cs.r1 c)) (call2 b1 b0 (cs.r2 c)) (cs.s3 c)) (call1 v4 cs.cl) (qne_pz rfl))))
  rw [bSeq_nx (env1 := E)]
  rotate_left
  · exact go_on (bOr_F (tb1_of (e2_of (call3 v4 (b := rt 0) (eN_of (aC_of rfl (aC_one rfl)) rfl) (c := rt 1) (eN_of (aC_of rfl (aC_one rfl)) rfl) cs.s4) (call1 v4 cs.cl) (qne_pz rfl)))
      (bOr_F (tb1_of (e2_of (call3 (a := pz []) rfl v5 v6 cs.s5) rfl (qne_pz (p := []) rfl))) (tb1_of (e2_of (call3 (a := pz [4]) (eN_of (aC_one rfl) rfl) v5 v6 cs.s6) (eN_of (aC_one rfl) rfl) (qne_pz (p := [1]) rfl)))))
  exact go_on (tb1_of (e2_of (call3 (call2 v4 v4 cs.p1) v5 v6 cs.s7) (call2 v8 v8 cs.p2) (qne_pz rfl)))
end K21

namespace K21
open PySem PySem.Spec PyProof.Rows L2 Fx Fx.RP
abbrev Vs : List Nat := [2, 3, 4, 5, 6, 7, 8, 9, 10, 16]
abbrev Bs (s0 : Sl) (P : T) (m1 m2 m3 m4 : Sl) : Sls := [s0, .own P, .un, .un, .un, .un, .un, .un, .un, .un, .un, m1, m2, m3, m4, .un, .un]
theorem e_turns {s0 : Sl} : ∀ (ts : List T) (P : T) (k : Int) (env : Sls) (m1 m2 m3 m4 : Sl), Pl m1 → Pl m2 → Pl m3 → Pl m4 → Pen k P → k + 100 * ts.length < 400000 → noIo env Vs = true →
    wipeE env Vs = Bs s0 P m1 m2 m3 m4 → ∃ P' m1' m2' m3' m4', forLR Vs (.nm 2) b_law_3 ts env = some (.nx, Bs s0 P' m1' m2' m3' m4')
  | [], P, k, env, m1, m2, m3, m4, _, _, _, _, h, hk, n, w => ⟨P, m1, m2, m3, m4, forLR_end n w⟩
  | t :: ts, P, k, env, m1, m2, m3, m4, h1, h2, h3, h4, h, hk, n, w => by
    simp only [List.length_cons] at hk
    obtain ⟨P', F, p, a, b, x, q, y, D, a1, a2, a3, a4, e, h', g1, g2, g3, g4⟩ := e_turn (s0 := s0) h (by omega) h1 h2 h3 h4 t
    obtain ⟨P2, c1, c2, c3, c4, e2⟩ := e_turns (s0 := s0) ts P' (k + 100) (Ev s0 P' t F p a b x q y D a1 a2 a3 a4 .un) a1 a2 a3 a4 g1 g2 g3 g4 h' (by omega) rfl rfl
    refine ⟨P2, c1, c2, c3, c4, ?_⟩
    refine forLR_step n ?_ e e2
    rw [w]
    rfl
def q13 : Rat := ⟨1, 3, by decide, by decide⟩
theorem eAnd_T {f g : EF} {env env1 env2 : Sls} {r : T} (h : f env = some (.bl true, env1)) (h2 : g env1 = some (r, env2)) : eAnd f g env = some (r, env2) := by simp [h, h2]
theorem qeq_pz {p q : List Int} (h : p = q) : qEq (pz p) (pz q) = some (.bl true) := by
  subst h
  show (Fx.eqT (pz p) (pz p)).map _ = _
  rw [eqT_tint]
  simp
theorem known {p r : List Int} {a b : Rat} (hp : Tr p) (hl : p.length ≤ 61) (hn : nrm p < 2 ^ 60) (ha : a.num.natAbs < 32 ∧ a.den < 32) (hb : b.num.natAbs < 32 ∧ b.den < 32) (h : sh a b p = r) : m_shifted [vp p, vr a, vr b] = some (pz r, [vp p, vr a, vr b]) := by
  have e := e_shifted (need_t hp hl) (Sz.up (sz_q ha) (by decide)) (Sz.up (sz_q hb) (by decide)) (lt3000 hn (by decide)) hl
  rw [h] at e
  exact e
theorem known1 : m_shifted [vp [0, 0, 0, 8], vr 0, vr q12] = some (pz [0, 0, 0, 1], [vp [0, 0, 0, 8], vr 0, vr q12]) := known (fun _ => by simp) (by decide) (by decide) (by decide) (by decide) (by decide +kernel)
theorem known2 : m_shifted [vp [1, -2, 1], vr q11, vr qm1] = some (pz [0, 0, 1], [vp [1, -2, 1], vr q11, vr qm1]) := known (fun _ => by simp) (by decide) (by decide) (by decide) (by decide) (by decide +kernel)
theorem known3 : m_shifted [vp [-1, 1], vr q13, vr 0] = some (pz [-1], [vp [-1, 1], vr q13, vr 0]) := known (fun _ => by simp) (by decide) (by decide) (by decide) (by decide) (by decide +kernel)
theorem known4 : m_shifted [vp [-1, 3], vr q13, vr 0] = some (pz [], [vp [-1, 3], vr q13, vr 0]) := known (fun _ => by simp) (by decide) (by decide) (by decide) (by decide) (by decide +kernel)
theorem law_true : ∀ ns : List Int, ns.length ≤ 63 → ∃ sls', m_law [.val (.lsf (ns.map Fx.T.int))] = some (.bl true, sls') := by
  intro ns hl
  obtain ⟨P, e1, h1⟩ := e_penF d_pen ns hl
  have e3 : (Fx.rangeT 0 8).length = 8 := by decide
  obtain ⟨P', m1, m2, m3, m4, e2⟩ := e_turns (s0 := .val (.lsf (ns.map T.int))) (Fx.rangeT 0 8) P 0 (Bs (.val (.lsf (ns.map T.int))) P .un .un .un .un) .un .un .un .un pl_un pl_un pl_un pl_un h1 (by rw [e3]; decide) rfl rfl
  refine ⟨[.val (.lsf (ns.map T.int))], runF_ret (env1 := [.val (.lsf (ns.map T.int)), .own P', .un, .un, .un, .un, .un, .un, .un, .un, .un, m1, m2, m3, m4, vp [0, 0, 0, 1], .un]) ?_ rfl⟩
  rw [g_law]
  rw [bSeq_nx (env1 := Bs (.val (.lsf (ns.map T.int))) P .un .un .un .un) (by simp [e1])]
  rw [bSeq_nx (env1 := Bs (.val (.lsf (ns.map T.int))) P' m1 m2 m3 m4)]
  rotate_left
  · unfold sForR
    have e0 : itRange1 (aC (eC (.int 8)) aN) (Bs (.val (.lsf (ns.map T.int))) P .un .un .un .un) = some (Fx.rangeT 0 8, Bs (.val (.lsf (ns.map T.int))) P .un .un .un .un) := by simp
    rw [e0, Option.bind_some]
    exact e2
  rw [bSeq_nx (env1 := [.val (.lsf (ns.map T.int)), .own P', .un, .un, .un, .un, .un, .un, .un, .un, .un, m1, m2, m3, m4, vp [0, 0, 0, 1], .un]) (asg_of (call3 (a := pz [0, 0, 0, 8]) (b := rt 0) (c := rt q12) (eN_of (aC_of rfl (aC_of rfl (aC_of rfl (aC_one rfl)))) rfl) (eN_of (aC_of rfl (aC_one rfl)) rfl) (eN_of (aC_of rfl (aC_one rfl)) rfl) known1) rfl rfl)]
  obtain ⟨E, hE⟩ : ∃ E : Sls, E = [.val (.lsf (ns.map T.int)), .own P', .un, .un, .un, .un, .un, .un, .un, .un, .un, m1, m2, m3, m4, vp [0, 0, 0, 1], .un] := ⟨_, rfl⟩
  rw [← hE]
  have v : eVar 15 E = some (pz [0, 0, 0, 1], E) := by rw [hE]; rfl
  have t := eAnd_T (e2_of v (eN_of (g := dTup) (w := pz [0, 0, 0, 1]) (aC_of (f := eC (.int 0)) rfl (aC_of (f := eC (.int 0)) rfl (aC_of (f := eC (.int 0)) rfl (aC_one (f := eC (.int 1)) rfl)))) rfl) (qeq_pz rfl))
    (eAnd_T (e2_of (call3 (a := pz [1, -2, 1]) (b := rt q11) (c := rt qm1) (eN_of (g := dTup) (aC_of (f := eC (.int 1)) rfl (aC_of (f := Fx.e1 nNeg (eC (.int 2))) rfl (aC_one (f := eC (.int 1)) rfl))) rfl) (eN_of (g := dTup) (aC_of (f := eC (.int 1)) rfl (aC_one (f := eC (.int 1)) rfl)) rfl) (eN_of (g := dTup) (aC_of (f := Fx.e1 nNeg (eC (.int 1))) rfl (aC_one (f := eC (.int 1)) rfl)) rfl) known2) (eN_of (g := dTup) (w := pz [0, 0, 1]) (aC_of (f := eC (.int 0)) rfl (aC_of (f := eC (.int 0)) rfl (aC_one (f := eC (.int 1)) rfl))) rfl) (qeq_pz rfl))
    (eAnd_T (e2_of (call3 (a := pz [-1, 1]) (b := rt q13) (c := rt 0) (eN_of (g := dTup) (aC_of (f := Fx.e1 nNeg (eC (.int 1))) rfl (aC_one (f := eC (.int 1)) rfl)) rfl) (eN_of (g := dTup) (aC_of (f := eC (.int 1)) rfl (aC_one (f := eC (.int 3)) rfl)) rfl) (eN_of (g := dTup) (aC_of (f := eC (.int 0)) rfl (aC_one (f := eC (.int 1)) rfl)) rfl) known3) (eN_of (g := dTup) (w := pz [-1]) (aC_one (f := Fx.e1 nNeg (eC (.int 1))) rfl) rfl) (qeq_pz rfl))
    (e2_of (call3 (a := pz [-1, 3]) (b := rt q13) (c := rt 0) (eN_of (g := dTup) (aC_of (f := Fx.e1 nNeg (eC (.int 1))) rfl (aC_one (f := eC (.int 3)) rfl)) rfl) (eN_of (g := dTup) (aC_of (f := eC (.int 1)) rfl (aC_one (f := eC (.int 3)) rfl)) rfl) (eN_of (g := dTup) (aC_of (f := eC (.int 0)) rfl (aC_one (f := eC (.int 1)) rfl)) rfl) known4) (eN_of (g := dTup) (f := aN) (w := pz []) rfl rfl) (qeq_pz rfl))))
  show Option.map _ _ = _
  rw [t]
  rfl
end K21

namespace K21
open PySem PySem.Spec PyProof.Rows L2 Fx
theorem all_mk {l : PySem.W.OpenLaw} {w : World} {K : PySem.W.Frag} {h : Heap} {mg : Str → Option Value} {fa f0 f1 f2 f3 f4 f5 f6 f7 f8 f9 f10 f11 f12 f13 f14 f15 f16 f17 f18 f19 f20 f21 f22 f23 f24 f25 f26 f27 f28 f29 f30 f31 f32 f33 f34 f35 f36 f37 f38 : Addr} (X : K.In h) (G : h.Ns mainGlobals mg) (hfa : mg "law" = some (.ref fa))
    {od0 an0 : Option Addr} {sl0 : Array (Option Value)} {oc0 kV0 dc0 pm0 cd0 ct0 : Value}
    {od1 an1 : Option Addr} {sl1 : Array (Option Value)} {oc1 kV1 dc1 pm1 cd1 ct1 : Value}
    {od2 an2 : Option Addr} {sl2 : Array (Option Value)} {oc2 kV2 dc2 pm2 cd2 ct2 : Value}
    {od3 an3 : Option Addr} {sl3 : Array (Option Value)} {oc3 kV3 dc3 pm3 cd3 ct3 : Value}
    {od4 an4 : Option Addr} {sl4 : Array (Option Value)} {oc4 kV4 dc4 pm4 cd4 ct4 : Value}
    {od5 an5 : Option Addr} {sl5 : Array (Option Value)} {oc5 kV5 dc5 pm5 cd5 ct5 : Value}
    {od6 an6 : Option Addr} {sl6 : Array (Option Value)} {oc6 kV6 dc6 pm6 cd6 ct6 : Value}
    {od7 an7 : Option Addr} {sl7 : Array (Option Value)} {oc7 kV7 dc7 pm7 cd7 ct7 : Value}
    {od8 an8 : Option Addr} {sl8 : Array (Option Value)} {oc8 kV8 dc8 pm8 cd8 ct8 : Value}
    {od9 an9 : Option Addr} {sl9 : Array (Option Value)} {oc9 kV9 dc9 pm9 cd9 ct9 : Value}
    {od10 an10 : Option Addr} {sl10 : Array (Option Value)} {oc10 kV10 dc10 pm10 cd10 ct10 : Value}
    {od11 an11 : Option Addr} {sl11 : Array (Option Value)} {oc11 kV11 dc11 pm11 cd11 ct11 : Value}
    {od12 an12 : Option Addr} {sl12 : Array (Option Value)} {oc12 kV12 dc12 pm12 cd12 ct12 : Value}
    {od13 an13 : Option Addr} {sl13 : Array (Option Value)} {oc13 kV13 dc13 pm13 cd13 ct13 : Value}
    {od14 an14 : Option Addr} {sl14 : Array (Option Value)} {oc14 kV14 dc14 pm14 cd14 ct14 : Value}
    {od15 an15 : Option Addr} {sl15 : Array (Option Value)} {oc15 kV15 dc15 pm15 cd15 ct15 : Value}
    {od16 an16 : Option Addr} {sl16 : Array (Option Value)} {oc16 kV16 dc16 pm16 cd16 ct16 : Value}
    {od17 an17 : Option Addr} {sl17 : Array (Option Value)} {oc17 kV17 dc17 pm17 cd17 ct17 : Value}
    {od18 an18 : Option Addr} {sl18 : Array (Option Value)} {oc18 kV18 dc18 pm18 cd18 ct18 : Value}
    {od19 an19 : Option Addr} {sl19 : Array (Option Value)} {oc19 kV19 dc19 pm19 cd19 ct19 : Value}
    {od20 an20 : Option Addr} {sl20 : Array (Option Value)} {oc20 kV20 dc20 pm20 cd20 ct20 : Value}
    {od21 an21 : Option Addr} {sl21 : Array (Option Value)} {oc21 kV21 dc21 pm21 cd21 ct21 : Value}
    {od22 an22 : Option Addr} {sl22 : Array (Option Value)} {oc22 kV22 dc22 pm22 cd22 ct22 : Value}
    {od23 an23 : Option Addr} {sl23 : Array (Option Value)} {oc23 kV23 dc23 pm23 cd23 ct23 : Value}
    {od24 an24 : Option Addr} {sl24 : Array (Option Value)} {oc24 kV24 dc24 pm24 cd24 ct24 : Value}
    {od25 an25 : Option Addr} {sl25 : Array (Option Value)} {oc25 kV25 dc25 pm25 cd25 ct25 : Value}
    {od26 an26 : Option Addr} {sl26 : Array (Option Value)} {oc26 kV26 dc26 pm26 cd26 ct26 : Value}
    {od27 an27 : Option Addr} {sl27 : Array (Option Value)} {oc27 kV27 dc27 pm27 cd27 ct27 : Value}
    {od28 an28 : Option Addr} {sl28 : Array (Option Value)} {oc28 kV28 dc28 pm28 cd28 ct28 : Value}
    {od29 an29 : Option Addr} {sl29 : Array (Option Value)} {oc29 kV29 dc29 pm29 cd29 ct29 : Value}
    {od30 an30 : Option Addr} {sl30 : Array (Option Value)} {oc30 kV30 dc30 pm30 cd30 ct30 : Value}
    {od31 an31 : Option Addr} {sl31 : Array (Option Value)} {oc31 kV31 dc31 pm31 cd31 ct31 : Value}
    {od32 an32 : Option Addr} {sl32 : Array (Option Value)} {oc32 kV32 dc32 pm32 cd32 ct32 : Value}
    {od33 an33 : Option Addr} {sl33 : Array (Option Value)} {oc33 kV33 dc33 pm33 cd33 ct33 : Value}
    {od34 an34 : Option Addr} {sl34 : Array (Option Value)} {oc34 kV34 dc34 pm34 cd34 ct34 : Value}
    {od35 an35 : Option Addr} {sl35 : Array (Option Value)} {oc35 kV35 dc35 pm35 cd35 ct35 : Value}
    {od36 an36 : Option Addr} {sl36 : Array (Option Value)} {oc36 kV36 dc36 pm36 cd36 ct36 : Value}
    {od37 an37 : Option Addr} {sl37 : Array (Option Value)} {oc37 kV37 dc37 pm37 cd37 ct37 : Value}
    {od38 an38 : Option Addr} {sl38 : Array (Option Value)} {oc38 kV38 dc38 pm38 cd38 ct38 : Value}
    {q4 : Addr} {qt4_0 : Tok} {qo4 : Option Addr} {qn4 : Nat} {qs4 : Array (Option Value)}
    {t_MOST_DEGREE : Tok}
    (a0 : PySem.W.nsIn K mainGlobals "is_integer" = some (some (.ref f0))) (l0 : K.lookup f0 = some ⟨oc0, od0, .func (PySem.W.fnOf "is_integer" "is_integer" (defArgs s_is_integer) (defBody s_is_integer) (defScope s_is_integer) .none kV0 dc0 pm0 an0 cd0 ct0), sl0⟩) (c0 : PySem.W.codeIn K cd0 "is_integer" = true) (k0 : PySem.W.keepIn K (.ref f0) = true)
    (a1 : PySem.W.nsIn K mainGlobals "is_listed" = some (some (.ref f1))) (l1 : K.lookup f1 = some ⟨oc1, od1, .func (PySem.W.fnOf "is_listed" "is_listed" (defArgs s_is_listed) (defBody s_is_listed) (defScope s_is_listed) .none kV1 dc1 pm1 an1 cd1 ct1), sl1⟩) (c1 : PySem.W.codeIn K cd1 "is_listed" = true) (k1 : PySem.W.keepIn K (.ref f1) = true)
    (a2 : PySem.W.nsIn K mainGlobals "lowest" = some (some (.ref f2))) (l2 : K.lookup f2 = some ⟨oc2, od2, .func (PySem.W.fnOf "lowest" "lowest" (defArgs s_lowest) (defBody s_lowest) (defScope s_lowest) .none kV2 dc2 pm2 an2 cd2 ct2), sl2⟩) (c2 : PySem.W.codeIn K cd2 "lowest" = true) (k2 : PySem.W.keepIn K (.ref f2) = true)
    (a3 : PySem.W.nsIn K mainGlobals "is_ratio" = some (some (.ref f3))) (l3 : K.lookup f3 = some ⟨oc3, od3, .func (PySem.W.fnOf "is_ratio" "is_ratio" (defArgs s_is_ratio) (defBody s_is_ratio) (defScope s_is_ratio) .none kV3 dc3 pm3 an3 cd3 ct3), sl3⟩) (c3 : PySem.W.codeIn K cd3 "is_ratio" = true) (k3 : PySem.W.keepIn K (.ref f3) = true)
    (a4 : PySem.W.nsIn K mainGlobals "ratio" = some (some (.ref f4))) (l4 : K.lookup f4 = some ⟨oc4, od4, .func (PySem.W.fnOf "ratio" "ratio" (defArgs s_ratio) (defBody s_ratio) (defScope s_ratio) (.ref q4) kV4 dc4 pm4 an4 cd4 ct4), sl4⟩) (c4 : PySem.W.codeIn K cd4 "ratio" = true) (k4 : PySem.W.keepIn K (.ref f4) = true)
    (q_4 : K.lookup q4 = some ⟨.type "tuple", qo4, .seq #[.int 1 qt4_0] qn4, qs4⟩)
    (a5 : PySem.W.nsIn K mainGlobals "is_poly" = some (some (.ref f5))) (l5 : K.lookup f5 = some ⟨oc5, od5, .func (PySem.W.fnOf "is_poly" "is_poly" (defArgs s_is_poly) (defBody s_is_poly) (defScope s_is_poly) .none kV5 dc5 pm5 an5 cd5 ct5), sl5⟩) (c5 : PySem.W.codeIn K cd5 "is_poly" = true) (k5 : PySem.W.keepIn K (.ref f5) = true)
    (a6 : PySem.W.nsIn K mainGlobals "need_poly" = some (some (.ref f6))) (l6 : K.lookup f6 = some ⟨oc6, od6, .func (PySem.W.fnOf "need_poly" "need_poly" (defArgs s_need_poly) (defBody s_need_poly) (defScope s_need_poly) .none kV6 dc6 pm6 an6 cd6 ct6), sl6⟩) (c6 : PySem.W.codeIn K cd6 "need_poly" = true) (k6 : PySem.W.keepIn K (.ref f6) = true)
    (a7 : PySem.W.nsIn K mainGlobals "need_ratio" = some (some (.ref f7))) (l7 : K.lookup f7 = some ⟨oc7, od7, .func (PySem.W.fnOf "need_ratio" "need_ratio" (defArgs s_need_ratio) (defBody s_need_ratio) (defScope s_need_ratio) .none kV7 dc7 pm7 an7 cd7 ct7), sl7⟩) (c7 : PySem.W.codeIn K cd7 "need_ratio" = true) (k7 : PySem.W.keepIn K (.ref f7) = true)
    (a8 : PySem.W.nsIn K mainGlobals "trimmed" = some (some (.ref f8))) (l8 : K.lookup f8 = some ⟨oc8, od8, .func (PySem.W.fnOf "trimmed" "trimmed" (defArgs s_trimmed) (defBody s_trimmed) (defScope s_trimmed) .none kV8 dc8 pm8 an8 cd8 ct8), sl8⟩) (c8 : PySem.W.codeIn K cd8 "trimmed" = true) (k8 : PySem.W.keepIn K (.ref f8) = true)
    (a9 : PySem.W.nsIn K mainGlobals "sum_of" = some (some (.ref f9))) (l9 : K.lookup f9 = some ⟨oc9, od9, .func (PySem.W.fnOf "sum_of" "sum_of" (defArgs s_sum_of) (defBody s_sum_of) (defScope s_sum_of) .none kV9 dc9 pm9 an9 cd9 ct9), sl9⟩) (c9 : PySem.W.codeIn K cd9 "sum_of" = true) (k9 : PySem.W.keepIn K (.ref f9) = true)
    (a10 : PySem.W.nsIn K mainGlobals "product_of" = some (some (.ref f10))) (l10 : K.lookup f10 = some ⟨oc10, od10, .func (PySem.W.fnOf "product_of" "product_of" (defArgs s_product_of) (defBody s_product_of) (defScope s_product_of) .none kV10 dc10 pm10 an10 cd10 ct10), sl10⟩) (c10 : PySem.W.codeIn K cd10 "product_of" = true) (k10 : PySem.W.keepIn K (.ref f10) = true)
    (a11 : PySem.W.nsIn K mainGlobals "content_of" = some (some (.ref f11))) (l11 : K.lookup f11 = some ⟨oc11, od11, .func (PySem.W.fnOf "content_of" "content_of" (defArgs s_content_of) (defBody s_content_of) (defScope s_content_of) .none kV11 dc11 pm11 an11 cd11 ct11), sl11⟩) (c11 : PySem.W.codeIn K cd11 "content_of" = true) (k11 : PySem.W.keepIn K (.ref f11) = true)
    (a12 : PySem.W.nsIn K mainGlobals "cleared" = some (some (.ref f12))) (l12 : K.lookup f12 = some ⟨oc12, od12, .func (PySem.W.fnOf "cleared" "cleared" (defArgs s_cleared) (defBody s_cleared) (defScope s_cleared) .none kV12 dc12 pm12 an12 cd12 ct12), sl12⟩) (c12 : PySem.W.codeIn K cd12 "cleared" = true) (k12 : PySem.W.keepIn K (.ref f12) = true)
    (a13 : PySem.W.nsIn K mainGlobals "sign_of" = some (some (.ref f13))) (l13 : K.lookup f13 = some ⟨oc13, od13, .func (PySem.W.fnOf "sign_of" "sign_of" (defArgs s_sign_of) (defBody s_sign_of) (defScope s_sign_of) .none kV13 dc13 pm13 an13 cd13 ct13), sl13⟩) (c13 : PySem.W.codeIn K cd13 "sign_of" = true) (k13 : PySem.W.keepIn K (.ref f13) = true)
    (a14 : PySem.W.nsIn K mainGlobals "top_at" = some (some (.ref f14))) (l14 : K.lookup f14 = some ⟨oc14, od14, .func (PySem.W.fnOf "top_at" "top_at" (defArgs s_top_at) (defBody s_top_at) (defScope s_top_at) .none kV14 dc14 pm14 an14 cd14 ct14), sl14⟩) (c14 : PySem.W.codeIn K cd14 "top_at" = true) (k14 : PySem.W.keepIn K (.ref f14) = true)
    (a15 : PySem.W.nsIn K mainGlobals "sign_at_x" = some (some (.ref f15))) (l15 : K.lookup f15 = some ⟨oc15, od15, .func (PySem.W.fnOf "sign_at_x" "sign_at_x" (defArgs s_sign_at_x) (defBody s_sign_at_x) (defScope s_sign_at_x) .none kV15 dc15 pm15 an15 cd15 ct15), sl15⟩) (c15 : PySem.W.codeIn K cd15 "sign_at_x" = true) (k15 : PySem.W.keepIn K (.ref f15) = true)
    (a16 : PySem.W.nsIn K mainGlobals "bottom_power" = some (some (.ref f16))) (l16 : K.lookup f16 = some ⟨oc16, od16, .func (PySem.W.fnOf "bottom_power" "bottom_power" (defArgs s_bottom_power) (defBody s_bottom_power) (defScope s_bottom_power) .none kV16 dc16 pm16 an16 cd16 ct16), sl16⟩) (c16 : PySem.W.codeIn K cd16 "bottom_power" = true) (k16 : PySem.W.keepIn K (.ref f16) = true)
    (a17 : PySem.W.nsIn K mainGlobals "product" = some (some (.ref f17))) (l17 : K.lookup f17 = some ⟨oc17, od17, .func (PySem.W.fnOf "product" "product" (defArgs s_product) (defBody s_product) (defScope s_product) .none kV17 dc17 pm17 an17 cd17 ct17), sl17⟩) (c17 : PySem.W.codeIn K cd17 "product" = true) (k17 : PySem.W.keepIn K (.ref f17) = true)
    (a18 : PySem.W.nsIn K mainGlobals "value" = some (some (.ref f18))) (l18 : K.lookup f18 = some ⟨oc18, od18, .func (PySem.W.fnOf "value" "value" (defArgs s_value) (defBody s_value) (defScope s_value) .none kV18 dc18 pm18 an18 cd18 ct18), sl18⟩) (c18 : PySem.W.codeIn K cd18 "value" = true) (k18 : PySem.W.keepIn K (.ref f18) = true)
    (a19 : PySem.W.nsIn K mainGlobals "sign_at_ratio" = some (some (.ref f19))) (l19 : K.lookup f19 = some ⟨oc19, od19, .func (PySem.W.fnOf "sign_at_ratio" "sign_at_ratio" (defArgs s_sign_at_ratio) (defBody s_sign_at_ratio) (defScope s_sign_at_ratio) .none kV19 dc19 pm19 an19 cd19 ct19), sl19⟩) (c19 : PySem.W.codeIn K cd19 "sign_at_ratio" = true) (k19 : PySem.W.keepIn K (.ref f19) = true)
    (a20 : PySem.W.nsIn K mainGlobals "shifted" = some (some (.ref f20))) (l20 : K.lookup f20 = some ⟨oc20, od20, .func (PySem.W.fnOf "shifted" "shifted" (defArgs s_shifted) (defBody s_shifted) (defScope s_shifted) .none kV20 dc20 pm20 an20 cd20 ct20), sl20⟩) (c20 : PySem.W.codeIn K cd20 "shifted" = true) (k20 : PySem.W.keepIn K (.ref f20) = true)
    (a21 : PySem.W.nsIn K mainGlobals "_law_pen" = some (some (.ref f21))) (l21 : K.lookup f21 = some ⟨oc21, od21, .func (PySem.W.fnOf "_law_pen" "_law_pen" (defArgs s__law_pen) (defBody s__law_pen) (defScope s__law_pen) .none kV21 dc21 pm21 an21 cd21 ct21), sl21⟩) (c21 : PySem.W.codeIn K cd21 "_law_pen" = true) (k21 : PySem.W.keepIn K (.ref f21) = true)
    (a22 : PySem.W.nsIn K mainGlobals "_law_draw" = some (some (.ref f22))) (l22 : K.lookup f22 = some ⟨oc22, od22, .func (PySem.W.fnOf "_law_draw" "_law_draw" (defArgs s__law_draw) (defBody s__law_draw) (defScope s__law_draw) .none kV22 dc22 pm22 an22 cd22 ct22), sl22⟩) (c22 : PySem.W.codeIn K cd22 "_law_draw" = true) (k22 : PySem.W.keepIn K (.ref f22) = true)
    (a23 : PySem.W.nsIn K mainGlobals "_law_pick" = some (some (.ref f23))) (l23 : K.lookup f23 = some ⟨oc23, od23, .func (PySem.W.fnOf "_law_pick" "_law_pick" (defArgs s__law_pick) (defBody s__law_pick) (defScope s__law_pick) .none kV23 dc23 pm23 an23 cd23 ct23), sl23⟩) (c23 : PySem.W.codeIn K cd23 "_law_pick" = true) (k23 : PySem.W.keepIn K (.ref f23) = true)
    (a24 : PySem.W.nsIn K mainGlobals "_law_trim" = some (some (.ref f24))) (l24 : K.lookup f24 = some ⟨oc24, od24, .func (PySem.W.fnOf "_law_trim" "_law_trim" (defArgs s__law_trim) (defBody s__law_trim) (defScope s__law_trim) .none kV24 dc24 pm24 an24 cd24 ct24), sl24⟩) (c24 : PySem.W.codeIn K cd24 "_law_trim" = true) (k24 : PySem.W.keepIn K (.ref f24) = true)
    (a25 : PySem.W.nsIn K mainGlobals "_law_by" = some (some (.ref f25))) (l25 : K.lookup f25 = some ⟨oc25, od25, .func (PySem.W.fnOf "_law_by" "_law_by" (defArgs s__law_by) (defBody s__law_by) (defScope s__law_by) .none kV25 dc25 pm25 an25 cd25 ct25), sl25⟩) (c25 : PySem.W.codeIn K cd25 "_law_by" = true) (k25 : PySem.W.keepIn K (.ref f25) = true)
    (a26 : PySem.W.nsIn K mainGlobals "_law_times" = some (some (.ref f26))) (l26 : K.lookup f26 = some ⟨oc26, od26, .func (PySem.W.fnOf "_law_times" "_law_times" (defArgs s__law_times) (defBody s__law_times) (defScope s__law_times) .none kV26 dc26 pm26 an26 cd26 ct26), sl26⟩) (c26 : PySem.W.codeIn K cd26 "_law_times" = true) (k26 : PySem.W.keepIn K (.ref f26) = true)
    (a27 : PySem.W.nsIn K mainGlobals "_law_all_times" = some (some (.ref f27))) (l27 : K.lookup f27 = some ⟨oc27, od27, .func (PySem.W.fnOf "_law_all_times" "_law_all_times" (defArgs s__law_all_times) (defBody s__law_all_times) (defScope s__law_all_times) .none kV27 dc27 pm27 an27 cd27 ct27), sl27⟩) (c27 : PySem.W.codeIn K cd27 "_law_all_times" = true) (k27 : PySem.W.keepIn K (.ref f27) = true)
    (a28 : PySem.W.nsIn K mainGlobals "_law_gcd" = some (some (.ref f28))) (l28 : K.lookup f28 = some ⟨oc28, od28, .func (PySem.W.fnOf "_law_gcd" "_law_gcd" (defArgs s__law_gcd) (defBody s__law_gcd) (defScope s__law_gcd) .none kV28 dc28 pm28 an28 cd28 ct28), sl28⟩) (c28 : PySem.W.codeIn K cd28 "_law_gcd" = true) (k28 : PySem.W.keepIn K (.ref f28) = true)
    (a29 : PySem.W.nsIn K mainGlobals "_law_content" = some (some (.ref f29))) (l29 : K.lookup f29 = some ⟨oc29, od29, .func (PySem.W.fnOf "_law_content" "_law_content" (defArgs s__law_content) (defBody s__law_content) (defScope s__law_content) .none kV29 dc29 pm29 an29 cd29 ct29), sl29⟩) (c29 : PySem.W.codeIn K cd29 "_law_content" = true) (k29 : PySem.W.keepIn K (.ref f29) = true)
    (a30 : PySem.W.nsIn K mainGlobals "_law_clear" = some (some (.ref f30))) (l30 : K.lookup f30 = some ⟨oc30, od30, .func (PySem.W.fnOf "_law_clear" "_law_clear" (defArgs s__law_clear) (defBody s__law_clear) (defScope s__law_clear) .none kV30 dc30 pm30 an30 cd30 ct30), sl30⟩) (c30 : PySem.W.codeIn K cd30 "_law_clear" = true) (k30 : PySem.W.keepIn K (.ref f30) = true)
    (a31 : PySem.W.nsIn K mainGlobals "_law_plain" = some (some (.ref f31))) (l31 : K.lookup f31 = some ⟨oc31, od31, .func (PySem.W.fnOf "_law_plain" "_law_plain" (defArgs s__law_plain) (defBody s__law_plain) (defScope s__law_plain) .none kV31 dc31 pm31 an31 cd31 ct31), sl31⟩) (c31 : PySem.W.codeIn K cd31 "_law_plain" = true) (k31 : PySem.W.keepIn K (.ref f31) = true)
    (a32 : PySem.W.nsIn K mainGlobals "_law_ratio" = some (some (.ref f32))) (l32 : K.lookup f32 = some ⟨oc32, od32, .func (PySem.W.fnOf "_law_ratio" "_law_ratio" (defArgs s__law_ratio) (defBody s__law_ratio) (defScope s__law_ratio) .none kV32 dc32 pm32 an32 cd32 ct32), sl32⟩) (c32 : PySem.W.codeIn K cd32 "_law_ratio" = true) (k32 : PySem.W.keepIn K (.ref f32) = true)
    (a33 : PySem.W.nsIn K mainGlobals "_law_poly" = some (some (.ref f33))) (l33 : K.lookup f33 = some ⟨oc33, od33, .func (PySem.W.fnOf "_law_poly" "_law_poly" (defArgs s__law_poly) (defBody s__law_poly) (defScope s__law_poly) .none kV33 dc33 pm33 an33 cd33 ct33), sl33⟩) (c33 : PySem.W.codeIn K cd33 "_law_poly" = true) (k33 : PySem.W.keepIn K (.ref f33) = true)
    (a34 : PySem.W.nsIn K mainGlobals "_law_x" = some (some (.ref f34))) (l34 : K.lookup f34 = some ⟨oc34, od34, .func (PySem.W.fnOf "_law_x" "_law_x" (defArgs s__law_x) (defBody s__law_x) (defScope s__law_x) .none kV34 dc34 pm34 an34 cd34 ct34), sl34⟩) (c34 : PySem.W.codeIn K cd34 "_law_x" = true) (k34 : PySem.W.keepIn K (.ref f34) = true)
    (a35 : PySem.W.nsIn K mainGlobals "_law_factor" = some (some (.ref f35))) (l35 : K.lookup f35 = some ⟨oc35, od35, .func (PySem.W.fnOf "_law_factor" "_law_factor" (defArgs s__law_factor) (defBody s__law_factor) (defScope s__law_factor) .none kV35 dc35 pm35 an35 cd35 ct35), sl35⟩) (c35 : PySem.W.codeIn K cd35 "_law_factor" = true) (k35 : PySem.W.keepIn K (.ref f35) = true)
    (a36 : PySem.W.nsIn K mainGlobals "_law_factors" = some (some (.ref f36))) (l36 : K.lookup f36 = some ⟨oc36, od36, .func (PySem.W.fnOf "_law_factors" "_law_factors" (defArgs s__law_factors) (defBody s__law_factors) (defScope s__law_factors) .none kV36 dc36 pm36 an36 cd36 ct36), sl36⟩) (c36 : PySem.W.codeIn K cd36 "_law_factors" = true) (k36 : PySem.W.keepIn K (.ref f36) = true)
    (a37 : PySem.W.nsIn K mainGlobals "_law_made" = some (some (.ref f37))) (l37 : K.lookup f37 = some ⟨oc37, od37, .func (PySem.W.fnOf "_law_made" "_law_made" (defArgs s__law_made) (defBody s__law_made) (defScope s__law_made) .none kV37 dc37 pm37 an37 cd37 ct37), sl37⟩) (c37 : PySem.W.codeIn K cd37 "_law_made" = true) (k37 : PySem.W.keepIn K (.ref f37) = true)
    (a38 : PySem.W.nsIn K mainGlobals "law" = some (some (.ref f38))) (l38 : K.lookup f38 = some ⟨oc38, od38, .func (PySem.W.fnOf "law" "law" (defArgs s_law) (defBody s_law) (defScope s_law) .none kV38 dc38 pm38 an38 cd38 ct38), sl38⟩) (c38 : PySem.W.codeIn K cd38 "law" = true) (k38 : PySem.W.keepIn K (.ref f38) = true)
    (g_MOST_DEGREE : PySem.W.nsIn K mainGlobals "MOST_DEGREE" = some (some (.int 60 t_MOST_DEGREE)))
    (g_gcd : PySem.W.nsIn K mainGlobals "gcd" = some (some (.builtin "math.gcd")))
    (z_abs : PySem.W.nsIn K mainGlobals "abs" = some none)
    (z_all : PySem.W.nsIn K mainGlobals "all" = some none)
    (z_bool : PySem.W.nsIn K mainGlobals "bool" = some none)
    (z_enumerate : PySem.W.nsIn K mainGlobals "enumerate" = some none)
    (z_int : PySem.W.nsIn K mainGlobals "int" = some none)
    (z_isinstance : PySem.W.nsIn K mainGlobals "isinstance" = some none)
    (z_len : PySem.W.nsIn K mainGlobals "len" = some none)
    (z_list : PySem.W.nsIn K mainGlobals "list" = some none)
    (z_max : PySem.W.nsIn K mainGlobals "max" = some none)
    (z_range : PySem.W.nsIn K mainGlobals "range" = some none)
    (z_sum : PySem.W.nsIn K mainGlobals "sum" = some none)
    (z_tuple : PySem.W.nsIn K mainGlobals "tuple" = some none)
    : ∃ fd : FuncData, (∀ (s : Shared) (v : Value), BindsTo s fd ⟨[v], []⟩ [("script", v)]) ∧ ∀ base : Heap, K.In base → base.Ns mainGlobals mg → FnG l.prog w K mg base CX0 7 fa fd ["script"] (spLaw K) := by
  have e := hfa.symm.trans (PySem.W.mg_of X G a38)
  cases e
  have F0 := fun_mk (st := s_is_integer) l0 c0 k0
  have F1 := fun_mk (st := s_is_listed) l1 c1 k1
  have F2 := fun_mk (st := s_lowest) l2 c2 k2
  have F3 := fun_mk (st := s_is_ratio) l3 c3 k3
  have F4 := funV_mk (st := s_ratio) (dts := [(.int 1)]) (dvs := [.int 1]) (its := [.int 1 qt4_0]) l4 c4 k4 q_4 rfl (.cons (show RelV (.int 1) _ from ⟨_, rfl⟩) .nil) (fun _ => (.cons (.int _) .nil))
  have F5 := fun_mk (st := s_is_poly) l5 c5 k5
  have F6 := fun_mk (st := s_need_poly) l6 c6 k6
  have F7 := fun_mk (st := s_need_ratio) l7 c7 k7
  have F8 := fun_mk (st := s_trimmed) l8 c8 k8
  have F9 := fun_mk (st := s_sum_of) l9 c9 k9
  have F10 := fun_mk (st := s_product_of) l10 c10 k10
  have F11 := fun_mk (st := s_content_of) l11 c11 k11
  have F12 := fun_mk (st := s_cleared) l12 c12 k12
  have F13 := fun_mk (st := s_sign_of) l13 c13 k13
  have F14 := fun_mk (st := s_top_at) l14 c14 k14
  have F15 := fun_mk (st := s_sign_at_x) l15 c15 k15
  have F16 := fun_mk (st := s_bottom_power) l16 c16 k16
  have F17 := fun_mk (st := s_product) l17 c17 k17
  have F18 := fun_mk (st := s_value) l18 c18 k18
  have F19 := fun_mk (st := s_sign_at_ratio) l19 c19 k19
  have F20 := fun_mk (st := s_shifted) l20 c20 k20
  have F21 := fun_mk (st := s__law_pen) l21 c21 k21
  have F22 := fun_mk (st := s__law_draw) l22 c22 k22
  have F23 := fun_mk (st := s__law_pick) l23 c23 k23
  have F24 := fun_mk (st := s__law_trim) l24 c24 k24
  have F25 := fun_mk (st := s__law_by) l25 c25 k25
  have F26 := fun_mk (st := s__law_times) l26 c26 k26
  have F27 := fun_mk (st := s__law_all_times) l27 c27 k27
  have F28 := fun_mk (st := s__law_gcd) l28 c28 k28
  have F29 := fun_mk (st := s__law_content) l29 c29 k29
  have F30 := fun_mk (st := s__law_clear) l30 c30 k30
  have F31 := fun_mk (st := s__law_plain) l31 c31 k31
  have F32 := fun_mk (st := s__law_ratio) l32 c32 k32
  have F33 := fun_mk (st := s__law_poly) l33 c33 k33
  have F34 := fun_mk (st := s__law_x) l34 c34 k34
  have F35 := fun_mk (st := s__law_factor) l35 c35 k35
  have F36 := fun_mk (st := s__law_factors) l36 c36 k36
  have F37 := fun_mk (st := s__law_made) l37 c37 k37
  have F38 := fun_mk (st := s_law) l38 c38 k38
  have T : Txt K mg { a_is_integer := f0, d_is_integer := _, a_is_listed := f1, d_is_listed := _, a_lowest := f2, d_lowest := _, a_is_ratio := f3, d_is_ratio := _, a_ratio := f4, d_ratio := _, a_is_poly := f5, d_is_poly := _, a_need_poly := f6, d_need_poly := _, a_need_ratio := f7, d_need_ratio := _, a_trimmed := f8, d_trimmed := _, a_sum_of := f9, d_sum_of := _, a_product_of := f10, d_product_of := _, a_content_of := f11, d_content_of := _, a_cleared := f12, d_cleared := _, a_sign_of := f13, d_sign_of := _, a_top_at := f14, d_top_at := _, a_sign_at_x := f15, d_sign_at_x := _, a_bottom_power := f16, d_bottom_power := _, a_product := f17, d_product := _, a_value := f18, d_value := _, a_sign_at_ratio := f19, d_sign_at_ratio := _, a_shifted := f20, d_shifted := _, a__law_pen := f21, d__law_pen := _, a__law_draw := f22, d__law_draw := _, a__law_pick := f23, d__law_pick := _, a__law_trim := f24, d__law_trim := _, a__law_by := f25, d__law_by := _, a__law_times := f26, d__law_times := _, a__law_all_times := f27, d__law_all_times := _, a__law_gcd := f28, d__law_gcd := _, a__law_content := f29, d__law_content := _, a__law_clear := f30, d__law_clear := _, a__law_plain := f31, d__law_plain := _, a__law_ratio := f32, d__law_ratio := _, a__law_poly := f33, d__law_poly := _, a__law_x := f34, d__law_x := _, a__law_factor := f35, d__law_factor := _, a__law_factors := f36, d__law_factors := _, a__law_made := f37, d__law_made := _, a_law := fa, d_law := _, c_MOST_DEGREE := _ } := {
    m_is_integer := PySem.W.mg_of X G a0, F_is_integer := F0, i_is_integer := F0.binds (ps := ["value"]) fun _ _ _ _ _ _ us hl => match us, hl with | [_], _ => rfl,
    m_is_listed := PySem.W.mg_of X G a1, F_is_listed := F1, i_is_listed := F1.binds (ps := ["value"]) fun _ _ _ _ _ _ us hl => match us, hl with | [_], _ => rfl,
    m_lowest := PySem.W.mg_of X G a2, F_lowest := F2, i_lowest := F2.binds (ps := ["top", "bottom"]) fun _ _ _ _ _ _ us hl => match us, hl with | [_, _], _ => rfl,
    m_is_ratio := PySem.W.mg_of X G a3, F_is_ratio := F3, i_is_ratio := F3.binds (ps := ["value"]) fun _ _ _ _ _ _ us hl => match us, hl with | [_], _ => rfl,
    m_ratio := PySem.W.mg_of X G a4, F_ratio := F4, i_ratio := F4.bindsAll (ps := ["top", "bottom"]) fun _ _ _ _ _ _ _ us its hl hi => match us, its, hl, hi with | [_, _], [_], _, _ => ⟨_, rfl, rfl⟩,
    m_is_poly := PySem.W.mg_of X G a5, F_is_poly := F5, i_is_poly := F5.binds (ps := ["value"]) fun _ _ _ _ _ _ us hl => match us, hl with | [_], _ => rfl,
    m_need_poly := PySem.W.mg_of X G a6, F_need_poly := F6, i_need_poly := F6.binds (ps := ["value", "part"]) fun _ _ _ _ _ _ us hl => match us, hl with | [_, _], _ => rfl,
    m_need_ratio := PySem.W.mg_of X G a7, F_need_ratio := F7, i_need_ratio := F7.binds (ps := ["value", "part"]) fun _ _ _ _ _ _ us hl => match us, hl with | [_, _], _ => rfl,
    m_trimmed := PySem.W.mg_of X G a8, F_trimmed := F8, i_trimmed := F8.binds (ps := ["some"]) fun _ _ _ _ _ _ us hl => match us, hl with | [_], _ => rfl,
    m_sum_of := PySem.W.mg_of X G a9, F_sum_of := F9, i_sum_of := F9.binds (ps := ["one", "other"]) fun _ _ _ _ _ _ us hl => match us, hl with | [_, _], _ => rfl,
    m_product_of := PySem.W.mg_of X G a10, F_product_of := F10, i_product_of := F10.binds (ps := ["one", "other"]) fun _ _ _ _ _ _ us hl => match us, hl with | [_, _], _ => rfl,
    m_content_of := PySem.W.mg_of X G a11, F_content_of := F11, i_content_of := F11.binds (ps := ["poly"]) fun _ _ _ _ _ _ us hl => match us, hl with | [_], _ => rfl,
    m_cleared := PySem.W.mg_of X G a12, F_cleared := F12, i_cleared := F12.binds (ps := ["poly"]) fun _ _ _ _ _ _ us hl => match us, hl with | [_], _ => rfl,
    m_sign_of := PySem.W.mg_of X G a13, F_sign_of := F13, i_sign_of := F13.binds (ps := ["number"]) fun _ _ _ _ _ _ us hl => match us, hl with | [_], _ => rfl,
    m_top_at := PySem.W.mg_of X G a14, F_top_at := F14, i_top_at := F14.binds (ps := ["poly", "x"]) fun _ _ _ _ _ _ us hl => match us, hl with | [_, _], _ => rfl,
    m_sign_at_x := PySem.W.mg_of X G a15, F_sign_at_x := F15, i_sign_at_x := F15.binds (ps := ["poly", "x"]) fun _ _ _ _ _ _ us hl => match us, hl with | [_, _], _ => rfl,
    m_bottom_power := PySem.W.mg_of X G a16, F_bottom_power := F16, i_bottom_power := F16.binds (ps := ["x", "many"]) fun _ _ _ _ _ _ us hl => match us, hl with | [_, _], _ => rfl,
    m_product := PySem.W.mg_of X G a17, F_product := F17, i_product := F17.binds (ps := ["one", "other"]) fun _ _ _ _ _ _ us hl => match us, hl with | [_, _], _ => rfl,
    m_value := PySem.W.mg_of X G a18, F_value := F18, i_value := F18.binds (ps := ["poly", "x"]) fun _ _ _ _ _ _ us hl => match us, hl with | [_, _], _ => rfl,
    m_sign_at_ratio := PySem.W.mg_of X G a19, F_sign_at_ratio := F19, i_sign_at_ratio := F19.binds (ps := ["poly", "x"]) fun _ _ _ _ _ _ us hl => match us, hl with | [_, _], _ => rfl,
    m_shifted := PySem.W.mg_of X G a20, F_shifted := F20, i_shifted := F20.binds (ps := ["poly", "a", "b"]) fun _ _ _ _ _ _ us hl => match us, hl with | [_, _, _], _ => rfl,
    m__law_pen := PySem.W.mg_of X G a21, F__law_pen := F21, i__law_pen := F21.binds (ps := ["script"]) fun _ _ _ _ _ _ us hl => match us, hl with | [_], _ => rfl,
    m__law_draw := PySem.W.mg_of X G a22, F__law_draw := F22, i__law_draw := F22.binds (ps := ["pen", "many"]) fun _ _ _ _ _ _ us hl => match us, hl with | [_, _], _ => rfl,
    m__law_pick := PySem.W.mg_of X G a23, F__law_pick := F23, i__law_pick := F23.binds (ps := ["pen", "some"]) fun _ _ _ _ _ _ us hl => match us, hl with | [_, _], _ => rfl,
    m__law_trim := PySem.W.mg_of X G a24, F__law_trim := F24, i__law_trim := F24.binds (ps := ["some"]) fun _ _ _ _ _ _ us hl => match us, hl with | [_], _ => rfl,
    m__law_by := PySem.W.mg_of X G a25, F__law_by := F25, i__law_by := F25.binds (ps := ["poly", "number"]) fun _ _ _ _ _ _ us hl => match us, hl with | [_, _], _ => rfl,
    m__law_times := PySem.W.mg_of X G a26, F__law_times := F26, i__law_times := F26.binds (ps := ["one", "other"]) fun _ _ _ _ _ _ us hl => match us, hl with | [_, _], _ => rfl,
    m__law_all_times := PySem.W.mg_of X G a27, F__law_all_times := F27, i__law_all_times := F27.binds (ps := ["some"]) fun _ _ _ _ _ _ us hl => match us, hl with | [_], _ => rfl,
    m__law_gcd := PySem.W.mg_of X G a28, F__law_gcd := F28, i__law_gcd := F28.binds (ps := ["one", "other"]) fun _ _ _ _ _ _ us hl => match us, hl with | [_, _], _ => rfl,
    m__law_content := PySem.W.mg_of X G a29, F__law_content := F29, i__law_content := F29.binds (ps := ["poly"]) fun _ _ _ _ _ _ us hl => match us, hl with | [_], _ => rfl,
    m__law_clear := PySem.W.mg_of X G a30, F__law_clear := F30, i__law_clear := F30.binds (ps := ["poly"]) fun _ _ _ _ _ _ us hl => match us, hl with | [_], _ => rfl,
    m__law_plain := PySem.W.mg_of X G a31, F__law_plain := F31, i__law_plain := F31.binds (ps := ["poly"]) fun _ _ _ _ _ _ us hl => match us, hl with | [_], _ => rfl,
    m__law_ratio := PySem.W.mg_of X G a32, F__law_ratio := F32, i__law_ratio := F32.binds (ps := ["top", "bottom"]) fun _ _ _ _ _ _ us hl => match us, hl with | [_, _], _ => rfl,
    m__law_poly := PySem.W.mg_of X G a33, F__law_poly := F33, i__law_poly := F33.binds (ps := ["pen", "most"]) fun _ _ _ _ _ _ us hl => match us, hl with | [_, _], _ => rfl,
    m__law_x := PySem.W.mg_of X G a34, F__law_x := F34, i__law_x := F34.binds (ps := ["pen"]) fun _ _ _ _ _ _ us hl => match us, hl with | [_], _ => rfl,
    m__law_factor := PySem.W.mg_of X G a35, F__law_factor := F35, i__law_factor := F35.binds (ps := ["pen"]) fun _ _ _ _ _ _ us hl => match us, hl with | [_], _ => rfl,
    m__law_factors := PySem.W.mg_of X G a36, F__law_factors := F36, i__law_factors := F36.binds (ps := ["pen", "many"]) fun _ _ _ _ _ _ us hl => match us, hl with | [_, _], _ => rfl,
    m__law_made := PySem.W.mg_of X G a37, F__law_made := F37, i__law_made := F37.binds (ps := ["pen", "factors"]) fun _ _ _ _ _ _ us hl => match us, hl with | [_, _], _ => rfl,
    m_law := PySem.W.mg_of X G a38, F_law := F38, i_law := F38.binds (ps := ["script"]) fun _ _ _ _ _ _ us hl => match us, hl with | [_], _ => rfl,
    b_abs := PySem.W.mg_none_of X G z_abs,
    b_all := PySem.W.mg_none_of X G z_all,
    b_bool := PySem.W.mg_none_of X G z_bool,
    b_enumerate := PySem.W.mg_none_of X G z_enumerate,
    b_int := PySem.W.mg_none_of X G z_int,
    b_isinstance := PySem.W.mg_none_of X G z_isinstance,
    b_len := PySem.W.mg_none_of X G z_len,
    b_list := PySem.W.mg_none_of X G z_list,
    b_max := PySem.W.mg_none_of X G z_max,
    b_range := PySem.W.mg_none_of X G z_range,
    b_sum := PySem.W.mg_none_of X G z_sum,
    b_tuple := PySem.W.mg_none_of X G z_tuple,
    g_MOST_DEGREE := PySem.W.mg_of X G g_MOST_DEGREE, r_MOST_DEGREE := repK_int,
    g_gcd := PySem.W.mg_of X G g_gcd }
  exact ⟨_, fun s v => .of_eq rfl, fun base _ _ => law_end (ok_law T) law_true⟩
end K21
open PySem PySem.W PyProof.Rows
set_option maxRecDepth 100000 in
set_option maxHeartbeats 0 in
theorem PySem.Challenge.cw_allodds_k21_polynomials_moved_holds : PySem.Challenge.rw_allodds_k21_polynomials_moved.Holds := by
  w_on; o_law; k_head; (case hw => w_witness2)
  k_fill
  refine Fx.walk_G (l := PySem.Challenge.rw_allodds_k21_polynomials_moved) (n := 63) (k := 7) (x := "script") (CX := fun _ => L2.CX0) (sp := fun w => Fx.spLaw _) rfl (by decide) rfl ⟨rfl, by decide, by decide⟩ (fun w h Y => PySem.W.kIn_of Y) ?F (fun _ _ a ns hl _ hS => ⟨a, ns, rfl, hS, hl, fun _ => rfl⟩) (fun _ _ _ _ _ h => h)
  case F =>
    intro w mg fa h KX G hmg
    refine' K21.all_mk KX G hmg ?a0 ?l0 ?c0 ?k0 ?a1 ?l1 ?c1 ?k1 ?a2 ?l2 ?c2 ?k2 ?a3 ?l3 ?c3 ?k3 ?a4 ?l4 ?c4 ?k4 ?q_4 ?a5 ?l5 ?c5 ?k5 ?a6 ?l6 ?c6 ?k6 ?a7 ?l7 ?c7 ?k7 ?a8 ?l8 ?c8 ?k8 ?a9 ?l9 ?c9 ?k9 ?a10 ?l10 ?c10 ?k10 ?a11 ?l11 ?c11 ?k11 ?a12 ?l12 ?c12 ?k12 ?a13 ?l13 ?c13 ?k13 ?a14 ?l14 ?c14 ?k14 ?a15 ?l15 ?c15 ?k15 ?a16 ?l16 ?c16 ?k16 ?a17 ?l17 ?c17 ?k17 ?a18 ?l18 ?c18 ?k18 ?a19 ?l19 ?c19 ?k19 ?a20 ?l20 ?c20 ?k20 ?a21 ?l21 ?c21 ?k21 ?a22 ?l22 ?c22 ?k22 ?a23 ?l23 ?c23 ?k23 ?a24 ?l24 ?c24 ?k24 ?a25 ?l25 ?c25 ?k25 ?a26 ?l26 ?c26 ?k26 ?a27 ?l27 ?c27 ?k27 ?a28 ?l28 ?c28 ?k28 ?a29 ?l29 ?c29 ?k29 ?a30 ?l30 ?c30 ?k30 ?a31 ?l31 ?c31 ?k31 ?a32 ?l32 ?c32 ?k32 ?a33 ?l33 ?c33 ?k33 ?a34 ?l34 ?c34 ?k34 ?a35 ?l35 ?c35 ?k35 ?a36 ?l36 ?c36 ?k36 ?a37 ?l37 ?c37 ?k37 ?a38 ?l38 ?c38 ?k38 ?g_MOST_DEGREE ?g_gcd ?z_abs ?z_all ?z_bool ?z_enumerate ?z_int ?z_isinstance ?z_len ?z_list ?z_max ?z_range ?z_sum ?z_tuple
    (case a0 => k_is)
    (case l0 => k_is)
    (case c0 => k_is)
    (case k0 => k_is)
    (case a1 => k_is)
    (case l1 => k_is)
    (case c1 => k_is)
    (case k1 => k_is)
    (case a2 => k_is)
    (case l2 => k_is)
    (case c2 => k_is)
    (case k2 => k_is)
    (case a3 => k_is)
    (case l3 => k_is)
    (case c3 => k_is)
    (case k3 => k_is)
    (case a4 => k_is)
    (case l4 => k_is)
    (case c4 => k_is)
    (case k4 => k_is)
    (case q_4 => k_is)
    (case a5 => k_is)
    (case l5 => k_is)
    (case c5 => k_is)
    (case k5 => k_is)
    (case a6 => k_is)
    (case l6 => k_is)
    (case c6 => k_is)
    (case k6 => k_is)
    (case a7 => k_is)
    (case l7 => k_is)
    (case c7 => k_is)
    (case k7 => k_is)
    (case a8 => k_is)
    (case l8 => k_is)
    (case c8 => k_is)
    (case k8 => k_is)
    (case a9 => k_is)
    (case l9 => k_is)
    (case c9 => k_is)
    (case k9 => k_is)
    (case a10 => k_is)
    (case l10 => k_is)
    (case c10 => k_is)
    (case k10 => k_is)
    (case a11 => k_is)
    (case l11 => k_is)
    (case c11 => k_is)
    (case k11 => k_is)
    (case a12 => k_is)
    (case l12 => k_is)
    (case c12 => k_is)
    (case k12 => k_is)
    (case a13 => k_is)
    (case l13 => k_is)
    (case c13 => k_is)
    (case k13 => k_is)
    (case a14 => k_is)
    (case l14 => k_is)
    (case c14 => k_is)
    (case k14 => k_is)
    (case a15 => k_is)
    (case l15 => k_is)
    (case c15 => k_is)
    (case k15 => k_is)
    (case a16 => k_is)
    (case l16 => k_is)
    (case c16 => k_is)
    (case k16 => k_is)
    (case a17 => k_is)
    (case l17 => k_is)
    (case c17 => k_is)
    (case k17 => k_is)
    (case a18 => k_is)
    (case l18 => k_is)
    (case c18 => k_is)
    (case k18 => k_is)
    (case a19 => k_is)
    (case l19 => k_is)
    (case c19 => k_is)
    (case k19 => k_is)
    (case a20 => k_is)
    (case l20 => k_is)
    (case c20 => k_is)
    (case k20 => k_is)
    (case a21 => k_is)
    (case l21 => k_is)
    (case c21 => k_is)
    (case k21 => k_is)
    (case a22 => k_is)
    (case l22 => k_is)
    (case c22 => k_is)
    (case k22 => k_is)
    (case a23 => k_is)
    (case l23 => k_is)
    (case c23 => k_is)
    (case k23 => k_is)
    (case a24 => k_is)
    (case l24 => k_is)
    (case c24 => k_is)
    (case k24 => k_is)
    (case a25 => k_is)
    (case l25 => k_is)
    (case c25 => k_is)
    (case k25 => k_is)
    (case a26 => k_is)
    (case l26 => k_is)
    (case c26 => k_is)
    (case k26 => k_is)
    (case a27 => k_is)
    (case l27 => k_is)
    (case c27 => k_is)
    (case k27 => k_is)
    (case a28 => k_is)
    (case l28 => k_is)
    (case c28 => k_is)
    (case k28 => k_is)
    (case a29 => k_is)
    (case l29 => k_is)
    (case c29 => k_is)
    (case k29 => k_is)
    (case a30 => k_is)
    (case l30 => k_is)
    (case c30 => k_is)
    (case k30 => k_is)
    (case a31 => k_is)
    (case l31 => k_is)
    (case c31 => k_is)
    (case k31 => k_is)
    (case a32 => k_is)
    (case l32 => k_is)
    (case c32 => k_is)
    (case k32 => k_is)
    (case a33 => k_is)
    (case l33 => k_is)
    (case c33 => k_is)
    (case k33 => k_is)
    (case a34 => k_is)
    (case l34 => k_is)
    (case c34 => k_is)
    (case k34 => k_is)
    (case a35 => k_is)
    (case l35 => k_is)
    (case c35 => k_is)
    (case k35 => k_is)
    (case a36 => k_is)
    (case l36 => k_is)
    (case c36 => k_is)
    (case k36 => k_is)
    (case a37 => k_is)
    (case l37 => k_is)
    (case c37 => k_is)
    (case k37 => k_is)
    (case a38 => k_is)
    (case l38 => k_is)
    (case c38 => k_is)
    (case k38 => k_is)
    (case g_MOST_DEGREE => k_is)
    (case g_gcd => k_is)
    (case z_abs => k_is)
    (case z_all => k_is)
    (case z_bool => k_is)
    (case z_enumerate => k_is)
    (case z_int => k_is)
    (case z_isinstance => k_is)
    (case z_len => k_is)
    (case z_list => k_is)
    (case z_max => k_is)
    (case z_range => k_is)
    (case z_sum => k_is)
    (case z_tuple => k_is)

