import PyProof.Rows.All
import Wide.All
import OpenK.AllK
import Wide.FinOn
import HandS.ForMost
import HandS.ForSpec
import HandS.Walk
import HandS.Star
import HandS.Property
import HandS.IsInst
import HandS.TupAny
import HandS.Strs
import HandS.SetFor
import HandS.Style
import HandS.DictComp
import HandS.ListItems
import KE.DataFind
import KE.GoesMore
import KE.GoesEnum
import KE.KDictZip
import PyProof.InstEq
import HandS.OwnEq
import HandS.DictTup
import HandS.Sort
import HandS.Conv
import HandS.Zip
import HandS.Codes
import PySem.Challenge.RW_afterfall_k62_whole_barriers_more
set_option Elab.async false
set_option linter.all false
set_option maxRecDepth 100000
section
set_option maxHeartbeats 4000000
/-! The data logic: readings told by plain data, the heap out of sight. -/
namespace Af
open PySem L2

/-- plain data -/
inductive Dat where
  | non | bl (b : Bool) | int (i : Int) | str (x : Str) | ty (n : String) | cls (a : Addr) | tup (l : List Dat) | lst (l : List Dat) | dct (l : List (Int × Dat)) | obj (l : List (Str × Dat))

/-- what never changes once it stands -/
def Imm (C : Addr) : HO → Prop
  | .tup _ => True
  | .frz _ _ => True
  | .ins D _ fs => D = C ∧ fs.length = 5
  | _ => False

mutual
inductive Rep (C : Addr) (H : Hp) : V → Dat → Prop
  | non : Rep C H .non .non
  | bl (b : Bool) : Rep C H (.bl b) (.bl b)
  | int (i : Int) : Rep C H (.int i) (.int i)
  | str (x : Str) : Rep C H (.str x) (.str x)
  | ty (n : String) : Rep C H (.ty n) (.ty n)
  | cls (a : Addr) : Rep C H (.ref a) (.cls a)
  | tup {a : Addr} {xs : List V} {ds : List Dat} : H a = some (.tup xs) → Reps C H xs ds → Rep C H (.ref a) (.tup ds)
  | lst {a : Addr} {o : Obj} {xs : List V} {ds : List Dat} : H a = some (.frz o (.lst xs)) → Reps C H xs ds → Rep C H (.ref a) (.lst ds)
  | dct {a : Addr} {o : Obj} {ks : List (Key × V)} {ds : List (Int × Dat)} : H a = some (.frz o (.dK ks)) → RepK C H ks ds → Rep C H (.ref a) (.dct ds)
  | obj {a dx : Addr} {fs : List (Str × V)} {ds : List (Str × Dat)} : H a = some (.ins C dx fs) → fs.length = 5 → RepF C H fs ds → Rep C H (.ref a) (.obj ds)
inductive Reps (C : Addr) (H : Hp) : List V → List Dat → Prop
  | nil : Reps C H [] []
  | cons {v : V} {vs : List V} {d : Dat} {ds : List Dat} : Rep C H v d → Reps C H vs ds → Reps C H (v :: vs) (d :: ds)
inductive RepK (C : Addr) (H : Hp) : List (Key × V) → List (Int × Dat) → Prop
  | nil : RepK C H [] []
  | cons {k : Int} {v : V} {vs : List (Key × V)} {d : Dat} {ds : List (Int × Dat)} : Rep C H v d → RepK C H vs ds → RepK C H ((Sum.inl k, v) :: vs) ((k, d) :: ds)
inductive RepF (C : Addr) (H : Hp) : List (Str × V) → List (Str × Dat) → Prop
  | nil : RepF C H [] []
  | cons {f : Str} {v : V} {vs : List (Str × V)} {d : Dat} {ds : List (Str × Dat)} : Rep C H v d → RepF C H vs ds → RepF C H ((f, v) :: vs) ((f, d) :: ds)
end

/-- what never changes is kept -/
def Kp (C : Addr) (H H' : Hp) : Prop := ∀ a o, H a = some o → Imm C o → H' a = some o

mutual
theorem Rep.mono {C : Addr} {H H' : Hp} (e : Kp C H H') : ∀ {v : V} {d : Dat}, Rep C H v d → Rep C H' v d
  | _, _, .non => .non
  | _, _, .bl b => .bl b
  | _, _, .int i => .int i
  | _, _, .str x => .str x
  | _, _, .ty x => .ty x
  | _, _, .cls x => .cls x
  | _, _, .tup h r => .tup (e _ _ h trivial) (Reps.mono e r)
  | _, _, .lst h r => .lst (e _ _ h trivial) (Reps.mono e r)
  | _, _, .dct h r => .dct (e _ _ h trivial) (RepK.mono e r)
  | _, _, .obj h l r => .obj (e _ _ h ⟨rfl, l⟩) l (RepF.mono e r)
theorem Reps.mono {C : Addr} {H H' : Hp} (e : Kp C H H') : ∀ {vs : List V} {ds : List Dat}, Reps C H vs ds → Reps C H' vs ds
  | _, _, .nil => .nil
  | _, _, .cons a r => .cons (Rep.mono e a) (Reps.mono e r)
theorem RepK.mono {C : Addr} {H H' : Hp} (e : Kp C H H') : ∀ {vs : List (Key × V)} {ds : List (Int × Dat)}, RepK C H vs ds → RepK C H' vs ds
  | _, _, .nil => .nil
  | _, _, .cons a r => .cons (Rep.mono e a) (RepK.mono e r)
theorem RepF.mono {C : Addr} {H H' : Hp} (e : Kp C H H') : ∀ {vs : List (Str × V)} {ds : List (Str × Dat)}, RepF C H vs ds → RepF C H' vs ds
  | _, _, .nil => .nil
  | _, _, .cons a r => .cons (Rep.mono e a) (RepF.mono e r)
end
theorem Kp.refl {C : Addr} {H : Hp} : Kp C H H := fun _ _ h _ => h
theorem Kp.trans {C : Addr} {H H1 H2 : Hp} (a : Kp C H H1) (b : Kp C H1 H2) : Kp C H H2 := fun x o h i => b x o (a x o h i) i
theorem Kp.same {C : Addr} {H H' : Hp} (s : Same H H') : Kp C H H' := fun a o h _ => s a o h

/-- a slot, or a result: unknown | data that never changes | a list of one's own | a dict of one's own | the caller's list, read alone | the pen | a name's thing (read by its slot) | a borrowed instance | an instance that stands | a borrowed dict | a borrowed list -/
inductive Sl where
  | un | im (d : Dat) | ow (ds : List Dat) | od (ks : List (Int × Dat)) | ro (ds : List Dat) | pn (p : Addr) (k : Nat) | pr (i : Nat)
  | mk (p c : Addr) (fs : List (Str × Dat)) | qi (c : Addr) (fs : List (Str × Dat)) | ri (c : Addr) (fs : List (Str × Dat)) | bd (a : Addr) (ks : List (Int × Dat)) | bl (a : Addr) (ds : List Dat)
abbrev Sls := List Sl
def OwnS : Sl → Prop
  | .ow _ => True
  | .od _ => True
  | _ => False
/-- the pen: a list of ints, a place, a number; at least k draws are left to 2 ^ 60 -/
def PenOk (H : Hp) (p : Addr) (k : Nat) : Prop := ∃ (L : Addr) (o : Obj) (ns : List Int) (i v : Int), H p = some (.lst [.ref L, .int i, .int v]) ∧ H L = some (.frz o (.lst (ns.map V.int))) ∧ 0 ≤ i ∧ i + (k : Int) ≤ 1152921504606846976

section
variable (C : Addr) (B : Addr → Prop) (H0 H : Hp) (σ : L2.St)
def SlOk (v : V) : Sl → Prop
  | .un => True
  | .im d => Rep C H v d
  | .ow ds => ∃ l xs, v = .ref l ∧ H0 l = none ∧ ¬ B l ∧ H l = some (.lst xs) ∧ Reps C H xs ds
  | .od ds => ∃ l ks, v = .ref l ∧ H0 l = none ∧ ¬ B l ∧ H l = some (.dK ks) ∧ RepK C H ks ds
  | .ro ds => ∃ l xs, v = .ref l ∧ H0 l = some (.lst xs) ∧ ¬ B l ∧ Reps C H xs ds
  | .pn p k => v = .ref p ∧ B p ∧ PenOk H p k
  | .pr i => σ[i]? = some (some v)
  | .mk p c fs => v = .ref p ∧ B p ∧ ∃ dx vs, H p = some (.ins c dx vs) ∧ RepF C H vs fs
  | .ri c fs => ∃ p dx vs, v = .ref p ∧ H0 p = some (.ins c dx vs) ∧ ¬ B p ∧ RepF C H vs fs
  | .qi c fs => ∃ p dx vs, v = .ref p ∧ H0 p = none ∧ ¬ B p ∧ H p = some (.ins c dx vs) ∧ RepF C H vs fs
  | .bd a ks => v = .ref a ∧ B a ∧ ∃ xs, H a = some (.dK xs) ∧ RepK C H xs ks
  | .bl a ds => v = .ref a ∧ B a ∧ ∃ xs, H a = some (.lst xs) ∧ Reps C H xs ds
def Owned (env : Sls) (a : Addr) : Prop := ∃ (i : Nat) (s : Sl), env[i]? = some s ∧ OwnS s ∧ σ[i]? = some (some (V.ref a))
structure RepE (env : Sls) : Prop where
  len : σ.length = env.length
  slot : ∀ (i : Nat) (s : Sl), env[i]? = some s → s = .un ∨ ∃ v, σ[i]? = some (some v) ∧ SlOk C B H0 H σ v s
  dist : ∀ (i j : Nat) (s t : Sl) (v : V), env[i]? = some s → env[j]? = some t → OwnS s → OwnS t → σ[i]? = some (some v) → σ[j]? = some (some v) → i = j
  nopr : ∀ i m : Nat, env[i]? ≠ some (.pr m)
  base : ∀ a o, H0 a = some o → ¬ B a → H a = some o
  mutB : ∀ a, B a → ∃ o, H a = some o ∧ ¬ Imm C o
/-- all is kept but what is borrowed or owned -/
structure Frm (env : Sls) (H' : Hp) : Prop where
  keep : ∀ a o, H a = some o → ¬ B a → ¬ Owned σ env a → H' a = some o
  dom : ∀ a, H' a = none → H a = none
end

theorem Owned.un {σ : L2.St} {env : Sls} {a : Addr} (h : Owned σ env a) : ∃ (i : Nat) (s : Sl), env[i]? = some s ∧ OwnS s ∧ σ[i]? = some (some (V.ref a)) := h
theorem imm_lst {C : Addr} {xs : List V} : ¬ Imm C (.lst xs) := id
theorem imm_dK {C : Addr} {xs : List (Key × V)} : ¬ Imm C (.dK xs) := id

section
variable {C : Addr} {B : Addr → Prop} {H0 H H' H1 H2 : Hp} {σ : L2.St} {env env' : Sls}
theorem RepE.ownM (R : RepE C B H0 H σ env) {a : Addr} (h : Owned σ env a) : (∃ o, H a = some o ∧ ¬ Imm C o) ∧ H0 a = none ∧ ¬ B a := by
  obtain ⟨i, s, e, ow, g⟩ := h
  rcases R.slot i s e with u | ⟨v, hv, ok⟩
  · subst u
    exact ow.elim
  · rw [g] at hv
    cases hv
    cases s with
    | ow ds =>
      obtain ⟨l, xs, e1, h0, hb, hl, _⟩ := ok
      cases e1
      exact ⟨⟨_, hl, imm_lst⟩, h0, hb⟩
    | od ds =>
      obtain ⟨l, xs, e1, h0, hb, hl, _⟩ := ok
      cases e1
      exact ⟨⟨_, hl, imm_dK⟩, h0, hb⟩
    | _ => exact ow.elim
theorem RepE.kp (R : RepE C B H0 H σ env) (f : Frm B H σ env H') : Kp C H H' := fun a o h i =>
  f.keep a o h (fun b => by
    obtain ⟨u, e, n⟩ := R.mutB a b
    rw [h] at e
    cases e
    exact n i) fun w => by
    obtain ⟨⟨u, e, n⟩, _⟩ := R.ownM w
    rw [h] at e
    cases e
    exact n i
theorem Frm.same (s : Same H H') : Frm B H σ env H' := ⟨fun a o h _ _ => s a o h, fun a h => s.free h⟩
theorem Frm.refl : Frm B H σ env H := ⟨fun _ _ h _ _ => h, fun _ h => h⟩
theorem Frm.trans (f : Frm B H σ env H1) (g : Frm B H1 σ env' H2) (s : ∀ a, Owned σ env' a → Owned σ env a) : Frm B H σ env H2 :=
  ⟨fun a o h nb no => g.keep a o (f.keep a o h nb no) nb fun w => no (s a w), fun a h => f.dom a (g.dom a h)⟩
/-- a slot's thing is as it was where all that was is kept -/
theorem SlOk.same {v : V} {s : Sl} (e : Same H H') (h : SlOk C B H0 H σ v s) : SlOk C B H0 H' σ v s := by
  cases s with
  | un => trivial
  | im d => exact Rep.mono (Kp.same e) h
  | ow ds =>
    obtain ⟨l, xs, e1, h0, hb, hl, r⟩ := h
    exact ⟨l, xs, e1, h0, hb, e _ _ hl, r.mono (Kp.same e)⟩
  | od ds =>
    obtain ⟨l, xs, e1, h0, hb, hl, r⟩ := h
    exact ⟨l, xs, e1, h0, hb, e _ _ hl, r.mono (Kp.same e)⟩
  | ro ds =>
    obtain ⟨l, xs, e1, h0, hb, r⟩ := h
    exact ⟨l, xs, e1, h0, hb, r.mono (Kp.same e)⟩
  | ri c fs =>
    obtain ⟨p, dx, vs, e1, h0, hb, r⟩ := h
    exact ⟨p, dx, vs, e1, h0, hb, r.mono (Kp.same e)⟩
  | pn p k =>
    obtain ⟨e1, hb, L, o, ns, i, z, h1, h2, h3⟩ := h
    exact ⟨e1, hb, L, o, ns, i, z, e _ _ h1, e _ _ h2, h3⟩
  | pr i => exact h
  | mk p c fs =>
    obtain ⟨e1, hb, dx, vs, hp, r⟩ := h
    exact ⟨e1, hb, dx, vs, e _ _ hp, r.mono (Kp.same e)⟩
  | qi c fs =>
    obtain ⟨p, dx, vs, e1, h0, hb, hp, r⟩ := h
    exact ⟨p, dx, vs, e1, h0, hb, e _ _ hp, r.mono (Kp.same e)⟩
  | bd a ks =>
    obtain ⟨e1, hb, xs, hp, r⟩ := h
    exact ⟨e1, hb, xs, e _ _ hp, r.mono (Kp.same e)⟩
  | bl a ks =>
    obtain ⟨e1, hb, xs, hp, r⟩ := h
    exact ⟨e1, hb, xs, e _ _ hp, r.mono (Kp.same e)⟩
theorem RepE.same (R : RepE C B H0 H σ env) (e : Same H H') : RepE C B H0 H' σ env where
  len := R.len
  slot := fun i s h => (R.slot i s h).imp id fun ⟨v, hv, ok⟩ => ⟨v, hv, ok.same e⟩
  dist := R.dist
  nopr := R.nopr
  base := fun a o h nb => e _ _ (R.base a o h nb)
  mutB := fun a b => by
    obtain ⟨o, h, n⟩ := R.mutB a b
    exact ⟨o, e _ _ h, n⟩
/-- a result that may stand beside the evaluation of another thing -/
def Res : Sl → Prop
  | .im _ => True
  | .ow _ => True
  | .od _ => True
  | .ro _ => True
  | .pr _ => True
  | .qi _ _ => True
  | .ri _ _ => True
  | _ => False
/-- an instance is no slot's own -/
theorem RepE.noIns (R : RepE C B H0 H σ env) {p c dx : Addr} {vs : List (Str × V)} (h : H p = some (.ins c dx vs)) : ¬ Owned σ env p := by
  rintro ⟨i, s, e, ow, g⟩
  rcases R.slot i s e with u | ⟨v, hv, ok⟩
  · subst u
    exact ow.elim
  · rw [g] at hv
    cases hv
    cases s with
    | ow ds =>
      obtain ⟨l, xs, e1, h0, hb, hl, _⟩ := ok
      cases e1
      rw [h] at hl
      cases hl
    | od ds =>
      obtain ⟨l, xs, e1, h0, hb, hl, _⟩ := ok
      cases e1
      rw [h] at hl
      cases hl
    | _ => exact ow.elim
theorem SlOk.frm {v : V} {s : Sl} (R : RepE C B H0 H σ env) (f : Frm B H σ env H') (hs : Res s) (no : OwnS s → ∀ a, v = .ref a → ¬ Owned σ env a) (h : SlOk C B H0 H σ v s) : SlOk C B H0 H' σ v s := by
  cases s with
  | im d => exact Rep.mono (R.kp f) h
  | ow ds =>
    obtain ⟨l, xs, e1, h0, hb, hl, r⟩ := h
    exact ⟨l, xs, e1, h0, hb, f.keep _ _ hl hb (no trivial l e1), r.mono (R.kp f)⟩
  | od ds =>
    obtain ⟨l, xs, e1, h0, hb, hl, r⟩ := h
    exact ⟨l, xs, e1, h0, hb, f.keep _ _ hl hb (no trivial l e1), r.mono (R.kp f)⟩
  | ro ds =>
    obtain ⟨l, xs, e1, h0, hb, r⟩ := h
    exact ⟨l, xs, e1, h0, hb, r.mono (R.kp f)⟩
  | pr i => exact h
  | qi c fs =>
    obtain ⟨p, dx, vs, e1, h0, hb, hp, r⟩ := h
    exact ⟨p, dx, vs, e1, h0, hb, f.keep _ _ hp hb (R.noIns hp), r.mono (R.kp f)⟩
  | ri c fs =>
    obtain ⟨p, dx, vs, e1, h0, hb, r⟩ := h
    exact ⟨p, dx, vs, e1, h0, hb, r.mono (R.kp f)⟩
  | un => exact hs.elim
  | pn p k => exact hs.elim
  | mk p c fs => exact hs.elim
  | bd a ks => exact hs.elim
  | bl a ks => exact hs.elim
end

/-! ### what is wanted, told by data -/
/-- a result: not owned by a slot if it is one's own, and new -/
def New (H : Hp) (v : V) (s : Sl) : Prop := OwnS s → ∀ a, v = .ref a → H a = none
section
variable (C : Addr)
def EX (te : TE) (env : Sls) (K : Sl → Sls → Prop) : Prop := ∀ (B : Addr → Prop) (H0 : Hp) (σ : L2.St) (H : Hp), RepE C B H0 H σ env → ∀ Q : VK,
  (∀ s env' v H', K s env' → Res s → Frm B H σ env H' → (∀ a, Owned σ env' a → Owned σ env a) → RepE C B H0 H' σ env' → SlOk C B H0 H' σ v s → New H v s → Q v H') → te σ H Q
def EXA (ta : TA) (env : Sls) (K : List Sl → Sls → Prop) : Prop := ∀ (B : Addr → Prop) (H0 : Hp) (σ : L2.St) (H : Hp), RepE C B H0 H σ env → ∀ Q : List V → Hp → Prop,
  (∀ ss env' vs H', K ss env' → Frm B H σ env H' → (∀ a, Owned σ env' a → Owned σ env a) → RepE C B H0 H' σ env' → Paired (fun v s => Res s ∧ SlOk C B H0 H' σ v s ∧ New H v s) vs ss → Q vs H') → ta σ H Q
def ET (tt : TT) (env : Sls) (K : Bool → Sls → Prop) : Prop := ∀ (B : Addr → Prop) (H0 : Hp) (σ : L2.St) (H : Hp), RepE C B H0 H σ env → ∀ Q : Bool → Hp → Prop,
  (∀ b env' H', K b env' → Frm B H σ env H' → (∀ a, Owned σ env' a → Owned σ env a) → RepE C B H0 H' σ env' → Q b H') → tt σ H Q
structure Wish where
  nx : Sls → Prop
  rt : Sl → Sls → Prop
  bk : Sls → Prop := fun _ => False
  ct : Sls → Prop := fun _ => False
def SX (ts : TS) (env : Sls) (W : Wish) : Prop := ∀ (B : Addr → Prop) (H0 : Hp) (σ : L2.St) (H : Hp), RepE C B H0 H σ env → ∀ D : Ends,
  (∀ σ' H' env', W.nx env' → Kp C H H' → RepE C B H0 H' σ' env' → D.nx σ' H') → (∀ s env' v σ' H', W.rt s env' → RepE C B H0 H' σ' env' → SlOk C B H0 H' σ' v s → D.rt v H') →
  (∀ σ' H' env', W.bk env' → Kp C H H' → RepE C B H0 H' σ' env' → D.bk σ' H') → (∀ σ' H' env', W.ct env' → Kp C H H' → RepE C B H0 H' σ' env' → D.ct σ' H') → ts D σ H
end

/-! ### names and constants -/
section
variable {C : Addr} {env : Sls} {K : Sl → Sls → Prop} {ta tb tc te : TE} {KK : PySem.W.Frag}
theorem RepE.at (B : Addr → Prop) {H0 H : Hp} {σ : L2.St} (R : RepE C B H0 H σ env) {i : Nat} {s : Sl} (h : env[i]? = some s) (hs : s ≠ .un) : ∃ v, σ[i]? = some (some v) ∧ SlOk C B H0 H σ v s :=
  (R.slot i s h).resolve_left hs
theorem ex_im {i : Nat} {d : Dat} (h : env[i]? = some (.im d)) (k : K (.im d) env) : EX C (tVar i) env K := fun B H0 σ H R Q q => by
  obtain ⟨v, hv, ok⟩ := R.at B h (fun z => nomatch z)
  exact ⟨v, hv, q _ _ v H k trivial .refl (fun _ z => z) R ok fun z => z.elim⟩
theorem ex_pr {i : Nat} {s : Sl} (h : env[i]? = some s) (hs : s ≠ .un) (k : K (.pr i) env) : EX C (tVar i) env K := fun B H0 σ H R Q q => by
  obtain ⟨v, hv, _⟩ := R.at B h hs
  exact ⟨v, hv, q _ _ v H k trivial .refl (fun _ z => z) R hv fun z => z.elim⟩
theorem ex_ow {i : Nat} {ds : List Dat} (h : env[i]? = some (.ow ds)) (k : K (.pr i) env) : EX C (tVar i) env K := ex_pr h (fun z => nomatch z) k
theorem ex_od {i : Nat} {ds : List (Int × Dat)} (h : env[i]? = some (.od ds)) (k : K (.pr i) env) : EX C (tVar i) env K := ex_pr h (fun z => nomatch z) k
theorem ex_ro {i : Nat} {ds : List Dat} (h : env[i]? = some (.ro ds)) (k : K (.pr i) env) : EX C (tVar i) env K := ex_pr h (fun z => nomatch z) k
theorem ex_mk {i : Nat} {p c : Addr} {fs : List (Str × Dat)} (h : env[i]? = some (.mk p c fs)) (k : K (.pr i) env) : EX C (tVar i) env K := ex_pr h (fun z => nomatch z) k
theorem ex_ri {i : Nat} {c : Addr} {fs : List (Str × Dat)} (h : env[i]? = some (.ri c fs)) (k : K (.pr i) env) : EX C (tVar i) env K := ex_pr h (fun z => nomatch z) k
theorem ex_qi {i : Nat} {c : Addr} {fs : List (Str × Dat)} (h : env[i]? = some (.qi c fs)) (k : K (.pr i) env) : EX C (tVar i) env K := ex_pr h (fun z => nomatch z) k
theorem ex_bl {i : Nat} {a : Addr} {ds : List Dat} (h : env[i]? = some (.bl a ds)) (k : K (.pr i) env) : EX C (tVar i) env K := ex_pr h (fun z => nomatch z) k
theorem ex_pn {i n : Nat} {p : Addr} (h : env[i]? = some (.pn p n)) (k : K (.pr i) env) : EX C (tVar i) env K := ex_pr h (fun z => nomatch z) k
/-- a written scalar -/
inductive ScD : V → Dat → Prop
  | non : ScD .non .non
  | bl (b : Bool) : ScD (.bl b) (.bl b)
  | int (i : Int) : ScD (.int i) (.int i)
  | str (x : Str) : ScD (.str x) (.str x)
  | ty (n : String) : ScD (.ty n) (.ty n)
  | cls (a : Addr) : ScD (.ref a) (.cls a)
theorem ScD.rep {v : V} {d : Dat} (h : ScD v d) {H : Hp} : Rep C H v d := by
  cases h with
  | non => exact .non
  | bl b => exact .bl b
  | int i => exact .int i
  | str x => exact .str x
  | ty x => exact .ty x
  | cls x => exact .cls x
theorem ex_c {v : V} {d : Dat} (h : ScD v d) (k : K (.im d) env) : EX C (tC v) env K := fun B H0 σ H R Q q => q _ _ v H k trivial .refl (fun _ z => z) R h.rep fun z => z.elim

/-! ### operations on two values -/
def RX (C : Addr) (r : R2) (s1 s2 : Sl) (env : Sls) (k : Sl → Prop) : Prop := ∀ (B : Addr → Prop) (H0 : Hp) (σ : L2.St) (H : Hp) (x y : V), RepE C B H0 H σ env → SlOk C B H0 H σ x s1 → SlOk C B H0 H σ y s2 → ∀ Q : VK,
  (∀ s v H', k s → Res s → Same H H' → SlOk C B H0 H' σ v s → New H v s → Q v H') → r x y H Q
/-- what is new is no slot's own -/
theorem New.own {B : Addr → Prop} {H0 H : Hp} {σ : L2.St} {v : V} {s : Sl} {e1 : Sls} (n : New H v s) (R : RepE C B H0 H σ env) (o1 : ∀ a, Owned σ e1 a → Owned σ env a) : OwnS s → ∀ a, v = .ref a → ¬ Owned σ e1 a := fun o a e w => by
  obtain ⟨⟨u, hu, _⟩, _⟩ := R.ownM (o1 a w)
  rw [n o a e] at hu
  cases hu
theorem New.back {B : Addr → Prop} {H H' : Hp} {σ : L2.St} {v : V} {s : Sl} (n : New H' v s) (f : Frm B H σ env H') : New H v s := fun o a e => f.dom a (n o a e)
theorem ex_op {r : R2} (h : EX C ta env fun s1 e1 => EX C tb e1 fun s2 e2 => RX C r s1 s2 e2 fun s => K s e2) : EX C (tOp r ta tb) env K := fun B H0 σ H R Q q => by
  refine h B H0 σ H R _ fun s1 e1 x H1 h1 r1 f1 o1 R1 k1 n1 => ?_
  refine h1 B H0 σ H1 R1 _ fun s2 e2 y H2 h2 r2 f2 o2 R2 k2 n2 => ?_
  have f12 := f1.trans f2 o1
  refine h2 B H0 σ H2 x y R2 (k1.frm R1 f2 r1 (n1.own R o1)) k2 Q fun s v H3 h3 r3 f3 k3 n3 => ?_
  exact q s e2 v H3 h3 r3 (f12.trans (Frm.same f3) fun a w => o1 a (o2 a w)) (fun a w => o1 a (o2 a w)) (R2.same f3) k3 (n3.back f12)
end
end Af
end

section
set_option maxHeartbeats 4000000
namespace Af
open PySem L2
section
variable {C : Addr} {env : Sls} {K : Sl → Sls → Prop} {ta tb tc te : TE} {F : PySem.W.Frag} {H : Hp} {v : V} {B : Addr → Prop} {H0 : Hp} {σ : L2.St}
theorem rep_int {i : Int} (h : Rep C H v (.int i)) : v = .int i := by cases h; rfl
theorem rep_bl {i : Bool} (h : Rep C H v (.bl i)) : v = .bl i := by cases h; rfl
theorem rep_non (h : Rep C H v .non) : v = .non := by cases h; rfl
theorem rep_tup {ds : List Dat} (h : Rep C H v (.tup ds)) : ∃ a xs, v = .ref a ∧ H a = some (.tup xs) ∧ Reps C H xs ds := by
  cases h with | tup h r => exact ⟨_, _, rfl, h, r⟩
theorem rep_lst {ds : List Dat} (h : Rep C H v (.lst ds)) : ∃ a o xs, v = .ref a ∧ H a = some (.frz o (.lst xs)) ∧ Reps C H xs ds := by
  cases h with | lst h r => exact ⟨_, _, _, rfl, h, r⟩
theorem rep_dct {ds : List (Int × Dat)} (h : Rep C H v (.dct ds)) : ∃ a o xs, v = .ref a ∧ H a = some (.frz o (.dK xs)) ∧ RepK C H xs ds := by
  cases h with | dct h r => exact ⟨_, _, _, rfl, h, r⟩
theorem rep_obj {ds : List (Str × Dat)} (h : Rep C H v (.obj ds)) : ∃ a dx fs, v = .ref a ∧ H a = some (.ins C dx fs) ∧ fs.length = 5 ∧ RepF C H fs ds := by
  cases h with | obj h l r => exact ⟨_, _, _, rfl, h, l, r⟩
theorem Reps.length : ∀ {xs : List V} {ds : List Dat}, Reps C H xs ds → xs.length = ds.length
  | _, _, .nil => rfl
  | _, _, .cons _ r => by rw [List.length_cons, List.length_cons, r.length]
theorem RepK.length : ∀ {xs : List (Key × V)} {ds : List (Int × Dat)}, RepK C H xs ds → xs.length = ds.length
  | _, _, .nil => rfl
  | _, _, .cons _ r => by rw [List.length_cons, List.length_cons, r.length]
theorem Reps.get : ∀ {xs : List V} {ds : List Dat} {i : Nat} {d : Dat}, Reps C H xs ds → ds[i]? = some d → ∃ x, xs[i]? = some x ∧ Rep C H x d
  | _, _, 0, _, .cons a _, e => by
    cases e
    exact ⟨_, rfl, a⟩
  | _, _, i + 1, d, .cons _ r, e => by
    obtain ⟨x, e1, r1⟩ := Reps.get (i := i) (d := d) r (by simpa using e)
    exact ⟨x, by simpa using e1, r1⟩
  | _, _, _, _, .nil, e => by simp at e
theorem Reps.getV : ∀ {xs : List V} {ds : List Dat} {i : Nat} {x : V}, Reps C H xs ds → xs[i]? = some x → ∃ d, ds[i]? = some d ∧ Rep C H x d
  | _, _, 0, _, .cons a _, e => by
    cases e
    exact ⟨_, rfl, a⟩
  | _, _, i + 1, d, .cons _ r, e => by
    obtain ⟨x, e1, r1⟩ := Reps.getV (i := i) (x := d) r (by simpa using e)
    exact ⟨x, by simpa using e1, r1⟩
  | _, _, _, _, .nil, e => by simp at e
theorem Reps.append : ∀ {xs ys : List V} {ds es : List Dat}, Reps C H xs ds → Reps C H ys es → Reps C H (xs ++ ys) (ds ++ es)
  | _, _, _, _, .nil, s => s
  | _, _, _, _, .cons a r, s => .cons a (r.append s)
theorem Reps.take : ∀ {xs : List V} {ds : List Dat} (n : Nat), Reps C H xs ds → Reps C H (xs.take n) (ds.take n)
  | _, _, 0, _ => .nil
  | _, _, _ + 1, .nil => .nil
  | _, _, n + 1, .cons a r => .cons a (r.take n)
theorem Reps.drop : ∀ {xs : List V} {ds : List Dat} (n : Nat), Reps C H xs ds → Reps C H (xs.drop n) (ds.drop n)
  | _, _, 0, r => r
  | _, _, _ + 1, .nil => .nil
  | _, _, n + 1, .cons _ r => r.drop n
theorem Reps.set {x : V} {d : Dat} (h : Rep C H x d) : ∀ {xs : List V} {ds : List Dat} (n : Nat), Reps C H xs ds → Reps C H (xs.set n x) (ds.set n d)
  | _, _, _, .nil => .nil
  | _, _, 0, .cons _ r => .cons h r
  | _, _, n + 1, .cons a r => .cons a (Reps.set h n r)
theorem Reps.reverse : ∀ {xs : List V} {ds : List Dat}, Reps C H xs ds → Reps C H xs.reverse ds.reverse
  | _, _, .nil => .nil
  | _, _, .cons a r => by
    rw [List.reverse_cons, List.reverse_cons]
    exact r.reverse.append (.cons a .nil)
theorem Reps.ints : ∀ {ns : List Int} {xs : List V}, Reps C H xs (ns.map Dat.int) → xs = ns.map V.int
  | [], _, h => by cases h; rfl
  | n :: ns, _, h => by
    cases h with
    | cons a r => rw [rep_int a, Reps.ints r]; rfl
theorem Reps.of_ints : ∀ (ns : List Int), Reps C H (ns.map V.int) (ns.map Dat.int)
  | [] => .nil
  | n :: ns => .cons (.int n) (Reps.of_ints ns)
theorem Reps.bls : ∀ {ns : List Bool} {xs : List V}, Reps C H xs (ns.map Dat.bl) → xs = ns.map V.bl
  | [], _, h => by cases h; rfl
  | n :: ns, _, h => by
    cases h with
    | cons a r => rw [rep_bl a, Reps.bls r]; rfl

/-! ### what may be read -/
def findL (a : Addr) : Sls → Option (List Dat)
  | [] => none
  | .bl b ds :: r => if b = a then some ds else findL a r
  | _ :: r => findL a r
theorem findL_at {a : Addr} : ∀ {env : Sls} {ds : List Dat}, findL a env = some ds → ∃ i : Nat, env[i]? = some (Sl.bl a ds)
  | [], _, h => by cases h
  | s :: r, ds, h => by
    have rec' : findL a r = some ds → ∃ i : Nat, (s :: r)[i]? = some (Sl.bl a ds) := fun h => by
      obtain ⟨i, e⟩ := findL_at h
      exact ⟨i + 1, by simpa using e⟩
    cases s with
    | bl b ms =>
      unfold findL at h
      by_cases e : b = a
      · rw [if_pos e] at h
        cases h
        subst e
        exact ⟨0, rfl⟩
      · rw [if_neg e] at h
        exact rec' h
    | _ => exact rec' h
def rdl (env : Sls) : Sl → Option (List Dat)
  | .im (.lst ds) => some ds
  | .im (.cls a) => findL a env
  | .ow ds => some ds
  | .ro ds => some ds
  | .pr i => match env[i]? with
    | some (.ow ds) => some ds
    | some (.ro ds) => some ds
    | some (.bl _ ds) => some ds
    | _ => none
  | _ => none
def rdt : Sl → Option (List Dat)
  | .im (.tup ds) => some ds
  | _ => none
def LstAt (H : Hp) (l : Addr) (xs : List V) : Prop := H l = some (.lst xs) ∨ ∃ o, H l = some (.frz o (.lst xs))
theorem LstAt.sq {l : Addr} {xs : List V} (h : LstAt H l xs) : SqL F H l xs := .inl h
theorem rdl_ok {s : Sl} {ds : List Dat} (R : RepE C B H0 H σ env) (ok : SlOk C B H0 H σ v s) (h : rdl env s = some ds) : ∃ l xs, v = .ref l ∧ LstAt H l xs ∧ Reps C H xs ds ∧ ((∀ d, s ≠ .im d) → H l = some (.lst xs)) := by
  cases s with
  | im d =>
    cases d with
    | lst l =>
      cases h
      obtain ⟨a, o, xs, e, hh, r⟩ := rep_lst ok
      exact ⟨a, xs, e, .inr ⟨o, hh⟩, r, fun z => absurd rfl (z _)⟩
    | cls a =>
      obtain ⟨i, e⟩ := findL_at h
      obtain ⟨w, hw, e1, hb, xs, hp, r⟩ := R.at B e (fun z => nomatch z)
      have ev : v = .ref a := by cases ok; rfl
      exact ⟨a, xs, ev, .inl hp, r, fun z => absurd rfl (z _)⟩
    | _ => cases h
  | ow l =>
    cases h
    obtain ⟨a, xs, e, _, _, hh, r⟩ := ok
    exact ⟨a, xs, e, .inl hh, r, fun _ => hh⟩
  | ro l =>
    cases h
    obtain ⟨a, xs, e, hh, nb, r⟩ := ok
    exact ⟨a, xs, e, .inl (R.base _ _ hh nb), r, fun _ => R.base _ _ hh nb⟩
  | pr i =>
    unfold rdl at h
    simp only at h
    have ok : σ[i]? = some (some v) := ok
    cases e : env[i]? with
    | none => rw [e] at h; cases h
    | some s =>
      rw [e] at h
      cases s with
      | ow l =>
        cases h
        obtain ⟨w, hw, k⟩ := R.at B e (fun z => nomatch z)
        rw [ok] at hw
        cases hw
        obtain ⟨a, xs, e, _, _, hh, r⟩ := k
        exact ⟨a, xs, e, .inl hh, r, fun _ => hh⟩
      | ro l =>
        cases h
        obtain ⟨w, hw, k⟩ := R.at B e (fun z => nomatch z)
        rw [ok] at hw
        cases hw
        obtain ⟨a, xs, e, hh, nb, r⟩ := k
        exact ⟨a, xs, e, .inl (R.base _ _ hh nb), r, fun _ => R.base _ _ hh nb⟩
      | bl a l =>
        cases h
        obtain ⟨w, hw, e1, hb, xs, hp, r⟩ := R.at B e (fun z => nomatch z)
        rw [ok] at hw
        cases hw
        exact ⟨a, xs, e1, .inl hp, r, fun _ => hp⟩
      | _ => cases h
  | _ => cases h
theorem rdt_ok {s : Sl} {ds : List Dat} (ok : SlOk C B H0 H σ v s) (h : rdt s = some ds) : ∃ l xs, v = .ref l ∧ H l = some (.tup xs) ∧ Reps C H xs ds := by
  cases s with
  | im d =>
    cases d with
    | tup l => cases h; exact rep_tup ok
    | _ => cases h
  | _ => cases h

/-! ### operations by values -/
variable {k : Sl → Prop} {s1 s2 : Sl}
theorem rx_I0i {f : Int → Int → Int} {i j : Int} (h : k (.im (.int (f i j)))) : RX C (rI0 fun i j => .int (f i j)) (.im (.int i)) (.im (.int j)) env k := fun B H0 σ H x y R hx hy Q q =>
  ⟨i, j, rep_int hx, rep_int hy, q _ _ _ h trivial (Same.refl _) (.int _) fun z => z.elim⟩
theorem rx_I0b {f : Int → Int → Bool} {i j : Int} (h : k (.im (.bl (f i j)))) : RX C (rI0 fun i j => .bl (f i j)) (.im (.int i)) (.im (.int j)) env k := fun B H0 σ H x y R hx hy Q q =>
  ⟨i, j, rep_int hx, rep_int hy, q _ _ _ h trivial (Same.refl _) (.bl _) fun z => z.elim⟩
theorem rx_Ii {P : Int → Int → Prop} {f : Int → Int → Int} {i j : Int} (hc : P i j) (h : k (.im (.int (f i j)))) : RX C (rI P fun i j => .int (f i j)) (.im (.int i)) (.im (.int j)) env k := fun B H0 σ H x y R hx hy Q q =>
  ⟨i, j, rep_int hx, rep_int hy, hc, q _ _ _ h trivial (Same.refl _) (.int _) fun z => z.elim⟩
theorem dec_int' {i j : Int} : decide (V.int i = V.int j) = decide (i = j) := by simp
theorem dec_bl' {i j : Bool} : decide (V.bl i = V.bl j) = decide (i = j) := by simp
theorem rx_eqI {i j : Int} (h : k (.im (.bl (decide (i = j))))) : RX C rEq (.im (.int i)) (.im (.int j)) env k := fun B H0 σ H x y R hx hy Q q => by
  rw [rep_int hx, rep_int hy]
  refine ⟨rfl, ?_⟩
  rw [dec_int']
  exact q _ _ _ h trivial (Same.refl _) (.bl _) fun z => z.elim
theorem rx_neI {i j : Int} (h : k (.im (.bl (!decide (i = j))))) : RX C rNe (.im (.int i)) (.im (.int j)) env k := fun B H0 σ H x y R hx hy Q q => by
  rw [rep_int hx, rep_int hy]
  refine ⟨rfl, ?_⟩
  rw [dec_int']
  exact q _ _ _ h trivial (Same.refl _) (.bl _) fun z => z.elim
theorem rx_neB {i j : Bool} (h : k (.im (.bl (!decide (i = j))))) : RX C rNe (.im (.bl i)) (.im (.bl j)) env k := fun B H0 σ H x y R hx hy Q q => by
  rw [rep_bl hx, rep_bl hy]
  refine ⟨rfl, ?_⟩
  rw [dec_bl']
  exact q _ _ _ h trivial (Same.refl _) (.bl _) fun z => z.elim
/-- is None -/
def isNon : Sl → Bool
  | .im .non => true
  | _ => false
theorem isNon_ok {s : Sl} (ok : SlOk C B H0 H σ v s) (hs : ∀ i, s ≠ .pr i) (hu : s ≠ .un) : decide (v = .non) = isNon s := by
  cases s with
  | un => exact absurd rfl hu
  | im d =>
    cases ok <;> simp [isNon]
  | pr i => exact absurd rfl (hs i)
  | ow ds =>
    obtain ⟨l, xs, e, _⟩ := ok
    subst e
    simp [isNon]
  | od ds =>
    obtain ⟨l, xs, e, _⟩ := ok
    subst e
    simp [isNon]
  | ro ds =>
    obtain ⟨l, xs, e, _⟩ := ok
    subst e
    simp [isNon]
  | ri c fs =>
    obtain ⟨p, dx, vs, e, _⟩ := ok
    subst e
    simp [isNon]
  | pn p ds =>
    obtain ⟨e, _⟩ := ok
    subst e
    simp [isNon]
  | mk p c fs =>
    obtain ⟨e, _⟩ := ok
    subst e
    simp [isNon]
  | qi c fs =>
    obtain ⟨p, dx, vs, e, _⟩ := ok
    subst e
    simp [isNon]
  | bd a ks =>
    obtain ⟨e, _⟩ := ok
    subst e
    simp [isNon]
  | bl a ks =>
    obtain ⟨e, _⟩ := ok
    subst e
    simp [isNon]
abbrev rIsNone : R2 := fun x y H Q => y = .non ∧ Q (.bl (decide (x = .non))) H
abbrev rNotNone : R2 := fun x y H Q => y = .non ∧ Q (.bl (!decide (x = .non))) H
theorem rx_isN {d : Dat} (h : k (.im (.bl (isNon (.im d))))) : RX C rIsNone (.im d) (.im .non) env k := fun B H0 σ H x y R hx hy Q q => by
  refine ⟨rep_non hy, ?_⟩
  rw [isNon_ok hx (fun _ z => nomatch z) (fun z => nomatch z)]
  exact q _ _ _ h trivial (Same.refl _) (.bl _) fun z => z.elim
theorem rx_notN {d : Dat} (h : k (.im (.bl (!isNon (.im d))))) : RX C rNotNone (.im d) (.im .non) env k := fun B H0 σ H x y R hx hy Q q => by
  refine ⟨rep_non hy, ?_⟩
  rw [isNon_ok hx (fun _ z => nomatch z) (fun z => nomatch z)]
  exact q _ _ _ h trivial (Same.refl _) (.bl _) fun z => z.elim
theorem Reps.atI {xs : List V} {ds : List Dat} {i : Int} {d : Dat} (r : Reps C H xs ds) (h : L2.atI ds i = some d) : ∃ x, L2.atI xs i = some x ∧ Rep C H x d := by
  unfold L2.atI at h ⊢
  rw [r.length]
  cases e : ixN ds.length i with
  | none => rw [e] at h; cases h
  | some j =>
    rw [e] at h
    exact r.get h
theorem rx_ixL {ds : List Dat} {i : Int} {d : Dat} (hd : rdl env s1 = some ds) (ha : L2.atI ds i = some d) (h : k (.im d)) : RX C (rIxL F) s1 (.im (.int i)) env k := fun B H0 σ H x y R hx hy Q q => by
  obtain ⟨l, xs, e, hl, r, _⟩ := rdl_ok R hx hd
  obtain ⟨z, hz, rz⟩ := r.atI ha
  exact ⟨l, xs, i, z, e, rep_int hy, hl.sq, hz, q _ _ _ h trivial (Same.refl _) rz fun z => z.elim⟩
theorem rx_ixT {ds : List Dat} {i : Int} {d : Dat} (ha : L2.atI ds i = some d) (h : k (.im d)) : RX C (rIxT F) (.im (.tup ds)) (.im (.int i)) env k := fun B H0 σ H x y R hx hy Q q => by
  obtain ⟨l, xs, e, hl, r⟩ := rep_tup hx
  obtain ⟨z, hz, rz⟩ := r.atI ha
  exact ⟨l, xs, i, z, e, rep_int hy, SqT.of hl, hz, q _ _ _ h trivial (Same.refl _) rz fun z => z.elim⟩
theorem flat_ints (ns : List Int) : (ns.map V.int).all flatV = true := by
  rw [List.all_eq_true]
  intro x hx
  obtain ⟨n, _, rfl⟩ := List.mem_map.mp hx
  rfl
theorem inV_ints (n : Int) (ns : List Int) : inV (.int n) (ns.map V.int) = decide (n ∈ ns) := by
  rw [Bool.eq_iff_iff]
  unfold inV
  rw [List.any_map, List.any_eq_true]
  simp only [decide_eq_true_eq, Function.comp]
  constructor
  · rintro ⟨y, hy, e⟩
    have : y = n := by simpa [eqV] using e
    exact this ▸ hy
  · intro h
    exact ⟨n, h, by simp [eqV]⟩
/-- in, not in, of ints -/
theorem rx_inL {neg : Bool} {ns : List Int} {n : Int} (hd : rdl env s2 = some (ns.map Dat.int)) (h : k (.im (.bl (if neg then !decide (n ∈ ns) else decide (n ∈ ns))))) : RX C (rIn F neg) (.im (.int n)) s2 env k := fun B H0 σ H x y R hx hy Q q => by
  obtain ⟨l, xs, e, hl, r, _⟩ := rdl_ok R hy hd
  rw [rep_int hx]
  rw [r.ints] at hl
  refine ⟨l, _, e, .inl hl.sq, rfl, flat_ints ns, ?_⟩
  rw [inV_ints]
  exact q _ _ _ h trivial (Same.refl _) (.bl _) fun z => z.elim
theorem rx_inT {neg : Bool} {ns : List Int} {n : Int} (hd : rdt s2 = some (ns.map Dat.int)) (h : k (.im (.bl (if neg then !decide (n ∈ ns) else decide (n ∈ ns))))) : RX C (rIn F neg) (.im (.int n)) s2 env k := fun B H0 σ H x y R hx hy Q q => by
  obtain ⟨l, xs, e, hl, r⟩ := rdt_ok hy hd
  rw [rep_int hx]
  rw [r.ints] at hl
  refine ⟨l, _, e, .inr (SqT.of hl), rfl, flat_ints ns, ?_⟩
  rw [inV_ints]
  exact q _ _ _ h trivial (Same.refl _) (.bl _) fun z => z.elim

/-! ### tests -/
variable {tt tu : TT} {KT : Bool → Sls → Prop}
theorem et_test (h : EX C te env fun s e => ∃ b, s = .im (.bl b) ∧ KT b e) : ET C (tTest te) env KT := fun B H0 σ H R Q q =>
  h B H0 σ H R _ fun s e v H' ⟨b, es, k⟩ _ f o R' ok _ => by
    subst es
    exact ⟨b, rep_bl ok, q b e H' k f o R'⟩
theorem et_B (h : EX C te env fun s e => ∃ b, s = .im (.bl b) ∧ KT b e) : ET C (tB te) env KT := et_test h
theorem et_and (h : ET C tt env fun b e => if b = true then ET C tu e KT else KT false e) : ET C (tAnd tt tu) env KT := fun B H0 σ H R Q q =>
  h B H0 σ H R _ fun b e H1 k f o R1 => by
    cases b with
    | true =>
      rw [if_pos rfl] at k
      show tu σ H1 Q
      exact k B H0 σ H1 R1 Q fun b' e' H2 k2 f2 o2 R2 => q b' e' H2 k2 (f.trans f2 o) (fun a w => o a (o2 a w)) R2
    | false => exact q false e H1 k f o R1
theorem et_or (h : ET C tt env fun b e => if b = true then KT true e else ET C tu e KT) : ET C (tOr tt tu) env KT := fun B H0 σ H R Q q =>
  h B H0 σ H R _ fun b e H1 k f o R1 => by
    cases b with
    | true => exact q true e H1 k f o R1
    | false =>
      have k : ET C tu e KT := k
      show tu σ H1 Q
      exact k B H0 σ H1 R1 Q fun b' e' H2 k2 f2 o2 R2 => q b' e' H2 k2 (f.trans f2 o) (fun a w => o a (o2 a w)) R2
theorem et_not (h : ET C tt env fun b e => KT (!b) e) : ET C (tNot tt) env KT := fun B H0 σ H R Q q =>
  h B H0 σ H R _ fun b e H1 k f o R1 => q (!b) e H1 k f o R1
theorem ex_andV (h : EX C ta env fun s e => ∃ b, s = .im (.bl b) ∧ if b = true then EX C tb e K else K (.im (.bl false)) e) : EX C (tAndV ta tb) env K := fun B H0 σ H R Q q =>
  h B H0 σ H R _ fun s e v H1 ⟨b, es, k⟩ _ f o R1 ok _ => by
    subst es
    refine ⟨b, rep_bl ok, ?_⟩
    cases b with
    | true =>
      rw [if_pos rfl] at k
      show tb σ H1 Q
      exact k B H0 σ H1 R1 Q fun s' e' v' H2 k2 r2 f2 o2 R2 ok2 n2 => q s' e' v' H2 k2 r2 (f.trans f2 o) (fun a w => o a (o2 a w)) R2 ok2 (n2.back f)
    | false => exact q _ e _ H1 k trivial f o R1 (.bl false) fun z => z.elim
theorem ex_orV (h : EX C ta env fun s e => ∃ b, s = .im (.bl b) ∧ if b = true then K (.im (.bl true)) e else EX C tb e K) : EX C (tOrV ta tb) env K := fun B H0 σ H R Q q =>
  h B H0 σ H R _ fun s e v H1 ⟨b, es, k⟩ _ f o R1 ok _ => by
    subst es
    refine ⟨b, rep_bl ok, ?_⟩
    cases b with
    | true => exact q _ e _ H1 k trivial f o R1 (.bl true) fun z => z.elim
    | false =>
      have k : EX C tb e K := k
      show tb σ H1 Q
      exact k B H0 σ H1 R1 Q fun s' e' v' H2 k2 r2 f2 o2 R2 ok2 n2 => q s' e' v' H2 k2 r2 (f.trans f2 o) (fun a w => o a (o2 a w)) R2 ok2 (n2.back f)
theorem ex_notV (h : EX C ta env fun s e => ∃ b, s = .im (.bl b) ∧ K (.im (.bl (!b))) e) : EX C (tNotV ta) env K := fun B H0 σ H R Q q =>
  h B H0 σ H R _ fun s e v H1 ⟨b, es, k⟩ _ f o R1 ok _ => by
    subst es
    exact ⟨b, rep_bl ok, q _ e _ H1 k trivial f o R1 (.bl _) fun z => z.elim⟩
theorem ex_if (h : ET C tt env fun b e => if b = true then EX C ta e K else EX C tb e K) : EX C (tIf tt ta tb) env K := fun B H0 σ H R Q q =>
  h B H0 σ H R _ fun b e H1 k f o R1 => by
    cases b with
    | true =>
      rw [if_pos rfl] at k
      show ta σ H1 Q
      exact k B H0 σ H1 R1 Q fun s' e' v' H2 k2 r2 f2 o2 R2 ok2 n2 => q s' e' v' H2 k2 r2 (f.trans f2 o) (fun a w => o a (o2 a w)) R2 ok2 (n2.back f)
    | false =>
      have k : EX C tb e K := k
      show tb σ H1 Q
      exact k B H0 σ H1 R1 Q fun s' e' v' H2 k2 r2 f2 o2 R2 ok2 n2 => q s' e' v' H2 k2 r2 (f.trans f2 o) (fun a w => o a (o2 a w)) R2 ok2 (n2.back f)
/-- a < b < c, ints -/
theorem ex_chain {f g : Int → Int → Bool} (h : EX C ta env fun s1 e1 => EX C tb e1 fun s2 e2 => ∃ i, s1 = .im (.int i) ∧ ∃ j, s2 = .im (.int j) ∧ if f i j = true then EX C tc e2 (fun s3 e3 => ∃ l, s3 = .im (.int l) ∧ K (.im (.bl (g j l))) e3) else K (.im (.bl false)) e2) :
    EX C (tChain (rI0 fun i j => .bl (f i j)) (rI0 fun i j => .bl (g i j)) ta tb tc) env K := fun B H0 σ H R Q q => by
  refine h B H0 σ H R _ fun s1 e1 x H1 h1 r1 f1 o1 R1 k1 n1 => ?_
  refine h1 B H0 σ H1 R1 _ fun s2 e2 y H2 h2 r2 f2 o2 R2 k2 n2 => ?_
  obtain ⟨i, es1, j, es2, h2⟩ := h2
  subst es1 es2
  have k1' : SlOk C B H0 H2 σ x (.im (.int i)) := k1.frm R1 f2 r1 fun z => z.elim
  refine ⟨i, j, rep_int k1', rep_int k2, f i j, rfl, ?_⟩
  have o12 : ∀ a, Owned σ e2 a → Owned σ env a := fun a w => o1 a (o2 a w)
  cases hf : f i j with
  | true =>
    rw [hf, if_pos rfl] at h2
    show tc σ H2 _
    refine h2 B H0 σ H2 R2 _ fun s3 e3 z H3 h3 r3 f3 o3 R3 k3 n3 => ?_
    obtain ⟨l, es3, h3⟩ := h3
    subst es3
    exact ⟨j, l, rep_int (Rep.mono (R2.kp f3) k2), rep_int k3, q _ e3 _ H3 h3 trivial ((f1.trans f2 o1).trans f3 o12) (fun a w => o12 a (o3 a w)) R3 (.bl _) fun z => z.elim⟩
  | false =>
    rw [hf] at h2
    exact q _ e2 _ H2 h2 trivial (f1.trans f2 o1) o12 R2 (.bl _) fun z => z.elim

/-! ### arguments, displays, calls -/
variable {tr t : TA} {KA : List Sl → Sls → Prop}
theorem exa_nil (h : KA [] env) : EXA C tNil env KA := fun B H0 σ H R Q q => q [] env [] H h .refl (fun _ z => z) R .nil
theorem paired_frm {H1 H2 : Hp} {e1 : Sls} : ∀ {vs : List V} {ss : List Sl}, RepE C B H0 H1 σ e1 → Frm B H1 σ e1 H2 → (∀ a, Owned σ e1 a → Owned σ env a) → RepE C B H0 H σ env → Paired (fun v s => Res s ∧ SlOk C B H0 H1 σ v s ∧ New H v s) vs ss → Paired (fun v s => Res s ∧ SlOk C B H0 H2 σ v s ∧ New H v s) vs ss
  | _, _, _, _, _, _, .nil => .nil
  | _, _, R1, f, o, R, .cons ⟨r, k, n⟩ t => .cons ⟨r, k.frm R1 f r (n.own R o), n⟩ (paired_frm R1 f o R t)
theorem exa_cons (h : EX C te env fun s e => EXA C tr e fun ss e' => KA (s :: ss) e') : EXA C (tCons te tr) env KA := fun B H0 σ H R Q q => by
  refine h B H0 σ H R _ fun s1 e1 x H1 h1 r1 f1 o1 R1 k1 n1 => ?_
  refine h1 B H0 σ H1 R1 _ fun ss e2 vs H2 h2 f2 o2 R2 p2 => ?_
  refine q (s1 :: ss) e2 (x :: vs) H2 h2 (f1.trans f2 o1) (fun a w => o1 a (o2 a w)) R2 (.cons ⟨r1, k1.frm R1 f2 r1 (n1.own R o1), n1⟩ (Paired.mapP p2 fun v s z => ⟨z.1, z.2.1, z.2.2.back f1⟩))
/-- *e in a display: what may be read -/
theorem exa_star (h : EX C te env fun s e => ∃ ds, rdl e s = some ds ∧ EXA C tr e fun ss e' => KA (ds.map Sl.im ++ ss) e') : EXA C (StX.tStar F te tr) env KA := fun B H0 σ H R Q q => by
  refine h B H0 σ H R _ fun s1 e1 x H1 h1 r1 f1 o1 R1 k1 n1 => ?_
  obtain ⟨ds, hd, h1⟩ := h1
  obtain ⟨l, xs, e, hl, r, _⟩ := rdl_ok R1 k1 hd
  refine ⟨l, xs, e, .inr hl.sq, ?_⟩
  refine h1 B H0 σ H1 R1 _ fun ss e2 vs H2 h2 f2 o2 R2 p2 => ?_
  have r2 : Reps C H2 xs ds := r.mono (R1.kp f2)
  have app : ∀ {xs : List V} {ds : List Dat}, Reps C H2 xs ds → Paired (fun v s => Res s ∧ SlOk C B H0 H2 σ v s ∧ New H v s) (xs ++ vs) (ds.map Sl.im ++ ss) := by
    intro xs ds r
    induction r using Reps.rec (motive_1 := fun _ _ _ => True) (motive_3 := fun _ _ _ => True) (motive_4 := fun _ _ _ => True) with
    | nil => exact Paired.mapP p2 fun v s z => ⟨z.1, z.2.1, z.2.2.back f1⟩
    | cons a _ _ ih => exact .cons ⟨trivial, a, fun z => z.elim⟩ ih
    | _ => trivial
  exact q _ e2 _ H2 h2 (f1.trans f2 o1) (fun a w => o1 a (o2 a w)) R2 (app r2)
theorem reps_of : ∀ {vs : List V} {ds : List Dat} {H1 : Hp}, Paired (fun v s => Res s ∧ SlOk C B H0 H1 σ v s ∧ New H v s) vs (ds.map Sl.im) → Reps C H1 vs ds
  | _, [], _, h => by cases h; exact .nil
  | _, d :: ds, _, h => by
    cases h with
    | cons a t => exact .cons a.2.1 (reps_of t)
theorem ex_tup (h : EXA C t env fun ss e => ∃ ds, ss = ds.map Sl.im ∧ ds.length ≤ sizeLine ∧ K (.im (.tup ds)) e) : EX C (tTup t) env K := fun B H0 σ H R Q q => by
  refine h B H0 σ H R _ fun ss e1 vs H1 ⟨ds, es, hl, h1⟩ f1 o1 R1 p1 => ?_
  subst es
  have r := reps_of p1
  refine ⟨by rw [r.length]; exact hl, fun p hp => ?_⟩
  have sm : Same H1 (upd H1 p (.tup vs)) := fun a o ha => by rw [upd_ne (ne_of_none ha hp)]; exact ha
  exact q _ e1 _ _ h1 trivial (f1.trans (Frm.same sm) o1) o1 (R1.same sm) (.tup upd_same (r.mono (Kp.same sm))) fun z => z.elim
theorem new_ow {H1 : Hp} {xs : List V} {ds : List Dat} {p : Addr} (R1 : RepE C B H0 H1 σ env) (hp : H1 p = none) (r : Reps C H1 xs ds) : SlOk C B H0 (upd H1 p (.lst xs)) σ (.ref p) (.ow ds) ∧ Same H1 (upd H1 p (.lst xs)) := by
  have sm : Same H1 (upd H1 p (.lst xs)) := fun a o ha => by rw [upd_ne (ne_of_none ha hp)]; exact ha
  have nb : ¬ B p := fun b => by
    obtain ⟨o, ho, _⟩ := R1.mutB p b
    rw [hp] at ho
    cases ho
  have h0 : H0 p = none := by
    cases e : H0 p with
    | none => rfl
    | some o =>
      have := R1.base p o e nb
      rw [hp] at this
      cases this
  exact ⟨⟨p, xs, rfl, h0, nb, upd_same, r.mono (Kp.same sm)⟩, sm⟩
theorem ex_lst (h : EXA C t env fun ss e => ∃ ds, ss = ds.map Sl.im ∧ ds.length ≤ sizeLine ∧ K (.ow ds) e) : EX C (tLst t) env K := fun B H0 σ H R Q q => by
  refine h B H0 σ H R _ fun ss e1 vs H1 ⟨ds, es, hl, h1⟩ f1 o1 R1 p1 => ?_
  subst es
  have r := reps_of p1
  refine ⟨by rw [r.length]; exact hl, fun p hp => ?_⟩
  obtain ⟨ok, sm⟩ := new_ow R1 hp r
  exact q _ e1 _ _ h1 trivial (f1.trans (Frm.same sm) o1) o1 (R1.same sm) ok fun _ a ea => by
    cases ea
    exact f1.dom p hp
/-- a built-in by values -/
def CXd (C : Addr) (r : List V → Hp → VK → Prop) (ss : List Sl) (env : Sls) (k : Sl → Prop) : Prop := ∀ (B : Addr → Prop) (H0 : Hp) (σ : L2.St) (H : Hp) (vs : List V), RepE C B H0 H σ env → Paired (fun v s => SlOk C B H0 H σ v s) vs ss → ∀ Q : VK,
  (∀ s v H', k s → Res s → Same H H' → SlOk C B H0 H' σ v s → New H v s → Q v H') → r vs H Q
theorem ex_cb {r : List V → Hp → VK → Prop} (h : EXA C t env fun ss e => CXd C r ss e fun s => K s e) : EX C (tCB r t) env K := fun B H0 σ H R Q q => by
  refine h B H0 σ H R _ fun ss e1 vs H1 h1 f1 o1 R1 p1 => ?_
  exact h1 B H0 σ H1 vs R1 (Paired.mapP p1 fun _ _ z => z.2.1) Q fun s v H2 k2 r2 s2 ok n => q s e1 v H2 k2 r2 (f1.trans (Frm.same s2) o1) o1 (R1.same s2) ok (n.back f1)
end
end Af
end

section
set_option maxHeartbeats 4000000
namespace Af
open PySem L2
section
variable {C : Addr} {env : Sls} {K : Sl → Sls → Prop} {ta tb tc te : TE} {F : PySem.W.Frag} {H : Hp} {v : V} {B : Addr → Prop} {H0 : Hp} {σ : L2.St} {t : TA} {E : XK}
/-! ### a def's promise, told by data -/
def ArgOk (C : Addr) (H : Hp) (v : V) : Sl → Prop
  | .im d => Rep C H v d
  | .ro ds => ∃ l xs, v = .ref l ∧ H l = some (.lst xs) ∧ Reps C H xs ds
  | .ri c fs => ∃ p dx vs, v = .ref p ∧ H p = some (.ins c dx vs) ∧ RepF C H vs fs
  | _ => False
abbrev DF := List Sl → (Sl → Prop) → Prop
def SpD (C : Addr) (D : DF) : Sp := fun vs H Q _ => ∃ ss k, D ss k ∧ Paired (fun v s => ArgOk C H v s) vs ss ∧ ∀ s v H', k s → Same H H' → SlOk C (fun _ => False) H H' [] v s → Res s → (∀ i, s ≠ .pr i) → Q v H'
def argOf (env : Sls) : Sl → Option Sl
  | .im d => some (.im d)
  | s => (rdl env s).map Sl.ro
theorem argOf_ok {s s' : Sl} (R : RepE C B H0 H σ env) (ok : SlOk C B H0 H σ v s) (h : argOf env s = some s') : ArgOk C H v s' := by
  cases s with
  | im d => cases h; exact ok
  | _ =>
    simp only [argOf, Option.map_eq_some_iff] at h
    obtain ⟨ds, hd, e⟩ := h
    subst e
    obtain ⟨l, xs, e, hl, r, q⟩ := rdl_ok R ok hd
    exact ⟨l, xs, e, q (fun d z => nomatch z), r⟩
def argsOf (env : Sls) : List Sl → Option (List Sl)
  | [] => some []
  | s :: ss => match argOf env s, argsOf env ss with
    | some a, some r => some (a :: r)
    | _, _ => none
theorem argsOf_ok (R : RepE C B H0 H σ env) : ∀ {vs : List V} {ss ss' : List Sl}, Paired (fun v s => SlOk C B H0 H σ v s) vs ss → argsOf env ss = some ss' → Paired (fun v s => ArgOk C H v s) vs ss'
  | _, _, _, .nil, h => by cases h; exact .nil
  | _, _, _, .cons a t, h => by
    unfold argsOf at h
    split at h
    · rename_i x r e1 e2
      cases h
      exact .cons (argOf_ok R a e1) (argsOf_ok R t e2)
    · cases h
/-- a result of a callee, at the caller's -/
theorem res_back {H1 H2 : Hp} {s : Sl} (R1 : RepE C B H0 H1 σ env) (sm : Same H1 H2) (ok : SlOk C (fun _ => False) H1 H2 [] v s) (r : Res s) (np : ∀ i, s ≠ .pr i) (nr : (∀ ds, s ≠ .ro ds) ∧ ∀ c fs, s ≠ .ri c fs) : SlOk C B H0 H2 σ v s ∧ New H1 v s := by
  cases s with
  | im d => exact ⟨ok, fun z => z.elim⟩
  | ow ds =>
    obtain ⟨l, xs, e, hn, _, hl, r⟩ := ok
    subst e
    have nb : ¬ B l := fun b => by
      obtain ⟨o, ho, _⟩ := R1.mutB l b
      rw [hn] at ho
      cases ho
    refine ⟨⟨l, xs, rfl, ?_, nb, hl, r⟩, fun _ a ea => by cases ea; exact hn⟩
    cases e : H0 l with
    | none => rfl
    | some o =>
      have := R1.base l o e nb
      rw [hn] at this
      cases this
  | od ds =>
    obtain ⟨l, xs, e, hn, _, hl, r⟩ := ok
    subst e
    have nb : ¬ B l := fun b => by
      obtain ⟨o, ho, _⟩ := R1.mutB l b
      rw [hn] at ho
      cases ho
    refine ⟨⟨l, xs, rfl, ?_, nb, hl, r⟩, fun _ a ea => by cases ea; exact hn⟩
    cases e : H0 l with
    | none => rfl
    | some o =>
      have := R1.base l o e nb
      rw [hn] at this
      cases this
  | ro ds => exact absurd rfl (nr.1 ds)
  | ri c fs => exact absurd rfl (nr.2 c fs)
  | pr i => exact absurd rfl (np i)
  | qi c fs =>
    obtain ⟨l, dx, vs, e, hn, _, hp, r⟩ := ok
    subst e
    have nb : ¬ B l := fun b => by
      obtain ⟨o, ho, _⟩ := R1.mutB l b
      rw [hn] at ho
      cases ho
    refine ⟨⟨l, dx, vs, rfl, ?_, nb, hp, r⟩, fun z => z.elim⟩
    cases e : H0 l with
    | none => rfl
    | some o =>
      have := R1.base l o e nb
      rw [hn] at this
      cases this
  | un => exact r.elim
  | pn p n => exact r.elim
  | mk p c fs => exact r.elim
  | bd a ks => exact r.elim
  | bl a ks => exact r.elim
/-- what a def may hand back -/
def RetOk : Sl → Prop
  | .im _ => True
  | .ow _ => True
  | .od _ => True
  | .qi _ _ => True
  | _ => False
theorem RetOk.res {s : Sl} (h : RetOk s) : Res s ∧ (∀ i, s ≠ .pr i) ∧ (∀ ds, s ≠ .ro ds) ∧ ∀ c fs, s ≠ .ri c fs := by
  cases s <;> first | exact h.elim | exact ⟨trivial, (fun _ z => nomatch z), (fun _ z => nomatch z), fun _ _ z => nomatch z⟩
theorem ex_call {D : DF} (h : EXA C t env fun ss e => ∃ ss', argsOf e ss = some ss' ∧ D ss' fun s => RetOk s ∧ K s e) : EX C (tCall (SpD C D) [] E t) env K := fun B H0 σ H R Q q => by
  refine h B H0 σ H R _ fun ss e1 vs H1 ⟨ss', ha, h1⟩ f1 o1 R1 p1 => ?_
  refine ⟨ss', _, h1, ?_, fun s v H2 ⟨nr, k2⟩ sm ok r np => ?_⟩
  · rw [List.append_nil]
    exact argsOf_ok R1 (Paired.mapP p1 fun _ _ z => z.2.1) ha
  · obtain ⟨ok2, n2⟩ := res_back R1 sm ok r np nr.res.2.2
    exact q s e1 v H2 k2 r (f1.trans (Frm.same sm) o1) o1 (R1.same sm) ok2 (n2.back f1)

/-! ### statements -/
variable {W : Wish} {t1 t2 : TS} {tt : TT}
theorem sx_seq (h : SX C t1 env { W with nx := fun e => SX C t2 e W }) : SX C (tSeq t1 t2) env W := fun B H0 σ H R D n r b c =>
  h B H0 σ H R { D with nx := t2 D } (fun σ' H' e' k kp R' => k B H0 σ' H' R' D (fun σ2 H2 e2 k2 kp2 R2 => n σ2 H2 e2 k2 (kp.trans kp2) R2) r (fun σ2 H2 e2 k2 kp2 R2 => b σ2 H2 e2 k2 (kp.trans kp2) R2) (fun σ2 H2 e2 k2 kp2 R2 => c σ2 H2 e2 k2 (kp.trans kp2) R2)) r b c
theorem sx_next (h : W.nx env) : SX C tNext env W := fun B H0 σ H R D n r b c => n σ H env h .refl R
theorem sx_brk (h : W.bk env) : SX C tBreak env W := fun B H0 σ H R D n r b c => b σ H env h .refl R
theorem sx_cont (h : W.ct env) : SX C tCont env W := fun B H0 σ H R D n r b c => c σ H env h .refl R
theorem sx_if (h : ET C tt env fun b e => if b = true then SX C t1 e W else SX C t2 e W) : SX C (tIfS tt t1 t2) env W := fun B H0 σ H R D n r b c =>
  h B H0 σ H R _ fun b' e' H' k f o R' => by
    have kp := R.kp f
    cases b' with
    | true =>
      rw [if_pos rfl] at k
      show t1 D σ H'
      exact k B H0 σ H' R' D (fun σ2 H2 e2 k2 kp2 R2 => n σ2 H2 e2 k2 (kp.trans kp2) R2) r (fun σ2 H2 e2 k2 kp2 R2 => b σ2 H2 e2 k2 (kp.trans kp2) R2) (fun σ2 H2 e2 k2 kp2 R2 => c σ2 H2 e2 k2 (kp.trans kp2) R2)
    | false =>
      have k : SX C t2 e' W := k
      show t2 D σ H'
      exact k B H0 σ H' R' D (fun σ2 H2 e2 k2 kp2 R2 => n σ2 H2 e2 k2 (kp.trans kp2) R2) r (fun σ2 H2 e2 k2 kp2 R2 => b σ2 H2 e2 k2 (kp.trans kp2) R2) (fun σ2 H2 e2 k2 kp2 R2 => c σ2 H2 e2 k2 (kp.trans kp2) R2)
/-- a branch by a test that is decided -/
theorem sx_ifB (c : Bool) (h : ET C tt env fun b e => b = c ∧ e = env) (h1 : c = true → SX C t1 env W) (h2 : c = false → SX C t2 env W) : SX C (tIfS tt t1 t2) env W :=
  sx_if fun B H0 σ H R Q q => h B H0 σ H R Q fun b e H' ⟨eb, ee⟩ f o R' => q b e H' (by
    subst eb ee
    cases b with
    | true => exact h1 rfl
    | false => exact h2 rfl) f o R'
theorem sx_drop (h : EX C te env fun _ e => W.nx e) : SX C (tDrop te) env W := fun B H0 σ H R D n r b c =>
  h B H0 σ H R _ fun s e v H' k rs f o R' ok nw => n σ H' e k (R.kp f) R'
theorem sx_ret (h : EX C te env fun s e => W.rt s e) : SX C (tRet te) env W := fun B H0 σ H R D n r b c =>
  h B H0 σ H R _ fun s e v H' k rs f o R' ok nw => r s e v σ H' k R' ok
theorem sx_retN (h : W.rt (.im .non) env) : SX C tRetN env W := fun B H0 σ H R D n r b c => r _ env .non σ H h R .non
/-- a slot is set -/
theorem RepE.set {i : Nat} {s : Sl} (R : RepE C B H0 H σ env) (ok : SlOk C B H0 H σ v s) (rs : Res s) (np : ∀ i, s ≠ .pr i) (no : OwnS s → ∀ a, v = .ref a → ¬ Owned σ env a) : RepE C B H0 H (σ.set i (some v)) (env.set i s) where
  len := by rw [List.length_set, List.length_set]; exact R.len
  slot := fun j u e => by
    by_cases hj : i = j
    · subst hj
      by_cases hl : i < env.length
      · rw [List.getElem?_set_self hl] at e
        cases e
        refine .inr ⟨v, List.getElem?_set_self (by rw [R.len]; exact hl), ?_⟩
        cases s with
        | pr i => exact absurd rfl (np i)
        | _ => exact ok
      · rw [List.getElem?_eq_none (by rw [List.length_set]; omega)] at e
        cases e
    · rw [List.getElem?_set_ne hj] at e
      rcases R.slot j u e with h | ⟨w, hw, k⟩
      · exact .inl h
      · cases u with
        | pr m => exact absurd e (R.nopr j m)
        | _ => exact .inr ⟨w, by rw [List.getElem?_set_ne hj]; exact hw, k⟩
  dist := fun j l u w x e1 e2 o1 o2 g1 g2 => by
    by_cases hj : i = j
    · by_cases hl : i = l
      · exact hj.symm.trans hl
      · subst hj
        exfalso
        rw [List.getElem?_set_ne hl] at e2 g2
        by_cases hb : i < env.length
        · rw [List.getElem?_set_self hb] at e1
          cases e1
          rw [List.getElem?_set_self (by rw [R.len]; exact hb)] at g1
          cases g1
          cases s with
          | ow q =>
            obtain ⟨a, _, ea, _⟩ := ok
            exact no o1 a ea ⟨l, w, e2, o2, by rw [← ea]; exact g2⟩
          | od q =>
            obtain ⟨a, _, ea, _⟩ := ok
            exact no o1 a ea ⟨l, w, e2, o2, by rw [← ea]; exact g2⟩
          | _ => exact o1.elim
        · rw [List.getElem?_eq_none (by rw [List.length_set]; omega)] at e1
          cases e1
    · by_cases hl : i = l
      · subst hl
        exfalso
        rw [List.getElem?_set_ne hj] at e1 g1
        by_cases hb : i < env.length
        · rw [List.getElem?_set_self hb] at e2
          cases e2
          rw [List.getElem?_set_self (by rw [R.len]; exact hb)] at g2
          cases g2
          cases s with
          | ow q =>
            obtain ⟨a, _, ea, _⟩ := ok
            exact no o2 a ea ⟨j, u, e1, o1, by rw [← ea]; exact g1⟩
          | od q =>
            obtain ⟨a, _, ea, _⟩ := ok
            exact no o2 a ea ⟨j, u, e1, o1, by rw [← ea]; exact g1⟩
          | _ => exact o2.elim
        · rw [List.getElem?_eq_none (by rw [List.length_set]; omega)] at e2
          cases e2
      · rw [List.getElem?_set_ne hj] at e1 g1
        rw [List.getElem?_set_ne hl] at e2 g2
        exact R.dist j l u w x e1 e2 o1 o2 g1 g2
  nopr := fun j m e => by
    by_cases hj : i = j
    · subst hj
      by_cases hl : i < env.length
      · rw [List.getElem?_set_self hl] at e
        cases e
        exact absurd rfl (np m)
      · rw [List.getElem?_eq_none (by rw [List.length_set]; omega)] at e
        cases e
    · rw [List.getElem?_set_ne hj] at e
      exact R.nopr j m e
  base := R.base
  mutB := R.mutB
theorem npI {d : Dat} : ∀ m, Sl.im d ≠ .pr m := fun _ z => nomatch z
theorem npO {d : List Dat} : ∀ m, Sl.ow d ≠ .pr m := fun _ z => nomatch z
theorem npD {d : List (Int × Dat)} : ∀ m, Sl.od d ≠ .pr m := fun _ z => nomatch z
theorem npQ {c : Addr} {d : List (Str × Dat)} : ∀ m, Sl.qi c d ≠ .pr m := fun _ z => nomatch z
/-- x = e -/
theorem sx_asg {i : Nat} (h : EX C te env fun s e => (∀ m, s ≠ .pr m) ∧ W.nx (e.set i s)) : SX C (tAsg te (gName i)) env W := fun B H0 σ H R D n r b c =>
  h B H0 σ H R _ fun s e v H' ⟨np, k⟩ rs f o R' ok nw => n _ H' _ k (R.kp f) (R'.set ok rs np (nw.own R o))
/-- x = y where the name's thing is handed over: not for things of one's own -/
theorem sx_asgP {i : Nat} (h : EX C te env fun s e => W.nx (e.set i .un)) : SX C (tAsg te (gName i)) env W := fun B H0 σ H R D n r b c =>
  h B H0 σ H R _ fun s e v H' k rs f o R' ok nw => n _ H' _ k (R.kp f) {
    len := by rw [List.length_set, List.length_set]; exact R'.len
    slot := fun j u eq => by
      by_cases hj : i = j
      · subst hj
        by_cases hl : i < e.length
        · rw [List.getElem?_set_self hl] at eq
          cases eq
          exact .inl rfl
        · rw [List.getElem?_eq_none (by rw [List.length_set]; omega)] at eq
          cases eq
      · rw [List.getElem?_set_ne hj] at eq
        rcases R'.slot j u eq with h | ⟨w, hw, k⟩
        · exact .inl h
        · cases u with
          | pr m => exact absurd eq (R'.nopr j m)
          | _ => exact .inr ⟨w, by rw [List.getElem?_set_ne hj]; exact hw, k⟩
    dist := fun j l u w x e1 e2 o1 o2 g1 g2 => by
      by_cases hj : i = j
      · subst hj
        by_cases hb : i < e.length
        · rw [List.getElem?_set_self hb] at e1
          cases e1
          exact o1.elim
        · rw [List.getElem?_eq_none (by rw [List.length_set]; omega)] at e1
          cases e1
      · by_cases hl : i = l
        · subst hl
          by_cases hb : i < e.length
          · rw [List.getElem?_set_self hb] at e2
            cases e2
            exact o2.elim
          · rw [List.getElem?_eq_none (by rw [List.length_set]; omega)] at e2
            cases e2
        · rw [List.getElem?_set_ne hj] at e1 g1
          rw [List.getElem?_set_ne hl] at e2 g2
          exact R'.dist j l u w x e1 e2 o1 o2 g1 g2
    nopr := fun j m eq => by
      by_cases hj : i = j
      · subst hj
        by_cases hl : i < e.length
        · rw [List.getElem?_set_self hl] at eq
          cases eq
        · rw [List.getElem?_eq_none (by rw [List.length_set]; omega)] at eq
          cases eq
      · rw [List.getElem?_set_ne hj] at eq
        exact R'.nopr j m eq
    base := R'.base
    mutB := R'.mutB }
/-- several targets, a tuple taken apart: names -/
def setAll (env : Sls) : List (Nat × Dat) → Sls
  | [] => env
  | (i, d) :: r => setAll (env.set i (.im d)) r
def gNames : List Nat → TGs
  | [] => gNil
  | i :: r => gCons (gName i) (gNames r)
theorem gNames_ok : ∀ {is : List Nat} {xs : List V} {ds : List Dat} {σ : L2.St} {env : Sls} {Q : L2.St → Hp → Prop}, RepE C B H0 H σ env → Reps C H xs ds → is.length = ds.length → (∀ σ', RepE C B H0 H σ' (setAll env (is.zip ds)) → Q σ' H) → gNames is xs σ H Q
  | [], _, _, _, _, _, R, .nil, _, q => ⟨rfl, q _ R⟩
  | i :: is, _, _, _, _, _, R, .cons a r, hl, q => ⟨_, _, rfl, gNames_ok (R.set (s := .im _) a trivial (fun _ z => nomatch z) (fun z => z.elim)) r (by simpa using hl) q⟩
  | [], _, _, _, _, _, _, .cons _ _, hl, _ => by simp at hl
  | _ :: _, _, _, _, _, _, _, .nil, hl, _ => by simp at hl
theorem sx_asgT {is : List Nat} {n : Nat} (h : EX C te env fun s e => ∃ ds, s = .im (.tup ds) ∧ ds.length = n ∧ is.length = n ∧ W.nx (setAll e (is.zip ds))) : SX C (tAsg te (gTup F n (gNames is))) env W := fun B H0 σ H R D nn r b c =>
  h B H0 σ H R _ fun s e v H' ⟨ds, es, hl, hi, k⟩ rs f o R' ok nw => by
    subst es
    obtain ⟨a, xs, ev, hx, rr⟩ := rep_tup ok
    refine ⟨a, xs, ev, SqT.of hx, by rw [rr.length]; exact hl, ?_⟩
    exact gNames_ok R' rr (hi.trans hl.symm) fun σ' R2 => nn σ' H' _ k (R.kp f) R2

/-! ### a def's body -/
theorem Paired.slots : ∀ {vs : List V} {ss : List Sl} {i : Nat} {s : Sl}, Paired (fun v s => ArgOk C H v s) vs ss → ss[i]? = some s → ∃ v, vs[i]? = some v ∧ ArgOk C H v s
  | _, _, 0, _, .cons a _, e => by cases e; exact ⟨_, rfl, a⟩
  | _, _, i + 1, s, .cons _ t, e => by
    obtain ⟨x, e1, r1⟩ := Paired.slots (i := i) (s := s) t (by simpa using e)
    exact ⟨x, by simpa using e1, r1⟩
  | _, _, _, _, .nil, e => by simp at e
theorem start_rep {N : List Str} {vs : List V} {ss : List Sl} (hl : vs.length ≤ N.length) (p : Paired (fun v s => ArgOk C H v s) vs ss) : RepE C (fun _ => False) H H (L2.start N vs) (ss ++ List.replicate (N.length - ss.length) .un) := by
  have hlen := p.length
  have inArg : ∀ (i : Nat) (s : Sl), (ss ++ List.replicate (N.length - ss.length) Sl.un)[i]? = some s → s = .un ∨ ∃ v, (L2.start N vs)[i]? = some (some v) ∧ ArgOk C H v s := fun i s e => by
    by_cases hi : i < ss.length
    · rw [List.getElem?_append_left hi] at e
      obtain ⟨v, hv, ok⟩ := Paired.slots p e
      refine .inr ⟨v, ?_, ok⟩
      unfold L2.start
      rw [List.getElem?_append_left (by rw [List.length_map]; omega), List.getElem?_map, hv]
      rfl
    · rw [List.getElem?_append_right (by omega)] at e
      exact .inl (List.eq_of_mem_replicate (List.mem_of_getElem? e))
  refine ⟨?_, fun i s e => ?_, fun i j s t v e1 e2 o1 o2 g1 g2 => ?_, fun i m e => ?_, fun a o h _ => h, fun a b => b.elim⟩
  · unfold L2.start
    rw [List.length_append, List.length_append, List.length_map, List.length_replicate, List.length_replicate, hlen]
  · rcases inArg i s e with h | ⟨v, hv, ok⟩
    · exact .inl h
    · refine .inr ⟨v, hv, ?_⟩
      cases s with
      | im d => exact ok
      | ro ds =>
        obtain ⟨l, xs, ev, hl, r⟩ := ok
        exact ⟨l, xs, ev, hl, id, r⟩
      | ri c fs =>
        obtain ⟨p, dx, vs, ev, hp, r⟩ := ok
        exact ⟨p, dx, vs, ev, hp, id, r⟩
      | _ => exact ok.elim
  · rcases inArg i s e1 with h | ⟨w, hw, ok⟩
    · subst h; exact o1.elim
    · cases s with
      | ow ds => exact ok.elim
      | od ds => exact ok.elim
      | _ => exact o1.elim
  · rcases inArg i _ e with h | ⟨w, hw, ok⟩
    · cases h
    · exact ok.elim
end
/-- THE RULE of a def that only reads what it is given -/
theorem fn_pure {P : Program} {w : World} {K : PySem.W.Frag} {mg : Str → Option Value} {base : Heap} {C : Addr} {x qual : Str} {st : Stmt} {f : Addr} {fd : FuncData} {N ps : List Str} {k : Nat} {D : DF} (F : Fun K x qual st f fd) (S : FnScope N ps (defScope st))
    (len : ∀ ss k, D ss k → ss.length = ps.length) (hps : ps.length ≤ N.length)
    (hbody : ∀ (cdv : Value) (A : Around) (outer : List PySem.Env) (s : Shared) (H : Hp) (E : XK) (ss : List Sl) (kk : Sl → Prop), Room k (A.deeper (PyProof.Rows.envOfC qual (defScope st) s.heap.objs.size f cdv)) → D ss kk →
      ∃ t, PSs (cxOf CX0 P w K mg base N qual (defScope st) f cdv A outer s H E).nox (defBody st) t ∧
        SX C t (ss ++ List.replicate (N.length - ss.length) .un) { nx := fun _ => kk (.im .non), rt := fun s _ => RetOk s ∧ kk s }) : FnOk P w K mg base CX0 (k + 1) f fd ps (SpD C D) := by
  refine F.ok S (fun vs H Q E h => ?_) (fun cdv A outer s H vs Q E hr h => ?_)
  · obtain ⟨ss, kk, hd, hp, _⟩ := h
    rw [hp.length]
    exact len ss kk hd
  · obtain ⟨ss, kk, hd, hp, hq⟩ := h
    obtain ⟨t, ht, hs⟩ := hbody cdv A outer s H E ss kk hr hd
    refine ⟨t, ht, hs (fun _ => False) H (L2.start N vs) H (start_rep (by rw [hp.length, len ss kk hd]; exact hps) hp) _ (fun σ' H' e' k' kp R' => ?_) (fun s v' e' σ' H' k' R' ok => ?_) (fun _ _ _ z => z.elim) (fun _ _ _ z => z.elim)⟩
    · exact hq _ _ H' k' (fun a o h => R'.base a o h id) .non trivial (fun _ z => nomatch z)
    · obtain ⟨ro, k'⟩ := k'
      obtain ⟨rs, np, _⟩ := ro.res
      refine hq _ _ H' k' (fun a o h => R'.base a o h id) ?_ rs np
      cases s with
      | pr i => exact absurd rfl (np i)
      | _ => exact ok
end Af
end

section
set_option maxHeartbeats 4000000
namespace Af
open PySem L2
/-! ### == of data -/
mutual
def toPy : Dat → PyData
  | .non => .none
  | .bl b => .bool b
  | .int i => .int i
  | .str x => .str x
  | .tup l => .tuple (toPys l)
  | .lst l => .list (toPys l)
  | .ty _ => .none
  | .cls _ => .none
  | .dct _ => .none
  | .obj _ => .none
def toPys : List Dat → List PyData
  | [] => []
  | d :: l => toPy d :: toPys l
end
/-- made of None, ints, tuples and lists, to a depth -/
def pln : Nat → Dat → Prop
  | _, .non => True
  | _, .int _ => True
  | n + 1, .tup l => ∀ x ∈ l, pln n x
  | n + 1, .lst l => ∀ x ∈ l, pln n x
  | _, _ => False
theorem pln_ints {n : Nat} (ns : List Int) : ∀ x ∈ ns.map Dat.int, pln n x := fun x hx => by
  obtain ⟨i, _, rfl⟩ := List.mem_map.mp hx
  cases n <;> trivial
theorem toPys_depth {n : Nat} : ∀ {l : List Dat}, (∀ x ∈ l, (toPy x).depth ≤ n) → PyData.depthAll (toPys l) ≤ n
  | [], _ => by simp [toPys, PyData.depthAll]
  | d :: l, h => by
    rw [toPys, PyData.depthAll]
    exact Nat.max_le.mpr ⟨h d List.mem_cons_self, toPys_depth fun x hx => h x (List.mem_cons_of_mem _ hx)⟩
theorem toPys_lay : ∀ {l : List Dat}, (∀ x ∈ l, (toPy x).canLay0 = true) → PyData.canLayAll0 (toPys l) = true
  | [], _ => by simp [toPys, PyData.canLayAll0]
  | d :: l, h => by
    rw [toPys, PyData.canLayAll0, h d List.mem_cons_self, toPys_lay fun x hx => h x (List.mem_cons_of_mem _ hx)]
    rfl
theorem pln_ok : ∀ (n : Nat) (d : Dat), pln n d → (toPy d).depth ≤ n ∧ (toPy d).canLay0 = true
  | n, .non, _ => by simp [toPy, PyData.depth, PyData.canLay0]
  | n, .int i, _ => by simp [toPy, PyData.depth, PyData.canLay0]
  | n + 1, .tup l, h => by
    have ih : ∀ x ∈ l, _ := fun x hx => pln_ok n x (h x hx)
    rw [toPy, PyData.depth, PyData.canLay0]
    exact ⟨Nat.succ_le_succ (toPys_depth fun x hx => (ih x hx).1), toPys_lay fun x hx => (ih x hx).2⟩
  | n + 1, .lst l, h => by
    have ih : ∀ x ∈ l, _ := fun x hx => pln_ok n x (h x hx)
    rw [toPy, PyData.depth, PyData.canLay0]
    exact ⟨Nat.succ_le_succ (toPys_depth fun x hx => (ih x hx).1), toPys_lay fun x hx => (ih x hx).2⟩
  | 0, .tup l, h => by cases h
  | 0, .lst l, h => by cases h
  | n, .bl _, h => by cases n <;> cases h
  | n, .str _, h => by cases n <;> cases h
  | n, .ty _, h => by cases n <;> cases h
  | n, .cls _, h => by cases n <;> cases h
  | n, .dct _, h => by cases n <;> cases h
  | n, .obj _, h => by cases n <;> cases h
theorem pln_shaped {n : Nat} {d : Dat} (h : pln n d) (hn : n ≤ 64) : SeqAt.shaped (toPy d) = true := by
  obtain ⟨h1, h2⟩ := pln_ok n d h
  unfold SeqAt.shaped
  rw [h2, decide_eq_true (Nat.le_trans h1 hn)]
  rfl
theorem toPys_inj {P : Dat → Prop} (ih : ∀ x, P x → ∀ y, P y → (PyData.eqv (toPy x) (toPy y) = true ↔ x = y)) : ∀ {l m : List Dat}, (∀ x ∈ l, P x) → (∀ x ∈ m, P x) → (PyData.eqvAll (toPys l) (toPys m) = true ↔ l = m)
  | [], [], _, _ => by simp [toPys, PyData.eqvAll]
  | [], _ :: _, _, _ => by simp [toPys, PyData.eqvAll]
  | _ :: _, [], _, _ => by simp [toPys, PyData.eqvAll]
  | x :: l, y :: m, h1, h2 => by
    rw [toPys, toPys, PyData.eqvAll, Bool.and_eq_true, ih x (h1 x List.mem_cons_self) y (h2 y List.mem_cons_self), toPys_inj ih (fun z hz => h1 z (List.mem_cons_of_mem _ hz)) (fun z hz => h2 z (List.mem_cons_of_mem _ hz)), List.cons.injEq]
theorem pln_eq : ∀ (n : Nat) (x : Dat), pln n x → ∀ y, pln n y → (PyData.eqv (toPy x) (toPy y) = true ↔ x = y)
  | n + 1, .tup l, h, .tup m, h2 => by rw [toPy, toPy, PyData.eqv, Dat.tup.injEq]; exact toPys_inj (fun x hx y hy => pln_eq n x hx y hy) h h2
  | n + 1, .lst l, h, .lst m, h2 => by rw [toPy, toPy, PyData.eqv, Dat.lst.injEq]; exact toPys_inj (fun x hx y hy => pln_eq n x hx y hy) h h2
  | n, .int i, _, .int j, _ => by rw [toPy, toPy, PyData.eqv, Dat.int.injEq]; simp
  | n, .non, _, .non, _ => by rw [toPy, PyData.eqv]; simp
  | n, .non, _, .int j, _ => by simp [toPy, PyData.eqv]
  | n, .int i, _, .non, _ => by simp [toPy, PyData.eqv]
  | n, .non, _, .tup l, _ => by simp [toPy, PyData.eqv]
  | n, .non, _, .lst l, _ => by simp [toPy, PyData.eqv]
  | n, .tup l, _, .non, _ => by simp [toPy, PyData.eqv]
  | n, .lst l, _, .non, _ => by simp [toPy, PyData.eqv]
  | n, .int _, _, .tup l, _ => by simp [toPy, PyData.eqv]
  | n, .int _, _, .lst l, _ => by simp [toPy, PyData.eqv]
  | n, .tup l, _, .int _, _ => by simp [toPy, PyData.eqv]
  | n, .lst l, _, .int _, _ => by simp [toPy, PyData.eqv]
  | n, .tup l, _, .lst _, _ => by simp [toPy, PyData.eqv]
  | n, .lst l, _, .tup _, _ => by simp [toPy, PyData.eqv]
  | 0, .tup l, h, _, _ => by cases h
  | 0, .lst l, h, _, _ => by cases h
  | n, .bl _, h, _, _ => by cases n <;> cases h
  | n, .str _, h, _, _ => by cases n <;> cases h
  | n, .ty _, h, _, _ => by cases n <;> cases h
  | n, .cls _, h, _, _ => by cases n <;> cases h
  | n, .dct _, h, _, _ => by cases n <;> cases h
  | n, .obj _, h, _, _ => by cases n <;> cases h
  | n, _, _, .bl _, h => by cases n <;> cases h
  | n, _, _, .str _, h => by cases n <;> cases h
  | n, _, _, .ty _, h => by cases n <;> cases h
  | n, _, _, .cls _, h => by cases n <;> cases h
  | n, _, _, .dct _, h => by cases n <;> cases h
  | n, _, _, .obj _, h => by cases n <;> cases h
section
variable {C : Addr} {env : Sls} {K : Sl → Sls → Prop} {ta tb tc te : TE} {F : PySem.W.Frag} {H : Hp} {v : V} {B : Addr → Prop} {H0 : Hp} {σ : L2.St} {t : TA} {E : XK} {k : Sl → Prop} {s1 s2 : Sl}
theorem reps_dp {n : Nat} (ih : ∀ (d : Dat) (v : V), pln n d → Rep C H v d → Dp F H v (toPy d)) : ∀ {xs : List V} {ds : List Dat}, (∀ d ∈ ds, pln n d) → Reps C H xs ds → DpAll F H xs (toPys ds)
  | _, _, _, .nil => by rw [toPys]; exact .nil
  | _, _, h, .cons a r => by
    rw [toPys]
    exact .cons (ih _ _ (h _ List.mem_cons_self) a) (reps_dp ih (fun d hd => h d (List.mem_cons_of_mem _ hd)) r)
theorem rep_dp : ∀ (n : Nat) (d : Dat) (v : V), pln n d → Rep C H v d → Dp F H v (toPy d)
  | n, .non, v, _, h => by rw [rep_non h, toPy]; exact .non
  | n, .int i, v, _, h => by rw [rep_int h, toPy]; exact .int i
  | n + 1, .tup l, v, p, h => by
    obtain ⟨a, xs, e, ha, r⟩ := rep_tup h
    rw [e, toPy]
    exact .tup (SqT.of ha) (reps_dp (rep_dp n) p r)
  | n + 1, .lst l, v, p, h => by
    obtain ⟨a, o, xs, e, ha, r⟩ := rep_lst h
    rw [e, toPy]
    exact .lst (.inl (.inr ⟨o, ha⟩)) (reps_dp (rep_dp n) p r)
  | 0, .tup l, _, h, _ => by cases h
  | 0, .lst l, _, h, _ => by cases h
  | n, .bl _, _, h, _ => by cases n <;> cases h
  | n, .str _, _, h, _ => by cases n <;> cases h
  | n, .ty _, _, h, _ => by cases n <;> cases h
  | n, .cls _, _, h, _ => by cases n <;> cases h
  | n, .dct _, _, h, _ => by cases n <;> cases h
  | n, .obj _, _, h, _ => by cases n <;> cases h
/-- what a result is as data -/
def datOf (env : Sls) : Sl → Option Dat
  | .im (.cls a) => (rdl env (.im (.cls a))).map Dat.lst
  | .im d => some d
  | s => (rdl env s).map Dat.lst
theorem dat_dp {n : Nat} {s : Sl} {d : Dat} (R : RepE C B H0 H σ env) (ok : SlOk C B H0 H σ v s) (h : datOf env s = some d) (hp : pln n d) : Dp F H v (toPy d) := by
  have lp : (rdl env s).map Dat.lst = some d → Dp F H v (toPy d) := fun h => by
    rw [Option.map_eq_some_iff] at h
    obtain ⟨ds, hd, e⟩ := h
    subst e
    obtain ⟨l, xs, e, hl, r, _⟩ := rdl_ok R ok hd
    rw [e, toPy]
    cases n with
    | zero => cases hp
    | succ n => exact .lst hl.sq (reps_dp (rep_dp n) hp r)
  cases s with
  | im d' =>
    cases d' with
    | cls a => exact lp h
    | _ => cases h; exact rep_dp n _ _ hp ok
  | _ => exact lp h
theorem rx_eqD {d e : Dat} (n : Nat) (b : Bool) (h1 : datOf env s1 = some d) (h2 : datOf env s2 = some e) (p1 : pln n d) (p2 : pln n e) (hn : n ≤ 64) (hb : b = true ↔ d = e) (h : k (.im (.bl b))) : RX C (rEqD F) s1 s2 env k := fun B H0 σ H x y R hx hy Q q => by
  refine ⟨_, _, dat_dp R hx h1 p1, dat_dp R hy h2 p2, pln_shaped p1 hn, pln_shaped p2 hn, ?_⟩
  have eb : PyData.eqv (toPy d) (toPy e) = b := Bool.eq_iff_iff.mpr ((pln_eq n d p1 e p2).trans hb.symm)
  rw [eb]
  exact q _ _ _ h trivial (Same.refl _) (.bl _) fun z => z.elim
theorem rx_neD {d e : Dat} (n : Nat) (b : Bool) (h1 : datOf env s1 = some d) (h2 : datOf env s2 = some e) (p1 : pln n d) (p2 : pln n e) (hn : n ≤ 64) (hb : b = true ↔ d ≠ e) (h : k (.im (.bl b))) : RX C (rNeD F) s1 s2 env k := fun B H0 σ H x y R hx hy Q q => by
  refine ⟨_, _, dat_dp R hx h1 p1, dat_dp R hy h2 p2, pln_shaped p1 hn, pln_shaped p2 hn, ?_⟩
  have eb : (!PyData.eqv (toPy d) (toPy e)) = b := by
    rw [Bool.eq_iff_iff, hb, Bool.not_eq_true', ← Bool.not_eq_true, pln_eq n d p1 e p2]
  rw [eb]
  exact q _ _ _ h trivial (Same.refl _) (.bl _) fun z => z.elim
/-- an int list beside an empty one -/
theorem rx_neN {ns : List Int} (h1 : rdl env s1 = some (ns.map Dat.int)) (h2 : rdl env s2 = some []) (h : k (.im (.bl (!ns.isEmpty)))) : RX C (rNeD F) s1 s2 env k := by
  have c : ∀ {s : Sl} {l : List Dat}, rdl env s = some l → datOf env s = some (.lst l) := fun {s l} e => by
    cases s with
    | im d =>
      cases d with
      | lst l => cases e; rfl
      | cls a => simp only [datOf, e]; rfl
      | _ => cases e
    | _ => simp only [datOf, e]; rfl
  refine rx_neD 1 _ (c h1) (c h2) (pln_ints ns) (fun x hx => nomatch hx) (by decide) ?_ h
  cases ns with
  | nil => simp
  | cons a r => simp
theorem rx_eqN {ns : List Int} (h1 : rdl env s1 = some (ns.map Dat.int)) (h2 : rdl env s2 = some []) (h : k (.im (.bl ns.isEmpty))) : RX C (rEqD F) s1 s2 env k := by
  have c : ∀ {s : Sl} {l : List Dat}, rdl env s = some l → datOf env s = some (.lst l) := fun {s l} e => by
    cases s with
    | im d =>
      cases d with
      | lst l => cases e; rfl
      | cls a => simp only [datOf, e]; rfl
      | _ => cases e
    | _ => simp only [datOf, e]; rfl
  refine rx_eqD 1 _ (c h1) (c h2) (pln_ints ns) (fun x hx => nomatch hx) (by decide) ?_ h
  cases ns with
  | nil => simp
  | cons a r => simp

/-! ### built-ins -/
theorem one {vs : List V} {s : Sl} {P : V → Sl → Prop} (p : Paired P vs [s]) : ∃ v, vs = [v] ∧ P v s := by
  cases p with | cons a t => cases t; exact ⟨_, rfl, a⟩
theorem two {vs : List V} {s s' : Sl} {P : V → Sl → Prop} (p : Paired P vs [s, s']) : ∃ v v', vs = [v, v'] ∧ P v s ∧ P v' s' := by
  cases p with | cons a t => cases t with | cons b t => cases t; exact ⟨_, _, rfl, a, b⟩
/-- a list or a tuple that may be read -/
def rdq (env : Sls) : Sl → Option (List Dat)
  | .im (.tup ds) => some ds
  | s => rdl env s
theorem rdq_ok {s : Sl} {ds : List Dat} (R : RepE C B H0 H σ env) (ok : SlOk C B H0 H σ v s) (h : rdq env s = some ds) : ∃ l xs, v = .ref l ∧ (SqL F H l xs ∨ SqT F H l xs) ∧ Reps C H xs ds := by
  have lp : rdl env s = some ds → ∃ l xs, v = .ref l ∧ (SqL F H l xs ∨ SqT F H l xs) ∧ Reps C H xs ds := fun h => by
    obtain ⟨l, xs, e, hl, r, _⟩ := rdl_ok R ok h
    exact ⟨l, xs, e, .inl hl.sq, r⟩
  cases s with
  | im d =>
    cases d with
    | tup l =>
      cases h
      obtain ⟨a, xs, e, ha, r⟩ := rep_tup ok
      exact ⟨a, xs, e, .inr (SqT.of ha), r⟩
    | _ => exact lp h
  | _ => exact lp h
abbrev rLenQ (F : PySem.W.Frag) : List V → Hp → VK → Prop := fun xs H Q => ∃ p ys, xs = [V.ref p] ∧ (SqL F H p ys ∨ SqT F H p ys) ∧ Q (.int ys.length) H
theorem cx_len {ds : List Dat} (h1 : rdq env s1 = some ds) (h : k (.im (.int (ds.length : Nat)))) : CXd C (rLenQ F) [s1] env k := fun B H0 σ H vs R p Q q => by
  obtain ⟨v, e, ok⟩ := one p
  obtain ⟨l, xs, e2, hl, r⟩ := rdq_ok R ok h1
  refine ⟨l, xs, by rw [e, e2], hl, ?_⟩
  rw [r.length]
  exact q _ _ _ h trivial (Same.refl _) (.int _) fun z => z.elim
abbrev rListQ (F : PySem.W.Frag) : List V → Hp → VK → Prop := fun xs H Q => ∃ p ys, xs = [V.ref p] ∧ (SqL F H p ys ∨ SqT F H p ys) ∧ ∀ l, H l = none → Q (.ref l) (upd H l (.lst ys))
theorem cx_list {ds : List Dat} (h1 : rdq env s1 = some ds) (h : k (.ow ds)) : CXd C (rListQ F) [s1] env k := fun B H0 σ H vs R p Q q => by
  obtain ⟨v, e, ok⟩ := one p
  obtain ⟨l, xs, e2, hl, r⟩ := rdq_ok R ok h1
  refine ⟨l, xs, by rw [e, e2], hl, fun a ha => ?_⟩
  obtain ⟨ok2, sm⟩ := new_ow R ha r
  exact q _ _ _ h trivial sm ok2 fun _ b eb => by cases eb; exact ha
abbrev rTupQ (F : PySem.W.Frag) : List V → Hp → VK → Prop := fun xs H Q => ∃ p ys, xs = [V.ref p] ∧ ((SqL F H p ys ∧ ∀ l, H l = none → Q (.ref l) (upd H l (.tup ys))) ∨ (SqT F H p ys ∧ Q (.ref p) H))
theorem cx_tuple {ds : List Dat} (h1 : rdl env s1 = some ds) (h : k (.im (.tup ds))) : CXd C (rTupQ F) [s1] env k := fun B H0 σ H vs R p Q q => by
  obtain ⟨v, e, ok⟩ := one p
  obtain ⟨l, xs, e2, hl, r, _⟩ := rdl_ok R ok h1
  refine ⟨l, xs, by rw [e, e2], .inl ⟨hl.sq, fun a ha => ?_⟩⟩
  have sm : Same H (upd H a (.tup xs)) := fun b o hb => by rw [upd_ne (ne_of_none hb ha)]; exact hb
  exact q _ _ _ h trivial sm (.tup upd_same (r.mono (Kp.same sm))) fun z => z.elim
theorem cx_all {bs : List Bool} (h1 : rdl env s1 = some (bs.map Dat.bl)) (h : k (.im (.bl (bs.all id)))) : CXd C (rAll F) [s1] env k := fun B H0 σ H vs R p Q q => by
  obtain ⟨v, e, ok⟩ := one p
  obtain ⟨l, xs, e2, hl, r, _⟩ := rdl_ok R ok h1
  rw [r.bls] at hl
  exact ⟨l, bs, by rw [e, e2], hl.sq, q _ _ _ h trivial (Same.refl _) (.bl _) fun z => z.elim⟩
theorem cx_any {bs : List Bool} (h1 : rdl env s1 = some (bs.map Dat.bl)) (h : k (.im (.bl (bs.any id)))) : CXd C (rAny F) [s1] env k := fun B H0 σ H vs R p Q q => by
  obtain ⟨v, e, ok⟩ := one p
  obtain ⟨l, xs, e2, hl, r, _⟩ := rdl_ok R ok h1
  rw [r.bls] at hl
  exact ⟨l, bs, by rw [e, e2], hl.sq, q _ _ _ h trivial (Same.refl _) (.bl _) fun z => z.elim⟩
theorem cx_allF {α : Type} {xs : List α} {g : α → Bool} (h1 : rdl env s1 = some (xs.map fun x => Dat.bl (g x))) (h : k (.im (.bl (xs.all g)))) : CXd C (rAll F) [s1] env k :=
  cx_all (bs := xs.map g) (by rw [List.map_map]; exact h1) (by rw [List.all_map]; exact h)
theorem cx_anyF {α : Type} {xs : List α} {g : α → Bool} (h1 : rdl env s1 = some (xs.map fun x => Dat.bl (g x))) (h : k (.im (.bl (xs.any g)))) : CXd C (rAny F) [s1] env k :=
  cx_any (bs := xs.map g) (by rw [List.map_map]; exact h1) (by rw [List.any_map]; exact h)
theorem rx_neT {ns : List Int} (h : k (.im (.bl (!ns.isEmpty)))) : RX C (rNeD F) (.im (.tup (ns.map Dat.int))) (.im (.tup [])) env k := by
  refine rx_neD 1 _ rfl rfl (pln_ints ns) (fun x hx => nomatch hx) (by decide) ?_ h
  cases ns with
  | nil => simp
  | cons a r => simp
theorem cx_max {ns : List Int} (h1 : rdl env s1 = some (ns.map Dat.int)) (h0 : 0 < ns.length) (h : ∀ m, m ∈ ns → (∀ y, y ∈ ns → y ≤ m) → k (.im (.int m))) : CXd C (rMax F) [s1] env k := fun B H0 σ H vs R p Q q => by
  obtain ⟨v, e, ok⟩ := one p
  obtain ⟨l, xs, e2, hl, r, _⟩ := rdl_ok R ok h1
  rw [r.ints] at hl
  exact ⟨l, ns, by rw [e, e2], hl.sq, h0, fun m hm hy => q _ _ _ (h m hm hy) trivial (Same.refl _) (.int _) fun z => z.elim⟩
theorem cx_min {ns : List Int} (h1 : rdl env s1 = some (ns.map Dat.int)) (h0 : 0 < ns.length) (h : ∀ m, m ∈ ns → (∀ y, y ∈ ns → m ≤ y) → k (.im (.int m))) : CXd C (rMin F) [s1] env k := fun B H0 σ H vs R p Q q => by
  obtain ⟨v, e, ok⟩ := one p
  obtain ⟨l, xs, e2, hl, r, _⟩ := rdl_ok R ok h1
  rw [r.ints] at hl
  exact ⟨l, ns, by rw [e, e2], hl.sq, h0, fun m hm hy => q _ _ _ (h m hm hy) trivial (Same.refl _) (.int _) fun z => z.elim⟩
/-- isinstance with a built-in class -/
def tyS (env : Sls) : Sl → Option String
  | .im (.int _) => some "int"
  | .im (.bl _) => some "bool"
  | .im .non => some "NoneType"
  | .im (.str _) => some "str"
  | .im (.tup _) => some "tuple"
  | .im (.lst _) => some "list"
  | .im (.dct _) => some "dict"
  | s => (rdl env s).map fun _ => "list"
theorem tyS_ok {s : Sl} {T : String} (R : RepE C B H0 H σ env) (ok : SlOk C B H0 H σ v s) (h : tyS env s = some T) : TyX F H v (.type T) := by
  have lp : (rdl env s).map (fun _ => "list") = some T → TyX F H v (.type T) := fun h => by
    rw [Option.map_eq_some_iff] at h
    obtain ⟨ds, hd, e⟩ := h
    subst e
    obtain ⟨l, xs, e, hl, r, _⟩ := rdl_ok R ok hd
    subst e
    rcases hl with hl | ⟨o, hl⟩
    · exact .base (.lst hl)
    · exact .base (.frz hl)
  cases s with
  | im d =>
    cases d with
    | int i => cases h; rw [rep_int ok]; exact .base (.int _)
    | bl i => cases h; rw [rep_bl ok]; exact .base (.bl _)
    | non => cases h; rw [rep_non ok]; exact .base .non
    | str x => cases h; cases ok; exact .base (.str _)
    | tup l => cases h; cases ok with | tup h r => exact .base (.tup h)
    | lst l => cases h; cases ok with | lst h r => exact .base (.frz h)
    | dct l => cases h; cases ok with | dct h r => exact .fDict h
    | _ => exact lp h
  | _ => exact lp h
theorem cx_isi {T U : String} {b : Bool} (h1 : tyS env s1 = some T) (hk : kitB T U = some b) (h : k (.im (.bl b))) : CXd C (rIsi F) [s1, .im (.ty U)] env k := fun B H0 σ H vs R p Q q => by
  obtain ⟨v, v', e, ok, ok'⟩ := two p
  have e' : v' = .ty U := by cases ok'; rfl
  subst e'
  exact ⟨v, .ty U, .type T, .type U, b, e, .ty U, tyS_ok R ok h1, kit_ty hk, q _ _ _ h trivial (Same.refl _) (.bl _) fun z => z.elim⟩
theorem cx_intI {i : Int} (h : k (.im (.int i))) : CXd C (fun xs H Q => (∃ i, xs = [V.int i] ∧ Q (.int i) H) ∨ ∃ k, xs = [V.bl k] ∧ Q (.int (if k then 1 else 0)) H) [.im (.int i)] env k := fun B H0 σ H vs R p Q q => by
  obtain ⟨v, e, ok⟩ := one p
  exact .inl ⟨i, by rw [e, rep_int ok], q _ _ _ h trivial (Same.refl _) (.int _) fun z => z.elim⟩
theorem cx_intB {b : Bool} (h : k (.im (.int (if b then 1 else 0)))) : CXd C (fun xs H Q => (∃ i, xs = [V.int i] ∧ Q (.int i) H) ∨ ∃ k, xs = [V.bl k] ∧ Q (.int (if k then 1 else 0)) H) [.im (.bl b)] env k := fun B H0 σ H vs R p Q q => by
  obtain ⟨v, e, ok⟩ := one p
  exact .inr ⟨b, by rw [e, rep_bl ok], q _ _ _ h trivial (Same.refl _) (.int _) fun z => z.elim⟩
end
end Af
end

section
set_option maxHeartbeats 4000000
namespace Af
open PySem L2
/-! ### what a loop or a comprehension walks -/
def Wk (C : Addr) (B : Addr → Prop) (H0 : Hp) (J : It) (ds : List Dat) (G : Hp → Prop) (g : TG) (tg : List Nat) (Z : Dat → Sls → Sls) : Prop :=
  ∀ (i : Nat) (σ0 : L2.St) (H : Hp) (e : Sls), G H → RepE C B H0 H σ0 e → (i = ds.length → J.stop i H) ∧ ∀ d, ds[i]? = some d → J.go i H ∧ ∀ x H', J.yld i H x H' → ∀ Q : L2.St → Hp → Prop,
    (∀ σ2 H2, Same H H2 → RepE C B H0 H2 σ2 (Z d e) → (∀ vs : List Nat, (∀ j ∈ tg, j ∈ vs) → wipe σ2 vs = wipe σ0 vs) → Q σ2 H2) → g x σ0 H' Q
/-- what a target does to the slots -/
structure ZOk (tg : List Nat) (Z : Dat → Sls → Sls) : Prop where
  len : ∀ d e, (Z d e).length = e.length
  out : ∀ d e (i : Nat), i ∉ tg → (Z d e)[i]? = e[i]?
  own : ∀ d e (i : Nat) s, i ∈ tg → (Z d e)[i]? = some s → ∃ x, s = .im x ∨ e[i]? = some s
def IXg (C : Addr) (GE : Sls → Prop) (wi : TI) (g : TG) (tg : List Nat) (env : Sls) (K : List Dat → (Dat → Sls → Sls) → Sls → Prop) : Prop := ∀ (B : Addr → Prop) (H0 : Hp) (σ : L2.St) (H : Hp), RepE C B H0 H σ env → ∀ R : It → Hp → Prop,
  (∀ J ds Z env1 H1 G, K ds Z env1 → Frm B H σ env H1 → (∀ a, Owned σ env1 a → Owned σ env a) → RepE C B H0 H1 σ env1 → G H1 → (∀ Ha Hb σ2 e2, G Ha → Kp C Ha Hb → RepE C B H0 Hb σ2 e2 → GE e2 → G Hb) → ZOk tg Z → Wk C B H0 J ds G g tg Z → R J H1) → wi σ H R
abbrev IX (C : Addr) (wi : TI) (g : TG) (tg : List Nat) (env : Sls) (K : List Dat → (Dat → Sls → Sls) → Sls → Prop) : Prop := IXg C (fun _ => True) wi g tg env K
/-- a target, told by data -/
structure TgOk (g : TG) (tg : List Nat) (dom : Dat → Prop) (f : Dat → Sls → Sls) : Prop where
  zok : ZOk tg f
  run : ∀ (C : Addr) (B : Addr → Prop) (H0 H : Hp) (σ : L2.St) (e : Sls) (x : V) (d : Dat), dom d → RepE C B H0 H σ e → Rep C H x d → ∀ Q : L2.St → Hp → Prop,
    (∀ σ2, RepE C B H0 H σ2 (f d e) → (∀ vs : List Nat, (∀ j ∈ tg, j ∈ vs) → wipe σ2 vs = wipe σ vs) → Q σ2 H) → g x σ H Q
theorem wipe_get {σ : L2.St} : ∀ {vs : List Nat} {i : Nat}, (wipe σ vs)[i]? = if i ∈ vs then (σ[i]?).map (fun _ => none) else σ[i]?
  | [], i => by simp [wipe]
  | v :: vs, i => by
    unfold wipe
    by_cases h : v = i
    · subst h
      rw [if_pos List.mem_cons_self]
      by_cases hl : v < σ.length
      · rw [List.getElem?_set_self (by rw [wipe_length]; exact hl), List.getElem?_eq_getElem hl]
        rfl
      · rw [List.getElem?_eq_none (by rw [List.length_set, wipe_length]; omega), List.getElem?_eq_none (by omega)]
        rfl
    · rw [List.getElem?_set_ne h, wipe_get]
      by_cases hm : i ∈ vs
      · rw [if_pos hm, if_pos (List.mem_cons_of_mem _ hm)]
      · rw [if_neg hm, if_neg (fun z => (List.mem_cons.mp z).elim (fun q => h q.symm) hm)]
theorem wipe_wipe {σ : L2.St} {vs : List Nat} : wipe (wipe σ vs) vs = wipe σ vs := by
  apply List.ext_getElem?
  intro i
  rw [wipe_get, wipe_get]
  by_cases hm : i ∈ vs
  · rw [if_pos hm, if_pos hm]
    cases σ[i]? <;> rfl
  · rw [if_neg hm]
theorem wipe_set {σ : L2.St} {vs : List Nat} {j : Nat} {v : Option V} (h : j ∈ vs) : wipe (σ.set j v) vs = wipe σ vs := by
  apply List.ext_getElem?
  intro i
  rw [wipe_get, wipe_get]
  by_cases hm : i ∈ vs
  · rw [if_pos hm, if_pos hm]
    by_cases hj : j = i
    · subst hj
      by_cases hl : j < σ.length
      · rw [List.getElem?_set_self hl, List.getElem?_eq_getElem hl]; rfl
      · rw [List.getElem?_eq_none (by rw [List.length_set]; omega), List.getElem?_eq_none (by omega)]
    · rw [List.getElem?_set_ne hj]
  · rw [if_neg hm, if_neg hm, List.getElem?_set_ne (fun z : j = i => hm (by rw [← z]; exact h))]
theorem tg_name {j : Nat} : TgOk (gName j) [j] (fun _ => True) (fun d e => e.set j (.im d)) where
  zok := {
    len := fun d e => List.length_set ..
    out := fun d e i hi => List.getElem?_set_ne fun z => hi (by rw [z]; exact List.mem_cons_self)
    own := fun d e i s hi h => by
      have hj : i = j := List.mem_singleton.mp hi
      subst hj
      by_cases hl : i < e.length
      · rw [List.getElem?_set_self hl] at h
        cases h
        exact ⟨d, .inl rfl⟩
      · rw [List.getElem?_eq_none (by rw [List.length_set]; omega)] at h
        cases h }
  run := fun C B H0 H σ e x d _ R r Q q =>
    q _ (R.set (s := .im d) r trivial (fun _ z => nomatch z) (fun z => z.elim)) fun vs h => wipe_set (h j List.mem_cons_self)
theorem setAll_len : ∀ {l : List (Nat × Dat)} {e : Sls}, (setAll e l).length = e.length
  | [], _ => rfl
  | (i, d) :: r, e => by rw [setAll, setAll_len, List.length_set]
theorem setAll_out {i : Nat} : ∀ {l : List (Nat × Dat)} {e : Sls}, i ∉ l.map (·.1) → (setAll e l)[i]? = e[i]?
  | [], _, _ => rfl
  | (j, d) :: r, e, h => by
    rw [setAll, setAll_out fun m => h (List.mem_cons_of_mem _ m), List.getElem?_set_ne fun z => h (by rw [← z]; exact List.mem_cons_self)]
theorem setAll_own {i : Nat} {s : Sl} : ∀ {l : List (Nat × Dat)} {e : Sls}, (setAll e l)[i]? = some s → ∃ x, s = .im x ∨ e[i]? = some s
  | [], _, h => ⟨.non, .inr h⟩
  | (j, d) :: r, e, h => by
    rw [setAll] at h
    obtain ⟨x, q | q⟩ := setAll_own h
    · exact ⟨x, .inl q⟩
    · by_cases hj : j = i
      · subst hj
        by_cases hl : j < e.length
        · rw [List.getElem?_set_self hl] at q
          cases q
          exact ⟨d, .inl rfl⟩
        · rw [List.getElem?_eq_none (by rw [List.length_set]; omega)] at q
          cases q
      · rw [List.getElem?_set_ne hj] at q
        exact ⟨x, .inr q⟩
theorem gNames_tg {C : Addr} {B : Addr → Prop} {H0 H : Hp} : ∀ {is : List Nat} {xs : List V} {ds : List Dat} {σ : L2.St} {env : Sls} {Q : L2.St → Hp → Prop}, RepE C B H0 H σ env → Reps C H xs ds → is.length = ds.length →
    (∀ σ', RepE C B H0 H σ' (setAll env (is.zip ds)) → (∀ vs : List Nat, (∀ j ∈ is, j ∈ vs) → wipe σ' vs = wipe σ vs) → Q σ' H) → gNames is xs σ H Q
  | [], _, _, _, _, _, R, .nil, _, q => ⟨rfl, q _ R fun _ _ => rfl⟩
  | i :: is, _, _, _, _, _, R, .cons a r, hl, q => ⟨_, _, rfl, gNames_tg (R.set (s := .im _) a trivial (fun _ z => nomatch z) (fun z => z.elim)) r (by simpa using hl) fun σ' R' w => q σ' R' fun vs h =>
      (w vs fun j hj => h j (List.mem_cons_of_mem _ hj)).trans (wipe_set (h i List.mem_cons_self))⟩
  | [], _, _, _, _, _, _, .cons _ _, hl, _ => by simp at hl
  | _ :: _, _, _, _, _, _, _, .nil, hl, _ => by simp at hl
def tupD : Dat → List Dat
  | .tup l => l
  | _ => []
theorem tg_tup {F : PySem.W.Frag} {is : List Nat} {n : Nat} (hn : is.length = n) : TgOk (gTup F n (gNames is)) is (fun d => ∃ ds, d = .tup ds ∧ ds.length = n) (fun d e => setAll e (is.zip (tupD d))) where
  zok := {
    len := fun d e => setAll_len
    out := fun d e i hi => setAll_out fun m => hi (by
      obtain ⟨p, hp, e⟩ := List.mem_map.mp m
      rw [← e]
      exact (List.of_mem_zip hp).1)
    own := fun d e i s hi h => setAll_own h }
  run := fun C B H0 H σ e x d ⟨ds, ed, hl⟩ R r Q q => by
    subst ed
    obtain ⟨a, xs, ev, hx, rr⟩ := rep_tup r
    exact ⟨a, xs, ev, SqT.of hx, by rw [rr.length]; exact hl, gNames_tg R rr (hn.trans hl.symm) q⟩
section
variable {C : Addr} {env : Sls} {ta tb tc te tl : TE} {F : PySem.W.Frag} {H : Hp} {v : V} {B : Addr → Prop} {H0 : Hp} {σ : L2.St} {t : TA} {g : TG} {tg : List Nat} {dom : Dat → Prop} {f : Dat → Sls → Sls} {KI : List Dat → (Dat → Sls → Sls) → Sls → Prop}
/-- over a list that never changes -/
theorem ix_list (T : TgOk g tg dom f) (h : EX C tl env fun s e => ∃ ds, s = .im (.lst ds) ∧ (∀ d ∈ ds, dom d) ∧ KI ds f e) : IX C (iList F tl) g tg env KI := fun B H0 σ H R Q q =>
  h B H0 σ H R _ fun s e v H1 ⟨ds, es, hd, k⟩ _ fr o R1 ok _ => by
    subst es
    obtain ⟨a, ob, xs, ev, hx, r⟩ := rep_lst ok
    refine ⟨a, ev, ⟨xs, .inl (.inr ⟨ob, hx⟩)⟩, q _ ds f e H1 (fun H => H a = some (.frz ob (.lst xs)) ∧ Reps C H xs ds) k fr o R1 ⟨hx, r⟩ (fun Ha Hb _ _ ga kp _ _ => ⟨kp _ _ ga.1 trivial, ga.2.mono kp⟩) T.zok ?_⟩
    intro i σ0 H e0 gh R0
    have sq : SqL F H a xs := .inl (.inr ⟨ob, gh.1⟩)
    refine ⟨fun hi => ⟨xs, sq, by rw [hi, gh.2.length]; exact Nat.le_refl _⟩, fun d hd' => ?_⟩
    obtain ⟨x, hx', rx⟩ := gh.2.get hd'
    refine ⟨⟨xs, x, sq, hx'⟩, fun y H' yl Q' q' => ?_⟩
    obtain ⟨e1, yl⟩ := yl
    subst e1
    have := yl xs sq
    rw [hx'] at this
    cases this
    exact T.run C B H0 _ σ0 e0 x d (hd d (List.mem_of_getElem? hd')) R0 rx Q' fun σ2 R2 w => q' σ2 _ (Same.refl _) R2 w
/-- over a list that was handed in -/
theorem ix_ro {i0 : Nat} {ds : List Dat} (T : TgOk g tg dom f) (he : env[i0]? = some (.ro ds)) (hd : ∀ d ∈ ds, dom d) (k : KI ds f env) : IX C (iList F (tVar i0)) g tg env KI := fun B H0 σ H R Q q => by
  obtain ⟨v, hv, l, xs, ev, h0, nb, r⟩ := R.at B he (fun z => nomatch z)
  refine ⟨v, hv, l, ev, ⟨xs, .inl (.inl (R.base _ _ h0 nb))⟩, q _ ds f env H (fun H => H l = some (.lst xs) ∧ Reps C H xs ds) k .refl (fun _ z => z) R ⟨R.base _ _ h0 nb, r⟩ (fun Ha Hb _ _ ga kp bs _ => ⟨bs.base _ _ h0 nb, ga.2.mono kp⟩) T.zok ?_⟩
  intro i σ0 H e0 gh R0
  have sq : SqL F H l xs := .inl (.inl gh.1)
  refine ⟨fun hi => ⟨xs, sq, by rw [hi, gh.2.length]; exact Nat.le_refl _⟩, fun d hd' => ?_⟩
  obtain ⟨x, hx', rx⟩ := gh.2.get hd'
  refine ⟨⟨xs, x, sq, hx'⟩, fun y H' yl Q' q' => ?_⟩
  obtain ⟨e1, yl⟩ := yl
  subst e1
  have := yl xs sq
  rw [hx'] at this
  cases this
  exact T.run C B H0 _ σ0 e0 x d (hd d (List.mem_of_getElem? hd')) R0 rx Q' fun σ2 R2 w => q' σ2 _ (Same.refl _) R2 w
theorem ix_tup (T : TgOk g tg dom f) (h : EX C tl env fun s e => ∃ ds, s = .im (.tup ds) ∧ (∀ d ∈ ds, dom d) ∧ KI ds f e) : IX C (iTup F tl) g tg env KI := fun B H0 σ H R Q q =>
  h B H0 σ H R _ fun s e v H1 ⟨ds, es, hd, k⟩ _ fr o R1 ok _ => by
    subst es
    obtain ⟨a, xs, ev, hx, r⟩ := rep_tup ok
    refine ⟨a, ev, ⟨xs, SqT.of hx⟩, q _ ds f e H1 (fun H => H a = some (.tup xs) ∧ Reps C H xs ds) k fr o R1 ⟨hx, r⟩ (fun Ha Hb _ _ ga kp _ _ => ⟨kp _ _ ga.1 trivial, ga.2.mono kp⟩) T.zok ?_⟩
    intro i σ0 H e0 gh R0
    have sq : SqT F H a xs := SqT.of gh.1
    refine ⟨fun hi => ⟨xs, sq, by rw [hi, gh.2.length]; exact Nat.le_refl _⟩, fun d hd' => ?_⟩
    obtain ⟨x, hx', rx⟩ := gh.2.get hd'
    refine ⟨⟨xs, x, sq, hx'⟩, fun y H' yl Q' q' => ?_⟩
    obtain ⟨e1, yl⟩ := yl
    subst e1
    have := yl xs sq
    rw [hx'] at this
    cases this
    exact T.run C B H0 _ σ0 e0 x d (hd d (List.mem_of_getElem? hd')) R0 rx Q' fun σ2 R2 w => q' σ2 _ (Same.refl _) R2 w
/-- the ints that a range gives -/
def rgD (lo c : Int) (n : Nat) : List Dat := (List.range n).map fun (i : Nat) => .int (lo + (i : Int) * c)
theorem rgD_get {lo c : Int} {n i : Nat} {d : Dat} (h : (rgD lo c n)[i]? = some d) : i < n ∧ d = .int (lo + (i : Int) * c) := by
  unfold rgD at h
  rw [List.getElem?_map] at h
  by_cases hi : i < n
  · rw [List.getElem?_range hi] at h
    cases h
    exact ⟨hi, rfl⟩
  · rw [List.getElem?_eq_none (by rw [List.length_range]; omega)] at h
    cases h
theorem rgD_len {lo c : Int} {n : Nat} : (rgD lo c n).length = n := by unfold rgD; rw [List.length_map, List.length_range]
theorem wk_range {lo : Int} {n : Nat} (T : TgOk g tg (fun _ => True) f) : Wk C B H0 (Itr lo n) (rgD lo 1 n) (fun _ => True) g tg f := fun i σ0 H e0 _ R0 => by
  refine ⟨fun hi => by rw [hi, rgD_len]; exact Nat.le_refl _, fun d hd => ?_⟩
  obtain ⟨hi, ed⟩ := rgD_get hd
  refine ⟨hi, fun y H' yl Q' q' => ?_⟩
  obtain ⟨e1, e2⟩ := yl
  subst e1 e2
  rw [ed] at q'
  rw [Int.mul_one] at q'
  exact T.run C B H0 _ σ0 e0 _ _ trivial R0 (.int _) Q' fun σ2 R2 w => q' σ2 _ (Same.refl _) R2 w
theorem ix_range1 (T : TgOk g tg (fun _ => True) f) (h : EXA C t env fun ss e => ∃ j : Int, ss = [.im (.int j)] ∧ -(2 ^ 62) ≤ j ∧ j < 2 ^ 62 ∧ KI (rgD 0 1 j.toNat) f e) : IX C (iRng1 t) g tg env KI := fun B H0 σ H R Q q =>
  h B H0 σ H R _ fun ss e vs H1 ⟨j, es, b1, b2, k⟩ fr o R1 p => by
    subst es
    obtain ⟨v, ev, _, ok, _⟩ := one p
    exact ⟨j, by rw [ev, rep_int ok], b1, b2, q _ _ f e H1 (fun _ => True) k fr o R1 trivial (fun _ _ _ _ _ _ _ _ => trivial) T.zok (wk_range T)⟩
theorem ix_range2 (T : TgOk g tg (fun _ => True) f) (h : EXA C t env fun ss e => ∃ i j : Int, ss = [.im (.int i), .im (.int j)] ∧ (-(2 ^ 62) ≤ i ∧ i < 2 ^ 62 ∧ -(2 ^ 62) ≤ j ∧ j < 2 ^ 62) ∧ KI (rgD i 1 (j - i).toNat) f e) : IX C (iRng2 t) g tg env KI := fun B H0 σ H R Q q =>
  h B H0 σ H R _ fun ss e vs H1 ⟨i, j, es, b1, k⟩ fr o R1 p => by
    subst es
    obtain ⟨v, v', ev, ⟨_, ok, _⟩, ⟨_, ok', _⟩⟩ := two p
    exact ⟨i, j, by rw [ev, rep_int ok, rep_int ok'], b1, q _ _ f e H1 (fun _ => True) k fr o R1 trivial (fun _ _ _ _ _ _ _ _ => trivial) T.zok (wk_range T)⟩
theorem ix_range3 (T : TgOk g tg (fun _ => True) f) (h : EXA C t env fun ss e => ∃ (i j c : Int) (n : Nat), ss = [.im (.int i), .im (.int j), .im (.int c)] ∧ RgC i j c n ∧ KI (rgD i c n) f e) : IX C (iRng3 t) g tg env KI := fun B H0 σ H R Q q =>
  h B H0 σ H R _ fun ss e vs H1 ⟨i, j, c, n, es, b1, k⟩ fr o R1 p => by
    subst es
    cases p with
    | cons a p =>
      cases p with
      | cons b p =>
        cases p with
        | cons d p =>
          cases p
          refine ⟨i, j, c, n, by rw [rep_int a.2.1, rep_int b.2.1, rep_int d.2.1], b1, q _ _ f e H1 (fun _ => True) k fr o R1 trivial (fun _ _ _ _ _ _ _ _ => trivial) T.zok ?_⟩
          intro m σ0 H e0 _ R0
          refine ⟨fun hi => by rw [hi, rgD_len]; exact Nat.le_refl _, fun d hd => ?_⟩
          obtain ⟨hi, ed⟩ := rgD_get hd
          refine ⟨hi, fun y H' yl Q' q' => ?_⟩
          obtain ⟨e1, e2⟩ := yl
          subst e1 e2
          rw [ed] at q'
          exact T.run C B H0 _ σ0 e0 _ _ trivial R0 (.int _) Q' fun σ2 R2 w => q' σ2 _ (Same.refl _) R2 w
/-- the pairs of enumerate -/
def enD (ds : List Dat) : List Dat := ds.zipIdx.map fun p => .tup [.int (p.2 : Nat), p.1]
theorem enD_len {ds : List Dat} : (enD ds).length = ds.length := by unfold enD; rw [List.length_map, List.length_zipIdx]
theorem enD_get {ds : List Dat} {i : Nat} {d : Dat} (h : (enD ds)[i]? = some d) : ∃ x, ds[i]? = some x ∧ d = .tup [.int (i : Nat), x] := by
  unfold enD at h
  rw [List.getElem?_map, List.getElem?_zipIdx] at h
  cases e : ds[i]? with
  | none => rw [e] at h; cases h
  | some x =>
    rw [e] at h
    cases h
    exact ⟨x, rfl, by simp⟩
theorem same_tup {H : Hp} {T : Addr} {xs : List V} (h : H T = none) : Same H (upd H T (.tup xs)) := fun b o hb => by rw [upd_ne (ne_of_none hb h)]; exact hb
theorem wk_enum {a : Addr} {xs : List V} {ds : List Dat} {G : Hp → Prop} (hG : ∀ H, G H → SqL F H a xs ∧ Reps C H xs ds) (T : TgOk g tg dom f) (hd : ∀ d ∈ enD ds, dom d) : Wk C B H0 (Ite F a) (enD ds) G g tg f := fun i σ0 H e0 gh R0 => by
  obtain ⟨sq, r⟩ := hG H gh
  refine ⟨fun hi => ⟨xs, sq, by rw [hi, enD_len, r.length]; exact Nat.le_refl _⟩, fun d hd' => ?_⟩
  obtain ⟨x, hx, ed⟩ := enD_get hd'
  obtain ⟨y, hy, ry⟩ := r.get hx
  refine ⟨⟨xs, y, sq, hy⟩, fun z H' yl Q' q' => ?_⟩
  obtain ⟨Tp, w, e1, hT, e2, hw⟩ := yl
  have := hw xs sq
  rw [hy] at this
  cases this
  subst e1 e2
  have sm := same_tup (xs := [V.int (i : Nat), y]) hT
  refine T.run C B H0 _ σ0 e0 _ d (hd d (List.mem_of_getElem? hd')) (R0.same sm) ?_ Q' fun σ2 R2 w => q' σ2 _ sm R2 w
  rw [ed]
  exact .tup upd_same (.cons (.int _) (.cons (ry.mono (Kp.same sm)) .nil))
theorem ix_enum (T : TgOk g tg dom f) (h : EXA C t env fun ss e => ∃ ds, ss = [.im (.lst ds)] ∧ (∀ d ∈ enD ds, dom d) ∧ KI (enD ds) f e) : IX C (iEnum F t) g tg env KI := fun B H0 σ H R Q q =>
  h B H0 σ H R _ fun ss e vs H1 ⟨ds, es, hd, k⟩ fr o R1 p => by
    subst es
    obtain ⟨v, ev, _, ok, _⟩ := one p
    obtain ⟨a, ob, xs, ev2, hx, r⟩ := rep_lst ok
    exact ⟨a, xs, by rw [ev, ev2], .inl (.inr ⟨ob, hx⟩), q _ _ f e H1 (fun H => H a = some (.frz ob (.lst xs)) ∧ Reps C H xs ds) k fr o R1 ⟨hx, r⟩ (fun Ha Hb _ _ ga kp _ _ => ⟨kp _ _ ga.1 trivial, ga.2.mono kp⟩) T.zok (wk_enum (fun H gh => ⟨.inl (.inr ⟨ob, gh.1⟩), gh.2⟩) T hd)⟩
theorem ix_enumR {i0 : Nat} {ds : List Dat} (T : TgOk g tg dom f) (he : env[i0]? = some (.ro ds)) (hd : ∀ d ∈ enD ds, dom d) (k : KI (enD ds) f env) : IX C (iEnum F (tCons (tVar i0) tNil)) g tg env KI := fun B H0 σ H R Q q => by
  obtain ⟨v, hv, l, xs, ev, h0, nb, r⟩ := R.at B he (fun z => nomatch z)
  refine ⟨v, hv, l, xs, by rw [ev], .inl (.inl (R.base _ _ h0 nb)), q _ _ f env H (fun H => H l = some (.lst xs) ∧ Reps C H xs ds) k .refl (fun _ z => z) R ⟨R.base _ _ h0 nb, r⟩ (fun Ha Hb _ _ ga kp bs _ => ⟨bs.base _ _ h0 nb, ga.2.mono kp⟩) T.zok (wk_enum (fun H gh => ⟨.inl (.inl gh.1), gh.2⟩) T hd)⟩
theorem RepK.get : ∀ {xs : List (Key × V)} {ds : List (Int × Dat)} {i : Nat} {d : Int × Dat}, RepK C H xs ds → ds[i]? = some d → ∃ x, xs[i]? = some (Sum.inl d.1, x) ∧ Rep C H x d.2
  | _, _, 0, _, .cons a _, e => by
    cases e
    exact ⟨_, rfl, a⟩
  | _, _, i + 1, d, .cons _ r, e => by
    obtain ⟨x, e1, r1⟩ := RepK.get (i := i) (d := d) r (by simpa using e)
    exact ⟨x, by simpa using e1, r1⟩
  | _, _, _, _, .nil, e => by simp at e
/-- the keys of a dict that never changes -/
theorem ix_keys (T : TgOk g tg (fun _ => True) f) (h : EX C te env fun s e => ∃ ks, s = .im (.dct ks) ∧ KI (ks.map fun p => .int p.1) f e) : IX C (iKeys te) g tg env KI := fun B H0 σ H R Q q =>
  h B H0 σ H R _ fun s e v H1 ⟨ks, es, k⟩ _ fr o R1 ok _ => by
    subst es
    obtain ⟨a, ob, xs, ev, hx, r⟩ := rep_dct ok
    refine ⟨a, ob, ev, .inl ⟨xs, hx, q _ _ f e H1 (fun H => H a = some (.frz ob (.dK xs)) ∧ RepK C H xs ks) k fr o R1 ⟨hx, r⟩ (fun Ha Hb _ _ ga kp _ _ => ⟨kp _ _ ga.1 trivial, ga.2.mono kp⟩) T.zok ?_⟩⟩
    intro i σ0 H e0 gh R0
    refine ⟨fun hi => ⟨gh.1, by rw [hi, List.length_map, gh.2.length]; exact Nat.le_refl _⟩, fun d hd' => ?_⟩
    rw [List.getElem?_map] at hd'
    cases ek : ks[i]? with
    | none => rw [ek] at hd'; cases hd'
    | some kd =>
      rw [ek] at hd'
      cases hd'
      obtain ⟨x, hx', rx⟩ := gh.2.get ek
      refine ⟨⟨gh.1, (List.getElem?_eq_some_iff.mp hx').1⟩, fun y H' yl Q' q' => ?_⟩
      obtain ⟨e1, k', v', e2, e3⟩ := yl
      subst e1 e3
      rw [hx'] at e2
      cases e2
      exact T.run C B H0 _ σ0 e0 _ _ trivial R0 (.int _) Q' fun σ2 R2 w => q' σ2 _ (Same.refl _) R2 w
/-- its pairs -/
def itD (ks : List (Int × Dat)) : List Dat := ks.map fun p => .tup [.int p.1, p.2]
theorem ix_items (T : TgOk g tg dom f) (h : EX C te env fun s e => ∃ ks, s = .im (.dct ks) ∧ (∀ d ∈ itD ks, dom d) ∧ KI (itD ks) f e) : IX C (iItems te) g tg env KI := fun B H0 σ H R Q q =>
  h B H0 σ H R _ fun s e v H1 ⟨ks, es, hd, k⟩ _ fr o R1 ok _ => by
    subst es
    obtain ⟨a, ob, xs, ev, hx, r⟩ := rep_dct ok
    refine ⟨a, ob, xs, ev, hx, q _ _ f e H1 (fun H => H a = some (.frz ob (.dK xs)) ∧ RepK C H xs ks) k fr o R1 ⟨hx, r⟩ (fun Ha Hb _ _ ga kp _ _ => ⟨kp _ _ ga.1 trivial, ga.2.mono kp⟩) T.zok ?_⟩
    intro i σ0 H e0 gh R0
    have il : (itD ks).length = ks.length := by unfold itD; rw [List.length_map]
    refine ⟨fun hi => ⟨gh.1, by rw [hi, il, gh.2.length]; exact Nat.le_refl _⟩, fun d hd' => ?_⟩
    have hd2 := hd'
    unfold itD at hd'
    rw [List.getElem?_map] at hd'
    cases ek : ks[i]? with
    | none => rw [ek] at hd'; cases hd'
    | some kd =>
      rw [ek] at hd'
      cases hd'
      obtain ⟨x, hx', rx⟩ := gh.2.get ek
      refine ⟨⟨gh.1, (List.getElem?_eq_some_iff.mp hx').1⟩, fun y H' yl Q' q' => ?_⟩
      obtain ⟨Tp, k', v', e1, e2, hT, e3⟩ := yl
      rw [hx'] at e1
      cases e1
      subst e2 e3
      have sm := same_tup (xs := [kV (Sum.inl kd.1), x]) hT
      refine T.run C B H0 _ σ0 e0 _ _ (hd _ (List.mem_of_getElem? hd2)) (R0.same sm) ?_ Q' fun σ2 R2 w => q' σ2 _ sm R2 w
      exact .tup upd_same (.cons (.int _) (.cons (rx.mono (Kp.same sm)) .nil))

/-! ### for -/
variable {W : Wish} {tbd : TS}
theorem sx_forG {wi : TI} {GE : Sls → Prop} (h : IXg C GE wi g tg env fun ds Z e1 => ∃ Iv : List Dat → Sls → Prop, Iv [] e1 ∧ (∀ pre d post e, ds = pre ++ d :: post → Iv pre e → SX C tbd (Z d e) { nx := Iv (pre ++ [d]), rt := W.rt, bk := W.nx, ct := Iv (pre ++ [d]) }) ∧ (∀ pre e, Iv pre e → GE e) ∧ ∀ e, Iv ds e → W.nx e) :
    SX C (tFor wi g tbd) env W := fun B H0 σ H R D n r b c => by
  refine h B H0 σ H R _ fun J ds Z e1 H1 G ⟨Iv, i0, is, ge, id⟩ fr o R1 g1 gk zk wk => ?_
  have kp1 := R.kp fr
  refine ⟨fun i m σ' H' => m = ds.length - i ∧ i ≤ ds.length ∧ ∃ e, Iv (ds.take i) e ∧ RepE C B H0 H' σ' e ∧ Kp C H1 H' ∧ G H', ⟨_, rfl, Nat.zero_le _, e1, i0, R1, .refl, g1⟩, ?_⟩
  rintro i m σ' H' ⟨hm, hi, e, ie, R', kp, gh⟩
  obtain ⟨w1, w2⟩ := wk i σ' H' e gh R'
  by_cases hlt : i < ds.length
  · have hd : ds[i]? = some ds[i] := List.getElem?_eq_getElem hlt
    obtain ⟨go, yl⟩ := w2 _ hd
    have et : ds.take (i + 1) = ds.take i ++ [ds[i]] := by rw [List.take_succ_eq_append_getElem hlt]
    have es : ds = ds.take i ++ ds[i] :: ds.drop (i + 1) := by rw [List.getElem_cons_drop, List.take_append_drop]
    refine .inr ⟨go, fun σ2 H2 => ∃ e, Iv (ds.take (i + 1)) e ∧ RepE C B H0 H2 σ2 e ∧ Kp C H1 H2 ∧ G H2, fun σ2 H2 p => ⟨ds.length - (i + 1), by omega, rfl, hlt, p⟩, fun x H2 y => ?_⟩
    refine yl x H2 y _ fun σ3 H3 sm R3 _ => ?_
    have kp3 : Kp C H1 H3 := kp.trans (Kp.same sm)
    have fin : ∀ {σ4 : L2.St} {H4 : Hp} {e4 : Sls}, Iv (ds.take i ++ [ds[i]]) e4 → Kp C H3 H4 → RepE C B H0 H4 σ4 e4 → ∃ e, Iv (ds.take (i + 1)) e ∧ RepE C B H0 H4 σ4 e ∧ Kp C H1 H4 ∧ G H4 := fun {σ4 H4 e4} i4 k4 R4 =>
      ⟨e4, by rw [et]; exact i4, R4, kp3.trans k4, gk _ _ _ _ gh ((Kp.same sm).trans k4) R4 (ge _ _ i4)⟩
    exact is _ _ _ e es ie B H0 σ3 H3 R3 _ (fun σ4 H4 e4 i4 k4 R4 => fin i4 k4 R4) r (fun σ4 H4 e4 i4 k4 R4 => n σ4 H4 e4 i4 (kp1.trans (kp3.trans k4)) R4) (fun σ4 H4 e4 i4 k4 R4 => fin i4 k4 R4)
  · have e2 : i = ds.length := by omega
    refine .inl ⟨w1 e2, ?_⟩
    rw [e2, List.take_length] at ie
    exact n σ' H' e (id e ie) (kp1.trans kp) R'

theorem sx_for {wi : TI} (h : IX C wi g tg env fun ds Z e1 => ∃ Iv : List Dat → Sls → Prop, Iv [] e1 ∧ (∀ pre d post e, ds = pre ++ d :: post → Iv pre e → SX C tbd (Z d e) { nx := Iv (pre ++ [d]), rt := W.rt, bk := W.nx, ct := Iv (pre ++ [d]) }) ∧ ∀ e, Iv ds e → W.nx e) :
    SX C (tFor wi g tbd) env W :=
  sx_forG (GE := fun _ => True) fun B H0 σ H R Q q => h B H0 σ H R Q fun J ds Z e1 H1 G ⟨Iv, i0, is, id⟩ fr o R1 g1 gk zk wk => q J ds Z e1 H1 G ⟨Iv, i0, is, fun _ _ _ => trivial, id⟩ fr o R1 g1 gk zk wk

/-! ### comprehensions -/
variable {tt : TT} {K : Sl → Sls → Prop}
def wipeE (env : Sls) : List Nat → Sls
  | [] => env
  | v :: vs => (wipeE env vs).set v .un
theorem wipeE_len (env : Sls) : ∀ vs : List Nat, (wipeE env vs).length = env.length
  | [] => rfl
  | v :: vs => by unfold wipeE; rw [List.length_set, wipeE_len env vs]
theorem wipeE_get {env : Sls} : ∀ {vs : List Nat} {i : Nat}, (wipeE env vs)[i]? = if i ∈ vs then (env[i]?).map (fun _ => .un) else env[i]?
  | [], i => by simp [wipeE]
  | v :: vs, i => by
    unfold wipeE
    by_cases h : v = i
    · subst h
      rw [if_pos List.mem_cons_self]
      by_cases hl : v < env.length
      · rw [List.getElem?_set_self (by rw [wipeE_len]; exact hl), List.getElem?_eq_getElem hl]
        rfl
      · rw [List.getElem?_eq_none (by rw [List.length_set, wipeE_len]; omega), List.getElem?_eq_none (by omega)]
        rfl
    · rw [List.getElem?_set_ne h, wipeE_get]
      by_cases hm : i ∈ vs
      · rw [if_pos hm, if_pos (List.mem_cons_of_mem _ hm)]
      · rw [if_neg hm, if_neg (fun z => (List.mem_cons.mp z).elim (fun q => h q.symm) hm)]
/-- the slots at vs as they were -/
def unw (env e : Sls) : List Nat → Sls
  | [] => e
  | v :: vs => match env[v]? with
    | some s => (unw env e vs).set v s
    | none => unw env e vs
theorem unw_len (env e : Sls) : ∀ vs : List Nat, (unw env e vs).length = e.length
  | [] => rfl
  | v :: vs => by unfold unw; split <;> simp [unw_len env e vs]
theorem unw_get {env e : Sls} (hl : env.length = e.length) : ∀ {vs : List Nat} {i : Nat}, (unw env e vs)[i]? = if i ∈ vs then env[i]? else e[i]?
  | [], i => by simp [unw]
  | v :: vs, i => by
    unfold unw
    cases hv : env[v]? with
    | none =>
      rw [unw_get hl]
      by_cases h : v = i
      · subst h
        rw [if_pos List.mem_cons_self, hv]
        have h2 : env.length ≤ v := List.getElem?_eq_none_iff.mp hv
        have h3 : e[v]? = none := List.getElem?_eq_none (by omega)
        rw [h3]
        split <;> rfl
      · by_cases hm : i ∈ vs
        · rw [if_pos hm, if_pos (List.mem_cons_of_mem _ hm)]
        · rw [if_neg hm, if_neg (fun z => (List.mem_cons.mp z).elim (fun q => h q.symm) hm)]
    | some s =>
      have hlv : v < env.length := (List.getElem?_eq_some_iff.mp hv).1
      by_cases h : v = i
      · subst h
        rw [if_pos List.mem_cons_self, List.getElem?_set_self (by rw [unw_len]; omega), hv]
      · rw [List.getElem?_set_ne h, unw_get hl]
        by_cases hm : i ∈ vs
        · rw [if_pos hm, if_pos (List.mem_cons_of_mem _ hm)]
        · rw [if_neg hm, if_neg (fun z => (List.mem_cons.mp z).elim (fun q => h q.symm) hm)]
/-- a slot that a comprehension's own name may take -/
def Fre : Sl → Prop
  | .un => True
  | .im _ => True
  | _ => False
def FreAll (env : Sls) : List Nat → Prop
  | [] => True
  | v :: vs => (match env[v]? with
    | some s => Fre s
    | none => True) ∧ FreAll env vs
theorem FreAll.at {env : Sls} : ∀ {vs : List Nat}, FreAll env vs → ∀ v ∈ vs, ∀ s, env[v]? = some s → Fre s
  | v :: vs, h, u, hu, s, e => by
    rcases List.mem_cons.mp hu with q | q
    · have h1 := h.1
      rw [← q, e] at h1
      exact h1
    · exact FreAll.at h.2 u q s e
theorem FreAll.of {env : Sls} : ∀ {vs : List Nat}, (∀ v ∈ vs, ∀ s, env[v]? = some s → Fre s) → FreAll env vs
  | [], _ => trivial
  | v :: vs, h => by
    refine ⟨?_, FreAll.of fun u hu => h u (List.mem_cons_of_mem _ hu)⟩
    split
    · rename_i s e
      exact h v List.mem_cons_self s e
    · trivial
theorem RepE.wipe {vs : List Nat} (R : RepE C B H0 H σ env) : RepE C B H0 H (L2.wipe σ vs) (wipeE env vs) where
  len := by rw [wipe_length, wipeE_len]; exact R.len
  slot := fun i s e => by
    rw [wipeE_get] at e
    by_cases hm : i ∈ vs
    · rw [if_pos hm] at e
      cases h : env[i]? with
      | none => rw [h] at e; cases e
      | some u => rw [h] at e; cases e; exact .inl rfl
    · rw [if_neg hm] at e
      rcases R.slot i s e with h | ⟨w, hw, k⟩
      · exact .inl h
      · cases s with
        | pr m => exact absurd e (R.nopr i m)
        | _ => exact .inr ⟨w, by rw [wipe_get, if_neg hm]; exact hw, k⟩
  dist := fun i j s t v e1 e2 o1 o2 g1 g2 => by
    rw [wipeE_get] at e1 e2
    rw [wipe_get] at g1 g2
    by_cases hi : i ∈ vs
    · rw [if_pos hi] at e1
      cases h : env[i]? with
      | none => rw [h] at e1; cases e1
      | some u => rw [h] at e1; cases e1; exact o1.elim
    · by_cases hj : j ∈ vs
      · rw [if_pos hj] at e2
        cases h : env[j]? with
        | none => rw [h] at e2; cases e2
        | some u => rw [h] at e2; cases e2; exact o2.elim
      · rw [if_neg hi] at e1 g1
        rw [if_neg hj] at e2 g2
        exact R.dist i j s t v e1 e2 o1 o2 g1 g2
  nopr := fun i m e => by
    rw [wipeE_get] at e
    by_cases hm : i ∈ vs
    · rw [if_pos hm] at e
      cases h : env[i]? with
      | none => rw [h] at e; cases e
      | some u => rw [h] at e; cases e
    · rw [if_neg hm] at e
      exact R.nopr i m e
  base := R.base
  mutB := R.mutB
/-- behind a block: the names outside of it as the block left them, its own names' slots as they were -/
theorem RepE.unwipe {vs : List Nat} {H1 : Hp} {σ2 : L2.St} {e2 : Sls} (R : RepE C B H0 H σ env) (kp : Kp C H H1) (fr : FreAll env vs) (R2 : RepE C B H0 H1 σ2 e2) (hw : L2.wipe σ2 vs = L2.wipe σ vs) (hf2 : FreAll e2 vs) : RepE C B H0 H1 σ (unw env e2 vs) := by
  have hl : env.length = e2.length := by
    rw [← R.len, ← R2.len, ← wipe_length σ vs, ← hw, wipe_length]
  have hσ : ∀ i, i ∉ vs → σ2[i]? = σ[i]? := fun i hi => by
    have := congrArg (fun l : L2.St => l[i]?) hw
    simp only [wipe_get, if_neg hi] at this
    exact this
  refine ⟨by rw [unw_len, ← hl]; exact R.len, fun i s e => ?_, fun i j s t v e1 e3 o1 o3 g1 g3 => ?_, fun i m e => ?_, R2.base, R2.mutB⟩
  · rw [unw_get hl] at e
    by_cases hm : i ∈ vs
    · rw [if_pos hm] at e
      rcases R.slot i s e with h | ⟨w, hw', k⟩
      · exact .inl h
      · have hf := fr.at i hm s e
        cases s with
        | un => exact .inl rfl
        | im d => exact .inr ⟨w, hw', Rep.mono kp k⟩
        | _ => exact hf.elim
    · rw [if_neg hm] at e
      rcases R2.slot i s e with h | ⟨w, hw', k⟩
      · exact .inl h
      · rw [hσ i hm] at hw'
        cases s with
        | pr m => exact absurd e (R2.nopr i m)
        | _ => exact .inr ⟨w, hw', k⟩
  · rw [unw_get hl] at e1 e3
    by_cases hi : i ∈ vs
    · rw [if_pos hi] at e1
      have hf := fr.at i hi s e1
      cases s <;> first | exact o1.elim | exact hf.elim
    · by_cases hj : j ∈ vs
      · rw [if_pos hj] at e3
        have hf := fr.at j hj t e3
        cases t <;> first | exact o3.elim | exact hf.elim
      · rw [if_neg hi] at e1
        rw [if_neg hj] at e3
        exact R2.dist i j s t v e1 e3 o1 o3 (by rw [hσ i hi]; exact g1) (by rw [hσ j hj]; exact g3)
  · rw [unw_get hl] at e
    by_cases hm : i ∈ vs
    · rw [if_pos hm] at e
      exact R.nopr i m e
    · rw [if_neg hm] at e
      exact R2.nopr i m e
/-- the names own what they owned -/
theorem owned_in {vs tg : List Nat} {Z : Dat → Sls → Sls} {d : Dat} {σ2 : L2.St} {a : Addr} (zk : ZOk tg Z) (htg : ∀ j ∈ tg, j ∈ vs) (hw : L2.wipe σ2 vs = L2.wipe (L2.wipe σ vs) vs) (h : Owned σ2 (Z d (wipeE env vs)) a) : Owned σ env a := by
  obtain ⟨i, s, e, o, q⟩ := h
  by_cases hv : i ∈ vs
  · exfalso
    by_cases ht : i ∈ tg
    · obtain ⟨x, h | h⟩ := zk.own d _ i s ht e
      · subst h; exact o.elim
      · rw [wipeE_get, if_pos hv] at h
        cases h2 : env[i]? with
        | none => rw [h2] at h; cases h
        | some u => rw [h2] at h; cases h; exact o.elim
    · rw [zk.out d _ i ht, wipeE_get, if_pos hv] at e
      cases h2 : env[i]? with
      | none => rw [h2] at e; cases e
      | some u => rw [h2] at e; cases e; exact o.elim
  · rw [zk.out d _ i (fun z => hv (htg i z)), wipeE_get, if_neg hv] at e
    have := congrArg (fun l : L2.St => l[i]?) hw
    simp only [wipe_get, if_neg hv] at this
    exact ⟨i, s, e, o, by rw [← this]; exact q⟩
theorem owned_out {vs : List Nat} {σ2 : L2.St} {e2 : Sls} {a : Addr} (hl : env.length = e2.length) (fr : FreAll env vs) (hw : L2.wipe σ2 vs = L2.wipe (L2.wipe σ vs) vs) (h : Owned σ (unw env e2 vs) a) : Owned σ2 e2 a := by
  obtain ⟨i, s, e, o, q⟩ := h
  rw [unw_get hl] at e
  by_cases hv : i ∈ vs
  · rw [if_pos hv] at e
    have hf := fr.at i hv s e
    cases s <;> first | exact o.elim | exact hf.elim
  · rw [if_neg hv] at e
    have := congrArg (fun l : L2.St => l[i]?) hw
    simp only [wipe_get, if_neg hv] at this
    exact ⟨i, s, e, o, by rw [this]; exact q⟩
/-- a list that no slot owns has changed -/
theorem RepE.other {D : Addr} {xs ys : List V} (R : RepE C B H0 H σ env) (hD : H D = some (.lst xs)) (nb : ¬ B D) (no : ¬ Owned σ env D) (h0 : H0 D = none) : RepE C B H0 (upd H D (.lst ys)) σ env := by
  have kp : Kp C H (upd H D (.lst ys)) := fun a o h i => by
    rw [upd_ne (fun z => by rw [z, hD] at h; cases h; exact i)]
    exact h
  refine ⟨R.len, fun i s e => ?_, R.dist, R.nopr, fun a o h nb' => ?_, fun a b => ?_⟩
  · rcases R.slot i s e with h | ⟨v, hv, k⟩
    · exact .inl h
    · refine .inr ⟨v, hv, ?_⟩
      cases s with
      | un => trivial
      | im d => exact Rep.mono kp k
      | ow ds =>
        obtain ⟨l, zs, e1, h1, h2, h3, r⟩ := k
        exact ⟨l, zs, e1, h1, h2, by rw [upd_ne (fun z => no ⟨i, _, e, trivial, by rw [hv, e1, z]⟩)]; exact h3, r.mono kp⟩
      | od ds =>
        obtain ⟨l, zs, e1, h1, h2, h3, r⟩ := k
        exact ⟨l, zs, e1, h1, h2, by rw [upd_ne (fun z => no ⟨i, _, e, trivial, by rw [hv, e1, z]⟩)]; exact h3, r.mono kp⟩
      | ro ds =>
        obtain ⟨l, zs, e1, h1, h2, r⟩ := k
        exact ⟨l, zs, e1, h1, h2, r.mono kp⟩
      | ri c fs =>
        obtain ⟨p, dx, vs, e1, h0', hb, r⟩ := k
        exact ⟨p, dx, vs, e1, h0', hb, r.mono kp⟩
      | pn p n =>
        obtain ⟨e1, hb, L, o, ns, u, w, q1, q2, q3⟩ := k
        exact ⟨e1, hb, L, o, ns, u, w, by rw [upd_ne (fun z => nb (by rw [← z]; exact hb))]; exact q1, kp _ _ q2 trivial, q3⟩
      | pr m => exact k
      | mk p c fs =>
        obtain ⟨e1, hb, dx, vs, hp, r⟩ := k
        exact ⟨e1, hb, dx, vs, by rw [upd_ne (fun z => nb (by rw [← z]; exact hb))]; exact hp, r.mono kp⟩
      | qi c fs =>
        obtain ⟨p, dx, vs, e1, h1, hb, hp, r⟩ := k
        exact ⟨p, dx, vs, e1, h1, hb, by rw [upd_ne (fun z => by rw [z, hD] at hp; cases hp)]; exact hp, r.mono kp⟩
      | bd p fs =>
        obtain ⟨e1, hb, xs, hp, r⟩ := k
        exact ⟨e1, hb, xs, by rw [upd_ne (fun z => nb (by rw [← z]; exact hb))]; exact hp, r.mono kp⟩
      | bl p fs =>
        obtain ⟨e1, hb, xs, hp, r⟩ := k
        exact ⟨e1, hb, xs, by rw [upd_ne (fun z => nb (by rw [← z]; exact hb))]; exact hp, r.mono kp⟩
  · rw [upd_ne (fun z => by rw [z, h0] at h; cases h)]
    exact R.base a o h nb'
  · obtain ⟨o, h, n⟩ := R.mutB a b
    exact ⟨o, by rw [upd_ne (fun z => nb (by rw [← z]; exact b))]; exact h, n⟩
theorem Frm.other {D : Addr} {o : HO} {H1 : Hp} (f : Frm B H σ env H1) (hD : H D = none) : Frm B H σ env (upd H1 D o) :=
  ⟨fun a u h nb no => by rw [upd_ne (ne_of_none h hD)]; exact f.keep a u h nb no, fun a h => by
    by_cases z : a = D
    · rw [z]; exact hD
    · rw [upd_ne z] at h
      exact f.dom a h⟩
theorem Frm.of_own {σ' : L2.St} {e' : Sls} {H' : Hp} (f : Frm B H σ' e' H') (h : ∀ a, Owned σ' e' a → Owned σ env a) : Frm B H σ env H' := ⟨fun a o q nb no => f.keep a o q nb fun w => no (h a w), f.dom⟩
theorem ex_lcG {wi : TI} {GE : Sls → Prop} {vs : List Nat} (htg : ∀ j ∈ tg, j ∈ vs) (h : IXg C GE wi g tg env fun ds Z e1 => ds.length ≤ 100000 ∧ FreAll e1 vs ∧ ∃ Iv : List Dat → List Dat → Sls → Prop, Iv [] [] e1 ∧
    (∀ pre d post acc e, ds = pre ++ d :: post → Iv pre acc e → FreAll e vs ∧ ET C tt (Z d (wipeE e vs)) fun b e2 => if b = true then EX C te e2 fun s e3 => ∃ r, s = .im r ∧ FreAll e3 vs ∧ Iv (pre ++ [d]) (acc ++ [r]) (unw e e3 vs) else FreAll e2 vs ∧ Iv (pre ++ [d]) acc (unw e e2 vs)) ∧
    (∀ pre acc e, Iv pre acc e → GE e) ∧ ∀ acc e, Iv ds acc e → K (.ow acc) e) : EX C (tLc wi g tt te vs) env K := fun B H0 σ H R Q q => by
  refine h B H0 σ H R _ fun J ds Z e1 H1 G ⟨hz, fr1, Iv, i0, is, ge, id⟩ fm1 o1 R1 g1 gk zk wk => ?_
  intro D hD
  have nbD : ¬ B D := fun b => by
    obtain ⟨o, ho, _⟩ := R1.mutB D b
    rw [hD] at ho
    cases ho
  have h0D : H0 D = none := by
    cases e : H0 D with
    | none => rfl
    | some o =>
      have := R1.base D o e nbD
      rw [hD] at this
      cases this
  have hDs : H D = none := fm1.dom D hD
  have smD : Same H1 (upd H1 D (.lst [])) := fun a o ha => by rw [upd_ne (ne_of_none ha hD)]; exact ha
  have nown : ∀ a, Owned σ e1 a → a ≠ D := fun a w z => by
    obtain ⟨⟨o, ho, _⟩, _⟩ := R1.ownM w
    rw [z, hD] at ho
    cases ho
  refine ⟨fun i m H' => m = ds.length - i ∧ i ≤ ds.length ∧ ∃ acc xs e, Iv (ds.take i) acc e ∧ acc.length ≤ i ∧ RepE C B H0 H' σ e ∧ Kp C H1 H' ∧ G H' ∧ Frm B H σ env H' ∧ (∀ a, Owned σ e a → Owned σ e1 a) ∧ H' D = some (.lst xs) ∧ Reps C H' xs acc ∧ FreAll e vs,
    ⟨_, rfl, Nat.zero_le _, [], [], e1, i0, Nat.le_refl _, R1.same smD, Kp.same smD, gk _ _ _ _ g1 (Kp.same smD) (R1.same smD) (ge _ _ _ i0), fm1.other hDs, fun _ z => z, upd_same, .nil, fr1⟩, ?_⟩
  rintro i m H' ⟨hm, hi, acc, xs, e, ie, hacc, R', kp, gh, fm, oe, hx, rx, fre⟩
  have noD : ¬ Owned σ e D := fun w => nown D (oe D w) rfl
  by_cases hlt : i < ds.length
  · have hd : ds[i]? = some ds[i] := List.getElem?_eq_getElem hlt
    have et : ds.take (i + 1) = ds.take i ++ [ds[i]] := by rw [List.take_succ_eq_append_getElem hlt]
    have es : ds = ds.take i ++ ds[i] :: ds.drop (i + 1) := by rw [List.getElem_cons_drop, List.take_append_drop]
    obtain ⟨fre', et'⟩ := is _ _ _ acc e es ie
    obtain ⟨go, yl⟩ := (wk i (L2.wipe σ vs) H' (wipeE e vs) gh R'.wipe).2 _ hd
    refine .inr ⟨go, fun H2 => ∃ acc xs e, Iv (ds.take (i + 1)) acc e ∧ acc.length ≤ i + 1 ∧ RepE C B H0 H2 σ e ∧ Kp C H1 H2 ∧ G H2 ∧ Frm B H σ env H2 ∧ (∀ a, Owned σ e a → Owned σ e1 a) ∧ H2 D = some (.lst xs) ∧ Reps C H2 xs acc ∧ FreAll e vs, fun H2 p => ⟨ds.length - (i + 1), by omega, rfl, hlt, p⟩, fun x H2 y => ?_⟩
    refine yl x H2 y _ fun σ2 H3 sm R3 hw => ?_
    have hw' := hw vs htg
    refine ⟨hw'.trans wipe_wipe, ?_⟩
    have oin : ∀ a, Owned σ2 (Z ds[i] (wipeE e vs)) a → Owned σ e a := fun a w => owned_in zk htg hw' w
    refine et' B H0 σ2 H3 R3 _ fun b e2 H4 k4 f4 o4 R4 => ?_
    have f4' : Frm B H3 σ e H4 := f4.of_own oin
    have k13 : Kp C H1 H4 := (kp.trans (Kp.same sm)).trans (R3.kp f4)
    have fm4 : Frm B H σ env H4 := (fm.trans (Frm.same sm) (env' := e) (fun a w => o1 a (oe a w))).trans f4' (fun a w => o1 a (oe a w))
    have ww : L2.wipe σ2 vs = L2.wipe (L2.wipe σ vs) vs := hw'
    have ww2 : L2.wipe σ2 vs = L2.wipe σ vs := hw'.trans wipe_wipe
    have hl2 : e.length = e2.length := by rw [← R'.len, ← R4.len, ← wipe_length σ vs, ← ww2, wipe_length]
    cases b with
    | false =>
      obtain ⟨fr2, k4⟩ := (k4 : FreAll e2 vs ∧ _)
      show ∃ acc xs e, _
      have R5 := R'.unwipe (vs := vs) ((Kp.same sm).trans (R3.kp f4)) fre R4 ww2 fr2
      have oo : ∀ a, Owned σ (unw e e2 vs) a → Owned σ e a := fun a w => oin a (o4 a (owned_out hl2 fre ww w))
      exact ⟨acc, xs, _, by rw [et]; exact k4, by omega, R5, k13, gk _ _ _ _ gh ((Kp.same sm).trans (R3.kp f4)) R5 (ge _ _ _ k4), fm4, fun a w => oe a (oo a w), f4'.keep _ _ (sm _ _ hx) nbD noD, rx.mono ((Kp.same sm).trans (R3.kp f4)), FreAll.of fun v hv s es => by
        rw [unw_get hl2, if_pos hv] at es
        exact fre.at v hv s es⟩
    | true =>
      have k4 : EX C te e2 _ := k4
      show te σ2 H4 _
      refine k4 B H0 σ2 H4 R4 _ fun s e3 y H5 ⟨r, er, fr3, k5⟩ _ f5 o5 R5 ok5 _ => ?_
      subst er
      have f5' : Frm B H4 σ e H5 := f5.of_own fun a w => oin a (o4 a w)
      have hx5 : H5 D = some (.lst xs) := f5'.keep _ _ (f4'.keep _ _ (sm _ _ hx) nbD noD) nbD noD
      have k35 : Kp C H' H5 := ((Kp.same sm).trans (R3.kp f4)).trans (R4.kp f5)
      have lx : xs.length = acc.length := rx.length
      refine ⟨xs, hx5, by rw [lx]; exact Nat.lt_of_le_of_lt (Nat.le_trans hacc (Nat.le_trans hi hz)) (by decide), ?_⟩
      have hl3 : e.length = e3.length := by rw [← R'.len, ← R5.len, ← wipe_length σ vs, ← ww2, wipe_length]
      have R6 := R'.unwipe (vs := vs) k35 fre R5 ww2 fr3
      have oo : ∀ a, Owned σ (unw e e3 vs) a → Owned σ e a := fun a w => oin a (o4 a (o5 a (owned_out hl3 fre ww w)))
      have noD6 : ¬ Owned σ (unw e e3 vs) D := fun w => noD (oo D w)
      have kpD : Kp C H5 (upd H5 D (.lst (xs ++ [y]))) := fun a o h im => by
        rw [upd_ne (fun z => by rw [z, hx5] at h; cases h; exact im)]
        exact h
      have R7 := R6.other (ys := xs ++ [y]) hx5 nbD noD6 h0D
      refine ⟨acc ++ [r], xs ++ [y], _, by rw [et]; exact k5, by rw [List.length_append, List.length_singleton]; omega, R7, (k13.trans (R4.kp f5)).trans kpD, gk _ _ _ _ gh (k35.trans kpD) R7 (ge _ _ _ k5), (fm4.trans f5' (fun a w => o1 a (oe a w))).other hDs, fun a w => oe a (oo a w), upd_same, ?_, FreAll.of fun v hv s es => by
        rw [unw_get hl3, if_pos hv] at es
        exact fre.at v hv s es⟩
      exact (rx.mono (k35.trans kpD)).append (.cons (Rep.mono kpD ok5) .nil)
  · have e2 : i = ds.length := by omega
    refine .inl ⟨((wk i (L2.wipe σ vs) H' (wipeE e vs) gh R'.wipe).1 e2), ?_⟩
    rw [e2, List.take_length] at ie
    exact q _ e (.ref D) H' (id acc e ie) trivial fm (fun a w => o1 a (oe a w)) R' ⟨D, xs, rfl, h0D, nbD, hx, rx⟩ fun _ a ea => by cases ea; exact hDs
theorem ex_lc {wi : TI} {vs : List Nat} (htg : ∀ j ∈ tg, j ∈ vs) (h : IX C wi g tg env fun ds Z e1 => ds.length ≤ 100000 ∧ FreAll e1 vs ∧ ∃ Iv : List Dat → List Dat → Sls → Prop, Iv [] [] e1 ∧
    (∀ pre d post acc e, ds = pre ++ d :: post → Iv pre acc e → FreAll e vs ∧ ET C tt (Z d (wipeE e vs)) fun b e2 => if b = true then EX C te e2 fun s e3 => ∃ r, s = .im r ∧ FreAll e3 vs ∧ Iv (pre ++ [d]) (acc ++ [r]) (unw e e3 vs) else FreAll e2 vs ∧ Iv (pre ++ [d]) acc (unw e e2 vs)) ∧
    ∀ acc e, Iv ds acc e → K (.ow acc) e) : EX C (tLc wi g tt te vs) env K :=
  ex_lcG (GE := fun _ => True) htg fun B H0 σ H R Q q => h B H0 σ H R Q fun J ds Z e1 H1 G ⟨hz, fr1, Iv, i0, is, id⟩ fr o R1 g1 gk zk wk => q J ds Z e1 H1 G ⟨hz, fr1, Iv, i0, is, fun _ _ _ _ => trivial, id⟩ fr o R1 g1 gk zk wk
/-- one that changes nothing -/
theorem unw_Z {vs tg : List Nat} {Z : Dat → Sls → Sls} {d : Dat} (zk : ZOk tg Z) (htg : ∀ j ∈ tg, j ∈ vs) : unw env (Z d (wipeE env vs)) vs = env := by
  have hl : env.length = (Z d (wipeE env vs)).length := by rw [zk.len, wipeE_len]
  apply List.ext_getElem?
  intro i
  rw [unw_get hl]
  by_cases hv : i ∈ vs
  · rw [if_pos hv]
  · rw [if_neg hv, zk.out d _ i (fun z => hv (htg i z)), wipeE_get, if_neg hv]
theorem fre_Z {vs tg : List Nat} {Z : Dat → Sls → Sls} {d : Dat} (zk : ZOk tg Z) : FreAll (Z d (wipeE env vs)) vs := FreAll.of fun v hv s e => by
  have un : (wipeE env vs)[v]? = some s → Fre s := fun h => by
    rw [wipeE_get, if_pos hv] at h
    cases h2 : env[v]? with
    | none => rw [h2] at h; cases h
    | some u => rw [h2] at h; cases h; trivial
  by_cases ht : v ∈ tg
  · obtain ⟨x, h | h⟩ := zk.own d _ v s ht e
    · subst h; trivial
    · exact un h
  · rw [zk.out d _ v ht] at e
    exact un e
theorem ix_zok {wi : TI} {GE : Sls → Prop} {KI : List Dat → (Dat → Sls → Sls) → Sls → Prop} (h : IXg C GE wi g tg env KI) : IXg C GE wi g tg env fun ds Z e => ZOk tg Z ∧ KI ds Z e := fun B H0 σ H R Q q =>
  h B H0 σ H R Q fun J ds Z e1 H1 G k fm o R1 g1 gk zk wk => q J ds Z e1 H1 G ⟨zk, k⟩ fm o R1 g1 gk zk wk
theorem IXg.imp {wi : TI} {GE : Sls → Prop} {K1 K2 : List Dat → (Dat → Sls → Sls) → Sls → Prop} (h : IXg C GE wi g tg env K1) (i : ∀ ds Z e, K1 ds Z e → K2 ds Z e) : IXg C GE wi g tg env K2 := fun B H0 σ H R Q q =>
  h B H0 σ H R Q fun J ds Z e1 H1 G k fm o R1 g1 gk zk wk => q J ds Z e1 H1 G (i _ _ _ k) fm o R1 g1 gk zk wk
theorem ex_lcP {wi : TI} {vs : List Nat} (htg : ∀ j ∈ tg, j ∈ vs) (h : IX C wi g tg env fun ds Z e1 => ds.length ≤ 100000 ∧ FreAll e1 vs ∧ ∃ (P : Dat → Bool) (F : Dat → Dat),
    (∀ d ∈ ds, ET C tt (Z d (wipeE e1 vs)) fun b e2 => b = P d ∧ e2 = Z d (wipeE e1 vs)) ∧ (∀ d ∈ ds, P d = true → EX C te (Z d (wipeE e1 vs)) fun s e3 => s = .im (F d) ∧ e3 = Z d (wipeE e1 vs)) ∧ K (.ow ((ds.filter P).map F)) e1) :
    EX C (tLc wi g tt te vs) env K := by
  refine ex_lc htg ((ix_zok h).imp fun ds Z e1 ⟨zk, hz, fr, P, F, hp, hf, k⟩ => ⟨hz, fr, fun pre acc e => e = e1 ∧ acc = (pre.filter P).map F, ⟨rfl, rfl⟩, ?_, ?_⟩)
  · rintro pre d post acc e ed ⟨ee, ea⟩
    subst ee ea
    have hd : d ∈ ds := by rw [ed]; exact List.mem_append_right _ List.mem_cons_self
    refine ⟨fr, fun B H0 σ H R Q q => hp d hd B H0 σ H R Q fun b e2 H' ⟨eb, e2e⟩ f o R' => q b e2 H' ?_ f o R'⟩
    subst eb e2e
    cases hb : P d with
    | true =>
      rw [if_pos rfl]
      refine fun B H0 σ H R Q q => hf d hd hb B H0 σ H R Q fun s e3 v H' ⟨es, e3e⟩ rs f o R' ok nw => q s e3 v H' ?_ rs f o R' ok nw
      subst es e3e
      refine ⟨_, rfl, fre_Z zk, unw_Z zk htg, ?_⟩
      rw [List.filter_append, List.map_append, List.filter_cons, hb]
      rfl
    | false =>
      refine ⟨fre_Z zk, unw_Z zk htg, ?_⟩
      rw [List.filter_append, List.filter_cons, hb]
      simp
  · rintro acc e ⟨ee, ea⟩
    subst ee ea
    exact k
/-- .. over encoded things -/
theorem ex_lcTG {wi : TI} {GE : Sls → Prop} {vs : List Nat} (htg : ∀ j ∈ tg, j ∈ vs) (h : IXg C GE wi g tg env fun ds Z e1 => ds.length ≤ 100000 ∧ GE e1 ∧ FreAll e1 vs ∧ ∃ (α : Type) (xs : List α) (enc : α → Dat) (P : α → Bool) (F : α → Dat), ds = xs.map enc ∧
    (∀ x ∈ xs, ET C tt (Z (enc x) (wipeE e1 vs)) fun b e2 => b = P x ∧ e2 = Z (enc x) (wipeE e1 vs)) ∧ (∀ x ∈ xs, P x = true → EX C te (Z (enc x) (wipeE e1 vs)) fun s e3 => s = .im (F x) ∧ e3 = Z (enc x) (wipeE e1 vs)) ∧ K (.ow ((xs.filter P).map F)) e1) :
    EX C (tLc wi g tt te vs) env K := by
  refine ex_lcG htg ((ix_zok h).imp fun ds Z e1 ⟨zk, hz, ge, fr, α, xs, enc, P, F, hds, hp, hf, k⟩ => ⟨hz, fr, fun pre acc e => e = e1 ∧ acc = ((xs.take pre.length).filter P).map F, ⟨rfl, by simp⟩, ?_, fun _ _ _ z => by rw [z.1]; exact ge, ?_⟩)
  · rintro pre d post acc e ed ⟨ee, ea⟩
    subst ee ea
    have hlen : pre.length < xs.length := by
      have := congrArg List.length (hds.symm.trans ed)
      simp at this
      omega
    have hx : enc xs[pre.length] = d := by
      have h1 : ds[pre.length]? = some d := by rw [ed]; simp
      rw [hds, List.getElem?_map, List.getElem?_eq_getElem hlen] at h1
      exact Option.some.inj h1
    have hm : xs[pre.length] ∈ xs := List.getElem_mem hlen
    have htk : xs.take (pre ++ [d]).length = xs.take pre.length ++ [xs[pre.length]] := by
      rw [List.length_append, List.length_singleton, List.take_succ_eq_append_getElem hlen]
    rw [← hx]
    refine ⟨fr, fun B H0 σ H R Q q => hp _ hm B H0 σ H R Q fun b e2 H' ⟨eb, e2e⟩ f o R' => q b e2 H' ?_ f o R'⟩
    subst eb e2e
    rw [hx]
    cases hb : P xs[pre.length] with
    | true =>
      rw [if_pos rfl]
      have hf2 := hf _ hm hb
      rw [hx] at hf2
      refine fun B H0 σ H R Q q => hf2 B H0 σ H R Q fun s e3 v H' ⟨es, e3e⟩ rs f o R' ok nw => q s e3 v H' ?_ rs f o R' ok nw
      subst es e3e
      refine ⟨_, rfl, fre_Z zk, unw_Z zk htg, ?_⟩
      rw [htk, List.filter_append, List.map_append, List.filter_cons, hb]
      rfl
    | false =>
      refine ⟨fre_Z zk, unw_Z zk htg, ?_⟩
      show _ = ((xs.take (pre ++ [d]).length).filter P).map F
      rw [htk, List.filter_append, List.filter_cons, hb]
      simp
  · rintro acc e ⟨ee, ea⟩
    subst ee ea
    rw [hds, List.length_map, List.take_length]
    exact k
theorem ex_lcT {wi : TI} {vs : List Nat} (htg : ∀ j ∈ tg, j ∈ vs) (h : IX C wi g tg env fun ds Z e1 => ds.length ≤ 100000 ∧ FreAll e1 vs ∧ ∃ (α : Type) (xs : List α) (enc : α → Dat) (P : α → Bool) (F : α → Dat), ds = xs.map enc ∧
    (∀ x ∈ xs, ET C tt (Z (enc x) (wipeE e1 vs)) fun b e2 => b = P x ∧ e2 = Z (enc x) (wipeE e1 vs)) ∧ (∀ x ∈ xs, P x = true → EX C te (Z (enc x) (wipeE e1 vs)) fun s e3 => s = .im (F x) ∧ e3 = Z (enc x) (wipeE e1 vs)) ∧ K (.ow ((xs.filter P).map F)) e1) :
    EX C (tLc wi g tt te vs) env K :=
  ex_lcTG htg (IXg.imp h fun ds Z e1 z => ⟨z.1, trivial, z.2⟩)
/-- .. without a test -/
theorem et_yes {KT : Bool → Sls → Prop} (h : KT true env) : ET C tYes env KT := fun B H0 σ H R Q q => q true env H h .refl (fun _ z => z) R
theorem ex_lcY {wi : TI} {vs : List Nat} (htg : ∀ j ∈ tg, j ∈ vs) (h : IX C wi g tg env fun ds Z e1 => ds.length ≤ 100000 ∧ FreAll e1 vs ∧ ∃ (α : Type) (xs : List α) (enc : α → Dat) (F : α → Dat), ds = xs.map enc ∧
    (∀ x ∈ xs, EX C te (Z (enc x) (wipeE e1 vs)) fun s e3 => s = .im (F x) ∧ e3 = Z (enc x) (wipeE e1 vs)) ∧ K (.ow (xs.map F)) e1) :
    EX C (tLc wi g tYes te vs) env K :=
  ex_lcT htg (h.imp fun ds Z e1 ⟨h1, h2, α, xs, enc, F, h3, h4, h5⟩ => ⟨h1, h2, α, xs, enc, fun _ => true, F, h3, fun x _ => et_yes ⟨rfl, rfl⟩, fun x hx _ => h4 x hx, by
    rw [List.filter_eq_self.mpr (fun _ _ => rfl)]
    exact h5⟩)
theorem ex_lcYG {wi : TI} {GE : Sls → Prop} {vs : List Nat} (htg : ∀ j ∈ tg, j ∈ vs) (h : IXg C GE wi g tg env fun ds Z e1 => ds.length ≤ 100000 ∧ GE e1 ∧ FreAll e1 vs ∧ ∃ (α : Type) (xs : List α) (enc : α → Dat) (F : α → Dat), ds = xs.map enc ∧
    (∀ x ∈ xs, EX C te (Z (enc x) (wipeE e1 vs)) fun s e3 => s = .im (F x) ∧ e3 = Z (enc x) (wipeE e1 vs)) ∧ K (.ow (xs.map F)) e1) :
    EX C (tLc wi g tYes te vs) env K :=
  ex_lcTG htg (h.imp fun ds Z e1 ⟨h1, ge, h2, α, xs, enc, F, h3, h4, h5⟩ => ⟨h1, ge, h2, α, xs, enc, fun _ => true, F, h3, fun x _ => et_yes ⟨rfl, rfl⟩, fun x hx _ => h4 x hx, by
    rw [List.filter_eq_self.mpr (fun _ _ => rfl)]
    exact h5⟩)
end
end Af
end

section
set_option maxHeartbeats 4000000
namespace Af
open PySem L2
/-! ### a thing locked for good -/
def tFz (t : TE) : TE := fun σ H Q => t σ H fun v H1 => ∃ d u, v = V.ref d ∧ H1 d = some u ∧ Mut (some u) ∧ ∀ o, Q v (upd H1 d (.frz o u))
theorem pe_fz {X : Cx} {e : Expr} {t : TE} (h : PE X e t) : PE X e (tFz t) := ⟨fun pins s σ H Q I hw =>
  thn (h.run pins s σ H _ I hw) fun v s1 ⟨x, H1, I1, r, d, u, ex, hd, mu, q⟩ => by
    obtain ⟨o, I2⟩ := I1.lock hd mu
    exact ⟨x, _, I2, r, q o⟩⟩
def tFzS (i : Nat) (t : TS) : TS := fun D σ H => t { D with nx := fun σ' H' => ∃ d u, σ'[i]? = some (some (V.ref d)) ∧ H' d = some u ∧ Mut (some u) ∧ ∀ o, D.nx σ' (upd H' d (.frz o u)) } σ H
theorem ps_fz {X : Cx} (i : Nat) {st : Stmt} {t : TS} (h : PS X st t) : PS X st (tFzS i t) := ⟨fun pins s σ H D I hw =>
  thn (h.run pins s σ H _ I hw) fun f s1 q => by
    cases f with
    | next =>
      obtain ⟨σ', H', I1, d, u, _, hd, mu, q⟩ := q
      obtain ⟨o, I2⟩ := I1.lock hd mu
      exact ⟨σ', _, I2, q o⟩
    | ret v => exact q
    | brk => exact q
    | cont => exact q⟩
section
variable {C : Addr} {env : Sls} {K : Sl → Sls → Prop} {ta tb tc te tl : TE} {F : PySem.W.Frag} {H : Hp} {v : V} {B : Addr → Prop} {H0 : Hp} {σ : L2.St} {t : TA} {E : XK} {k : Sl → Prop} {s1 s2 : Sl} {W : Wish} {ts : TS}
theorem kp_mut {l : Addr} {o u : HO} (h : H l = some u) (n : ¬ Imm C u) : Kp C H (upd H l o) := fun a w hw i => by
  rw [upd_ne (fun z => by rw [z, h] at hw; cases hw; exact n i)]
  exact hw
/-- an object that is neither borrowed nor a slot's own, and stood not at the entry, has changed: by what it was and is -/
theorem RepE.other' {D : Addr} {u w : HO} (R : RepE C B H0 H σ env) (hD : H D = some u) (nu : ¬ Imm C u) (ni : ∀ c dx fs, u ≠ .ins c dx fs) (nb : ¬ B D) (no : ¬ Owned σ env D) (h0 : H0 D = none) : RepE C B H0 (upd H D w) σ env := by
  have kp : Kp C H (upd H D w) := kp_mut hD nu
  refine ⟨R.len, fun i s e => ?_, R.dist, R.nopr, fun a o h nb' => ?_, fun a b => ?_⟩
  · rcases R.slot i s e with h | ⟨v, hv, k⟩
    · exact .inl h
    · refine .inr ⟨v, hv, ?_⟩
      cases s with
      | un => trivial
      | im d => exact Rep.mono kp k
      | ow ds =>
        obtain ⟨l, zs, e1, h1, h2, h3, r⟩ := k
        exact ⟨l, zs, e1, h1, h2, by rw [upd_ne (fun z => no ⟨i, _, e, trivial, by rw [hv, e1, z]⟩)]; exact h3, r.mono kp⟩
      | od ds =>
        obtain ⟨l, zs, e1, h1, h2, h3, r⟩ := k
        exact ⟨l, zs, e1, h1, h2, by rw [upd_ne (fun z => no ⟨i, _, e, trivial, by rw [hv, e1, z]⟩)]; exact h3, r.mono kp⟩
      | ro ds =>
        obtain ⟨l, zs, e1, h1, h2, r⟩ := k
        exact ⟨l, zs, e1, h1, h2, r.mono kp⟩
      | ri c fs =>
        obtain ⟨p, dx, vs, e1, h0', hb, r⟩ := k
        exact ⟨p, dx, vs, e1, h0', hb, r.mono kp⟩
      | pn p n =>
        obtain ⟨e1, hb, L, o, ns, u', w', q1, q2, q3⟩ := k
        exact ⟨e1, hb, L, o, ns, u', w', by rw [upd_ne (fun z => nb (by rw [← z]; exact hb))]; exact q1, kp _ _ q2 trivial, q3⟩
      | pr m => exact k
      | mk p c fs =>
        obtain ⟨e1, hb, dx, vs, hp, r⟩ := k
        exact ⟨e1, hb, dx, vs, by rw [upd_ne (fun z => nb (by rw [← z]; exact hb))]; exact hp, r.mono kp⟩
      | qi c fs =>
        obtain ⟨p, dx, vs, e1, h1, hb, hp, r⟩ := k
        exact ⟨p, dx, vs, e1, h1, hb, by rw [upd_ne (fun z => by rw [z, hD] at hp; cases hp; exact ni _ _ _ rfl)]; exact hp, r.mono kp⟩
      | bd p fs =>
        obtain ⟨e1, hb, xs, hp, r⟩ := k
        exact ⟨e1, hb, xs, by rw [upd_ne (fun z => nb (by rw [← z]; exact hb))]; exact hp, r.mono kp⟩
      | bl p fs =>
        obtain ⟨e1, hb, xs, hp, r⟩ := k
        exact ⟨e1, hb, xs, by rw [upd_ne (fun z => nb (by rw [← z]; exact hb))]; exact hp, r.mono kp⟩
  · rw [upd_ne (fun z => by rw [z, h0] at h; cases h)]
    exact R.base a o h nb'
  · obtain ⟨o, h, n⟩ := R.mutB a b
    exact ⟨o, by rw [upd_ne (fun z => nb (by rw [← z]; exact b))]; exact h, n⟩
/-- a slot's content is told anew: the slot's own thing has changed -/
theorem RepE.retell {i : Nat} {s s' : Sl} {l : Addr} {u w : HO} (R : RepE C B H0 H σ env) (e : env[i]? = some s) (hv : σ[i]? = some (some (V.ref l))) (hl : H l = some u) (nu : ¬ Imm C u) (ni : ∀ c dx fs, u ≠ .ins c dx fs) (os : OwnS s) (np : ∀ m, s' ≠ .pr m) (ok : SlOk C B H0 (upd H l w) σ (.ref l) s') : RepE C B H0 (upd H l w) σ (env.set i s') := by
  have ho : Owned σ env l := ⟨i, s, e, os, hv⟩
  obtain ⟨⟨_, _⟩, h0, nb⟩ := R.ownM ho
  have hi : i < env.length := (List.getElem?_eq_some_iff.mp e).1
  have kp : Kp C H (upd H l w) := kp_mut hl nu
  have other : ∀ j t, i ≠ j → env[j]? = some t → OwnS t → σ[j]? ≠ some (some (V.ref l)) := fun j t hij ej ot gj => hij (R.dist i j s t (.ref l) e ej os ot hv gj)
  refine ⟨by rw [List.length_set]; exact R.len, fun j t ej => ?_, fun j m t t' v' e1 e2 o1 o2 g1 g2 => ?_, fun j m ej => ?_, fun a o h nb' => ?_, fun a b => ?_⟩
  · by_cases hj : i = j
    · subst hj
      rw [List.getElem?_set_self hi] at ej
      cases ej
      exact .inr ⟨_, hv, ok⟩
    · rw [List.getElem?_set_ne hj] at ej
      rcases R.slot j t ej with h | ⟨v', hv', k⟩
      · exact .inl h
      · refine .inr ⟨v', hv', ?_⟩
        cases t with
        | un => trivial
        | im d => exact Rep.mono kp k
        | ow ds =>
          obtain ⟨l', zs, e1, h1, h2, h3, r⟩ := k
          exact ⟨l', zs, e1, h1, h2, by rw [upd_ne (fun z => other j _ hj ej trivial (by rw [hv', e1, z]))]; exact h3, r.mono kp⟩
        | od ds =>
          obtain ⟨l', zs, e1, h1, h2, h3, r⟩ := k
          exact ⟨l', zs, e1, h1, h2, by rw [upd_ne (fun z => other j _ hj ej trivial (by rw [hv', e1, z]))]; exact h3, r.mono kp⟩
        | ro ds =>
          obtain ⟨l', zs, e1, h1, h2, r⟩ := k
          exact ⟨l', zs, e1, h1, h2, r.mono kp⟩
        | ri c fs =>
          obtain ⟨p, dx, vs, e1, h0', hb, r⟩ := k
          exact ⟨p, dx, vs, e1, h0', hb, r.mono kp⟩
        | pn p n =>
          obtain ⟨e1, hb, L, o, ns, u', w', q1, q2, q3⟩ := k
          exact ⟨e1, hb, L, o, ns, u', w', by rw [upd_ne (fun z => nb (by rw [← z]; exact hb))]; exact q1, kp _ _ q2 trivial, q3⟩
        | pr m => exact k
        | mk p c fs =>
          obtain ⟨e1, hb, dx, vs, hp, r⟩ := k
          exact ⟨e1, hb, dx, vs, by rw [upd_ne (fun z => nb (by rw [← z]; exact hb))]; exact hp, r.mono kp⟩
        | qi c fs =>
          obtain ⟨p, dx, vs, e1, h1, hb, hp, r⟩ := k
          exact ⟨p, dx, vs, e1, h1, hb, by rw [upd_ne (fun z => by rw [z, hl] at hp; cases hp; exact ni _ _ _ rfl)]; exact hp, r.mono kp⟩
        | bd p fs =>
          obtain ⟨e1, hb, xs, hp, r⟩ := k
          exact ⟨e1, hb, xs, by rw [upd_ne (fun z => nb (by rw [← z]; exact hb))]; exact hp, r.mono kp⟩
        | bl p fs =>
          obtain ⟨e1, hb, xs, hp, r⟩ := k
          exact ⟨e1, hb, xs, by rw [upd_ne (fun z => nb (by rw [← z]; exact hb))]; exact hp, r.mono kp⟩
  · by_cases hj : i = j
    · by_cases hm : i = m
      · exact hj.symm.trans hm
      · subst hj
        rw [List.getElem?_set_ne hm] at e2
        rw [hv] at g1
        cases g1
        exact absurd g2 (other m _ hm e2 o2)
    · by_cases hm : i = m
      · subst hm
        rw [List.getElem?_set_ne hj] at e1
        rw [hv] at g2
        cases g2
        exact absurd g1 (other j _ hj e1 o1)
      · rw [List.getElem?_set_ne hj] at e1
        rw [List.getElem?_set_ne hm] at e2
        exact R.dist j m t t' v' e1 e2 o1 o2 g1 g2
  · by_cases hj : i = j
    · subst hj
      rw [List.getElem?_set_self hi] at ej
      cases ej
      exact np m rfl
    · rw [List.getElem?_set_ne hj] at ej
      exact R.nopr j m ej
  · rw [upd_ne (fun z => by rw [z, h0] at h; cases h)]
    exact R.base a o h nb'
  · obtain ⟨o, h, n⟩ := R.mutB a b
    exact ⟨o, by rw [upd_ne (fun z => nb (by rw [← z]; exact b))]; exact h, n⟩
theorem lst_ni {xs : List V} : ∀ c dx fs, HO.lst xs ≠ .ins c dx fs := fun _ _ _ z => nomatch z
theorem dK_ni {xs : List (Key × V)} : ∀ c dx fs, HO.dK xs ≠ .ins c dx fs := fun _ _ _ z => nomatch z
/-- a new list, a new dict, locked as it comes -/
theorem ex_fz (h : EX C te env fun s e => (∃ ds, s = .ow ds ∧ K (.im (.lst ds)) e) ∨ ∃ ds, s = .od ds ∧ K (.im (.dct ds)) e) : EX C (tFz te) env K := fun B H0 σ H R Q q =>
  h B H0 σ H R _ fun s e v H1 kk _ f o R1 ok nw => by
    rcases kk with ⟨ds, es, kk⟩ | ⟨ds, es, kk⟩
    · subst es
      obtain ⟨l, xs, ev, h0, nb, hl, r⟩ := ok
      subst ev
      refine ⟨l, _, rfl, hl, trivial, fun o' => ?_⟩
      have hn : H l = none := nw trivial l rfl
      have no : ¬ Owned σ e l := fun w => by
        obtain ⟨⟨u, hu, _⟩, _⟩ := R.ownM (o l w)
        rw [hn] at hu
        cases hu
      exact q _ e _ _ kk trivial (f.other hn) o (R1.other' hl imm_lst lst_ni nb no h0) (.lst upd_same (r.mono (kp_mut hl imm_lst))) fun z => z.elim
    · subst es
      obtain ⟨l, xs, ev, h0, nb, hl, r⟩ := ok
      subst ev
      refine ⟨l, _, rfl, hl, trivial, fun o' => ?_⟩
      have hn : H l = none := nw trivial l rfl
      have no : ¬ Owned σ e l := fun w => by
        obtain ⟨⟨u, hu, _⟩, _⟩ := R.ownM (o l w)
        rw [hn] at hu
        cases hu
      exact q _ e _ _ kk trivial (f.other hn) o (R1.other' hl imm_dK dK_ni nb no h0) (.dct upd_same (r.mono (kp_mut hl imm_dK))) fun z => z.elim
/-- a list of one's own at a name, locked -/
theorem own_fz {i : Nat} {ds : List Dat} (R : RepE C B H0 H σ env) (e : env[i]? = some (.ow ds)) : ∃ l xs, σ[i]? = some (some (V.ref l)) ∧ H l = some (.lst xs) ∧ ∀ o, RepE C B H0 (upd H l (.frz o (.lst xs))) σ (env.set i (.im (.lst ds))) ∧ Kp C H (upd H l (.frz o (.lst xs))) ∧ SlOk C B H0 (upd H l (.frz o (.lst xs))) σ (.ref l) (.im (.lst ds)) := by
  obtain ⟨v, hv, l, xs, ev, h0, nb, hl, r⟩ := R.at B e (fun z => nomatch z)
  subst ev
  refine ⟨l, xs, hv, hl, fun o => ?_⟩
  have ok : SlOk C B H0 (upd H l (.frz o (.lst xs))) σ (.ref l) (.im (.lst ds)) := .lst upd_same (r.mono (kp_mut hl imm_lst))
  exact ⟨R.retell e hv hl imm_lst lst_ni trivial (fun _ z => nomatch z) ok, kp_mut hl imm_lst, ok⟩
theorem own_fzD {i : Nat} {ds : List (Int × Dat)} (R : RepE C B H0 H σ env) (e : env[i]? = some (.od ds)) : ∃ l xs, σ[i]? = some (some (V.ref l)) ∧ H l = some (.dK xs) ∧ ∀ o, RepE C B H0 (upd H l (.frz o (.dK xs))) σ (env.set i (.im (.dct ds))) ∧ Kp C H (upd H l (.frz o (.dK xs))) ∧ SlOk C B H0 (upd H l (.frz o (.dK xs))) σ (.ref l) (.im (.dct ds)) := by
  obtain ⟨v, hv, l, xs, ev, h0, nb, hl, r⟩ := R.at B e (fun z => nomatch z)
  subst ev
  refine ⟨l, xs, hv, hl, fun o => ?_⟩
  have ok : SlOk C B H0 (upd H l (.frz o (.dK xs))) σ (.ref l) (.im (.dct ds)) := .dct upd_same (r.mono (kp_mut hl imm_dK))
  exact ⟨R.retell e hv hl imm_dK dK_ni trivial (fun _ z => nomatch z) ok, kp_mut hl imm_dK, ok⟩
theorem frz_frm {i : Nat} {s : Sl} {l : Addr} {o : HO} (e : env[i]? = some s) (os : OwnS s) (hv : σ[i]? = some (some (V.ref l))) : Frm B H σ env (upd H l o) :=
  ⟨fun a u h nb no => by rw [upd_ne (fun z => no ⟨i, s, e, os, by rw [hv, z]⟩)]; exact h, fun a h => by
    by_cases z : a = l
    · rw [z, upd_same] at h
      cases h
    · rw [upd_ne z] at h
      exact h⟩
theorem owned_set {i : Nat} {s' : Sl} {a : Addr} (ns : ¬ OwnS s') (h : Owned σ (env.set i s') a) : Owned σ env a := by
  obtain ⟨j, s, e, o, g⟩ := h
  by_cases hj : i = j
  · subst hj
    by_cases hl : i < env.length
    · rw [List.getElem?_set_self hl] at e
      cases e
      exact absurd o ns
    · rw [List.getElem?_eq_none (by rw [List.length_set]; omega)] at e
      cases e
  · rw [List.getElem?_set_ne hj] at e
    exact ⟨j, s, e, o, g⟩
/-- the name's list, locked: as a value -/
theorem ex_fzV {i : Nat} {ds : List Dat} (e : env[i]? = some (.ow ds)) (h : K (.im (.lst ds)) (env.set i (.im (.lst ds)))) : EX C (tFz (tVar i)) env K := fun B H0 σ H R Q q => by
  obtain ⟨l, xs, hv, hl, f⟩ := own_fz R e
  refine ⟨_, hv, l, _, rfl, hl, trivial, fun o => ?_⟩
  obtain ⟨R2, kp, ok⟩ := f o
  exact q _ _ _ _ h trivial (frz_frm e trivial hv) (fun a w => owned_set id w) R2 ok fun z => z.elim
theorem ex_fzVD {i : Nat} {ds : List (Int × Dat)} (e : env[i]? = some (.od ds)) (h : K (.im (.dct ds)) (env.set i (.im (.dct ds)))) : EX C (tFz (tVar i)) env K := fun B H0 σ H R Q q => by
  obtain ⟨l, xs, hv, hl, f⟩ := own_fzD R e
  refine ⟨_, hv, l, _, rfl, hl, trivial, fun o => ?_⟩
  obtain ⟨R2, kp, ok⟩ := f o
  exact q _ _ _ _ h trivial (frz_frm e trivial hv) (fun a w => owned_set id w) R2 ok fun z => z.elim
theorem sx_fz {i : Nat} (h : SX C ts env { W with nx := fun e => (∃ ds, e[i]? = some (.ow ds) ∧ W.nx (e.set i (.im (.lst ds)))) ∨ ∃ ds, e[i]? = some (.od ds) ∧ W.nx (e.set i (.im (.dct ds))) }) : SX C (tFzS i ts) env W := fun B H0 σ H R D n r b c =>
  h B H0 σ H R _ (fun σ' H' e' kk kp R' => by
    rcases kk with ⟨ds, e, kk⟩ | ⟨ds, e, kk⟩
    · obtain ⟨l, xs, hv, hl, f⟩ := own_fz R' e
      refine ⟨l, _, hv, hl, trivial, fun o => ?_⟩
      obtain ⟨R2, kp2, ok⟩ := f o
      exact n σ' _ _ kk (kp.trans kp2) R2
    · obtain ⟨l, xs, hv, hl, f⟩ := own_fzD R' e
      refine ⟨l, _, hv, hl, trivial, fun o => ?_⟩
      obtain ⟨R2, kp2, ok⟩ := f o
      exact n σ' _ _ kk (kp.trans kp2) R2) r b c

/-! ### lists of one's own: append, extend, a place stored -/
theorem sx_append {i : Nat} {ds : List Dat} (e : env[i]? = some (.ow ds)) (h : EX C te env fun s e' => ∃ d, s = .im d ∧ e'[i]? = some (.ow ds) ∧ ds.length < 1000000 ∧ W.nx (e'.set i (.ow (ds ++ [d])))) : SX C (tDrop (tBM F "list" rAppend (tVar i) (tCons te tNil))) env W := fun B H0 σ H R D n r b c => by
  obtain ⟨v, hv, l, xs, ev, h0, nb, hl, rr⟩ := R.at B e (fun z => nomatch z)
  subst ev
  refine ⟨_, hv, .inl ⟨rfl, _, .inl (.inl hl)⟩, ?_⟩
  refine h B H0 σ H R _ fun s e' w H1 ⟨d, es, e2, hz, k⟩ _ f o R1 ok _ => ?_
  subst es
  obtain ⟨v', hv', l', xs', ev', h0', nb', hl', rr'⟩ := R1.at B e2 (fun z => nomatch z)
  rw [hv] at hv'
  cases hv'
  cases ev'
  refine ⟨l, xs', w, rfl, rfl, hl', by rw [rr'.length]; exact Nat.lt_of_lt_of_le hz (by decide), ?_⟩
  have kp : Kp C H1 (upd H1 l (.lst (xs' ++ [w]))) := kp_mut hl' imm_lst
  exact n σ _ _ k ((R.kp f).trans kp) (R1.retell e2 hv hl' imm_lst lst_ni trivial (fun _ z => nomatch z) ⟨l, _, rfl, h0, nb, upd_same, (rr'.mono kp).append (.cons (Rep.mono kp ok) .nil)⟩)
theorem sx_extend {i : Nat} {ds : List Dat} (e : env[i]? = some (.ow ds)) (h : EX C te env fun s e' => ∃ es, s = .ow es ∧ e'[i]? = some (.ow ds) ∧ ds.length + es.length ≤ 1000000 ∧ W.nx (e'.set i (.ow (ds ++ es)))) : SX C (tDrop (tBM F "list" rExtend (tVar i) (tCons te tNil))) env W := fun B H0 σ H R D n r b c => by
  obtain ⟨v, hv, l, xs, ev, h0, nb, hl, rr⟩ := R.at B e (fun z => nomatch z)
  subst ev
  refine ⟨_, hv, .inl ⟨rfl, _, .inl (.inl hl)⟩, ?_⟩
  refine h B H0 σ H R _ fun s e' w H1 ⟨es, ees, e2, hz, k⟩ _ f o R1 ok _ => ?_
  subst ees
  obtain ⟨m, ys, ew, _, _, hm, rm⟩ := ok
  obtain ⟨v', hv', l', xs', ev', h0', nb', hl', rr'⟩ := R1.at B e2 (fun z => nomatch z)
  rw [hv] at hv'
  cases hv'
  cases ev'
  refine ⟨l, m, xs', ys, rfl, by rw [ew], hl', hm, by rw [rr'.length, rm.length]; exact Nat.le_trans hz (by decide), ?_⟩
  have kp : Kp C H1 (upd H1 l (.lst (xs' ++ ys))) := kp_mut hl' imm_lst
  exact n σ _ _ k ((R.kp f).trans kp) (R1.retell e2 hv hl' imm_lst lst_ni trivial (fun _ z => nomatch z) ⟨l, _, rfl, h0, nb, upd_same, (rr'.mono kp).append (rm.mono kp)⟩)
theorem sx_setL {i : Nat} (h : EX C te env fun s e1 => ∃ d ds, s = .im d ∧ e1[i]? = some (.ow ds) ∧ EX C ta e1 fun s' e2 => ∃ (z : Int) (j : Nat), s' = .im (.int z) ∧ e2[i]? = some (.ow ds) ∧ ixN ds.length z = some j ∧ W.nx (e2.set i (.ow (ds.set j d)))) : SX C (tAsg te (gSub (tVar i) ta rSetL)) env W := fun B H0 σ H R D n r b c => by
  refine h B H0 σ H R _ fun s e1 w H1 ⟨d, ds, es, ei, h1⟩ _ f o R1 ok _ => ?_
  subst es
  obtain ⟨v, hv, l, xs, ev, h0, nb, hl, rr⟩ := R1.at B ei (fun z => nomatch z)
  subst ev
  refine ⟨_, hv, ?_⟩
  refine h1 B H0 σ H1 R1 _ fun s' e2 y H2 ⟨z, j, es', e2i, hj, k⟩ _ f2 o2 R2 ok2 _ => ?_
  subst es'
  obtain ⟨v', hv', l', xs', ev', h0', nb', hl', rr'⟩ := R2.at B e2i (fun z => nomatch z)
  rw [hv] at hv'
  cases hv'
  cases ev'
  refine ⟨l, xs', z, j, rfl, rep_int ok2, hl', by rw [rr'.length]; exact hj, ?_⟩
  have kp : Kp C H2 (upd H2 l (.lst (xs'.set j w))) := kp_mut hl' imm_lst
  exact n σ _ _ k (((R.kp f).trans (R1.kp f2)).trans kp) (R2.retell e2i hv hl' imm_lst lst_ni trivial (fun _ z => nomatch z) ⟨l, _, rfl, h0, nb, upd_same, Reps.set (Rep.mono kp (Rep.mono (R1.kp f2) ok)) j (rr'.mono kp)⟩)

/-- return x, a list or a dict of one's own -/
theorem sx_retO {i : Nat} {ds : List Dat} (e : env[i]? = some (.ow ds)) (h : W.rt (.ow ds) env) : SX C (tRet (tVar i)) env W := fun B H0 σ H R D n r b c => by
  obtain ⟨v, hv, ok⟩ := R.at B e (fun z => nomatch z)
  exact ⟨v, hv, r _ env v σ H h R ok⟩
theorem sx_retD {i : Nat} {ks : List (Int × Dat)} (e : env[i]? = some (.od ks)) (h : W.rt (.od ks) env) : SX C (tRet (tVar i)) env W := fun B H0 σ H R D n r b c => by
  obtain ⟨v, hv, ok⟩ := R.at B e (fun z => nomatch z)
  exact ⟨v, hv, r _ env v σ H h R ok⟩
/-! ### attributes, methods, properties -/
/-- an instance by its class and attributes -/
def insS (C : Addr) (env : Sls) : Sl → Option (Addr × List (Str × Dat))
  | .im (.obj fs) => some (C, fs)
  | .qi c fs => some (c, fs)
  | .pr i => match env[i]? with
    | some (.mk _ c fs) => some (c, fs)
    | some (.ri c fs) => some (c, fs)
    | some (.qi c fs) => some (c, fs)
    | _ => none
  | _ => none
theorem insS_ok {s : Sl} {c : Addr} {fs : List (Str × Dat)} (R : RepE C B H0 H σ env) (ok : SlOk C B H0 H σ v s) (h : insS C env s = some (c, fs)) : ∃ p dx vs, v = .ref p ∧ H p = some (.ins c dx vs) ∧ RepF C H vs fs := by
  cases s with
  | im d =>
    cases d with
    | obj l =>
      cases h
      obtain ⟨p, dx, vs, e, hp, _, r⟩ := rep_obj ok
      exact ⟨p, dx, vs, e, hp, r⟩
    | _ => cases h
  | qi c' fs' =>
    cases h
    obtain ⟨p, dx, vs, e, _, _, hp, r⟩ := ok
    exact ⟨p, dx, vs, e, hp, r⟩
  | pr i =>
    unfold insS at h
    simp only at h
    have ok : σ[i]? = some (some v) := ok
    cases e : env[i]? with
    | none => rw [e] at h; cases h
    | some s =>
      rw [e] at h
      cases s with
      | ri c' fs' =>
        cases h
        obtain ⟨w, hw, p, dx, vs, e1, h0, hb, r⟩ := R.at B e (fun z => nomatch z)
        rw [ok] at hw
        cases hw
        exact ⟨p, dx, vs, e1, R.base _ _ h0 hb, r⟩
      | mk p c' fs' =>
        cases h
        obtain ⟨w, hw, e1, _, dx, vs, hp, r⟩ := R.at B e (fun z => nomatch z)
        rw [ok] at hw
        cases hw
        exact ⟨p, dx, vs, e1, hp, r⟩
      | qi c' fs' =>
        cases h
        obtain ⟨w, hw, p, dx, vs, e1, _, _, hp, r⟩ := R.at B e (fun z => nomatch z)
        rw [ok] at hw
        cases hw
        exact ⟨p, dx, vs, e1, hp, r⟩
      | _ => cases h
  | _ => cases h
theorem RepF.lookup : ∀ {vs : List (Str × V)} {fs : List (Str × Dat)} {f : Str} {d : Dat}, RepF C H vs fs → fs.lookup f = some d → ∃ x, vs.lookup f = some x ∧ Rep C H x d
  | _, _, f, d, .cons (f := g) (v := w) (d := d') a r, h => by
    rw [List.lookup_cons] at h
    rw [List.lookup_cons]
    cases e : (f == g) with
    | true => rw [e] at h; cases h; exact ⟨_, rfl, a⟩
    | false => rw [e] at h; exact RepF.lookup r h
  | _, _, _, _, .nil, h => by cases h
theorem RepF.lookupN : ∀ {vs : List (Str × V)} {fs : List (Str × Dat)} {f : Str}, RepF C H vs fs → fs.lookup f = none → vs.lookup f = none
  | _, _, f, .cons (f := g) a r, h => by
    rw [List.lookup_cons] at h
    rw [List.lookup_cons]
    cases e : (f == g) with
    | true => rw [e] at h; cases h
    | false => rw [e] at h; exact RepF.lookupN r h
  | _, _, _, .nil, _ => rfl
theorem RepF.length : ∀ {vs : List (Str × V)} {fs : List (Str × Dat)}, RepF C H vs fs → vs.length = fs.length
  | _, _, .nil => rfl
  | _, _, .cons _ r => by rw [List.length_cons, List.length_cons, r.length]
theorem ex_fld {f : Str} (h : EX C te env fun s e => ∃ c fs d, insS C e s = some (c, fs) ∧ Cls F c ∧ NoAttr F c f ∧ fs.lookup f = some d ∧ K (.im d) e) : EX C (tFld F te f) env K := fun B H0 σ H R Q q =>
  h B H0 σ H R _ fun s e v H1 ⟨c, fs, d, hi, hc, hn, hl, kk⟩ _ fr o R1 ok _ => by
    obtain ⟨p, dx, vs, ev, hp, r⟩ := insS_ok R1 ok hi
    obtain ⟨x, hx, rx⟩ := r.lookup hl
    exact ⟨p, c, dx, vs, x, ev, hp, hc, hn, hx, q _ e x H1 kk trivial fr o R1 rx fun z => z.elim⟩
theorem sm_call {D : DF} {H1 : Hp} {vs : List V} {e1 : Sls} {ss' : List Sl} {Q : VK} (R1 : RepE C B H0 H1 σ e1) (h1 : D ss' fun s => RetOk s ∧ K s e1) (ha : Paired (fun v s => ArgOk C H1 v s) vs ss')
    (q : ∀ s v H2, K s e1 → Res s → Same H1 H2 → SlOk C B H0 H2 σ v s → New H1 v s → Q v H2) : SpD C D vs H1 Q E := by
  refine ⟨ss', _, h1, ha, fun s v H2 ⟨nr, k2⟩ sm ok r np => ?_⟩
  obtain ⟨ok2, n2⟩ := res_back R1 sm ok r np nr.res.2.2
  exact q s v H2 k2 r sm ok2 n2
theorem ex_prop {D : DF} (h : EX C te env fun s e => ∃ fs, s = .im (.obj fs) ∧ D [.im (.obj fs)] fun s => RetOk s ∧ K s e) : EX C (tProp C (SpD C D) [] E te) env K := fun B H0 σ H R Q q =>
  h B H0 σ H R _ fun s e v H1 ⟨fs, es, kk⟩ _ fr o R1 ok _ => by
    subst es
    obtain ⟨p, dx, vs, ev, hp, hl, r⟩ := rep_obj ok
    subst ev
    exact ⟨p, dx, vs, rfl, hp, sm_call R1 kk (.cons ok .nil) fun s v H2 k2 rs sm ok2 n2 => q s e v H2 k2 rs (fr.trans (Frm.same sm) o) o (R1.same sm) ok2 (n2.back fr)⟩
theorem ex_meth {m : Str} {D : DF} (h : EX C te env fun s e => ∃ fs, s = .im (.obj fs) ∧ fs.lookup m = none ∧ EXA C t e fun ss e' => ∃ ss', argsOf e' ss = some ss' ∧ D (.im (.obj fs) :: ss') fun s => RetOk s ∧ K s e') : EX C (tMeth C m (SpD C D) [] E te t) env K := fun B H0 σ H R Q q =>
  h B H0 σ H R _ fun s e v H1 ⟨fs, es, hm, kk⟩ _ fr o R1 ok _ => by
    subst es
    obtain ⟨p, dx, vs, ev, hp, hl, r⟩ := rep_obj ok
    subst ev
    refine ⟨p, dx, vs, rfl, hp, r.lookupN hm, ?_⟩
    refine kk B H0 σ H1 R1 _ fun ss e2 ws H2 ⟨ss', ha, k2⟩ f2 o2 R2 p2 => ?_
    have f12 := fr.trans f2 o
    refine sm_call R2 k2 (.cons (Rep.mono (R1.kp f2) ok) ?_) fun s v H3 k3 rs sm ok3 n3 => q s e2 v H3 k3 rs (f12.trans (Frm.same sm) fun a w => o a (o2 a w)) (fun a w => o a (o2 a w)) (R2.same sm) ok3 (n3.back f12)
    rw [List.append_nil]
    exact argsOf_ok R2 (Paired.mapP p2 fun _ _ z => z.2.1) ha

/-! ### slices, +, * -/
def EXO (C : Addr) (to : TO) (env : Sls) (K : Option Int → Sls → Prop) : Prop := ∀ (B : Addr → Prop) (H0 : Hp) (σ : L2.St) (H : Hp), RepE C B H0 H σ env → ∀ Q : Option Int → Hp → Prop,
  (∀ o env' H', K o env' → Frm B H σ env H' → (∀ a, Owned σ env' a → Owned σ env a) → RepE C B H0 H' σ env' → Q o H') → to σ H Q
variable {KO : Option Int → Sls → Prop} {tlo thi : TO}
theorem exo_none (h : KO none env) : EXO C tNoPart env KO := fun B H0 σ H R Q q => q none env H h .refl (fun _ z => z) R
theorem exo_some (h : EX C te env fun s e => ∃ i, s = .im (.int i) ∧ KO (some i) e) : EXO C (tPart te) env KO := fun B H0 σ H R Q q =>
  h B H0 σ H R _ fun s e v H1 ⟨i, es, kk⟩ _ fr o R1 ok _ => by
    subst es
    exact ⟨i, rep_int ok, q (some i) e H1 kk fr o R1⟩
def cutD (ds : List Dat) (lo hi : Option Int) : List Dat := (ds.drop (HT.sIx ds.length 0 lo)).take (HT.sIx ds.length ds.length hi - HT.sIx ds.length 0 lo)
theorem Reps.cut {xs : List V} {ds : List Dat} (r : Reps C H xs ds) (lo hi : Option Int) : Reps C H (cutV xs lo hi) (cutD ds lo hi) := by
  unfold cutV cutD
  rw [r.length]
  exact (r.drop _).take _
/-- a list's slice: a new list -/
theorem ex_slL (h : EX C te env fun s e => Res s ∧ EXO C tlo e fun lo e1 => EXO C thi e1 fun hi e2 => ∃ ds, rdl e2 s = some ds ∧ K (.ow (cutD ds lo hi)) e2) : EX C (tSl (rSlL F) te tlo thi) env K := fun B H0 σ H R Q q =>
  h B H0 σ H R _ fun s e v H1 ⟨hr, kk⟩ rs fr o R1 ok nw => by
    refine kk B H0 σ H1 R1 _ fun lo e1 H2 kk2 f2 o2 R2 => ?_
    refine kk2 B H0 σ H2 R2 _ fun hi e2 H3 kk3 f3 o3 R3 => ?_
    obtain ⟨ds, hd, kk3⟩ := kk3
    have f12 := fr.trans f2 o
    have o12 : ∀ a, Owned σ e1 a → Owned σ env a := fun a w => o a (o2 a w)
    have f13 := f12.trans f3 o12
    have o13 : ∀ a, Owned σ e2 a → Owned σ env a := fun a w => o12 a (o3 a w)
    have ok3 := (ok.frm R1 f2 rs (nw.own R o)).frm R2 f3 rs (nw.own R o12)
    obtain ⟨l, xs, e', hl, r, _⟩ := rdl_ok R3 ok3 hd
    refine ⟨l, xs, e', hl.sq, fun p hp => ?_⟩
    obtain ⟨okn, sm⟩ := new_ow R3 hp (r.cut lo hi)
    exact q _ e2 _ _ kk3 trivial (f13.trans (Frm.same sm) o13) o13 (R3.same sm) okn fun _ a ea => by
      cases ea
      exact f13.dom p hp
/-- a tuple's slice -/
theorem ex_slT (h : EX C te env fun s e => ∃ ds, s = .im (.tup ds) ∧ EXO C tlo e fun lo e1 => EXO C thi e1 fun hi e2 => K (.im (.tup (cutD ds lo hi))) e2) : EX C (tSl (rSlA F) te tlo thi) env K := fun B H0 σ H R Q q =>
  h B H0 σ H R _ fun s e v H1 ⟨ds, es, kk⟩ _ fr o R1 ok _ => by
    subst es
    refine kk B H0 σ H1 R1 _ fun lo e1 H2 kk2 f2 o2 R2 => ?_
    refine kk2 B H0 σ H2 R2 _ fun hi e2 H3 kk3 f3 o3 R3 => ?_
    have f12 := fr.trans f2 o
    have o12 : ∀ a, Owned σ e1 a → Owned σ env a := fun a w => o a (o2 a w)
    have f13 := f12.trans f3 o12
    have o13 : ∀ a, Owned σ e2 a → Owned σ env a := fun a w => o12 a (o3 a w)
    obtain ⟨l, xs, e', hl, r⟩ := rep_tup (Rep.mono ((R1.kp f2).trans (R2.kp f3)) ok)
    refine ⟨l, xs, e', SqT.of hl, fun ⟨h1, h2⟩ => ?_, fun _ p hp => ?_⟩
    · have ec : cutD ds lo hi = ds := by
        unfold cutD
        rw [← r.length, h1, h2, List.drop_zero, Nat.sub_zero]
        exact List.take_of_length_le (by rw [r.length]; exact Nat.le_refl _)
      have kk3 : K (.im (.tup (cutD ds lo hi))) e2 := kk3
      rw [ec] at kk3
      exact q _ e2 _ H3 kk3 trivial f13 o13 R3 (by rw [← e']; rw [e']; exact .tup hl r) fun z => z.elim
    · have sm : Same H3 (upd H3 p (.tup (cutV xs lo hi))) := fun b o hb => by rw [upd_ne (ne_of_none hb hp)]; exact hb
      exact q _ e2 _ _ kk3 trivial (f13.trans (Frm.same sm) o13) o13 (R3.same sm) (.tup upd_same ((r.cut lo hi).mono (Kp.same sm))) fun z => z.elim
/-- xs[::-1] -/
theorem ex_revL (h : EX C te env fun s e => ∃ ds, rdl e s = some ds ∧ K (.ow ds.reverse) e) : EX C (tRevL F te) env K := fun B H0 σ H R Q q =>
  h B H0 σ H R _ fun s e v H1 ⟨ds, hd, kk⟩ rs fr o R1 ok nw => by
    obtain ⟨l, xs, e', hl, r, _⟩ := rdl_ok R1 ok hd
    refine ⟨l, xs, e', hl.sq, fun p hp => ?_⟩
    obtain ⟨okn, sm⟩ := new_ow R1 hp r.reverse
    exact q _ e _ _ kk trivial (fr.trans (Frm.same sm) o) o (R1.same sm) okn fun _ a ea => by
      cases ea
      exact fr.dom p hp
end
/-- xs + ys of lists that may be read -/
def rCatS : R2 := fun x y H Q => ∃ l b xs zs, x = V.ref l ∧ y = V.ref b ∧ Rd H l (.lst xs) ∧ Rd H b (.lst zs) ∧ xs.length + zs.length ≤ sizeLine ∧ ∀ p, H p = none → Q (.ref p) (upd H p (.lst (xs ++ zs)))
theorem op_catS {X : Cx} : OpR X (binaryOp .Add) rCatS := by
  intro pins s σ H x y v u Q I rx ry ⟨l, b, xs, zs, ex, ey, hl, hb, hz, q⟩
  subst ex ey
  cases rx
  cases ry
  obtain ⟨_, us, n1, r1, g1⟩ := hl.ok I.hok
  obtain ⟨_, ws, n2, r2, g2⟩ := hb.ok I.hok
  have l1 := r1.length
  have l2 := r2.length
  refine PySem.P.add_list g1 g2 ?_ (by simp only [List.size_toArray]; omega)
  rw [show us.toArray ++ ws.toArray = (us ++ ws).toArray from by simp]
  exact ⟨.ref _, _, I.lnew (t' := s.toks) (r1.append r2) (by rw [List.length_append]; omega), rfl, q _ I.fresh⟩
section
variable {C : Addr} {env : Sls} {K : Sl → Sls → Prop} {ta tb tc te tl : TE} {F : PySem.W.Frag} {H : Hp} {v : V} {B : Addr → Prop} {H0 : Hp} {σ : L2.St} {t : TA} {E : XK} {k : Sl → Prop} {s1 s2 : Sl} {W : Wish} {ts : TS}
theorem LstAt.rd {l : Addr} {xs : List V} (h : LstAt H l xs) : Rd H l (.lst xs) := h
theorem rx_cat {ds es : List Dat} (h1 : rdl env s1 = some ds) (h2 : rdl env s2 = some es) (hz : ds.length + es.length ≤ 1000000) (h : k (.ow (ds ++ es))) : RX C rCatS s1 s2 env k := fun B H0 σ H x y R hx hy Q q => by
  obtain ⟨l, xs, e, hl, r, _⟩ := rdl_ok R hx h1
  obtain ⟨b, ys, e2, hb, r2, _⟩ := rdl_ok R hy h2
  refine ⟨l, b, xs, ys, e, e2, hl.rd, hb.rd, by rw [r.length, r2.length]; exact Nat.le_trans hz (by decide), fun p hp => ?_⟩
  obtain ⟨okn, sm⟩ := new_ow R hp (r.append r2)
  exact q _ _ _ h trivial sm okn fun _ a ea => by cases ea; exact hp
theorem Reps.rep {xs : List V} {ds : List Dat} (r : Reps C H xs ds) : ∀ n : Nat, Reps C H (List.replicate n xs).flatten (List.replicate n ds).flatten
  | 0 => .nil
  | n + 1 => by
    rw [List.replicate_succ, List.replicate_succ, List.flatten_cons, List.flatten_cons]
    exact r.append (Reps.rep r n)
/-- [..] * n -/
theorem rx_rep {ds : List Dat} {z : Int} (hz : 0 ≤ z ∧ z ≤ 1000) (hl : ds.length ≤ 1000) (h : k (.ow (List.replicate z.toNat ds).flatten)) : RX C rRep (.ow ds) (.im (.int z)) env k := fun B H0 σ H x y R hx hy Q q => by
  obtain ⟨l, xs, e, h0, nb, hh, r⟩ := hx
  have hm : xs.length * z.toNat ≤ 1000 * 1000 := by rw [r.length]; exact Nat.mul_le_mul hl (by omega)
  refine ⟨l, z, xs, e, rep_int hy, hh, by omega, by omega, Nat.le_trans hm (by decide), fun p hp => ?_⟩
  obtain ⟨okn, sm⟩ := new_ow R hp (r.rep z.toNat)
  exact q _ _ _ h trivial sm okn fun _ a ea => by cases ea; exact hp

/-! ### dicts -/
/-- a dict that may be read -/
def findD (a : Addr) : Sls → Option (List (Int × Dat))
  | [] => none
  | .bd b ds :: r => if b = a then some ds else findD a r
  | _ :: r => findD a r
theorem findD_at {a : Addr} : ∀ {env : Sls} {ds : List (Int × Dat)}, findD a env = some ds → ∃ i : Nat, env[i]? = some (Sl.bd a ds)
  | [], _, h => by cases h
  | s :: r, ds, h => by
    have rec' : findD a r = some ds → ∃ i : Nat, (s :: r)[i]? = some (Sl.bd a ds) := fun h => by
      obtain ⟨i, e⟩ := findD_at h
      exact ⟨i + 1, by simpa using e⟩
    cases s with
    | bd b ms =>
      unfold findD at h
      by_cases e : b = a
      · rw [if_pos e] at h
        cases h
        subst e
        exact ⟨0, rfl⟩
      · rw [if_neg e] at h
        exact rec' h
    | _ => exact rec' h
def rdd (env : Sls) : Sl → Option (List (Int × Dat))
  | .im (.dct ks) => some ks
  | .im (.cls a) => findD a env
  | .od ks => some ks
  | .pr i => match env[i]? with
    | some (.od ks) => some ks
    | some (.bd _ ks) => some ks
    | _ => none
  | _ => none
theorem rdd_ok {s : Sl} {ks : List (Int × Dat)} (R : RepE C B H0 H σ env) (ok : SlOk C B H0 H σ v s) (h : rdd env s = some ks) : ∃ l xs, v = .ref l ∧ Rd H l (.dK xs) ∧ RepK C H xs ks := by
  cases s with
  | im d =>
    cases d with
    | dct l =>
      cases h
      obtain ⟨a, o, xs, e, ha, r⟩ := rep_dct ok
      exact ⟨a, xs, e, .inr ⟨o, ha⟩, r⟩
    | cls a =>
      obtain ⟨i, e⟩ := findD_at h
      obtain ⟨w, hw, e1, hb, xs, hp, r⟩ := R.at B e (fun z => nomatch z)
      have ev : v = .ref a := by cases ok; rfl
      exact ⟨a, xs, ev, .inl hp, r⟩
    | _ => cases h
  | od l =>
    cases h
    obtain ⟨a, xs, e, _, _, ha, r⟩ := ok
    exact ⟨a, xs, e, .inl ha, r⟩
  | pr i =>
    unfold rdd at h
    simp only at h
    have ok : σ[i]? = some (some v) := ok
    cases e : env[i]? with
    | none => rw [e] at h; cases h
    | some s =>
      rw [e] at h
      cases s with
      | od l =>
        cases h
        obtain ⟨w, hw, a, xs, e1, _, _, ha, r⟩ := R.at B e (fun z => nomatch z)
        rw [ok] at hw
        cases hw
        exact ⟨a, xs, e1, .inl ha, r⟩
      | bd a l =>
        cases h
        obtain ⟨w, hw, e1, hb, xs, hp, r⟩ := R.at B e (fun z => nomatch z)
        rw [ok] at hw
        cases hw
        exact ⟨a, xs, e1, .inl hp, r⟩
      | _ => cases h
  | _ => cases h
/-- what stands at a key -/
def lookK (ks : List (Int × Dat)) (k : Int) : Option Dat := (ks.find? fun p => decide (p.1 = k)).map (·.2)
theorem RepK.look : ∀ {xs : List (Key × V)} {ks : List (Int × Dat)} (k : Int), RepK C H xs ks → (lookK ks k = none ∧ valV xs (Sum.inl k) = none) ∨ ∃ d x, lookK ks k = some d ∧ valV xs (Sum.inl k) = some x ∧ Rep C H x d
  | _, _, k, .nil => .inl ⟨rfl, rfl⟩
  | _, _, k, .cons (k := k') (d := d) (v := x) a r => by
    unfold lookK valV
    rw [List.find?_cons, List.find?_cons]
    by_cases h : k' = k
    · subst h
      simp only [decide_true]
      exact .inr ⟨d, x, rfl, rfl, a⟩
    · have h2 : ¬ (Sum.inl k' : Key) = Sum.inl k := fun z => h (Sum.inl.inj z)
      simp only [decide_eq_false h, decide_eq_false h2]
      exact RepK.look k r
theorem ex_dget (h : EX C ta env fun s1 e1 => Res s1 ∧ EX C tb e1 fun s2 e2 => ∃ ks k d, rdd e2 s1 = some ks ∧ s2 = .im (.int k) ∧ lookK ks k = some d ∧ K (.im d) e2) : EX C (tDGet ta tb) env K := fun B H0 σ H R Q q =>
  h B H0 σ H R _ fun s1 e1 x H1 ⟨hr, h1⟩ r1 f1 o1 R1 k1 n1 => by
    refine h1 B H0 σ H1 R1 _ fun s2 e2 y H2 ⟨ks, kk, d, hd, es, hl, h2⟩ r2 f2 o2 R2 k2 n2 => ?_
    subst es
    obtain ⟨l, xs, e, hx, r⟩ := rdd_ok R2 (k1.frm R1 f2 r1 (n1.own R o1)) hd
    rcases r.look kk with ⟨z, _⟩ | ⟨d', w, hd', hw, rw'⟩
    · rw [hl] at z; cases z
    · rw [hl] at hd'
      cases hd'
      exact ⟨l, w, e, .inl ⟨xs, Sum.inl kk, hx, rep_int k2, hw.symm⟩, q _ e2 w H2 h2 trivial (f1.trans f2 o1) (fun a w => o1 a (o2 a w)) R2 rw' fun z => z.elim⟩
/-- k in d, as a value -/
theorem ex_din (h : EX C ta env fun s1 e1 => ∃ k, s1 = .im (.int k) ∧ EX C tb e1 fun s2 e2 => ∃ ks, rdd e2 s2 = some ks ∧ K (.im (.bl (lookK ks k).isSome)) e2) : EX C (tDIn ta tb) env K := fun B H0 σ H R Q q =>
  h B H0 σ H R _ fun s1 e1 x H1 ⟨kk, es, h1⟩ r1 f1 o1 R1 k1 n1 => by
    subst es
    refine h1 B H0 σ H1 R1 _ fun s2 e2 y H2 ⟨ks, hd, h2⟩ r2 f2 o2 R2 k2 n2 => ?_
    obtain ⟨l, xs, e, hx, r⟩ := rdd_ok R2 k2 hd
    have ex := rep_int k1
    refine ⟨l, valV xs (Sum.inl kk), e, .inl ⟨xs, Sum.inl kk, hx, ex, rfl⟩, ?_⟩
    have eb : (valV xs (Sum.inl kk)).isSome = (lookK ks kk).isSome := by
      rcases r.look kk with ⟨z, z2⟩ | ⟨d', w, hd', hw, _⟩
      · rw [z, z2]; rfl
      · rw [hd', hw]; rfl
    rw [eb]
    exact q _ e2 _ H2 h2 trivial (f1.trans f2 o1) (fun a w => o1 a (o2 a w)) R2 (.bl _) fun z => z.elim
theorem ex_dnotin (h : EX C ta env fun s1 e1 => ∃ k, s1 = .im (.int k) ∧ EX C tb e1 fun s2 e2 => ∃ ks, rdd e2 s2 = some ks ∧ K (.im (.bl (!(lookK ks k).isSome))) e2) : EX C (tDNotIn ta tb) env K := fun B H0 σ H R Q q =>
  h B H0 σ H R _ fun s1 e1 x H1 ⟨kk, es, h1⟩ r1 f1 o1 R1 k1 n1 => by
    subst es
    refine h1 B H0 σ H1 R1 _ fun s2 e2 y H2 ⟨ks, hd, h2⟩ r2 f2 o2 R2 k2 n2 => ?_
    obtain ⟨l, xs, e, hx, r⟩ := rdd_ok R2 k2 hd
    have ex := rep_int k1
    refine ⟨l, valV xs (Sum.inl kk), e, .inl ⟨xs, Sum.inl kk, hx, ex, rfl⟩, ?_⟩
    have eb : (!(valV xs (Sum.inl kk)).isSome) = (!(lookK ks kk).isSome) := by
      rcases r.look kk with ⟨z, z2⟩ | ⟨d', w, hd', hw, _⟩
      · rw [z, z2]; rfl
      · rw [hd', hw]; rfl
    rw [eb]
    exact q _ e2 _ H2 h2 trivial (f1.trans f2 o1) (fun a w => o1 a (o2 a w)) R2 (.bl _) fun z => z.elim
/-- {} -/
theorem new_od {H1 : Hp} {xs : List (Key × V)} {ds : List (Int × Dat)} {p : Addr} (R1 : RepE C B H0 H1 σ env) (hp : H1 p = none) (r : RepK C H1 xs ds) : SlOk C B H0 (upd H1 p (.dK xs)) σ (.ref p) (.od ds) ∧ Same H1 (upd H1 p (.dK xs)) := by
  have sm : Same H1 (upd H1 p (.dK xs)) := fun a o ha => by rw [upd_ne (ne_of_none ha hp)]; exact ha
  have nb : ¬ B p := fun b => by
    obtain ⟨o, ho, _⟩ := R1.mutB p b
    rw [hp] at ho
    cases ho
  have h0 : H0 p = none := by
    cases e : H0 p with
    | none => rfl
    | some o =>
      have := R1.base p o e nb
      rw [hp] at this
      cases this
  exact ⟨⟨p, xs, rfl, h0, nb, upd_same, r.mono (Kp.same sm)⟩, sm⟩
theorem ex_dnew (h : K (.od []) env) : EX C tDNewK env K := fun B H0 σ H R Q q => fun p hp => by
  obtain ⟨ok, sm⟩ := new_od (xs := []) R hp .nil
  exact q _ env _ _ h trivial (Frm.same sm) (fun _ z => z) (R.same sm) ok fun _ a ea => by cases ea; exact hp
def putKD (ks : List (Int × Dat)) (k : Int) (d : Dat) : List (Int × Dat) := if ks.any fun p => decide (p.1 = k) then ks.map fun p => if p.1 = k then (k, d) else p else ks ++ [(k, d)]
end
end Af
end

section
set_option maxHeartbeats 4000000
/-! Further rules: set of ints, list.count, != of instances, enumerate of a tuple. -/
namespace Af
open PySem PySem.Spec PyProof.Rows L2
section
variable {P : Program} {w : World} {A : Around} {E : Value → Shared → Prop} {s : Shared}
set_option maxHeartbeats 6400000 in
/-- set(xs), a list of ints -/
theorem set_of_ints {l : Addr} {us : Array Value} (ks : List Int) {Q : Value → Shared → Prop} (nh : A.handled = none) (lst : s.heap.IsList l us) (iv : IntsAre us.toList ks) (few : ks.length + 1 < scanBound)
    (fin : ∀ (g : Heap) (tk n : Nat), SetR w g s.heap.objs.size (fun j => decide (j ∈ ks)) n → n ≤ ks.length → (∀ b o, s.heap.get? b = some o → g.get? b = some o) → Q (.ref s.heap.objs.size) { s with heap := g, toks := tk }) :
    wpAny (model P w) A (call (.type "set") [.ref l]) Q E s := by
  have sz : us.size = ks.length := (Array.length_toList (xs := us)).symm.trans (IntsAre.length iv)
  obtain ⟨c0, tl0, mro0⟩ := F.called_set.mro
  have m1 := F.called_set.made
  have m2 := F.called_set.sub
  refine wpAny_call (codeAny_of_tree (?_ : wpAny _ _ (callAny (.type "set") _) _ _ _))
  refine wpAny_pure ⟨(Code.quiet_builtin _ (by decide +kernel)), (codeAny_builtin F.entry_type_call ?_)⟩
  rw [(Around.under_plain (weight_type_call_type "set" [.ref l] []) rfl : _ = _)]
  have m3 := F.called_set.notType
  have m4 := F.called_set.canCreate
  have m5 := F.typeCall_set_1 (.ref l)
  repeat (any_goals (first | wp_step | assumption))
  refine codeAny_mono (code_set_led1 (.ref l) (E := E) (Q₁ := fun ob t => ob = .ref s.heap.objs.size ∧ t = { s with heap := s.heap.push { cls := .type "set", dict := none, data := .set #[] 0 (.fresh 0 0 (!w.params.followText "set-order")) } }) ⟨rfl, rfl⟩) fun res t ht => ?_
  cases res with
  | error e => exact ht
  | ok fl =>
    cases fl with
    | ret ob =>
      obtain ⟨eo, et⟩ := ht
      subst eo et
      have gS : (s.heap.push { cls := .type "set", dict := none, data := .set #[] 0 (.fresh 0 0 (!w.params.followText "set-order")) }).get? s.heap.objs.size = some { cls := .type "set", dict := none, data := .set #[] 0 (.fresh 0 0 (!w.params.followText "set-order")) } := Heap.get?_push_size _ rfl
      have tS : Shared.TypeIs { s with heap := s.heap.push { cls := .type "set", dict := none, data := .set #[] 0 (.fresh 0 0 (!w.params.followText "set-order")) } } (.ref s.heap.objs.size) "set" := ⟨_, gS, rfl⟩
      have i1 := F.called_set.init.lookup
      have i2 := F.called_set.init.bind (.ref s.heap.objs.size)
      repeat (any_goals (first | wp_step | assumption))
      refine codeAny_mono (codeAny_call_builtin (R := wants (fun r t => r = .none ∧ ∃ g tk n, t = { s with heap := g, toks := tk } ∧ SetR w g s.heap.objs.size (fun j => decide (j ∈ ks)) n ∧ n ≤ ks.length ∧ (∀ b o, s.heap.get? b = some o → g.get? b = some o)) E)
        F.called_set.init.plain F.entry_set_init (check_set_init_1 tS ?_)) fun res2 t2 ht2 => ?_
      · obtain ⟨⟨oc, od, odt, osl⟩, gl, cl, nl, dl⟩ := lst
        simp only at cl dl
        subst cl dl
        have gl2 : (s.heap.push { cls := .type "set", dict := none, data := .set #[] 0 (.fresh 0 0 (!w.params.followText "set-order")) }).get? l = some { cls := .type "list", dict := od, data := .seq us nl, slots := osl } := Heap.get?_push_of_some _ gl
        have b1 := PySem.F.sub_list_set
        have b2 := PySem.F.sub_list_frozenset
        have b3 : (Value.type "list" == Value.type "dict") = false := by decide
        have L1 : (s.heap.push { cls := .type "set", dict := none, data := .set #[] 0 (.fresh 0 0 (!w.params.followText "set-order")) }).IsList l us := ⟨_, gl2, rfl, nl, rfl⟩
        unfold Builtin.«set.__init__» noKeywords Builtin.Frozenset.updateFrom
        generalize hp : pyIter = PI
        wp_walk
        subst hp
        refine wpAny_pyIter_list L1 (wpAny_bind (wpAny_runValue ?_))
        have lt : l < s.heap.objs.size := Heap.lt_size gl
        have nh3 : A.in1.in1.in1.handled = none := by simp [nh]
        have z1 : (s.heap.push { cls := .type "set", dict := none, data := .set #[] 0 (.fresh 0 0 (!w.params.followText "set-order")) }).objs.size = s.heap.objs.size + 1 := Heap.size_push ..
        have neI : l ≠ (s.heap.push { cls := .type "set", dict := none, data := .set #[] 0 (.fresh 0 0 (!w.params.followText "set-order")) }).objs.size := by
          rw [z1]
          exact Nat.ne_of_lt (Nat.lt_succ_of_lt lt)
        have notF : s.heap.objs.size ∉ [(s.heap.push { cls := .type "set", dict := none, data := .set #[] 0 (.fresh 0 0 (!w.params.followText "set-order")) }).objs.size, l] := by
          rw [z1]
          intro hm
          rcases List.mem_cons.mp hm with q | q
          · exact absurd q (Nat.ne_of_lt (Nat.lt_succ_self _))
          · exact absurd (List.mem_singleton.mp q) (Nat.ne_of_gt lt)
        have val : ∀ (i : Nat) (u : Value), us[i]? = some u → ∃ k t, ks[i]? = some k ∧ u = .int k t := fun i u hu => by
          have hi : i < ks.length := by rw [← sz]; exact (Array.getElem?_eq_some_iff.mp hu).1
          obtain ⟨t, e⟩ := PyProof.Rows.IntsAre.int_at iv i u (Array.getElem?_toList.trans hu)
          exact ⟨ks[i], t, List.getElem?_eq_getElem hi, by rw [e, List.getD_eq_getElem?_getD, List.getElem?_eq_getElem hi]; rfl⟩
        refine set_update_ints ((Walks.list nh3 _ l neI us).toS) s.heap.objs.size notF ks sz few val (us.size - 0) 0 _ (by omega) (Nat.zero_le _) ⟨⟨_, Heap.get?_push_size _ rfl, rfl, rfl⟩, (L1.push _)⟩ ?s0 ?s1
        case s0 => exact ⟨0, Nat.le_refl 0, setR_new_at (Heap.get?_push_of_some _ gS)⟩
        case s1 =>
          rintro ⟨g, g2, d2, tk, os2⟩ n mv hn hS
          have q1 : g2 = s.gens := mv.gens
          have q2 : d2 = s.drawn := mv.drawn
          have q3 : os2 = s.os := mv.os
          subst q1 q2 q3
          refine (?_ : wpAny _ _ _ _ _ _)
          refine wpAny_pure (?_ : wpAny _ _ (ret Value.none) _ _ _)
          rw [sz] at hn
          refine wpAny_pure ⟨rfl, g, tk, n, rfl, hS, hn, fun b o e => ?_⟩
          have lb : b < s.heap.objs.size := Heap.lt_size e
          refine mv.heap b o (fun hm => ?_) (Heap.get?_push_of_some _ (Heap.get?_push_of_some _ e))
          rcases List.mem_cons.mp hm with q | q
          · exact absurd q (Nat.ne_of_lt lb)
          · have q' := List.mem_singleton.mp q
            rw [z1] at q'
            exact absurd q' (Nat.ne_of_lt (Nat.lt_succ_of_lt lb))
      · cases res2 with
        | error e => exact ht2
        | ok fl2 =>
          cases fl2 with
          | ret r =>
            obtain ⟨er, g, tk, n, et2, hS, hn, hk⟩ := ht2
            subst er et2
            repeat (any_goals (first | wp_step | assumption))
            exact fin _ _ _ hS hn hk
          | _ => exact ht2.elim
    | _ => exact ht.elim
end
/-- set(xs), a list or a tuple of ints -/
def rSetI (K : PySem.W.Frag) (w : World) : List V → Hp → VK → Prop := fun vs H Q => ∃ (l : Addr) (ns : List Int), vs = [V.ref l] ∧ (SqL K H l (ns.map V.int) ∨ SqT K H l (ns.map V.int)) ∧ ns.length ≤ 60 ∧
  ∀ p c, H p = none → c ≤ ns.length → Q (.ref p) (upd H p (SetO w p (fun j => decide (j ∈ ns)) c))
theorem ints_vals : ∀ {ns : List Int} {us : List Value}, Vals (ns.map V.int) us → IntsAre us ns
  | [], _, .nil => .nil
  | n :: ns, _, .cons r t => by
    obtain ⟨k, e⟩ := r
    subst e
    exact .cons n k (ints_vals t)
theorem cr_setI {X : Cx} (hc : X.calm = true) : CallR X (.type "set") (rSetI X.K X.w) := by
  intro pins s σ H vs us Q I r ⟨l, ns, ev, hs, hz, q⟩
  subst ev
  rw [Vals.ref1 r]
  have fresh := I.hok.fresh (Nat.le_refl s.heap.objs.size)
  have sb : ns.length + 1 < scanBound := by unfold scanBound; omega
  have fin : ∀ (g : Heap) (tk n : Nat), SetR X.w g s.heap.objs.size (fun j => decide (j ∈ ns)) n → n ≤ ns.length → (∀ b o, s.heap.get? b = some o → g.get? b = some o) → EP X pins σ Q (.ref s.heap.objs.size) { s with heap := g, toks := tk } := fun g tk n hS hn hk =>
    ⟨.ref s.heap.objs.size, _, I.laid (t' := tk) hk (Nat.le_refl _) (setO_new hS), rfl, q _ n fresh hn⟩
  rcases hs with hs | hs
  · obtain ⟨its, rv, pl, _⟩ := I.list hs
    exact set_of_ints ns (I.ok.hd hc) pl.isList (by simpa using ints_vals rv) sb fin
  · obtain ⟨its, rv, pl, _⟩ := I.tuple hs
    exact call_set_tupI ns (I.ok.hd hc) pl (by simpa using ints_vals rv) sb fin
section
variable {C : Addr} {env : Sls} {K : Sl → Sls → Prop} {ta tb tc te tl : TE} {F : PySem.W.Frag} {H : Hp} {v : V} {B : Addr → Prop} {H0 : Hp} {σ : L2.St} {t : TA} {E : XK} {k : Sl → Prop} {s1 s2 : Sl} {w : World}
theorem Same.new {H : Hp} {p : Addr} {o : HO} (h : H p = none) : Same H (upd H p o) := fun a u e => by rw [upd_ne (ne_of_none e h)]; exact e
/-- sorted(set(xs)) -/
theorem ex_sortedSet (h : EX C te env fun s e => ∃ ns : List Int, rdq e s = some (ns.map Dat.int) ∧ ns.length ≤ 60 ∧ ∀ ms : List Int, ms.Pairwise (· < ·) → (∀ z, z ∈ ms ↔ z ∈ ns) → K (.ow (ms.map Dat.int)) e) :
    EX C (tCB (rSortedSet w) (tCons (tCB (rSetI F w) (tCons te tNil)) tNil)) env K := fun B H0 σ H R Q q =>
  h B H0 σ H R _ fun s e v H1 ⟨ns, hd, hz, kk⟩ rs fr o R1 ok nw => by
    obtain ⟨l, xs, e', hl, r⟩ := rdq_ok R1 ok hd
    rw [r.ints] at hl
    refine ⟨l, ns, by rw [e'], hl, hz, fun p c hp hc => ?_⟩
    have s1 : Same H1 (upd H1 p (SetO w p (fun j => decide (j ∈ ns)) c)) := Same.new hp
    have R2 := R1.same s1
    refine ⟨p, _, c, rfl, upd_same, by omega, fun ms m hs hm _ hn => ?_⟩
    obtain ⟨okn, s2⟩ := new_ow R2 hn (Reps.of_ints ms)
    have f12 : Frm B H σ env (upd (upd H1 p (SetO w p (fun j => decide (j ∈ ns)) c)) m (.lst (ms.map V.int))) := (fr.trans (Frm.same s1) o).trans (Frm.same s2) o
    exact q _ e _ _ (kk ms hs fun z => (hm z).trans (by rw [decide_eq_true_eq])) trivial f12 o (R2.same s2) okn fun _ a ea => by
      cases ea
      exact (fr.trans (Frm.same s1) o).dom m hn
end
/-- two rising lists with the same members are one -/
theorem rising_eq : ∀ {a b : List Int}, a.Pairwise (· < ·) → b.Pairwise (· < ·) → (∀ z, z ∈ a ↔ z ∈ b) → a = b
  | [], [], _, _, _ => rfl
  | [], y :: b, _, _, h => absurd ((h y).mpr List.mem_cons_self) (List.not_mem_nil)
  | x :: a, [], _, _, h => absurd ((h x).mp List.mem_cons_self) (List.not_mem_nil)
  | x :: a, y :: b, ha, hb, h => by
    obtain ⟨h1, h2⟩ := List.pairwise_cons.mp ha
    obtain ⟨h3, h4⟩ := List.pairwise_cons.mp hb
    have e : x = y := by
      rcases List.mem_cons.mp ((h x).mp List.mem_cons_self) with q | q
      · exact q
      · rcases List.mem_cons.mp ((h y).mpr List.mem_cons_self) with q' | q'
        · exact q'.symm
        · have := h1 y q'
          have := h3 x q
          omega
    subst e
    refine congrArg (x :: ·) (rising_eq h2 h4 fun z => ⟨fun hz => ?_, fun hz => ?_⟩)
    · rcases List.mem_cons.mp ((h z).mp (List.mem_cons_of_mem _ hz)) with q | q
      · have := h1 z hz
        omega
      · exact q
    · rcases List.mem_cons.mp ((h z).mpr (List.mem_cons_of_mem _ hz)) with q | q
      · have := h3 z hz
        omega
      · exact q
/-- xs.count(None) -/
def rCntN (K : PySem.W.Frag) : V → List V → Hp → VK → Prop := fun x vs H Q => ∃ (p : Addr) (xs : List V) (ds : List PyData), x = V.ref p ∧ vs = [V.non] ∧ SqL K H p xs ∧ DpAll K H xs ds ∧ PyData.plainAll ds = true ∧ Q (.int (ds.countP fun y => PyData.eqv y .none : Nat)) H
theorem mt_countN {X : Cx} (hu : X.A.units + 1 < cLine) : MtR X "list.count" (rCntN X.K) := by
  intro pins s σ H x vs v us Q I rx rvs ⟨p, xs, ds, ex, ev, hs, hd, hp, q⟩
  subst ex ev
  cases rx
  obtain ⟨u, eu, ru⟩ := rvs.one
  subst eu
  cases ru
  obtain ⟨its, rv, pl, _⟩ := I.list hs
  obtain ⟨as, rd⟩ := Dp.readsAll I ds xs its hd rv
  refine SeqAt.count_list_data (bs := []) pl.isList (by simpa using rd) Reads.none hp rfl ?_ ⟨.int _, H, I.tok _, ⟨_, rfl⟩, q⟩
  have e : PyData.depth .none = 0 := by simp [PyData.depth]
  rw [e, Nat.min_zero]
  exact hu
def isNonD : Dat → Bool
  | .non => true
  | _ => false
theorem pln_plain {n : Nat} {d : Dat} (h : pln n d) : (toPy d).plain = true := PyData.plain_of_canLay0 _ (pln_ok n d h).2
theorem plns_plain {n : Nat} : ∀ {ds : List Dat}, (∀ d ∈ ds, pln n d) → PyData.plainAll (toPys ds) = true
  | [], _ => by rw [toPys]; rfl
  | d :: ds, h => by
    rw [toPys, PyData.plainAll, pln_plain (h d List.mem_cons_self), plns_plain fun x hx => h x (List.mem_cons_of_mem _ hx)]
    rfl
theorem count_non {n : Nat} : ∀ {ds : List Dat}, (∀ d ∈ ds, pln n d) → (toPys ds).countP (fun y => PyData.eqv y .none) = ds.countP isNonD
  | [], _ => by rw [toPys]; rfl
  | d :: ds, h => by
    have e : PyData.eqv (toPy d) .none = isNonD d := by
      have := pln_eq n d (h d List.mem_cons_self) .non (by cases n <;> trivial)
      rw [toPy] at this
      rw [Bool.eq_iff_iff, this]
      cases d <;> simp [isNonD]
    rw [toPys, List.countP_cons, List.countP_cons, e, count_non fun x hx => h x (List.mem_cons_of_mem _ hx)]
section
variable {C : Addr} {env : Sls} {K : Sl → Sls → Prop} {te : TE} {F : PySem.W.Frag}
theorem ex_countN (h : EX C te env fun s e => ∃ ds n, rdl e s = some ds ∧ (∀ d ∈ ds, pln n d) ∧ K (.im (.int (ds.countP isNonD : Nat))) e) : EX C (tBM F "list" (rCntN F) te (tCons (tC .non) tNil)) env K := fun B H0 σ H R Q q =>
  h B H0 σ H R _ fun s e v H1 ⟨ds, n, hd, hp, kk⟩ rs fr o R1 ok nw => by
    obtain ⟨l, xs, e', hl, r, _⟩ := rdl_ok R1 ok hd
    subst e'
    have ty : tyV F "list" (V.ref l) H1 := .inl ⟨rfl, xs, hl.sq⟩
    refine ⟨ty, l, xs, toPys ds, rfl, rfl, hl.sq, reps_dp (rep_dp n) hp r, plns_plain hp, ?_⟩
    rw [count_non hp]
    exact q _ e _ H1 kk trivial fr o R1 (.int _) fun z => z.elim
end
end Af
end

section
set_option maxHeartbeats 4000000
/-! Borrowed things: defs that change what they are given. -/
namespace Af
open PySem L2
def isB : Sl → Bool
  | .pn _ _ => true
  | .mk _ _ _ => true
  | .bd _ _ => true
  | .bl _ _ => true
  | _ => false
def adr : Sl → Addr
  | .pn p _ => p
  | .mk p _ _ => p
  | .bd a _ => a
  | .bl a _ => a
  | _ => 0
def getB : Sls → List Sl
  | [] => []
  | s :: e => match isB s with
    | true => s :: getB e
    | false => getB e
def putB : Sls → List Sl → Sls
  | [], _ => []
  | s :: e, st => match isB s with
    | true => (match st with
      | t :: r => t :: putB e r
      | [] => s :: putB e [])
    | false => s :: putB e st
def firstB : Sls → Option Nat
  | [] => none
  | s :: e => match isB s with
    | true => some 0
    | false => (firstB e).map (· + 1)
def StOk (C : Addr) (B : Addr → Prop) (H : Hp) (st : List Sl) : Prop := ∀ s ∈ st, isB s = true ∧ SlOk C B (fun _ => none) H [] (.ref (adr s)) s
section
variable {C : Addr} {env : Sls} {K : Sl → Sls → Prop} {ta tb tc te : TE} {F : PySem.W.Frag} {H H' : Hp} {v : V} {B : Addr → Prop} {H0 : Hp} {σ : L2.St} {t : TA} {E : XK}
theorem slB {H0' : Hp} {σ' : L2.St} {s : Sl} (b : isB s = true) (h : SlOk C B H0 H σ v s) : v = .ref (adr s) ∧ SlOk C B H0' H σ' v s := by
  cases s <;> first | exact ⟨h.1, h⟩ | cases b
theorem getB_mem : ∀ {env : Sls} {s : Sl}, s ∈ getB env → ∃ i : Nat, env[i]? = some s ∧ isB s = true
  | [], _, h => by cases h
  | u :: e, s, h => by
    unfold getB at h
    cases b : isB u with
    | true =>
      rw [b] at h
      rcases List.mem_cons.mp h with q | q
      · subst q
        exact ⟨0, rfl, b⟩
      · obtain ⟨i, e, b'⟩ := getB_mem q
        exact ⟨i + 1, by simpa using e, b'⟩
    | false =>
      rw [b] at h
      obtain ⟨i, e, b'⟩ := getB_mem h
      exact ⟨i + 1, by simpa using e, b'⟩
theorem firstB_ok : ∀ {env : Sls} {i : Nat}, firstB env = some i → ∃ s st, env[i]? = some s ∧ isB s = true ∧ getB env = s :: st
  | [], _, h => by cases h
  | u :: e, i, h => by
    unfold firstB at h
    unfold getB
    cases b : isB u with
    | true =>
      rw [b] at h
      cases h
      exact ⟨u, _, rfl, b, rfl⟩
    | false =>
      rw [b] at h
      obtain ⟨j, hj, e'⟩ := Option.map_eq_some_iff.mp h
      subst e'
      obtain ⟨s, st, e1, e2, e3⟩ := firstB_ok hj
      exact ⟨s, st, by simpa using e1, e2, e3⟩
theorem putB_len : ∀ {env : Sls} {st : List Sl}, (putB env st).length = env.length
  | [], _ => rfl
  | u :: e, st => by
    unfold putB
    cases isB u with
    | true =>
      cases st with
      | nil => simp [putB_len]
      | cons t r => simp [putB_len]
    | false => simp [putB_len]
theorem putB_get : ∀ {env : Sls} {st : List Sl} {i : Nat} {s : Sl}, st.map adr = (getB env).map adr → (putB env st)[i]? = some s → (∃ u, env[i]? = some u ∧ isB u = true ∧ s ∈ st ∧ adr s = adr u) ∨ (env[i]? = some s ∧ isB s = false)
  | [], _, _, _, _, h => by cases h
  | u :: e, st, i, s, ha, h => by
    unfold putB at h
    unfold getB at ha
    cases b : isB u with
    | true =>
      rw [b] at h ha
      cases st with
      | nil => simp at ha
      | cons t r =>
        simp only [List.map_cons, List.cons.injEq] at ha
        cases i with
        | zero =>
          cases h
          exact .inl ⟨u, rfl, b, List.mem_cons_self, ha.1⟩
        | succ i =>
          rcases putB_get ha.2 (i := i) (s := s) (by simpa using h) with ⟨w, e1, e2, e3, e4⟩ | ⟨e1, e2⟩
          · exact .inl ⟨w, by simpa using e1, e2, List.mem_cons_of_mem _ e3, e4⟩
          · exact .inr ⟨by simpa using e1, e2⟩
    | false =>
      rw [b] at h ha
      cases i with
      | zero =>
        cases h
        exact .inr ⟨rfl, b⟩
      | succ i =>
        rcases putB_get ha (i := i) (s := s) (by simpa using h) with ⟨w, e1, e2, e3, e4⟩ | ⟨e1, e2⟩
        · exact .inl ⟨w, by simpa using e1, e2, e3, e4⟩
        · exact .inr ⟨by simpa using e1, e2⟩
theorem kp_of (hm : ∀ a, B a → ∃ o, H a = some o ∧ ¬ Imm C o) (hk : ∀ a o, H a = some o → ¬ B a → H' a = some o) : Kp C H H' := fun a o h i => hk a o h fun b => by
  obtain ⟨u, hu, n⟩ := hm a b
  rw [h] at hu
  cases hu
  exact n i
theorem SlOk.keepNB {s : Sl} (b : isB s = false) (kp : Kp C H H') (hk : ∀ a o, H a = some o → ¬ B a → H' a = some o) (h : SlOk C B H0 H σ v s) : SlOk C B H0 H' σ v s := by
  cases s with
  | un => trivial
  | im d => exact Rep.mono kp h
  | ow ds =>
    obtain ⟨l, xs, e1, h0, hb, hl, r⟩ := h
    exact ⟨l, xs, e1, h0, hb, hk _ _ hl hb, r.mono kp⟩
  | od ds =>
    obtain ⟨l, xs, e1, h0, hb, hl, r⟩ := h
    exact ⟨l, xs, e1, h0, hb, hk _ _ hl hb, r.mono kp⟩
  | ro ds =>
    obtain ⟨l, xs, e1, h0, hb, r⟩ := h
    exact ⟨l, xs, e1, h0, hb, r.mono kp⟩
  | pr i => exact h
  | qi c fs =>
    obtain ⟨p, dx, vs, e1, h0, hb, hp, r⟩ := h
    exact ⟨p, dx, vs, e1, h0, hb, hk _ _ hp hb, r.mono kp⟩
  | ri c fs =>
    obtain ⟨p, dx, vs, e1, h0, hb, r⟩ := h
    exact ⟨p, dx, vs, e1, h0, hb, r.mono kp⟩
  | pn p k => cases b
  | mk p c fs => cases b
  | bd a ks => cases b
  | bl a ks => cases b
theorem own_nb {s : Sl} (o : OwnS s) : isB s = false := by cases s <;> first | rfl | exact o.elim
theorem RepE.back {st : List Sl} (R : RepE C B H0 H σ env) (hk : ∀ a o, H a = some o → ¬ B a → H' a = some o) (hm : ∀ a, B a → ∃ o, H' a = some o ∧ ¬ Imm C o) (ha : st.map adr = (getB env).map adr) (hs : StOk C B H' st) : RepE C B H0 H' σ (putB env st) where
  len := by rw [putB_len]; exact R.len
  slot := fun i s h => by
    rcases putB_get ha h with ⟨u, e1, e2, e3, e4⟩ | ⟨e1, e2⟩
    · obtain ⟨v, hv, ok⟩ := R.at B e1 (fun z => by subst z; cases e2)
      obtain ⟨ev, _⟩ := slB (H0' := H0) (σ' := σ) e2 ok
      obtain ⟨b, k⟩ := hs s e3
      exact .inr ⟨v, hv, by rw [ev, ← e4]; exact (slB b k).2⟩
    · rcases R.slot i s e1 with z | ⟨v, hv, ok⟩
      · exact .inl z
      · exact .inr ⟨v, hv, ok.keepNB e2 (kp_of R.mutB hk) hk⟩
  dist := fun i j s u v h1 h2 o1 o2 g1 g2 => by
    rcases putB_get ha h1 with ⟨u1, e1, e2, e3, e4⟩ | ⟨e1, e2⟩
    · have := (hs s e3).1
      rw [own_nb o1] at this
      cases this
    · rcases putB_get ha h2 with ⟨u1, f1, f2, f3, f4⟩ | ⟨f1, f2⟩
      · have := (hs u f3).1
        rw [own_nb o2] at this
        cases this
      · exact R.dist i j s u v e1 f1 o1 o2 g1 g2
  nopr := fun i m h => by
    rcases putB_get ha h with ⟨u, e1, e2, e3, e4⟩ | ⟨e1, e2⟩
    · have := (hs _ e3).1
      cases this
    · exact R.nopr i m e1
  base := fun a o h nb => hk a o (R.base a o h nb) nb
  mutB := hm
theorem RepE.stOk (R : RepE C B H0 H σ env) : StOk C B H (getB env) := fun s hs => by
  obtain ⟨i, e, b⟩ := getB_mem hs
  obtain ⟨v, hv, ok⟩ := R.at B e (fun z => by subst z; cases b)
  obtain ⟨ev, ok'⟩ := slB (H0' := fun _ => none) (σ' := []) b ok
  exact ⟨b, by rw [← ev]; exact ok'⟩
theorem Frm.bor (hk : ∀ a o, H a = some o → ¬ B a → H' a = some o) (hm : ∀ a, B a → ∃ o, H' a = some o ∧ ¬ Imm C o) : Frm B H σ env H' :=
  ⟨fun a o h nb _ => hk a o h nb, fun a h => by
    by_cases b : B a
    · obtain ⟨o, ho, _⟩ := hm a b
      rw [h] at ho
      cases ho
    · cases e : H a with
      | none => rfl
      | some o =>
        rw [hk a o e b] at h
        cases h⟩
theorem owned_putB {st : List Sl} {a : Addr} (ha : st.map adr = (getB env).map adr) (hs : ∀ s ∈ st, isB s = true) (h : Owned σ (putB env st) a) : Owned σ env a := by
  obtain ⟨i, s, e, o, q⟩ := h
  rcases putB_get ha e with ⟨u, e1, e2, e3, e4⟩ | ⟨e1, e2⟩
  · have := hs s e3
    rw [own_nb o] at this
    cases this
  · exact ⟨i, s, e1, o, q⟩
abbrev DB := List Dat → List Sl → (Sl → List Sl → Prop) → Prop
def SpB (C : Addr) (D : DB) : Sp := fun vs H Q _ => ∃ (s0 : Sl) (st : List Sl) (vs' : List V) (ds : List Dat) (B : Addr → Prop) (k : Sl → List Sl → Prop), vs = .ref (adr s0) :: vs' ∧ D ds (s0 :: st) k ∧ Reps C H vs' ds ∧ StOk C B H (s0 :: st) ∧ (∀ a, B a → ∃ o, H a = some o ∧ ¬ Imm C o) ∧
  ∀ s st' v H', k s st' → st'.map adr = (s0 :: st).map adr → (∀ a o, H a = some o → ¬ B a → H' a = some o) → (∀ a, B a → ∃ o, H' a = some o ∧ ¬ Imm C o) → StOk C B H' st' → SlOk C B H H' [] v s → RetOk s → Q v H'
/-- a result of a callee that changed what is borrowed -/
theorem res_backB {s : Sl} (R : RepE C B H0 H σ env) (r : RetOk s) (ok : SlOk C B H H' [] v s) : SlOk C B H0 H' σ v s ∧ New H v s := by
  have free : ∀ {l}, H l = none → ¬ B l → H0 l = none := fun {l} hn nb => by
    cases e : H0 l with
    | none => rfl
    | some o =>
      have := R.base l o e nb
      rw [hn] at this
      cases this
  cases s with
  | im d => exact ⟨ok, fun z => z.elim⟩
  | ow ds =>
    obtain ⟨l, xs, e, hn, nb, hl, r⟩ := ok
    subst e
    exact ⟨⟨l, xs, rfl, free hn nb, nb, hl, r⟩, fun _ a ea => by cases ea; exact hn⟩
  | od ds =>
    obtain ⟨l, xs, e, hn, nb, hl, r⟩ := ok
    subst e
    exact ⟨⟨l, xs, rfl, free hn nb, nb, hl, r⟩, fun _ a ea => by cases ea; exact hn⟩
  | qi c fs =>
    obtain ⟨l, dx, vs, e, hn, nb, hp, r⟩ := ok
    subst e
    exact ⟨⟨l, dx, vs, rfl, free hn nb, nb, hp, r⟩, fun z => z.elim⟩
  | _ => exact r.elim
theorem sm_callB {D : DB} {vs' : List V} {ds : List Dat} {s0 : Sl} {st : List Sl} {Q : VK} (R : RepE C B H0 H σ env) (hg : getB env = s0 :: st) (h1 : D ds (s0 :: st) fun s st' => RetOk s ∧ K s (putB env st')) (rr : Reps C H vs' ds)
    (q : ∀ s e2 v H2, K s e2 → Res s → Frm B H σ env H2 → (∀ a, Owned σ e2 a → Owned σ env a) → RepE C B H0 H2 σ e2 → SlOk C B H0 H2 σ v s → New H v s → Q v H2) : SpB C D (.ref (adr s0) :: vs') H Q E := by
  refine ⟨s0, st, vs', ds, B, _, rfl, h1, rr, by rw [← hg]; exact R.stOk, R.mutB, fun s st' v H2 ⟨ro, k⟩ ha hk hm so ok _ => ?_⟩
  rw [← hg] at ha
  obtain ⟨ok2, nw⟩ := res_backB R ro ok
  exact q s _ v H2 k ro.res.1 (Frm.bor hk hm) (fun a w => owned_putB ha (fun s hs => (so s hs).1) w) (R.back hk hm ha so) ok2 nw
theorem ex_callB {D : DB} (h : EXA C t env fun ss e => ∃ (i : Nat) (ds : List Dat), firstB e = some i ∧ ss = .pr i :: ds.map Sl.im ∧ D ds (getB e) fun s st' => RetOk s ∧ K s (putB e st')) : EX C (tCall (SpB C D) [] E t) env K := fun B H0 σ H R Q q => by
  refine h B H0 σ H R _ fun ss e1 vs H1 ⟨i, ds, hf, es, h1⟩ f1 o1 R1 p1 => ?_
  subst es
  obtain ⟨s0, st, e0, b0, hg⟩ := firstB_ok hf
  rw [hg] at h1
  cases p1 with
  | cons a p =>
    rename_i v0 vs'
    have hv0 : σ[i]? = some (some v0) := a.2.1
    obtain ⟨w, hw, ok⟩ := R1.at B e0 (fun z => by subst z; cases b0)
    rw [hv0] at hw
    cases hw
    obtain ⟨ev, _⟩ := slB (H0' := H0) (σ' := σ) b0 ok
    subst ev
    rw [List.append_nil]
    exact sm_callB R1 hg h1 (reps_of p) fun s e2 v H2 k2 r2 f2 o2 R2 ok2 n2 => q s e2 v H2 k2 r2 (f1.trans f2 o1) (fun a w => o1 a (o2 a w)) R2 ok2 (n2.back f1)
theorem ex_methB {D : DB} {c p : Addr} {fs : List (Str × Dat)} {m : Str} {i : Nat} (he : env[i]? = some (.mk p c fs)) (hm : fs.lookup m = none)
    (h : EXA C t env fun ss e => ∃ ds : List Dat, firstB e = some i ∧ e[i]? = some (.mk p c fs) ∧ ss = ds.map Sl.im ∧ D ds (getB e) fun s st' => RetOk s ∧ K s (putB e st')) : EX C (tMeth c m (SpB C D) [] E (tVar i) t) env K := fun B H0 σ H R Q q => by
  obtain ⟨v, hv, ev, hb, dx, vs, hp, r⟩ := R.at B he (fun z => nomatch z)
  subst ev
  refine ⟨_, hv, p, dx, vs, rfl, hp, r.lookupN hm, ?_⟩
  refine h B H0 σ H R _ fun ss e1 ws H1 ⟨ds, hf, he1, es, h1⟩ f1 o1 R1 p1 => ?_
  subst es
  obtain ⟨s0, st, e0, b0, hg⟩ := firstB_ok hf
  rw [he1] at e0
  cases e0
  rw [hg] at h1
  rw [List.append_nil]
  exact sm_callB (s0 := .mk p c fs) R1 hg h1 (reps_of p1) fun s e2 v H2 k2 r2 f2 o2 R2 ok2 n2 => q s e2 v H2 k2 r2 (f1.trans f2 o1) (fun a w => o1 a (o2 a w)) R2 ok2 (n2.back f1)
end
/-! ### a def that changes what is borrowed -/
theorem Inv.ghost {X : Cx} {pins : List (Addr × Obj)} {σ σ' : List (Option V)} {H : Hp} {s : Shared} (I : Inv X pins σ H s) (hl : σ'.length = σ.length) (w : ∀ (i : Nat) x v, X.N[i]? = some x → Vis X.env.scope x → σ'[i]? = some (some v) → σ[i]? = some (some v)) : Inv X pins σ' H s :=
  ⟨I.ok, I.os, I.bare, I.base, let ⟨m, hn, hl'⟩ := I.loc; ⟨m, hn, fun i x v e1 e2 e3 => hl' i x v e1 (w i x v e1 e3 e2) e3⟩, I.cell, I.free, I.freeC, I.pin, I.hok, hl.trans I.len⟩
/-- slots and their tellings -/
structure Al (Q : V → Sl → Prop) (σ : L2.St) (env : Sls) : Prop where
  len : σ.length = env.length
  at' : ∀ (i : Nat) (s : Sl), env[i]? = some s → s = .un ∨ ∃ v, σ[i]? = some (some v) ∧ Q v s
theorem Al.app {Q : V → Sl → Prop} {σ σ' : L2.St} {e e' : Sls} (a : Al Q σ e) (b : Al Q σ' e') : Al Q (σ ++ σ') (e ++ e') :=
  ⟨by rw [List.length_append, List.length_append, a.len, b.len], fun i s h => by
    by_cases hi : i < e.length
    · rw [List.getElem?_append_left hi] at h
      rw [List.getElem?_append_left (by rw [a.len]; exact hi)]
      exact a.at' i s h
    · rw [List.getElem?_append_right (by omega)] at h
      rw [List.getElem?_append_right (by rw [a.len]; omega), a.len]
      exact b.at' _ s h⟩
theorem Al.un {Q : V → Sl → Prop} {n : Nat} : Al Q (List.replicate n none) (List.replicate n .un) :=
  ⟨by rw [List.length_replicate, List.length_replicate], fun i s h => .inl (List.eq_of_mem_replicate (List.mem_of_getElem? h))⟩
theorem Al.vals {Q : V → Sl → Prop} {vs : List V} {ss : List Sl} (p : Paired Q vs ss) : Al Q (vs.map some) ss :=
  ⟨by rw [List.length_map, p.length], fun i s h => by
    right
    induction p generalizing i with
    | nil => cases h
    | cons a t ih =>
      cases i with
      | zero => cases h; exact ⟨_, rfl, a⟩
      | succ i =>
        obtain ⟨v, e, q⟩ := ih i (by simpa using h)
        exact ⟨v, by simpa using e, q⟩⟩
theorem paired_im {C : Addr} {B : Addr → Prop} {H0 H : Hp} {σ : L2.St} : ∀ {vs : List V} {ds : List Dat}, Reps C H vs ds → Paired (fun v s => SlOk C B H0 H σ v s) vs (ds.map Sl.im)
  | _, _, .nil => .nil
  | _, _, .cons a r => .cons a (paired_im r)
theorem paired_st {C : Addr} {B : Addr → Prop} {H0 H : Hp} {σ : L2.St} : ∀ {st : List Sl}, StOk C B H st → Paired (fun v s => SlOk C B H0 H σ v s) (st.map fun s => V.ref (adr s)) st
  | [], _ => .nil
  | s :: st, h => .cons (slB (h s List.mem_cons_self).1 (h s List.mem_cons_self).2).2 (paired_st fun u hu => h u (List.mem_cons_of_mem _ hu))
theorem fn_bor {P : Program} {w : World} {K : PySem.W.Frag} {mg : Str → Option Value} {base : Heap} {C : Addr} {x qual : Str} {stm : Stmt} {f : Addr} {fd : FuncData} {N ps : List Str} {k g : Nat} {D : DB} (F : Fun K x qual stm f fd) (S : FnScope N ps (defScope stm))
    (len : ∀ ds st k, D ds st k → ds.length + 1 = ps.length ∧ st.length = g + 1) (hps : ps.length + g ≤ N.length) (hgh : ∀ x ∈ N.drop (N.length - g), (defScope stm).names.lookup x = none)
    (hbody : ∀ (cdv : Value) (A : Around) (outer : List PySem.Env) (s : Shared) (H : Hp) (E : XK) (ds : List Dat) (s0 : Sl) (st : List Sl) (kk : Sl → List Sl → Prop), Room k (A.deeper (PyProof.Rows.envOfC qual (defScope stm) s.heap.objs.size f cdv)) → D ds (s0 :: st) kk →
      ∃ t, PSs (cxOf CX0 P w K mg base N qual (defScope stm) f cdv A outer s H E).nox (defBody stm) t ∧
        SX C t ((s0 :: ds.map Sl.im) ++ List.replicate (N.length - ps.length - g) .un ++ st) { nx := fun e => (getB e).map adr = (s0 :: st).map adr ∧ kk (.im .non) (getB e), rt := fun s e => RetOk s ∧ (getB e).map adr = (s0 :: st).map adr ∧ kk s (getB e) }) : FnOk P w K mg base CX0 (k + 1) f fd ps (SpB C D) := by
  refine F.ok S (fun vs H Q E h => ?_) (fun cdv A outer s H vs Q E hr h => ?_)
  · obtain ⟨s0, st, vs', ds, B, kk, ev, hd, hr, _⟩ := h
    rw [ev, List.length_cons, hr.length]
    exact (len _ _ _ hd).1
  · obtain ⟨s0, st, vs', ds, B, kk, ev, hd, hreps, hst, hmB, hq⟩ := h
    obtain ⟨l1, l2⟩ := len _ _ _ hd
    have l3 : st.length = g := by simpa using l2
    obtain ⟨t, ht, hs⟩ := hbody cdv A outer s H E ds s0 st kk hr hd
    have lv : vs.length = ps.length := by rw [ev, List.length_cons, hreps.length]; exact l1
    refine ⟨fun D σ H => t D (σ.take (N.length - g) ++ (st.map fun s => V.ref (adr s)).map some) H, ⟨fun pins s1 σ H1 D I hh => ht.run pins s1 _ H1 D (Inv.ghost I ?_ fun i x v e1 e2 e3 => ?_) hh⟩, ?_⟩
    · have := I.len
      have e : σ.length = N.length := this
      rw [List.length_append, List.length_take, List.length_map, List.length_map, e]
      omega
    · have e : σ.length = N.length := I.len
      have e1' : N[i]? = some x := e1
      by_cases hi : i < N.length - g
      · rw [List.getElem?_append_left (by rw [List.length_take]; omega), List.getElem?_take_of_lt hi] at e3
        exact e3
      · have hx : x ∈ N.drop (N.length - g) := by
          have : (N.drop (N.length - g))[i - (N.length - g)]? = some x := by
            rw [List.getElem?_drop, show N.length - g + (i - (N.length - g)) = i by omega]
            exact e1'
          exact List.mem_of_getElem? this
        have hn : (defScope stm).names.lookup x = none := hgh x hx
        have vis : (defScope stm).names.lookup x = some .local ∨ (defScope stm).names.lookup x = some .cell ∨ (defScope stm).names.lookup x = some .free := e2
        rw [hn] at vis
        rcases vis with z | z | z <;> cases z
    · have es : (L2.start N vs).take (N.length - g) ++ (st.map fun s => V.ref (adr s)).map some = (vs.map some ++ List.replicate (N.length - ps.length - g) none) ++ (st.map fun s => V.ref (adr s)).map some := by
        unfold L2.start
        rw [List.take_append, List.take_of_length_le (by rw [List.length_map]; omega), List.take_replicate, List.length_map, lv]
        congr 2
        congr 1
        omega
      have al : Al (fun v s => SlOk C B H H [] v s) ((vs.map some ++ List.replicate (N.length - ps.length - g) none) ++ (st.map fun s => V.ref (adr s)).map some) ((s0 :: ds.map Sl.im) ++ List.replicate (N.length - ps.length - g) .un ++ st) := by
        refine ((Al.vals ?_).app Al.un).app (Al.vals (paired_st fun u hu => hst u (List.mem_cons_of_mem _ hu)))
        rw [ev]
        exact .cons (slB (hst s0 List.mem_cons_self).1 (hst s0 List.mem_cons_self).2).2 (paired_im hreps)
      have kind : ∀ s ∈ ((s0 :: ds.map Sl.im) ++ List.replicate (N.length - ps.length - g) Sl.un ++ st), ¬ OwnS s ∧ ∀ m, s ≠ .pr m := fun s hs => by
        have b : isB s = true → ¬ OwnS s ∧ ∀ m, s ≠ .pr m := fun b => by cases s <;> first | (cases b; done) | exact ⟨id, fun _ z => nomatch z⟩
        rcases List.mem_append.mp hs with hs | hs
        · rcases List.mem_append.mp hs with hs | hs
          · rcases List.mem_cons.mp hs with q | q
            · exact b (by rw [q]; exact (hst s0 List.mem_cons_self).1)
            · obtain ⟨d, _, e⟩ := List.mem_map.mp q
              subst e
              exact ⟨id, fun _ z => nomatch z⟩
          · rw [List.eq_of_mem_replicate hs]
            exact ⟨id, fun _ z => nomatch z⟩
        · exact b (hst s (List.mem_cons_of_mem _ hs)).1
      have R : RepE C B H H ((vs.map some ++ List.replicate (N.length - ps.length - g) none) ++ (st.map fun s => V.ref (adr s)).map some) ((s0 :: ds.map Sl.im) ++ List.replicate (N.length - ps.length - g) .un ++ st) := by
        refine ⟨al.len, fun i s e => ?_, fun i j s u v e1 e2 o1 o2 _ _ => absurd o1 (kind s (List.mem_of_getElem? e1)).1, fun i m e => (kind _ (List.mem_of_getElem? e)).2 m rfl, fun a o h _ => h, hmB⟩
        rcases al.at' i s e with h | ⟨v, hv, ok⟩
        · exact .inl h
        · refine .inr ⟨v, hv, ?_⟩
          cases s with
          | pr m => exact absurd rfl ((kind _ (List.mem_of_getElem? e)).2 m)
          | _ => exact ok
      show t _ ((L2.start N vs).take (N.length - g) ++ (st.map fun s => V.ref (adr s)).map some) H
      rw [es]
      refine hs B H _ H R _ (fun σ' H' e' k' kp R' => ?_) (fun s v' e' σ' H' k' R' ok => ?_) (fun _ _ _ z => z.elim) (fun _ _ _ z => z.elim)
      · exact hq _ _ _ H' k'.2 k'.1 (fun a o h nb => R'.base a o h nb) R'.mutB R'.stOk .non trivial
      · obtain ⟨ro, ka, k'⟩ := k'
        refine hq s _ _ H' k' ka (fun a o h nb => R'.base a o h nb) R'.mutB R'.stOk ?_ ro
        cases s with
        | pr i => exact ro.elim
        | _ => exact ok
end Af
end

section
set_option maxHeartbeats 4000000
/-! More rules: what is borrowed changes; dicts; pop; while; two targets. -/
namespace Af
open PySem L2
/-- no slot borrows a -/
def NoAd (a : Addr) : Sls → Prop
  | [] => True
  | .pn p _ :: e => p ≠ a ∧ NoAd a e
  | .mk p _ _ :: e => p ≠ a ∧ NoAd a e
  | .bd p _ :: e => p ≠ a ∧ NoAd a e
  | .bl p _ :: e => p ≠ a ∧ NoAd a e
  | _ :: e => NoAd a e
theorem NoAd.at' {a : Addr} : ∀ {e : Sls} {j : Nat} {s : Sl}, NoAd a e → e[j]? = some s → isB s = true → adr s ≠ a
  | [], _, _, _, h, _ => by cases h
  | u :: e, 0, s, n, h, b => by
    cases h
    cases u <;> first | exact n.1 | cases b
  | u :: e, j + 1, s, n, h, b => by
    have n2 : NoAd a e := by cases u <;> first | exact n.2 | exact n
    exact NoAd.at' n2 (by simpa using h) b
section
variable {C : Addr} {env : Sls} {K : Sl → Sls → Prop} {ta tb tc te tl td ty tx tv : TE} {F : PySem.W.Frag} {H : Hp} {v : V} {B : Addr → Prop} {H0 : Hp} {σ : L2.St} {t : TA} {E : XK} {k : Sl → Prop} {s1 s2 : Sl} {W : Wish} {ts : TS}
/-- a borrowed thing has changed -/
theorem RepE.bump {i : Nat} {s s' : Sl} {a : Addr} {u w : HO} (R : RepE C B H0 H σ env) (e : env[i]? = some s) (hb : isB s = true) (ha : adr s = a) (no : NoAd a (env.set i .un)) (hu : H a = some u) (nu : ¬ Imm C u) (nw : ¬ Imm C w) (hB : B a) (b' : isB s' = true) (ok : SlOk C B H0 (upd H a w) σ (.ref a) s') :
    RepE C B H0 (upd H a w) σ (env.set i s') ∧ Frm B H σ env (upd H a w) ∧ ∀ x, Owned σ (env.set i s') x → Owned σ env x := by
  have hi : i < env.length := (List.getElem?_eq_some_iff.mp e).1
  have kp : Kp C H (upd H a w) := kp_mut hu nu
  have np' : ∀ m, s' ≠ .pr m := fun m z => by rw [z] at b'; cases b'
  have no' : ¬ OwnS s' := fun o => by rw [own_nb o] at b'; cases b'
  obtain ⟨v, hv, okv⟩ := R.at B e (fun z => by rw [z] at hb; cases hb)
  obtain ⟨ev, _⟩ := slB (H0' := H0) (σ' := σ) hb okv
  rw [ha] at ev
  subst ev
  refine ⟨⟨by rw [List.length_set]; exact R.len, fun j t ej => ?_, fun j m t t' v' e1 e2 o1 o2 g1 g2 => ?_, fun j m ej => ?_, fun x o h nb => ?_, fun x b => ?_⟩, ⟨fun x o h nb _ => by rw [upd_ne (fun z => nb (by rw [z]; exact hB))]; exact h, fun x h => ?_⟩, fun x hx => owned_set no' hx⟩
  · by_cases hj : i = j
    · subst hj
      rw [List.getElem?_set_self hi] at ej
      cases ej
      exact .inr ⟨_, hv, ok⟩
    · have nj : isB t = true → adr t ≠ a := fun bt => NoAd.at' no (j := j) (by rw [List.getElem?_set_ne hj]; rw [List.getElem?_set_ne hj] at ej; exact ej) bt
      rw [List.getElem?_set_ne hj] at ej
      rcases R.slot j t ej with h | ⟨v', hv', kk⟩
      · exact .inl h
      · refine .inr ⟨v', hv', ?_⟩
        cases t with
        | un => trivial
        | im d => exact Rep.mono kp kk
        | ow ds =>
          obtain ⟨l', zs, e1, h1, h2, h3, r⟩ := kk
          exact ⟨l', zs, e1, h1, h2, by rw [upd_ne (fun z => h2 (by rw [z]; exact hB))]; exact h3, r.mono kp⟩
        | od ds =>
          obtain ⟨l', zs, e1, h1, h2, h3, r⟩ := kk
          exact ⟨l', zs, e1, h1, h2, by rw [upd_ne (fun z => h2 (by rw [z]; exact hB))]; exact h3, r.mono kp⟩
        | ro ds =>
          obtain ⟨l', zs, e1, h1, h2, r⟩ := kk
          exact ⟨l', zs, e1, h1, h2, r.mono kp⟩
        | pr m => exact kk
        | qi c fs =>
          obtain ⟨p, dx, vs, e1, h1, h2, hp, r⟩ := kk
          exact ⟨p, dx, vs, e1, h1, h2, by rw [upd_ne (fun z => h2 (by rw [z]; exact hB))]; exact hp, r.mono kp⟩
        | ri c fs =>
          obtain ⟨p, dx, vs, e1, h1, h2, r⟩ := kk
          exact ⟨p, dx, vs, e1, h1, h2, r.mono kp⟩
        | pn p n =>
          obtain ⟨e1, h2, L, o, ns, u', w', q1, q2, q3⟩ := kk
          exact ⟨e1, h2, L, o, ns, u', w', by rw [upd_ne (show p ≠ a from nj rfl)]; exact q1, kp _ _ q2 trivial, q3⟩
        | mk p c fs =>
          obtain ⟨e1, h2, dx, vs, hp, r⟩ := kk
          exact ⟨e1, h2, dx, vs, by rw [upd_ne (show p ≠ a from nj rfl)]; exact hp, r.mono kp⟩
        | bd p fs =>
          obtain ⟨e1, h2, xs, hp, r⟩ := kk
          exact ⟨e1, h2, xs, by rw [upd_ne (show p ≠ a from nj rfl)]; exact hp, r.mono kp⟩
        | bl p fs =>
          obtain ⟨e1, h2, xs, hp, r⟩ := kk
          exact ⟨e1, h2, xs, by rw [upd_ne (show p ≠ a from nj rfl)]; exact hp, r.mono kp⟩
  · by_cases hj : i = j
    · subst hj
      rw [List.getElem?_set_self hi] at e1
      cases e1
      exact absurd o1 no'
    · by_cases hm : i = m
      · subst hm
        rw [List.getElem?_set_self hi] at e2
        cases e2
        exact absurd o2 no'
      · rw [List.getElem?_set_ne hj] at e1
        rw [List.getElem?_set_ne hm] at e2
        exact R.dist j m t t' v' e1 e2 o1 o2 g1 g2
  · by_cases hj : i = j
    · subst hj
      rw [List.getElem?_set_self hi] at ej
      cases ej
      exact np' m rfl
    · rw [List.getElem?_set_ne hj] at ej
      exact R.nopr j m ej
  · rw [upd_ne (fun z => nb (by rw [z]; exact hB))]
    exact R.base x o h nb
  · by_cases z : x = a
    · subst z
      exact ⟨w, upd_same, nw⟩
    · obtain ⟨o, h, n⟩ := R.mutB x b
      exact ⟨o, by rw [upd_ne z]; exact h, n⟩
  · by_cases z : x = a
    · rw [z, upd_same] at h
      cases h
    · rw [upd_ne z] at h
      exact h
/-- what reaches a borrowed thing -/
def hitS (j : Nat) (a : Addr) (s : Sl) : Prop := s = .pr j ∨ s = .im (.cls a)
theorem hit_val {j : Nat} {a : Addr} {s u : Sl} (R : RepE C B H0 H σ env) (e : env[j]? = some u) (hb : isB u = true) (ha : adr u = a) (ok : SlOk C B H0 H σ v s) (h : hitS j a s) : v = .ref a := by
  rcases h with h | h
  · subst h
    have ok : σ[j]? = some (some v) := ok
    obtain ⟨w, hw, okw⟩ := R.at B e (fun z => by rw [z] at hb; cases hb)
    rw [ok] at hw
    cases hw
    rw [← ha]
    exact (slB (H0' := H0) (σ' := σ) hb okw).1
  · subst h
    cases ok
    rfl
theorem bl_at {j : Nat} {a : Addr} {ds : List Dat} (R : RepE C B H0 H σ env) (e : env[j]? = some (.bl a ds)) : B a ∧ ∃ xs, H a = some (.lst xs) ∧ Reps C H xs ds := by
  obtain ⟨w, hw, e1, hb, xs, hp, r⟩ := R.at B e (fun z => nomatch z)
  exact ⟨hb, xs, hp, r⟩
theorem bd_at {j : Nat} {a : Addr} {ds : List (Int × Dat)} (R : RepE C B H0 H σ env) (e : env[j]? = some (.bd a ds)) : B a ∧ ∃ xs, H a = some (.dK xs) ∧ RepK C H xs ds := by
  obtain ⟨w, hw, e1, hb, xs, hp, r⟩ := R.at B e (fun z => nomatch z)
  exact ⟨hb, xs, hp, r⟩
theorem bump_bl {j : Nat} {a : Addr} {ds es : List Dat} {xs ys : List V} (R : RepE C B H0 H σ env) (e : env[j]? = some (.bl a ds)) (no : NoAd a (env.set j .un)) (hx : H a = some (.lst xs)) (r : Reps C (upd H a (.lst ys)) ys es) : RepE C B H0 (upd H a (.lst ys)) σ (env.set j (.bl a es)) ∧ Frm B H σ env (upd H a (.lst ys)) ∧ ∀ x, Owned σ (env.set j (.bl a es)) x → Owned σ env x :=
  R.bump e rfl rfl no hx imm_lst imm_lst (bl_at R e).1 rfl ⟨rfl, (bl_at R e).1, ys, upd_same, r⟩
theorem bump_bd {j : Nat} {a : Addr} {ds es : List (Int × Dat)} {xs ys : List (Key × V)} (R : RepE C B H0 H σ env) (e : env[j]? = some (.bd a ds)) (no : NoAd a (env.set j .un)) (hx : H a = some (.dK xs)) (r : RepK C (upd H a (.dK ys)) ys es) : RepE C B H0 (upd H a (.dK ys)) σ (env.set j (.bd a es)) ∧ Frm B H σ env (upd H a (.dK ys)) ∧ ∀ x, Owned σ (env.set j (.bd a es)) x → Owned σ env x :=
  R.bump e rfl rfl no hx imm_dK imm_dK (bd_at R e).1 rfl ⟨rfl, (bd_at R e).1, ys, upd_same, r⟩
/-- pen[..] = e -/
theorem sx_setLB {i : Nat} {a : Addr} (h : EX C te env fun s e1 => ∃ d ds, s = .im d ∧ e1[i]? = some (.bl a ds) ∧ EX C ta e1 fun s' e2 => ∃ (z : Int) (j : Nat), s' = .im (.int z) ∧ e2[i]? = some (.bl a ds) ∧ ixN ds.length z = some j ∧ NoAd a (e2.set i .un) ∧ W.nx (e2.set i (.bl a (ds.set j d)))) : SX C (tAsg te (gSub (tVar i) ta rSetL)) env W := fun B H0 σ H R D n r b c => by
  refine h B H0 σ H R _ fun s e1 w H1 ⟨d, ds, es, ei, h1⟩ _ f o R1 ok _ => ?_
  subst es
  obtain ⟨v, hv, ev, _⟩ := R1.at B ei (fun z => nomatch z)
  subst ev
  refine ⟨_, hv, ?_⟩
  refine h1 B H0 σ H1 R1 _ fun s' e2 y H2 ⟨z, j, es', e2i, hj, no, k⟩ _ f2 o2 R2 ok2 _ => ?_
  subst es'
  obtain ⟨hB, xs, hx, rr⟩ := bl_at R2 e2i
  refine ⟨a, xs, z, j, rfl, rep_int ok2, hx, by rw [rr.length]; exact hj, ?_⟩
  have kp : Kp C H2 (upd H2 a (.lst (xs.set j w))) := kp_mut hx imm_lst
  obtain ⟨R3, f3, o3⟩ := bump_bl R2 e2i no hx (Reps.set (Rep.mono kp (Rep.mono (R1.kp f2) ok)) j (rr.mono kp))
  exact n σ _ _ k (((R.kp f).trans (R1.kp f2)).trans kp) R3
theorem sx_appendB {j : Nat} {a : Addr} (h : EX C tl env fun s0 e0 => ∃ ds, e0[j]? = some (.bl a ds) ∧ hitS j a s0 ∧ EX C te e0 fun s e' => ∃ d, s = .im d ∧ e'[j]? = some (.bl a ds) ∧ NoAd a (e'.set j .un) ∧ ds.length < 1000000 ∧ W.nx (e'.set j (.bl a (ds ++ [d])))) : SX C (tDrop (tBM F "list" rAppend tl (tCons te tNil))) env W := fun B H0 σ H R D n r b c => by
  refine h B H0 σ H R _ fun s0 e0 v H1 ⟨ds, e1, hit, h1⟩ _ f o R1 ok _ => ?_
  have ev := hit_val R1 e1 rfl rfl ok hit
  subst ev
  obtain ⟨hB, xs, hx, rr⟩ := bl_at R1 e1
  refine ⟨.inl ⟨rfl, xs, .inl (.inl hx)⟩, ?_⟩
  refine h1 B H0 σ H1 R1 _ fun s e2 w H2 ⟨d, es, e2j, no, hz, k⟩ _ f2 o2 R2 ok2 _ => ?_
  subst es
  obtain ⟨_, ys, hy, r2⟩ := bl_at R2 e2j
  refine ⟨a, ys, w, rfl, rfl, hy, by rw [r2.length]; exact Nat.lt_of_lt_of_le hz (by decide), ?_⟩
  have kp : Kp C H2 (upd H2 a (.lst (ys ++ [w]))) := kp_mut hy imm_lst
  obtain ⟨R3, f3, o3⟩ := bump_bl R2 e2j no hy ((r2.mono kp).append (.cons (Rep.mono kp ok2) .nil))
  exact n σ _ _ k (((R.kp f).trans (R1.kp f2)).trans kp) R3
theorem erase_ix {ns : List Int} {k : Int} (h : k ∈ ns) : ∃ j : Nat, ns[j]? = some k ∧ (∀ m : Nat, m < j → ns[m]? ≠ some k) ∧ ns.eraseIdx j = ns.erase k := by
  induction ns with
  | nil => cases h
  | cons x r ih =>
    by_cases e : x = k
    · subst e
      exact ⟨0, rfl, fun m hm => by omega, by simp⟩
    · obtain ⟨j, h1, h2, h3⟩ := ih (by rcases List.mem_cons.mp h with q | q; exact absurd q.symm e; exact q)
      refine ⟨j + 1, by simpa using h1, fun m hm => ?_, ?_⟩
      · cases m with
        | zero => simpa using e
        | succ m => simpa using h2 m (by omega)
      · rw [List.eraseIdx_cons_succ, h3, List.erase_cons_tail (by simpa using e)]
theorem sx_removeB {j : Nat} {a : Addr} (h : EX C tl env fun s0 e0 => ∃ ns : List Int, e0[j]? = some (.bl a (ns.map Dat.int)) ∧ hitS j a s0 ∧ EX C te e0 fun s e' => ∃ k, s = .im (.int k) ∧ e'[j]? = some (.bl a (ns.map Dat.int)) ∧ NoAd a (e'.set j .un) ∧ k ∈ ns ∧ W.nx (e'.set j (.bl a ((ns.erase k).map Dat.int)))) : SX C (tDrop (tBM F "list" rRemI tl (tCons te tNil))) env W := fun B H0 σ H R D n r b c => by
  refine h B H0 σ H R _ fun s0 e0 v H1 ⟨ns, e1, hit, h1⟩ _ f o R1 ok _ => ?_
  have ev := hit_val R1 e1 rfl rfl ok hit
  subst ev
  obtain ⟨hB, xs, hx, rr⟩ := bl_at R1 e1
  refine ⟨.inl ⟨rfl, xs, .inl (.inl hx)⟩, ?_⟩
  refine h1 B H0 σ H1 R1 _ fun s e2 w H2 ⟨kk, es, e2j, no, hz, k⟩ _ f2 o2 R2 ok2 _ => ?_
  subst es
  obtain ⟨_, ys, hy, r2⟩ := bl_at R2 e2j
  rw [r2.ints] at hy
  obtain ⟨m, m1, m2, m3⟩ := erase_ix hz
  refine ⟨a, ns, kk, m, rfl, by rw [rep_int ok2], hy, m1, m2, ?_⟩
  rw [m3]
  have kp : Kp C H2 (upd H2 a (.lst ((ns.erase kk).map V.int))) := kp_mut hy imm_lst
  obtain ⟨R3, f3, o3⟩ := bump_bl R2 e2j no hy (Reps.of_ints (ns.erase kk))
  exact n σ _ _ k (((R.kp f).trans (R1.kp f2)).trans kp) R3
/-! ### dicts -/
theorem RepK.any (k : Int) : ∀ {xs : List (Key × V)} {ks : List (Int × Dat)}, RepK C H xs ks → (xs.any fun kv => decide (kv.1 = (Sum.inl k : Key))) = ks.any fun p => decide (p.1 = k)
  | _, _, .nil => rfl
  | _, _, .cons a r => by
    rw [List.any_cons, List.any_cons, RepK.any k r]
    congr 1
    simp
theorem RepK.append : ∀ {xs ys : List (Key × V)} {ds es : List (Int × Dat)}, RepK C H xs ds → RepK C H ys es → RepK C H (xs ++ ys) (ds ++ es)
  | _, _, _, _, .nil, s => s
  | _, _, _, _, .cons a r, s => .cons a (r.append s)
theorem RepK.mapPut {k : Int} {x : V} {d : Dat} (h : Rep C H x d) : ∀ {xs : List (Key × V)} {ks : List (Int × Dat)}, RepK C H xs ks → RepK C H (xs.map fun kv => if kv.1 = (Sum.inl k : Key) then (kv.1, x) else kv) (ks.map fun p => if p.1 = k then (k, d) else p)
  | _, _, .nil => .nil
  | _, _, .cons (k := k') (v := w) (d := d') a r => by
    rw [List.map_cons, List.map_cons]
    by_cases e : k' = k
    · subst e
      rw [if_pos rfl, if_pos rfl]
      exact .cons h (r.mapPut h)
    · rw [if_neg (fun z => e (Sum.inl.inj z)), if_neg e]
      exact .cons a (r.mapPut h)
theorem RepK.put {xs : List (Key × V)} {ks : List (Int × Dat)} {k : Int} {x : V} {d : Dat} (r : RepK C H xs ks) (h : Rep C H x d) : RepK C H (putK xs (Sum.inl k) x) (putKD ks k d) := by
  unfold putK putKD
  rw [RepK.any k r]
  by_cases e : (ks.any fun p => decide (p.1 = k)) = true
  · rw [if_pos e, if_pos e]
    exact r.mapPut h
  · rw [if_neg e, if_neg e]
    exact r.append (.cons h .nil)
def dropKD (ks : List (Int × Dat)) (k : Int) : List (Int × Dat) := ks.filter fun p => decide (p.1 ≠ k)
theorem RepK.drop {k : Int} : ∀ {xs : List (Key × V)} {ks : List (Int × Dat)}, RepK C H xs ks → RepK C H (dropK xs (Sum.inl k)) (dropKD ks k)
  | _, _, .nil => .nil
  | _, _, .cons (k := k') (v := w) (d := d') a r => by
    unfold dropK dropKD
    rw [List.filter_cons, List.filter_cons]
    by_cases e : k' = k
    · subst e
      simp only [ne_eq, not_true_eq_false, decide_false, Bool.false_eq_true, if_false]
      exact r.drop
    · have e2 : ¬ (Sum.inl k' : Key) = Sum.inl k := fun z => e (Sum.inl.inj z)
      rw [if_pos (by simpa using e2), if_pos (by simpa using e)]
      exact .cons a r.drop
theorem sx_dput {i : Nat} {ks : List (Int × Dat)} (h : EX C tv env fun s e1 => ∃ d, s = .im d ∧ e1[i]? = some (.od ks) ∧ EX C ty e1 fun s' e2 => ∃ k, s' = .im (.int k) ∧ e2[i]? = some (.od ks) ∧ ks.length < 1000000 ∧ W.nx (e2.set i (.od (putKD ks k d)))) : SX C (sDPut (tVar i) ty tv) env W := fun B H0 σ H R D n r b c => by
  refine h B H0 σ H R _ fun s e1 w H1 ⟨d, es, ei, h1⟩ _ f o R1 ok _ => ?_
  subst es
  obtain ⟨v, hv, l, xs, ev, h0, nb, hl, rr⟩ := R1.at B ei (fun z => nomatch z)
  subst ev
  refine ⟨_, hv, ?_⟩
  refine h1 B H0 σ H1 R1 _ fun s' e2 y H2 ⟨kk, es', e2i, hz, k⟩ _ f2 o2 R2 ok2 _ => ?_
  subst es'
  obtain ⟨v', hv', l', xs', ev', h0', nb', hl', rr'⟩ := R2.at B e2i (fun z => nomatch z)
  rw [hv] at hv'
  cases hv'
  cases ev'
  rw [rep_int ok2]
  have kp : Kp C H2 (upd H2 l (.dK (putK xs' (Sum.inl kk) w))) := kp_mut hl' imm_dK
  refine ⟨l, _, rfl, DPut.k (k := Sum.inl kk) hl' (by rw [rr'.length]; exact Nat.lt_of_lt_of_le hz (by decide)), ?_⟩
  exact n σ _ _ k (((R.kp f).trans (R1.kp f2)).trans kp) (R2.retell e2i hv hl' imm_dK dK_ni trivial (fun _ z => nomatch z) ⟨l, _, rfl, h0, nb, upd_same, (rr'.mono kp).put (Rep.mono kp (Rep.mono (R1.kp f2) ok))⟩)
theorem sx_dputB {j : Nat} {a : Addr} (h : EX C tv env fun s e0 => ∃ d, s = .im d ∧ EX C td e0 fun s0 e1 => hitS j a s0 ∧ (∃ ks, e1[j]? = some (.bd a ks)) ∧ EX C ty e1 fun s' e2 => ∃ k ks, s' = .im (.int k) ∧ e2[j]? = some (.bd a ks) ∧ NoAd a (e2.set j .un) ∧ ks.length < 1000000 ∧ W.nx (e2.set j (.bd a (putKD ks k d)))) : SX C (sDPut td ty tv) env W := fun B H0 σ H R D n r b c => by
  refine h B H0 σ H R _ fun s e0 w H1 ⟨d, es, h0⟩ _ f o R1 ok _ => ?_
  subst es
  refine h0 B H0 σ H1 R1 _ fun s0 e1 x H2 ⟨hit, ⟨ks0, e1j⟩, h1⟩ _ f2 o2 R2 ok2 _ => ?_
  have ev := hit_val R2 e1j rfl rfl ok2 hit
  subst ev
  refine h1 B H0 σ H2 R2 _ fun s' e2 y H3 ⟨kk, ks, es', e2j, no, hz, k⟩ _ f3 o3 R3 ok3 _ => ?_
  subst es'
  obtain ⟨hB, xs, hx, rr⟩ := bd_at R3 e2j
  rw [rep_int ok3]
  have kp : Kp C H3 (upd H3 a (.dK (putK xs (Sum.inl kk) w))) := kp_mut hx imm_dK
  refine ⟨a, _, rfl, DPut.k (k := Sum.inl kk) hx (by rw [rr.length]; exact Nat.lt_of_lt_of_le hz (by decide)), ?_⟩
  obtain ⟨R4, f4, o4⟩ := bump_bd R3 e2j no hx ((rr.mono kp).put (Rep.mono kp (Rep.mono ((R1.kp f2).trans (R2.kp f3)) ok)))
  exact n σ _ _ k ((((R.kp f).trans (R1.kp f2)).trans (R2.kp f3)).trans kp) R4
theorem sx_dpopB {j : Nat} {a : Addr} (h : EX C td env fun s0 e0 => hitS j a s0 ∧ (∃ ks, e0[j]? = some (.bd a ks)) ∧ EX C ty e0 fun s e1 => ∃ k, s = .im (.int k) ∧ EX C tx e1 fun _ e2 => ∃ ks, e2[j]? = some (.bd a ks) ∧ NoAd a (e2.set j .un) ∧ W.nx (e2.set j (.bd a (dropKD ks k)))) : SX C (tDrop (tDPop2 td ty tx)) env W := fun B H0 σ H R D n r b c => by
  refine h B H0 σ H R _ fun s0 e0 v H1 ⟨hit, ⟨ks0, e0j⟩, h1⟩ _ f o R1 ok _ => ?_
  have ev := hit_val R1 e0j rfl rfl ok hit
  subst ev
  obtain ⟨hB, xs0, hx0, rr0⟩ := bd_at R1 e0j
  refine ⟨a, rfl, .inl ⟨xs0, .inl hx0⟩, ?_⟩
  refine h1 B H0 σ H1 R1 _ fun s e1 y H2 ⟨kk, es, h2⟩ _ f2 o2 R2 ok2 _ => ?_
  subst es
  refine h2 B H0 σ H2 R2 _ fun s' e2 z H3 ⟨ks, e2j, no, k⟩ _ f3 o3 R3 ok3 _ => ?_
  obtain ⟨_, xs, hx, rr⟩ := bd_at R3 e2j
  have kp : Kp C H3 (upd H3 a (.dK (dropK xs (Sum.inl kk)))) := kp_mut hx imm_dK
  have kp3 := ((R.kp f).trans (R1.kp f2)).trans (R2.kp f3)
  refine ⟨xs, Sum.inl kk, hx, rep_int ok2, fun v _ => ?_, fun hv => ?_⟩
  · obtain ⟨R4, f4, o4⟩ := bump_bd R3 e2j no hx ((rr.mono kp).drop (k := kk))
    exact n σ _ _ k (kp3.trans kp) R4
  · have en : dropKD ks kk = ks := by
      unfold dropKD
      rw [List.filter_eq_self]
      intro p hp
      have ha : (xs.any fun kv => decide (kv.1 = (Sum.inl kk : Key))) = false := by
        have := valV_any (Sum.inl kk : Key) xs
        rw [hv] at this
        exact this
      rw [RepK.any kk rr] at ha
      rw [List.any_eq_false] at ha
      simpa using ha p hp
    rw [en] at k
    have es : e2.set j (.bd a ks) = e2 := by
      obtain ⟨hl, e⟩ := List.getElem?_eq_some_iff.mp e2j
      rw [← e]
      exact List.set_getElem_self hl
    rw [es] at k
    exact n σ H3 e2 k kp3 R3
theorem Reps.erase : ∀ {xs : List V} {ds : List Dat} (n : Nat), Reps C H xs ds → Reps C H (xs.eraseIdx n) (ds.eraseIdx n)
  | _, _, _, .nil => .nil
  | _, _, 0, .cons _ r => r
  | _, _, n + 1, .cons a r => .cons a (Reps.erase n r)
/-- xs.pop(z), a list of one's own at a name -/
theorem ex_pop {i : Nat} {ds0 : List Dat} (e : env[i]? = some (.ow ds0)) (h : EX C te env fun s e' => ∃ (z : Nat) (d : Dat) (ds : List Dat), s = .im (.int (z : Int)) ∧ e'[i]? = some (.ow ds) ∧ ds[z]? = some d ∧ ds.length < 1000000 ∧ K (.im d) (e'.set i (.ow (ds.eraseIdx z)))) : EX C (tBM F "list" rPopAt (tVar i) (tCons te tNil)) env K := fun B H0 σ H R Q q => by
  obtain ⟨v, hv, l, xs, ev, h0, nb, hl, rr⟩ := R.at B e (fun z => nomatch z)
  subst ev
  refine ⟨_, hv, .inl ⟨rfl, xs, .inl (.inl hl)⟩, ?_⟩
  refine h B H0 σ H R _ fun s e' w H1 ⟨z, d, ds, es, e2, hd, hlen, k⟩ _ f o R1 ok _ => ?_
  subst es
  obtain ⟨v', hv', l', xs', ev', h0', nb', hl', rr'⟩ := R1.at B e2 (fun z => nomatch z)
  rw [hv] at hv'
  cases hv'
  cases ev'
  obtain ⟨x, hx, rx⟩ := rr'.get hd
  have hz : z < ds.length := (List.getElem?_eq_some_iff.mp hd).1
  have kp : Kp C H1 (upd H1 l (.lst (xs'.eraseIdx z))) := kp_mut hl' imm_lst
  refine ⟨l, xs', (z : Int), z, x, rfl, by rw [rep_int ok], hl', by omega, by omega, ?_, hx, ?_⟩
  · unfold seqIndex?
    rw [rr'.length]
    simp only [show ¬ ((z : Int) < 0) by omega, if_false]
    rw [decide_eq_true (show (0 : Int) ≤ z by omega), decide_eq_true (show (z : Int) < ds.length by omega)]
    simp
  · have hv1 := hv
    refine q _ _ x _ k trivial ?_ (fun a w => o a ?_) (R1.retell e2 hv hl' imm_lst lst_ni trivial (fun _ z => nomatch z) ⟨l, _, rfl, h0, nb, upd_same, (rr'.erase z).mono kp⟩) (Rep.mono kp rx) fun z => z.elim
    · exact f.trans (frz_frm e2 trivial hv) o
    · obtain ⟨j, s, ej, oj, gj⟩ := w
      by_cases hj : i = j
      · subst hj
        rw [hv] at gj
        cases gj
        exact ⟨i, _, e2, trivial, hv⟩
      · rw [List.getElem?_set_ne hj] at ej
        exact ⟨j, s, ej, oj, gj⟩
/-- dict(d) -/
theorem cx_dict {ks : List (Int × Dat)} (h1 : rdd env s1 = some ks) (h : k (.od ks)) : CXd C (fun xs H Q => ∃ (a : Addr) (kvs : List (Key × V)), xs = [.ref a] ∧ Rd H a (.dK kvs) ∧ ∀ p, H p = none → Q (.ref p) (upd H p (.dK kvs))) [s1] env k := fun B H0 σ H vs R p Q q => by
  obtain ⟨v, e, ok⟩ := one p
  obtain ⟨l, xs, e2, hl, r⟩ := rdd_ok R ok h1
  refine ⟨l, xs, by rw [e, e2], hl, fun p hp => ?_⟩
  obtain ⟨okn, sm⟩ := new_od R hp r
  exact q _ _ _ h trivial sm okn fun _ a ea => by cases ea; exact hp
/-- sorted(d), its keys -/
theorem RepK.keys : ∀ {xs : List (Key × V)} {ks : List (Int × Dat)}, RepK C H xs ks → xs.map (·.1) = (ks.map (·.1)).map Sum.inl
  | _, _, .nil => rfl
  | _, _, .cons _ r => by rw [List.map_cons, List.map_cons, List.map_cons, r.keys]
theorem cx_sortedD {ks : List (Int × Dat)} (h1 : rdd env s1 = some ks) (hz : ks.length < 64) (h : ∀ ys : List Int, ys.Perm (ks.map (·.1)) → ys.Pairwise (· ≤ ·) → k (.ow (ys.map Dat.int))) : CXd C (fun xs H Q => ∃ (a : Addr) (kvs : List (Key × V)) (ks : List Int), xs = [.ref a] ∧ Rd H a (.dK kvs) ∧ kvs.map (·.1) = ks.map Sum.inl ∧ ks.length < 64 ∧
    ∀ (ys : List Int) (p : Addr), ys.Perm ks → ys.Pairwise (· ≤ ·) → H p = none → Q (.ref p) (upd H p (.lst (ys.map V.int)))) [s1] env k := fun B H0 σ H vs R p Q q => by
  obtain ⟨v, e, ok⟩ := one p
  obtain ⟨l, xs, e2, hl, r⟩ := rdd_ok R ok h1
  refine ⟨l, xs, ks.map (·.1), by rw [e, e2], hl, r.keys, by rw [List.length_map]; exact hz, fun ys p h1 h2 hp => ?_⟩
  obtain ⟨okn, sm⟩ := new_ow R hp (Reps.of_ints ys)
  exact q _ _ _ (h ys h1 h2) trivial sm okn fun _ a ea => by cases ea; exact hp
theorem cx_max2 {i j : Int} (h : k (.im (.int (if j > i then j else i)))) : CXd C (fun xs H Q => ∃ i j, xs = [.int i, .int j] ∧ Q (.int (if j > i then j else i)) H) [.im (.int i), .im (.int j)] env k := fun B H0 σ H vs R p Q q => by
  obtain ⟨v, v', e, a, b⟩ := two p
  exact ⟨i, j, by rw [e, rep_int a, rep_int b], q _ _ _ h trivial (Same.refl _) (.int _) fun z => z.elim⟩
theorem cx_min2 {i j : Int} (h : k (.im (.int (if j < i then j else i)))) : CXd C (fun xs H Q => ∃ i j, xs = [.int i, .int j] ∧ Q (.int (if j < i then j else i)) H) [.im (.int i), .im (.int j)] env k := fun B H0 σ H vs R p Q q => by
  obtain ⟨v, v', e, a, b⟩ := two p
  exact ⟨i, j, by rw [e, rep_int a, rep_int b], q _ _ _ h trivial (Same.refl _) (.int _) fun z => z.elim⟩
/-- x, y = a, b -/
theorem sx_par {i j : Nat} (h : EX C ta env fun s1 e1 => EX C tb e1 fun s2 e2 => (∀ m, s1 ≠ .pr m) ∧ (∀ m, s2 ≠ .pr m) ∧ W.nx ((e2.set i s1).set j s2)) : SX C (tPar i j (tCons ta (tCons tb tNil))) env W := fun B H0 σ H R D n r b c => by
  refine h B H0 σ H R _ fun s1 e1 x H1 h1 r1 f1 o1 R1 k1 n1 => ?_
  refine h1 B H0 σ H1 R1 _ fun s2 e2 y H2 ⟨np1, np2, k⟩ r2 f2 o2 R2 k2 n2 => ?_
  refine ⟨x, y, rfl, ?_⟩
  have o12 : ∀ a, Owned σ e2 a → Owned σ env a := fun a w => o1 a (o2 a w)
  have R3 := R2.set (i := i) (k1.frm R1 f2 r1 (n1.own R o1)) r1 np1 (n1.own R o12)
  have ok4 : SlOk C B H0 H2 (σ.set i (some x)) y s2 := by
    cases s2 with
    | pr m => exact absurd rfl (np2 m)
    | _ => exact k2
  refine n _ H2 _ k ((R.kp f1).trans (R1.kp f2)) (R3.set ok4 r2 np2 fun ow a ea w => ?_)
  have hn : H1 a = none := n2 ow a ea
  obtain ⟨m, s, em, om, gm⟩ := w
  by_cases hm : i = m
  · subst hm
    by_cases hl : i < e2.length
    · rw [List.getElem?_set_self hl] at em
      cases em
      rw [List.getElem?_set_self (by rw [R2.len]; exact hl)] at gm
      cases gm
      cases s1 with
      | ow ds =>
        obtain ⟨l, xs, e, _, _, hl', _⟩ := k1
        cases e
        rw [hn] at hl'
        cases hl'
      | od ds =>
        obtain ⟨l, xs, e, _, _, hl', _⟩ := k1
        cases e
        rw [hn] at hl'
        cases hl'
      | _ => exact om.elim
    · rw [List.getElem?_eq_none (by rw [List.length_set]; omega)] at em
      cases em
  · rw [List.getElem?_set_ne hm] at em gm
    exact n2.own R1 o2 ow a ea ⟨m, s, em, om, gm⟩
/-- while -/
theorem sx_while {tt : TT} {tbd : TS} (Iv : Nat → Sls → Prop) (m0 : Nat) (h0 : Iv m0 env) (hs : ∀ m e, Iv m e → ET C tt e fun b e' => if b = true then SX C tbd e' { nx := fun e2 => ∃ m', m' < m ∧ Iv m' e2, rt := W.rt, bk := W.nx, ct := fun e2 => ∃ m', m' < m ∧ Iv m' e2 } else W.nx e') : SX C (tWhile tt tbd) env W := fun B H0 σ H R D n r b c => by
  refine ⟨fun m σ' H' => ∃ e, Iv m e ∧ RepE C B H0 H' σ' e ∧ Kp C H H', ⟨m0, env, h0, R, .refl⟩, ?_⟩
  rintro m σ' H' ⟨e, ie, R', kp⟩
  refine hs m e ie B H0 σ' H' R' _ fun bb e1 H1 k f o R1 => ?_
  have kp1 := kp.trans (R'.kp f)
  cases bb with
  | true =>
    rw [if_pos rfl] at k
    rw [if_pos rfl]
    refine ⟨fun σ2 H2 => ∃ m', m' < m ∧ ∃ e, Iv m' e ∧ RepE C B H0 H2 σ2 e ∧ Kp C H H2, fun σ2 H2 h => h, ?_⟩
    exact k B H0 σ' H1 R1 _ (fun σ2 H2 e2 ⟨m', hm, i2⟩ kp2 R2 => ⟨m', hm, e2, i2, R2, kp1.trans kp2⟩) r (fun σ2 H2 e2 k2 kp2 R2 => n σ2 H2 e2 k2 (kp1.trans kp2) R2) (fun σ2 H2 e2 ⟨m', hm, i2⟩ kp2 R2 => ⟨m', hm, e2, i2, R2, kp1.trans kp2⟩)
  | false =>
    have k : W.nx e1 := k
    exact n σ' H1 e1 k kp1 R1
/-! ### an instance in the making -/
def putFd (f : Str) (d : Dat) : List (Str × Dat) → List (Str × Dat)
  | [] => [(f, d)]
  | (g, x) :: r => if g = f then (g, d) :: r else (g, x) :: putFd f d r
theorem RepF.put {f : Str} {x : V} {d : Dat} (h : Rep C H x d) : ∀ {vs : List (Str × V)} {fs : List (Str × Dat)}, RepF C H vs fs → RepF C H (putF f x vs) (putFd f d fs)
  | _, _, .nil => .cons h .nil
  | _, _, .cons (f := g) a r => by
    unfold putF putFd
    by_cases e : g = f
    · rw [if_pos e, if_pos e]
      exact .cons h r
    · rw [if_neg e, if_neg e]
      exact .cons a (r.put h)
theorem sx_fldM {i : Nat} {f : Str} {p c : Addr} {fs : List (Str × Dat)} (_ : env[i]? = some (.mk p c fs)) (hc : Cls F c) (hn : NoAttr F c f) (hne : c ≠ C) (hlen : fs.length < 999) (h : EX C te env fun s e => ∃ d, s = .im d ∧ e[i]? = some (.mk p c fs) ∧ NoAd p (e.set i .un) ∧ W.nx (e.set i (.mk p c (putFd f d fs)))) : SX C (sFld F (tVar i) te f) env W := fun B H0 σ H R D n r b c' => by
  refine h B H0 σ H R _ fun s e w H1 ⟨d, es, ei, no, k⟩ _ f1 o R1 ok _ => ?_
  subst es
  obtain ⟨v, hv, ev, hB, dx, vs, hp, rr⟩ := R1.at B ei (fun z => nomatch z)
  subst ev
  have ni : ∀ vs, ¬ Imm C (.ins c dx vs) := fun vs z => hne z.1
  have kp : Kp C H1 (upd H1 p (.ins c dx (putF f w vs))) := kp_mut hp (ni vs)
  refine ⟨_, hv, p, c, dx, vs, rfl, hp, hc, hn, by rw [rr.length]; omega, ?_⟩
  obtain ⟨R2, f2, o2⟩ := R1.bump ei rfl rfl no hp (ni vs) (ni (putF f w vs)) hB (s' := .mk p c (putFd f d fs)) rfl ⟨rfl, hB, dx, _, upd_same, (rr.mono kp).put (Rep.mono kp ok)⟩
  exact n σ _ _ k ((R.kp f1).trans kp) R2
end
end Af
end

section
set_option maxHeartbeats 4000000
/-! An instance that is made: its __init__ runs under another class's eyes. -/
namespace Af
open PySem L2
mutual
def noObj : Dat → Bool
  | .tup l => noObjs l
  | .lst l => noObjs l
  | .dct l => noObjK l
  | .obj _ => false
  | _ => true
def noObjs : List Dat → Bool
  | [] => true
  | d :: l => noObj d && noObjs l
def noObjK : List (Int × Dat) → Bool
  | [] => true
  | (_, d) :: l => noObj d && noObjK l
end
def noObjF : List (Str × Dat) → Bool
  | [] => true
  | (_, d) :: l => noObj d && noObjF l
theorem noObjs_all : ∀ {l : List Dat}, (∀ d ∈ l, noObj d = true) → noObjs l = true
  | [], _ => rfl
  | d :: l, h => by
    rw [noObjs, h d List.mem_cons_self, noObjs_all fun x hx => h x (List.mem_cons_of_mem _ hx)]
    rfl
theorem noObjs_map {α : Type} {enc : α → Dat} {xs : List α} (h : ∀ x, noObj (enc x) = true) : noObjs (xs.map enc) = true :=
  noObjs_all fun d hd => by
    obtain ⟨x, _, e⟩ := List.mem_map.mp hd
    rw [← e]
    exact h x
theorem noObj_ints (ns : List Int) : noObjs (ns.map Dat.int) = true := noObjs_map fun _ => rfl
section
variable {C D : Addr} {H : Hp}
mutual
theorem Rep.conv : ∀ {v : V} {d : Dat}, noObj d = true → Rep C H v d → Rep D H v d
  | _, _, _, .non => .non
  | _, _, _, .bl b => .bl b
  | _, _, _, .int i => .int i
  | _, _, _, .str x => .str x
  | _, _, _, .ty x => .ty x
  | _, _, _, .cls x => .cls x
  | _, _, n, .tup h r => .tup h (Reps.conv (by rw [noObj] at n; exact n) r)
  | _, _, n, .lst h r => .lst h (Reps.conv (by rw [noObj] at n; exact n) r)
  | _, _, n, .dct h r => .dct h (RepK.conv (by rw [noObj] at n; exact n) r)
  | _, _, n, .obj h l r => by rw [noObj] at n; cases n
theorem Reps.conv : ∀ {vs : List V} {ds : List Dat}, noObjs ds = true → Reps C H vs ds → Reps D H vs ds
  | _, _, _, .nil => .nil
  | _, _, n, .cons a r => by
    rw [noObjs, Bool.and_eq_true] at n
    exact .cons (Rep.conv n.1 a) (Reps.conv n.2 r)
theorem RepK.conv : ∀ {vs : List (Key × V)} {ds : List (Int × Dat)}, noObjK ds = true → RepK C H vs ds → RepK D H vs ds
  | _, _, _, .nil => .nil
  | _, _, n, .cons a r => by
    rw [noObjK, Bool.and_eq_true] at n
    exact .cons (Rep.conv n.1 a) (RepK.conv n.2 r)
end
theorem RepF.conv : ∀ {vs : List (Str × V)} {ds : List (Str × Dat)}, noObjF ds = true → RepF C H vs ds → RepF D H vs ds
  | _, _, _, .nil => .nil
  | _, _, n, .cons a r => by
    rw [noObjF, Bool.and_eq_true] at n
    exact .cons (Rep.conv n.1 a) (RepF.conv n.2 r)
end
abbrev DI := List Dat → (List (Str × Dat) → Prop) → Prop
def SpI (C : Addr) (D : DI) : Sp := fun vs H Q _ => ∃ (x dx : Addr) (vs' : List V) (ds : List Dat) (k : List (Str × Dat) → Prop), vs = .ref x :: vs' ∧ H x = some (.ins C dx []) ∧ Reps C H vs' ds ∧ noObjs ds = true ∧ D ds k ∧
  ∀ fs H', k fs → (∀ a o, H a = some o → a ≠ x → H' a = some o) → (∃ dx' ws, H' x = some (.ins C dx' ws) ∧ RepF C H' ws fs) → Q .non H'
theorem ex_make {C : Addr} {env : Sls} {K : Sl → Sls → Prop} {t : TA} {E : XK} {D : DI} (h : EXA C t env fun ss e => ∃ ds, ss = ds.map Sl.im ∧ noObjs ds = true ∧ D ds fun fs => fs.length = 5 ∧ K (.im (.obj fs)) e) : EX C (tMake C (SpI C D) [] E t) env K := fun B H0 σ H R Q q =>
  h B H0 σ H R _ fun ss e1 vs H1 ⟨ds, es, hn, h1⟩ f1 o1 R1 p1 x dx hx hdx hne => by
    subst es
    have s1 : Same H1 (upd H1 dx (.own x)) := Same.new hdx
    have s2 : Same (upd H1 dx (.own x)) (upd (upd H1 dx (.own x)) x (.ins C dx [])) := Same.new (by rw [upd_ne (Ne.symm hne)]; exact hx)
    refine ⟨x, dx, vs, ds, _, by rw [List.append_nil], upd_same, ((reps_of p1).mono (Kp.same s1)).mono (Kp.same s2), hn, h1, fun fs H' ⟨hl, k⟩ hk ⟨dx', ws, hw, r⟩ => ⟨rfl, ?_⟩⟩
    have sm : Same H1 H' := fun a o ha => hk a o (s2 _ _ (s1 _ _ ha)) (fun z => by rw [z, hx] at ha; cases ha)
    exact q _ e1 _ H' k trivial (f1.trans (Frm.same sm) o1) o1 (R1.same sm) (.obj hw (by rw [r.length]; exact hl) r) fun z => z.elim
theorem fn_init {P : Program} {w : World} {K : PySem.W.Frag} {mg : Str → Option Value} {base : Heap} {C D0 : Addr} {x qual : Str} {stm : Stmt} {f : Addr} {fd : FuncData} {N ps : List Str} {k : Nat} {D : DI} (F : Fun K x qual stm f fd) (S : FnScope N ps (defScope stm)) (hne : C ≠ D0)
    (len : ∀ ds k, D ds k → ds.length + 1 = ps.length) (hps : ps.length ≤ N.length)
    (hbody : ∀ (cdv : Value) (A : Around) (outer : List PySem.Env) (s : Shared) (H : Hp) (E : XK) (ds : List Dat) (p : Addr) (kk : List (Str × Dat) → Prop), Room k (A.deeper (PyProof.Rows.envOfC qual (defScope stm) s.heap.objs.size f cdv)) → D ds kk →
      ∃ t, PSs (cxOf CX0 P w K mg base N qual (defScope stm) f cdv A outer s H E).nox (defBody stm) t ∧
        SX D0 t ((.mk p C [] :: ds.map Sl.im) ++ List.replicate (N.length - ps.length) .un) { nx := fun e => ∃ fs, e[0]? = some (.mk p C fs) ∧ noObjF fs = true ∧ kk fs, rt := fun _ _ => False }) : FnOk P w K mg base CX0 (k + 1) f fd ps (SpI C D) := by
  refine F.ok S (fun vs H Q E h => ?_) (fun cdv A outer s H vs Q E hr h => ?_)
  · obtain ⟨p, dx, vs', ds, kk, ev, hx, hreps, hn, hd, _⟩ := h
    rw [ev, List.length_cons, hreps.length]
    exact len _ _ hd
  · obtain ⟨p, dx, vs', ds, kk, ev, hx, hreps, hn, hd, hq⟩ := h
    obtain ⟨t, ht, hs⟩ := hbody cdv A outer s H E ds p kk hr hd
    have lv : vs.length = ps.length := by rw [ev, List.length_cons, hreps.length]; exact len _ _ hd
    have es : L2.start N vs = vs.map some ++ List.replicate (N.length - ps.length) none := by unfold L2.start; rw [lv]
    have ok0 : ∀ σ : L2.St, SlOk D0 (fun a => a = p) H H σ (.ref p) (.mk p C []) := fun σ => ⟨rfl, rfl, dx, [], hx, .nil⟩
    have al : Al (fun v s => SlOk D0 (fun a => a = p) H H [] v s) (vs.map some ++ List.replicate (N.length - ps.length) none) ((.mk p C [] :: ds.map Sl.im) ++ List.replicate (N.length - ps.length) .un) := by
      refine (Al.vals ?_).app Al.un
      rw [ev]
      exact .cons (ok0 []) (paired_im (hreps.conv hn))
    have kind : ∀ s ∈ ((.mk p C [] :: ds.map Sl.im) ++ List.replicate (N.length - ps.length) Sl.un), ¬ OwnS s ∧ ∀ m, s ≠ .pr m := fun s hs => by
      rcases List.mem_append.mp hs with hs | hs
      · rcases List.mem_cons.mp hs with q | q
        · rw [q]
          exact ⟨id, fun _ z => nomatch z⟩
        · obtain ⟨d, _, e⟩ := List.mem_map.mp q
          subst e
          exact ⟨id, fun _ z => nomatch z⟩
      · rw [List.eq_of_mem_replicate hs]
        exact ⟨id, fun _ z => nomatch z⟩
    have R : RepE D0 (fun a => a = p) H H (vs.map some ++ List.replicate (N.length - ps.length) none) ((.mk p C [] :: ds.map Sl.im) ++ List.replicate (N.length - ps.length) .un) := by
      refine ⟨al.len, fun i s e => ?_, fun i j s u v e1 e2 o1 o2 _ _ => absurd o1 (kind s (List.mem_of_getElem? e1)).1, fun i m e => (kind _ (List.mem_of_getElem? e)).2 m rfl, fun a o h _ => h, fun a b => ⟨.ins C dx [], by subst b; exact hx, fun z => hne (show C = D0 ∧ _ from z).1⟩⟩
      rcases al.at' i s e with h | ⟨v, hv, ok⟩
      · exact .inl h
      · refine .inr ⟨v, hv, ?_⟩
        cases s with
        | pr m => exact absurd rfl ((kind _ (List.mem_of_getElem? e)).2 m)
        | _ => exact ok
    refine ⟨t, ht, ?_⟩
    rw [es]
    refine hs _ H _ H R _ (fun σ' H' e' k' kp R' => ?_) (fun s v' e' σ' H' k' R' ok => k'.elim) (fun _ _ _ z => z.elim) (fun _ _ _ z => z.elim)
    obtain ⟨fs, h0, hno, k'⟩ := k'
    refine hq fs H' k' (fun a o h na => R'.base a o h na) ?_
    obtain ⟨v, hv, ev', _, dx', ws, hp, r⟩ := R'.at _ h0 (fun z => nomatch z)
    exact ⟨dx', ws, hp, r.conv hno⟩
end Af
end

section
set_option maxHeartbeats 4000000
/-! Rules of the machine that the layer lacks: enumerate(tuple). -/
namespace Af
open PySem PySem.Spec PyProof.Rows L2
set_option maxHeartbeats 1000000 in
theorem meets_enumerate_newA {v : Value} {o : Obj} {H : Heap → Prop} (B : Begins v o H) :
    Meets (Builtin.«enumerate.__new__» ⟨[.type "enumerate", v], []⟩) (fun _ R s => H s.heap ∧
      R (.ok (.ret (.ref (s.heap.push o).objs.size))) { s with heap := (s.heap.push o).push { cls := .type "enumerate", data := .fields #[.none, .bool false, .ref s.heap.objs.size, rawInt 0, .none, .none] } }) :=
  .of_wp fun prog w A R s h => by
    obtain ⟨hp, g, d, tk, os⟩ := s; obtain ⟨h1, h⟩ := h
    have hsub := sub_enumerate
    have q1 : ∀ {A' : Around} {E : Value → Shared → Prop} {Q : Value → Shared → Prop}, Q (.ref hp.objs.size) ⟨hp.push o, g, d, tk, os⟩ → wpAny (model prog w) A' (pyIter v) Q E ⟨hp, g, d, tk, os⟩ :=
      fun q => B.iter prog w _ _ ⟨hp, g, d, tk, os⟩ _ h1 q
    wp_walk using q1
    refine wpAny_stack_any fun st => wpAny_pure ?_
    split
    · rename_i c _ _ _ _ _
      cases (c == Value.type "enumerate")
      · wp_walk using q1
        exact ⟨_, rfl, h⟩
      · wp_walk using q1
        exact ⟨_, rfl, h⟩
    · wp_walk using q1
      exact ⟨_, rfl, h⟩
section
variable {prog : Program} {w : World} {A : Around} {E : Value → Shared → Prop} {s : Shared}
theorem call_enumerate_tup {l : Addr} {items : Array Value} {Q : Value → Shared → Prop} (hL : s.heap.IsTuple l items)
    (h : ∀ h', IsEnum h' (s.heap.objs.size + 1) s.heap.objs.size 0 .none → h'.IsTupleIter s.heap.objs.size l 0 → h'.objs.size = s.heap.objs.size + 2 →
      (∀ b o, s.heap.get? b = some o → h'.get? b = some o) → Q (.ref (s.heap.objs.size + 1)) { s with heap := h' }) :
    wpAny (model prog w) A (call (.type "enumerate") [.ref l]) Q E s := by
  refine callType_new F.called_enumerate (by decide) (F.typeCall_enumerate_1 _) (F.newCall_enumerate_1 _) (fun obj => F.args_object_init_2 obj _) F.entry_enumerate_new
    (meets_enumerate_newA (begins_tuple l items)) ⟨hL, ?_⟩
  have hz : (s.heap.push { cls := .type "tuple_iterator", data := .fields #[.ref l, .int 0 0] }).objs.size = s.heap.objs.size + 1 := Heap.size_push ..
  show _ ∧ _
  rw [hz]
  have he : IsEnum ((s.heap.push { cls := .type "tuple_iterator", data := .fields #[.ref l, .int 0 0] }).push
      { cls := .type "enumerate", data := .fields #[.none, .bool false, .ref s.heap.objs.size, rawInt 0, .none, .none] }) (s.heap.objs.size + 1) s.heap.objs.size 0 .none := by
    have := Heap.get?_push_size (s.heap.push { cls := .type "tuple_iterator", data := .fields #[.ref l, .int 0 0] })
      (o := { cls := .type "enumerate", data := .fields #[.none, .bool false, .ref s.heap.objs.size, rawInt 0, .none, .none] }) rfl
    rw [hz] at this; exact this
  refine ⟨⟨_, he, rfl⟩, h _ he ⟨_, Heap.get?_push_of_some _ (Heap.get?_push_size _ rfl), rfl, rfl⟩ (by rw [Heap.size_push, hz]) fun b o x => Heap.get?_push_of_some _ (Heap.get?_push_of_some _ x)⟩
end
/-- the tuple at a, each item in a new pair -/
def Itet (K : PySem.W.Frag) (a : Addr) : It :=
  ⟨fun i H => ∃ (xs : List V) (x : V), SqT K H a xs ∧ xs[i]? = some x, fun i H v H' => ∃ T x, v = .ref T ∧ H T = none ∧ H' = upd H T (.tup [.int (i : Nat), x]) ∧ ∀ xs, SqT K H a xs → xs[i]? = some x, fun i H => ∃ xs : List V, SqT K H a xs ∧ xs.length ≤ i⟩
theorem turn_enumT {P : Program} {w : World} {K : PySem.W.Frag} {elts : List Expr} {kk : Nat} {tpos : Pos} (a e it : Addr) :
    Turn P w K (.Tuple elts kk tpos) (Itet K a) [e, it] e (fun i h => (∃ old, IsEnum h e it ((i : Nat) : Int) old) ∧ h.IsTupleIter it a i ∧ e ≠ it ∧ a ≠ it ∧ e ≠ a) where
  mem := by simp
  obj := fun i h st b hb => by
    obtain ⟨⟨old, he⟩, ⟨o, ho, hc, hd⟩, _⟩ := st
    have e' : b = e ∨ b = it := by simpa using hb
    rcases e' with z | z
    · rw [z]; exact ⟨_, he, fun v q => nomatch q⟩
    · rw [z]; exact ⟨o, ho, fun v q => by rw [hd] at q; cases q⟩
  keep := fun i h h' st k => let ⟨⟨old, he⟩, hi, hne⟩ := st; ⟨⟨old, k e (by simp) _ he⟩, hi.at fun o q => k it (by simp) o q, hne⟩
  item := by
    intro X hP hw hK hc i pins s σ H E I hf st hg
    subst hP hw hK
    obtain ⟨⟨old, he⟩, hit, hne, hai, hea⟩ := st
    obtain ⟨xs, x, hq, hx⟩ := hg
    obtain ⟨its, rv, p, hz⟩ := I.tuple hq
    obtain ⟨u, hu, ru⟩ := rv.get hx
    have hel : e < s.heap.objs.size := Heap.lt_size he
    have hil : it < s.heap.objs.size := by obtain ⟨_, q, _⟩ := hit; exact Heap.lt_size q
    have hpt : s.heap.IsTuple a its.toArray := p
    have D := Draws.tuple (prog := X.prog) (w := X.w) (A := X.A.in1) (I.ok.hd hc) it a hai its.toArray
    have hlt : i < its.toArray.size := by
      have := (List.getElem?_eq_some_iff.mp hu).1
      simpa using this
    refine wpAny_pyNext_enum_itemD D he ⟨hit, hpt⟩ hlt hne (by simp [hne, hea]) fun x' h' tk hpx ho hst hT hsz hk => ?_
    have ex : x' = u := by
      have : its[i]? = some x' := by simpa using hpx
      rw [hu] at this
      exact (Option.some.inj this).symm
    subst ex
    refine ⟨_, rfl, wpAny_letOwnedTupleGo_enum (s := { s with heap := h', toks := tk + 1 }) ho fun h'' he' sb => ?_⟩
    have hT2 : h''.get? s.heap.objs.size = some { cls := .type "tuple", data := .seq #[.int i tk, x'] } := (sb.2 _ (Nat.ne_of_gt hel)).trans hT
    have new : ObjOk X.prog X.w (upd H s.heap.objs.size (.tup [.int (i : Nat), x])) h'' s.heap.objs.size (.tup [.int (i : Nat), x]) :=
      ⟨by show 2 ≤ sizeLine; decide, [.int i tk, x'], .cons ⟨_, rfl⟩ (.cons ru .nil), ⟨_, hT2, rfl, _, rfl⟩⟩
    have I1 : Inv X pins σ (upd H s.heap.objs.size (.tup [.int (i : Nat), x])) { s with heap := h'', toks := tk + 1 } :=
      I.turnedNew (ch := [e, it]) (fun b ob hb q => (sb.2 b (fun z => hb (by simp [z]))).trans (hk b ob (fun z => hb (by simp [z])) (fun z => hb (by simp [z])) q)) hf (Nat.le_refl _) new
    refine ⟨.ref s.heap.objs.size, _, I1, rfl, ⟨_, x, rfl, I.hok.fresh (Nat.le_refl _), rfl, fun ys hy => by rw [I.tuple_inj hy hq]; exact hx⟩, ⟨⟨x', ?_⟩, hst.1.at fun o q => (sb.2 it (Ne.symm hne)).trans q, hne, hai, hea⟩, fun b hb => ?_⟩
    · have e1 : ((i + 1 : Nat) : Int) = (i : Int) + 1 := by omega
      rw [e1]; exact he'
    · have hb' : b < s.heap.objs.size := by
        have e' : b = e ∨ b = it := by simpa using hb
        rcases e' with z | z
        · rw [z]; exact hel
        · rw [z]; exact hil
      rw [upd_ne (Nat.ne_of_lt hb')]
      exact (hf b hb).1
  done := by
    intro X hP hw hK hc i pins s σ H E I hf st hg
    subst hP hw hK
    obtain ⟨⟨old, he⟩, hit, hne, hai, hea⟩ := st
    obtain ⟨xs, hq, hx⟩ := hg
    obtain ⟨its, rv, p, hz⟩ := I.tuple hq
    obtain ⟨f0, f1, f2, f3, f4, f5⟩ := hf it (by simp)
    have hl := rv.length
    have hpt : s.heap.IsTuple a its.toArray := p
    have hT : s.TypeIs (.ref e) "enumerate" := ⟨_, he, rfl⟩
    have hh : X.A.in1.handled = none := I.ok.hd hc
    unfold pyNext
    refine wpAny_bind (wpAny_attempt (wpAny_callSpecial?_slot (name := Str.ofString "__next__") hT F.slot_enumerate_next
      (wpAny_call_entry F.slot_enumerate_next hT F.entry_enumerate_next ?_ (F.args_enumerate_next_1 _))))
    show wpAny _ _ (field (.ref e) 2 >>= _) _ _ _
    refine wpAny_bind (wpAny_field he rfl (x := .ref it) rfl ?_)
    refine wpAny_bind (wpAny_nextOf_tuple_end hh hit hpt (by simp; omega) fun h' x he' hx' => ?_)
    obtain ⟨o, ho, hc'⟩ := hx'
    refine wpAny_bind (wpAny_isInstance (T := "StopIteration") (b := true) ⟨o, ho, hc'⟩ isSubtype_stop ?_)
    exact wpAny_pure ⟨rfl, I.turned (t' := s.toks) (fun b o hb q => he' b o hb q) f0 f1 f3 f4 f5⟩
  self := fun A i s Q E st h => let ⟨⟨_, he⟩, _⟩ := st; wpAny_pyIter_enum he h
def iEnumT (K : PySem.W.Frag) (ta : TA) : TI := fun σ H R => ta σ H fun vs H1 => ∃ a xs, vs = [.ref a] ∧ SqT K H1 a xs ∧ R (Itet K a) H1
theorem pi_enumT {X : Cx} {e : Expr} {ta : TA} {p pos tpos : Pos} {elts : List Expr} {kk : Nat} (hg : Gl X "enumerate") (hm : X.mg "enumerate" = none) (ha : PA X [e] ta) (hs : starEach [e] X.env = [(false, eval e X.env)] := by rfl) :
    PI X (.Tuple elts kk tpos) (.Call (.Name "enumerate" p) [e] [] pos) (iEnumT X.K ta) := by
  refine ⟨fun pins s σ H R I h => ?_⟩
  refine Call_ (ld_blt I hg hm boot_enumerate (PyProof.Rows.callWith_type1 (thn (ha.run pos pins s σ H _ I h) fun us s1 ⟨vs, H1, I1, r1, q1⟩ => ?_) hs rfl))
  obtain ⟨a, xs, ex, hq, q⟩ := q1
  subst ex
  cases r1 with
  | cons r rr =>
    cases rr
    cases r
    obtain ⟨its, rv, p', hz⟩ := I1.tuple hq
    have hpt : s1.heap.IsTuple a its.toArray := p'
    have hal : a < s1.heap.objs.size := by obtain ⟨o, ho, _⟩ := hpt; exact Heap.lt_size ho
    refine call_enumerate_tup hpt fun h' he hit hsz hk => wpAny_pyIter_enum he ?_
    have I2 : Inv X pins σ H1 { s1 with heap := h' } := I1.kept (t' := s1.toks) hk
    refine ⟨s1.heap.objs.size + 1, [s1.heap.objs.size + 1, s1.heap.objs.size], _, _, H1, rfl, I2, turn_enumT a (s1.heap.objs.size + 1) s1.heap.objs.size, ⟨⟨.none, he⟩, hit, Nat.succ_ne_self _, Nat.ne_of_lt hal, Nat.ne_of_gt (Nat.lt_succ_of_lt hal)⟩, fun b hb => ?_, q⟩
    have e' : b = s1.heap.objs.size + 1 ∨ b = s1.heap.objs.size := by simpa using hb
    have hle : s1.heap.objs.size ≤ b := by
      rcases e' with z | z
      · rw [z]; exact Nat.le_add_right _ _
      · rw [z]; exact Nat.le_refl _
    exact I1.fpOk hle (I1.hok.fresh hle)
end Af
end

section
set_option maxHeartbeats 4000000
/-! dict(enumerate(tuple)). -/
namespace Af
open PySem PySem.Spec PyProof.Rows L2
section
variable {prog : Program} {w : World} {A : Around} {E : Value → Shared → Prop} {s : Shared}
theorem en_heldD {e it T : Addr} {fp : List Addr} {n i : Nat} {P : Nat → Value → Prop} {St : Nat → Heap → Prop} {old : Value} {f : Bool} {oT : Obj} {Q : Value → Shared → Prop}
    (D : Draws prog w A it fp n P St) (he : IsEnumHeld s.heap e it i old T f) (hT : s.heap.get? T = some oT) (hTe : T ≠ e) (hTi : T ≠ it) (hst : St i s.heap) (hlt : i < n) (hne : e ≠ it) (hef : e ∉ fp)
    (hQ : ∀ x h' tk, P i x → IsEnumHeld h' e it ((i : Int) + 1) old T true → St (i + 1) h' →
      h'.get? s.heap.objs.size = some { cls := .type "tuple", data := .seq #[.int i tk, x] } → h'.objs.size = s.heap.objs.size + 1 →
      (∀ b o, b ≠ e → b ≠ it → s.heap.get? b = some o → h'.get? b = some o) → Q (.ref s.heap.objs.size) { s with heap := h', toks := tk + 1 }) :
    wpAny (model prog w) A (Builtin.«enumerate.__next__» ⟨[.ref e], []⟩) (fun fin s' => ∃ v, fin = .done (.ret v) ∧ Q v s') E s := by
  obtain ⟨hp, g, d, tk0, os⟩ := s
  show wpAny _ _ (field (.ref e) 2 >>= _) _ _ _
  refine wpAny_bind (wpAny_field he rfl (x := .ref it) rfl ?_)
  refine wpAny_bind (D.item i _ _ _ hlt hst fun x h1 tk hP hit1 hs1 => ?_)
  replace hs1 : Heap.SameBut it hp h1 := hs1
  have he1 : IsEnumHeld h1 e it i old T f := (hs1.2 e hne).trans he
  show wpAny _ _ (field (.ref e) 3 >>= _) _ _ ⟨h1, g, d, tk, os⟩
  refine wpAny_bind (wpAny_field he1 rfl (x := rawInt i) rfl ?_)
  show wpAny _ _ (field (.ref e) 4 >>= _) _ _ ⟨h1, g, d, tk, os⟩
  refine wpAny_bind (wpAny_field he1 rfl (x := .none) rfl ?_)
  show wpAny _ _ (mkInt i >>= _) _ _ ⟨h1, g, d, tk, os⟩
  refine wpAny_bind (wpAny_mkInt ?_)
  show wpAny _ _ (setField (.ref e) 3 (rawInt ((i : Int) + 1)) >>= _) _ _ ⟨h1, g, d, tk + 1, os⟩
  refine wpAny_bind (wpAny_setField_rec he1 (by simp) fun h2 he2 hs2 => ?_)
  replace hs2 : Heap.SameBut e h1 h2 := hs2
  replace he2 : IsEnumHeld h2 e it ((i : Int) + 1) old T f := he2
  show wpAny _ _ (setField (.ref e) 4 .none >>= _) _ _ ⟨h2, g, d, tk + 1, os⟩
  refine wpAny_bind (wpAny_setField_rec he2 (by simp) fun h3 he3 hs3 => ?_)
  replace hs3 : Heap.SameBut e h2 h3 := hs3
  replace he3 : IsEnumHeld h3 e it ((i : Int) + 1) old T f := he3
  show wpAny _ _ (newTuple [.int i tk, x] >>= _) _ _ ⟨h3, g, d, tk + 1, os⟩
  refine wpAny_bind (wpAny_newTuple ?_)
  have he4 : IsEnumHeld (h3.push { cls := .type "tuple", data := .seq #[.int i tk, x] }) e it ((i : Int) + 1) old T f := Heap.get?_push_of_some _ he3
  generalize hh4 : h3.push { cls := .type "tuple", data := .seq #[.int i tk, x] } = h4 at he4
  have hsz : h3.objs.size = hp.objs.size := by rw [hs3.1, hs2.1, hs1.1]
  have hel : e < hp.objs.size := Heap.lt_size he
  have ht4 : h4.get? hp.objs.size = some { cls := .type "tuple", data := .seq #[.int i tk, x] } := by rw [← hh4, ← hsz]; exact Heap.get?_push_size _ rfl
  have hz4 : h4.objs.size = hp.objs.size + 1 := by rw [← hh4, Heap.size_push, hsz]
  have hk4 : ∀ b o, b ≠ e → b ≠ it → hp.get? b = some o → h4.get? b = some o := fun b o hbe hbi hb => by
    rw [← hh4]; exact Heap.get?_push_of_some _ (hs3.extBut b o hbe (hs2.extBut b o hbe (hs1.extBut b o hbi hb)))
  have hit4 : St (i + 1) h4 := D.frame _ _ _ hit1 fun b hb o y => by
    have hbe : b ≠ e := fun q => hef (q ▸ hb)
    rw [← hh4]; exact Heap.get?_push_of_some _ (hs3.extBut b o hbe (hs2.extBut b o hbe y))
  show wpAny _ _ (Builtin.SmallTypes.ownedTupleIsFree (.ref e) >>= _) _ _ ⟨h4, g, d, tk + 1, os⟩
  rw [hsz]
  clear hh4 he3 hs3 he2 hs2 he1 hs1 hit1 hsz h3 h2 h1
  refine wpAny_bind (wpAny_tupleHeld_enum (s := ⟨h4, g, d, tk + 1, os⟩) he4 (hk4 T oT hTe hTi hT) fun h5 he5 hs5 => ?_)
  replace hs5 : Heap.SameBut e h4 h5 := hs5
  simp only [Bool.false_eq_true, if_false]
  refine wpAny_pure ⟨_, rfl, hQ x h5 tk hP he5 (D.frame _ _ _ hit4 fun b hb o y => hs5.extBut b o (fun q => hef (q ▸ hb)) y) (hs5.extBut _ _ (Nat.ne_of_gt hel) ht4) ?_ fun b o hbe hbi hb => hs5.extBut b o hbe (hk4 b o hbe hbi hb)⟩
  show h5.objs.size = hp.objs.size + 1
  rw [hs5.1, hz4]
theorem nx_heldD {e it T : Addr} {fp : List Addr} {n i : Nat} {P : Nat → Value → Prop} {St : Nat → Heap → Prop} {old : Value} {f : Bool} {oT : Obj} {Q : Option Value → Shared → Prop}
    (D : Draws prog w A.in1 it fp n P St) (he : IsEnumHeld s.heap e it i old T f) (hT : s.heap.get? T = some oT) (hTe : T ≠ e) (hTi : T ≠ it) (hst : St i s.heap) (hlt : i < n) (hne : e ≠ it) (hef : e ∉ fp)
    (hQ : ∀ x h' tk, P i x → IsEnumHeld h' e it ((i : Int) + 1) old T true → St (i + 1) h' →
      h'.get? s.heap.objs.size = some { cls := .type "tuple", data := .seq #[.int i tk, x] } → h'.objs.size = s.heap.objs.size + 1 →
      (∀ b o, b ≠ e → b ≠ it → s.heap.get? b = some o → h'.get? b = some o) → Q (some (.ref s.heap.objs.size)) { s with heap := h', toks := tk + 1 }) :
    wpAny (model prog w) A (pyNext (.ref e)) Q E s := by
  have hTy : s.TypeIs (.ref e) "enumerate" := ⟨_, he, rfl⟩
  unfold pyNext
  exact wpAny_bind (wpAny_attempt (wpAny_callSpecial?_slot (name := Str.ofString "__next__") hTy F.slot_enumerate_next
    (wpAny_call_entry F.slot_enumerate_next hTy F.entry_enumerate_next
      (en_heldD D he hT hTe hTi hst hlt hne hef fun x h' tk a b c d k q => wpAny_pure (hQ x h' tk a b c d k q)) (F.args_enumerate_next_1 _))))
theorem nx_endD {e it T : Addr} {fp : List Addr} {n : Nat} {P : Nat → Value → Prop} {St : Nat → Heap → Prop} {i : Int} {old : Value} {f : Bool} {Q : Option Value → Shared → Prop}
    (D : Draws prog w A.in1 it fp n P St) (he : IsEnumHeld s.heap e it i old T f) (hst : St n s.heap)
    (hQ : ∀ h', Heap.ExtBut it s.heap h' → Q none { s with heap := h' }) : wpAny (model prog w) A (pyNext (.ref e)) Q E s := by
  have hTy : s.TypeIs (.ref e) "enumerate" := ⟨_, he, rfl⟩
  unfold pyNext
  refine wpAny_bind (wpAny_attempt (wpAny_callSpecial?_slot (name := Str.ofString "__next__") hTy F.slot_enumerate_next
    (wpAny_call_entry F.slot_enumerate_next hTy F.entry_enumerate_next ?_ (F.args_enumerate_next_1 _))))
  show wpAny _ _ (field (.ref e) 2 >>= _) _ _ _
  refine wpAny_bind (wpAny_field he rfl (x := .ref it) rfl ?_)
  refine wpAny_bind (D.done _ _ _ hst fun h' x he' hx' => ?_)
  obtain ⟨o, ho, hc⟩ := hx'
  refine wpAny_bind (wpAny_isInstance (T := "StopIteration") (b := true) ⟨o, ho, hc⟩ isSubtype_stop ?_)
  exact wpAny_pure (hQ _ he')
end
theorem pa_enumT {prog : Program} {w : World} (e it l : Addr) (hei : e ≠ it) (hle : l ≠ e) (hli : l ≠ it) (items : Array Value) :
    PairArg prog w "enumerate" e [e, it, l] [e, it] items.size (fun i k v => (∃ t, k = .int i t) ∧ items[i]? = some v)
      (fun h => (∃ old, IsEnum h e it 0 old) ∧ h.IsTupleIter it l 0 ∧ h.IsTuple l items) where
  type := fun s ok => let ⟨⟨_, he⟩, _⟩ := ok; ⟨_, he, rfl⟩
  notDict := by decide
  keep := fun h h' ok hk => by
    obtain ⟨⟨old, he⟩, hit, hl⟩ := ok
    exact ⟨⟨old, hk _ _ he⟩, hit.at fun o x => hk _ o x, hl.at fun o x => hk _ o x⟩
  there := fun h ok b hb => by
    obtain ⟨⟨old, he⟩, ⟨o1, h1, _⟩, ⟨o2, h2, _⟩⟩ := ok
    simp only [List.mem_cons, List.not_mem_nil, or_false] at hb
    rcases hb with rfl | rfl | rfl
    all_goals first | exact ⟨_, he⟩ | exact ⟨_, h1⟩ | exact ⟨_, h2⟩
  sub := fun b hb => by simp at hb ⊢; rcases hb with rfl | rfl <;> simp
  noKeys := fun A s Q E hA ok h => let ⟨⟨_, he⟩, _⟩ := ok; getAttrOr_miss_enumerate he rfl rfl rfl enumerate_no_keys (by decide +kernel) hA h
  iter := fun A s d Q E hA ok hd hdf h => by
    obtain ⟨⟨old, he⟩, hit, hl⟩ := ok
    simp only [List.mem_cons, List.not_mem_nil, or_false, not_or] at hdf
    obtain ⟨de, dit, dl⟩ := hdf
    refine wpAny_pyIter_enum he (h e [e, it] (fun i h => (h.IsTupleIter it l i ∧ h.IsTuple l items) ∧ ((∃ old, IsEnum h e it i old) ∨ ∃ old T f oT, IsEnumHeld h e it i old T f ∧ h.get? T = some oT ∧ T ≠ e ∧ T ≠ it ∧ T ≠ d)) s.heap s.toks ?_
      ⟨⟨hit, hl⟩, .inl ⟨old, he⟩⟩ (fun _ _ e => e) fun b hb => .inl hb)
    have D := Draws.tuple (prog := prog) (w := w) (A := A.in1) hA it l hli items
    have hef : e ∉ [it, l] := by simp [hei, Ne.symm hle]
    exact {
      off := fun hm => by
        simp only [List.mem_cons, List.not_mem_nil, or_false] at hm
        rcases hm with x | x
        · exact de x
        · exact dit x
      frame := fun i h₁ h₂ st hk => by
        obtain ⟨⟨hit, hl⟩, he⟩ := st
        refine ⟨⟨hit.at fun o x => hk _ o (Ne.symm dit) x, hl.at fun o x => hk _ o (Ne.symm dl) x⟩, ?_⟩
        rcases he with ⟨old, he⟩ | ⟨old, T, f, oT, he, hT, r1, r2, r3⟩
        · exact .inl ⟨old, hk _ _ (Ne.symm de) he⟩
        · exact .inr ⟨old, T, f, oT, hk _ _ (Ne.symm de) he, hk _ _ r3 hT, r1, r2, r3⟩
      item := fun i s₁ Q₁ E₁ hi st hds hQ => by
        obtain ⟨hst, he⟩ := st
        have ec : ((i + 1 : Nat) : Int) = (i : Int) + 1 := by omega
        have nit : s₁.heap.objs.size ≠ it := let ⟨_, x, _⟩ := hst.1; Nat.ne_of_gt (Heap.lt_size x)
        rcases he with ⟨old, he⟩ | ⟨old, T, f, oT, he, hT, r1, r2, r3⟩
        · refine wpAny_pyNext_enum_itemD D he hst hi hei hef fun x h' tk hP ho hst' hT hsz hk => ?_
          exact hQ s₁.heap.objs.size _ _ h' (tk + 1) ⟨⟨_, rfl⟩, hP⟩ (.inl ⟨_, hT, rfl, _, rfl⟩)
            ⟨hst', .inr ⟨_, s₁.heap.objs.size, false, _, (by rw [ec]; exact ho), hT, Nat.ne_of_gt (Heap.lt_size he), nit, Nat.ne_of_gt hds⟩⟩
            fun b o hb x => hk b o (fun y => hb (by simp [y])) (fun y => hb (by simp [y])) x
        · refine nx_heldD D he hT r1 r2 hst hi hei hef fun x h' tk hP ho hst' hT' hsz hk => ?_
          exact hQ s₁.heap.objs.size _ _ h' (tk + 1) ⟨⟨_, rfl⟩, hP⟩ (.inl ⟨_, hT', rfl, _, rfl⟩)
            ⟨hst', .inr ⟨old, T, true, oT, (by rw [ec]; exact ho), hk _ _ r1 r2 hT, r1, r2, r3⟩⟩
            fun b o hb x => hk b o (fun y => hb (by simp [y])) (fun y => hb (by simp [y])) x
      done := fun s₁ Q₁ E₁ st hQ => by
        obtain ⟨hst, he⟩ := st
        rcases he with ⟨old, he⟩ | ⟨old, T, f, oT, he, hT, r1, r2, r3⟩
        · exact wpAny_pyNext_enum_endD D he hst fun h' hk => hQ h' s₁.toks fun b o hb x => hk b o (fun y => hb (by simp [y])) x
        · exact nx_endD D he hst fun h' hk => hQ h' s₁.toks fun b o hb x => hk b o (fun y => hb (by simp [y])) x }
/-- what dict(enumerate(xs)) holds -/
def enK (xs : List V) : List (Key × V) := xs.zipIdx.map fun q => (Sum.inl (q.2 : Int), q.1)
def tDictEnum (K : PySem.W.Frag) (ta : TE) : TE := fun σ H Q => ta σ H fun x H1 => ∃ (a : Addr) (xs : List V), x = .ref a ∧ SqT K H1 a xs ∧ ∀ p, H1 p = none → Q (.ref p) (upd H1 p (.dK (enK xs)))
theorem en_kv : ∀ {xs : List V} {us : List Value} (n : Nat), Vals xs us → KV ((xs.zipIdx n).map fun q => ((Sum.inl (q.2 : Int) : Key), q.1)) ((us.zipIdx n).map fun q => ((Sum.inl (q.2 : Int) : Key), q.1))
  | _, _, _, .nil => .nil
  | _, _, n, .cons r t => .cons ⟨rfl, r⟩ (en_kv (n + 1) t)
theorem en_nodup {α : Type} {xs : List α} {n : Nat} : (((xs.zipIdx n).map fun q => ((Sum.inl (q.2 : Int) : Key), q.1)).map (·.1)).Nodup := by
  rw [List.map_map]
  have e : ((fun x : Key × α => x.1) ∘ fun q : α × Nat => ((Sum.inl (q.2 : Int) : Key), q.1)) = (fun k : Nat => (Sum.inl (k : Int) : Key)) ∘ Prod.snd := rfl
  rw [e, ← List.map_map]
  refine List.Pairwise.map _ (fun a b (h : a ≠ b) z => h ?_) ?_
  · have := Sum.inl.inj z
    omega
  · rw [show Prod.snd = (fun q : α × Nat => q.2) from rfl, List.zipIdx_map_snd]
    exact List.nodup_range'
theorem pe_dictEnum {X : Cx} {a : Expr} {ta : TE} {p p2 q pos : Pos} (hg : Gl X "dict") (hm : X.mg "dict" = none) (hg2 : Gl X "enumerate") (hm2 : X.mg "enumerate" = none) (ha : PE X a ta) (hc : X.calm = true := by rfl)
    (na : starEach [a] X.env = (false, eval a X.env) :: starEach [] X.env := by rfl) : PE X (.Call (.Name "dict" p) [.Call (.Name "enumerate" p2) [a] [] q] [] pos) (tDictEnum X.K ta) := by
  refine ⟨fun pins s σ H Q I h => ?_⟩
  refine Call_ (ld_blt (u := .type "dict") I hg hm (by decide +kernel) ?_)
  refine PyProof.Rows.callWith_type1 (PyProof.Rows.args_cons ?_ rfl) rfl rfl
  refine Call_ (ld_blt I hg2 hm2 boot_enumerate ?_)
  refine PyProof.Rows.callWith_type1 (PyProof.Rows.args_cons (thn (ha.run pins s σ H _ I h) fun v s1 ⟨x, H1, I1, r1, q1⟩ => PyProof.Rows.args_nil ?_) na) na rfl
  obtain ⟨l, xs, rfl, hq, q1⟩ := q1
  cases r1
  obtain ⟨its, r, pl, hz⟩ := I1.tuple hq
  have hpt : s1.heap.IsTuple l its.toArray := pl
  have hal : l < s1.heap.objs.size := by obtain ⟨o, ho, _⟩ := hpt; exact Heap.lt_size ho
  refine call_enumerate_tup hpt fun h' he hit hsz hk => PyProof.Rows.args_nil ?_
  have hlen : its.length = xs.length := r.length.symm
  have I2 : Inv X pins σ H1 { s1 with heap := h' } := I1.kept (t' := s1.toks) hk
  have P := pa_enumT (prog := X.prog) (w := X.w) (s1.heap.objs.size + 1) s1.heap.objs.size l (Nat.succ_ne_self _) (Nat.ne_of_lt (Nat.lt_succ_of_lt hal)) (Nat.ne_of_lt hal) its.toArray
  have hsz2 : its.toArray.size ≤ sizeLine := by rw [List.size_toArray, hlen]; exact hz
  have hnd : (((its.zipIdx 0).map fun q => ((Sum.inl (q.2 : Int) : Key), q.1)).map (·.1)).Nodup := en_nodup
  refine call_dict_pairs (s := { s1 with heap := h' }) (knd := mixKind X.prog X.w) (kvs := (its.zipIdx 0).map fun q => ((Sum.inl (q.2 : Int) : Key), q.1)) P (I2.ok.hd hc) ⟨⟨_, he⟩, hit, hpt.at fun o e => hk _ o e⟩ ⟨by simp, fun i key v ⟨⟨t, ek⟩, hv⟩ => ⟨Sum.inl (i : Int), ?_, ?_⟩⟩ hsz2 fun h'' tk hd' hk' => ?_
  · have hv : its[i]? = some v := by simpa using hv
    rw [List.getElem?_map, List.getElem?_zipIdx, hv]
    simp
  · rw [ek]
    exact kV_is (P := X.prog) (w := X.w) (k := Sum.inl (i : Int)) ⟨t, rfl⟩
  · rw [merged_nil_of_nodup _ hnd] at hd'
    have hm : (h'.objs.size == sysModules) = false := beq_eq_false_iff_ne.mpr (Nat.ne_of_gt (by rw [hsz]; exact Nat.lt_of_lt_of_le I1.big (Nat.le_add_right _ _)))
    have hkv : KV (enK xs) ((its.zipIdx 0).map fun q => ((Sum.inl (q.2 : Int) : Key), q.1)) := en_kv 0 r
    have hel : (enK xs).length ≤ sizeLine := by unfold enK; rw [List.length_map, List.length_zipIdx]; exact hz
    have k2 : ∀ b o, s1.heap.get? b = some o → h''.get? b = some o := fun b o e => hk' b o (fun hb => by
      have hb : b = s1.heap.objs.size + 1 ∨ b = s1.heap.objs.size := by simpa using hb
      have hlt := Heap.lt_size e
      rcases hb with z | z
      · exact absurd (z ▸ hlt) (Nat.not_lt.mpr (Nat.le_add_right _ _))
      · exact absurd (z ▸ hlt) (Nat.lt_irrefl _)) (hk b o e)
    have hp : H1 h'.objs.size = none := I1.hok.fresh (by rw [hsz]; exact Nat.le_add_right _ _)
    exact ⟨.ref h'.objs.size, upd H1 h'.objs.size (.dK (enK xs)), I1.laid (t' := tk) k2 (by rw [hsz]; exact Nat.le_add_right _ _) (show ObjOk X.prog X.w _ _ _ (.dK (enK xs)) from ⟨hel, hm, _, hkv, hd'⟩), rfl, q1 _ hp⟩
end Af
end

section
set_option maxHeartbeats 4000000
/-! != of instances whose class has an own ==. -/
namespace Af
open PySem PySem.Spec PyProof.Rows L2
structure NeC (K : PySem.W.Frag) (C f : Addr) : Prop where
  eq : PySem.W.findIn K (.ref C) "__eq__" = some (some (.ref f))
  fn : PySem.W.isFn K (.ref f) = true
  ne : PySem.W.findIn K (.ref C) "__ne__" = some (some (.builtin "object.__ne__"))
  sub : PySem.W.subIn K (.ref C) (.type "object") = some true
section
variable {prog : Program} {w : World} {A : Around} {E : Value → Shared → Prop} {s : Shared} {K : PySem.W.Frag} {x y C f : Addr} {ox oy : Obj} {od oe : Option Obj}
theorem ne_body (N : NeC K C f) (hu : A.units < cLine) (X : K.In s.heap) (I : PySem.W.InstAt s.heap x ox C od) {Q : Fin → Shared → Prop}
    (h : wpAny (model prog w) A (call (.ref f) [.ref x, .ref y]) (fun v s' => ∃ b, v = .bool b ∧ Q (.done (.ret (.bool (!b)))) s') E s) :
    wpAny (model prog w) A (Builtin.«object.__ne__» ⟨[.ref x, .ref y], []⟩) Q E s := by
  unfold Builtin.«object.__ne__»
  repeat (first
    | with_reducible refine wpAny_cRoomFor hu ?_
    | (refine wpAny_bind (m := callSpecialIfBound? (.ref x) (Str.ofString "__eq__") [.ref y])
        (PySem.W.ifBound_K X I N.eq N.fn (wpAny_mono h (fun r s' hr => by
          obtain ⟨b, e, hq⟩ := hr
          subst e
          repeat (first | exact hq | exact wpAny_pure hq | exact wpAny_truthy_bool hq | (refine wpAny_bind (m := truthy (.bool _)) (wpAny_truthy_bool ?_)) | wp_step)) fun _ _ e => e)))
    | wp_step)
theorem ne_bound (N : NeC K C f) (hu : A.units + 1 < cLine) (X : K.In s.heap) (I : PySem.W.InstAt s.heap x ox C od) {Q : Option Value → Shared → Prop}
    (h : wpAny (model prog w) A.in1 (call (.ref f) [.ref x, .ref y]) (fun v s' => ∃ b, v = .bool b ∧ Q (some (.bool (!b))) s') E s) :
    wpAny (model prog w) A (callSpecialIfBound? (.ref x) (Str.ofString "__ne__") [.ref y]) Q E s := by
  have bnd := F.cmp_object.ne.bind
  have inner : wpAny (model prog w) A (call (.builtin "object.__ne__") [.ref x, .ref y]) (fun v => Q (some v)) E s := by
    refine wpAny_call (codeAny_call_builtin F.cmp_object.ne.plain F.cmpEntry_ne ?_)
    simp only [checkBuiltinCall, F.cmpKind_ne, F.cmpSplit_ne]
    refine wpAny_bind ?_
    unfold isInstance
    refine wpAny_bind (I.type.here ((PySem.W.looks_subIn X N.sub).here ?_))
    have ha := F.cmpArgs_ne (.ref x) (.ref y)
    have fin := fun R hR => ne_body (prog := prog) (w := w) (A := A.in1) (E := fun e s' => E e s') (Q := R) N hu X I (wpAny_mono h hR fun _ _ e => e)
    cases hsig : Manifest.signature? "object.__ne__" with
    | none =>
      rw [if_neg (by decide)]
      refine wpAny_pure (fin _ fun v s' hv => ?_)
      obtain ⟨b, e, hq⟩ := hv
      exact ⟨b, e, hq⟩
    | some sig =>
      simp only [argsOk, hsig] at ha
      have h2 : Bind.checkArgs "object.__ne__" sig ⟨[.ref x, .ref y], []⟩ = pure () := ha
      rw [if_neg (by decide)]
      show wpAny _ _ (Bind.checkArgs "object.__ne__" sig ⟨[.ref x, .ref y], []⟩) _ _ _
      rw [h2]
      refine wpAny_pure (fin _ fun v s' hv => ?_)
      obtain ⟨b, e, hq⟩ := hv
      exact ⟨b, e, hq⟩
  simp only [callSpecialIfBound?, bindSpecialIfBound?]
  refine wpAny_holding (wpAny_bind (wpAny_bind (wpAny_bind (I.type.here ((PySem.W.looks_findIn X N.ne).here ?_)))))
  simp only [bnd]
  refine wpAny_bind (wpAny_askSetting (wpAny_ite ?_))
  have fin : wpAny (model prog w) A (call (.builtin "object.__ne__") ([.ref x] ++ [.ref y]) >>= fun v => pure (some v)) Q E s := wpAny_bind (wpAny_mono inner (fun v s' h' => wpAny_pure h') fun _ _ h' => h')
  split
  · exact wpAny_bind (wpAny_pure (wpAny_pure fin))
  · exact wpAny_tryCatch (wpAny_bind (wpAny_pure (wpAny_pure fin)))
theorem ne_cmp (N : NeC K C f) (hu : A.units + 1 < cLine) (X : K.In s.heap) (I : PySem.W.InstAt s.heap x ox C od) (J : PySem.W.InstAt s.heap y oy C oe) {Q : Value → Shared → Prop}
    (h : wpAny (model prog w) A.in1 (call (.ref f) [.ref x, .ref y]) (fun v s' => ∃ b, v = .bool b ∧ Q (.bool (!b)) s') E s) :
    wpAny (model prog w) A (compareOp .NotEq (.ref x) (.ref y)) Q E s := by
  unfold compareOp richCompare
  simp only [oneThing_ref]
  refine wpAny_holding (wpAny_bind (wpAny_cRoomFor (Nat.lt_of_succ_lt hu) ?_))
  rw [cmpInfo_NotEq]
  dsimp only
  refine wpAny_bind (I.type.here (wpAny_bind (J.type.here ?_)))
  rw [show (Value.ref C != Value.ref C) = false from by simp]
  simp only [Bool.false_eq_true, if_false]
  refine wpAny_bind (wpAny_pure ?_)
  simp only [Bool.false_eq_true, if_false]
  refine wpAny_bind ?_
  unfold tryCompare
  refine wpAny_bind (ne_bound N hu X I (wpAny_mono h (fun v s' hv => ?_) fun _ _ e => e))
  obtain ⟨b, e, hq⟩ := hv
  exact ⟨b, e, wpAny_pure (wpAny_pure hq)⟩
end
def rNeO (C : Addr) (sp : Sp) : R2 := fun x y H Q => ∃ a b dx dy fs gs, x = .ref a ∧ y = .ref b ∧ H a = some (.ins C dx fs) ∧ H b = some (.ins C dy gs) ∧ sp [x, y] H (fun v H' => ∃ r, v = .bl r ∧ Q (.bl (!r)) H') E0
theorem op_neO {X : Cx} {C f : Addr} {fd : FuncData} {k : Nat} {sp : Sp} (N : NeC X.K C f) (F : FnOk X.prog X.w X.K X.mg X.base CX0 k f fd ["self", "other"] sp) (hb : Binds X.K fd ["self", "other"] []) (hr : Room (k + 1) X.A) (hu : X.A.units + 1 < cLine) : OpR X (compareOp .NotEq) (rNeO C sp) := by
  intro pins s σ H x y v u Q I rx ry hq
  obtain ⟨a, b, dx, dy, fs, gs, ex, ey, ha, hb', hsp⟩ := hq
  subst ex ey
  cases rx
  cases ry
  obtain ⟨mA, J, _⟩ := ins_get I.hok ha
  obtain ⟨mB, J', _⟩ := ins_get I.hok hb'
  obtain ⟨od, J, _⟩ := J.look
  obtain ⟨od', J', _⟩ := J'.look
  obtain ⟨m, hF⟩ := I.fr
  refine ne_cmp N hu (I.ok.mod.kin.keeps hF.keep) J J' ?_
  have e0 : Env0 X.prog X.w X.K X.mg X.base X.A.in1 X.stack s H := by
    have e := I.env0
    exact ⟨e.frames, e.mod, e.bs, e.bsz, e.funs, e.frf, e.hok, e.bare⟩
  have r2 : Vals [V.ref a, V.ref b] [Value.ref a, Value.ref b] := .cons rfl (.cons rfl .nil)
  refine wpAny_call (codeAny_mono (F.run X.A.in1 X.stack s H ⟨[.ref a, .ref b], []⟩ [.ref a, .ref b] [.ref a, .ref b] _ E0 hr.in1 e0 (by
    have := hb s [.ref a, .ref b] I.kIn (by rfl)
    simpa using this) r2 hsp) fun r s' hq => ?_)
  cases r with
  | error e => exact hq.elim
  | ok fl =>
    cases fl with
    | ret w =>
      obtain ⟨z, H', I', rz, b', ez, q⟩ := I.after hq
      subst ez
      cases rz
      exact ⟨b', rfl, .bl (!b'), H', I', rfl, q⟩
    | next => exact False.elim hq
    | brk => exact False.elim hq
    | cont => exact False.elim hq
end Af
end

section
set_option maxHeartbeats 4000000
/-! dict(sorted(d.items())) of a dict from ints to ints: some dict from ints to ints. -/
namespace Af
open PySem PySem.Spec PyProof.Rows L2
abbrev tupO (k : Int) (u : Tok) (w : Int) (v : Tok) : Obj := { cls := .type "tuple", data := .seq #[Value.int k u, Value.int w v] }
section
variable {prog : Program} {w : World} {A : Around} {E : Value → Shared → Prop} {s : Shared}
theorem sorted_items {r d : Addr} {es : Array DictEntry} {ep : Nat} {Q : Value → Shared → Prop} (hh : A.handled = none) (hv : s.heap.IsItemsView r d) (hm : DT.Raw s.heap d es ep) (hn : es.size ≤ sizeLine)
    (hk : ∀ e ∈ es.toList, ∃ k t x u, e.key = Value.int k t ∧ e.val = Value.int x u)
    (h : ∀ (h' : Heap) (tk : Nat) (L : Addr) (n : Nat) (ts : List Addr), (∀ b o, s.heap.get? b = some o → h'.get? b = some o) → h'.get? L = some (seqObj "list" (ts.map Value.ref).toArray n) → ts.length = es.size →
      (∀ t ∈ ts, ∃ k u x v, h'.get? t = some (tupO k u x v)) → s.heap.objs.size < L → Q (.ref L) { s with heap := h', toks := tk }) :
    wpAny (model prog w) A (call (.builtin "sorted") [.ref r]) Q E s := by
  refine DT.sortedI (es := es) (ep := ep) hh hv hm hn fun h' tk as hk' hlt hl hG => ?_
  have hob : (h'.push { cls := .type "list", data := .seq (as.map Value.ref).toArray }).get? h'.objs.size = some (seqObj "list" (as.map Value.ref).toArray 0) := Heap.get?_push_size _ rfl
  have low : ∀ b o, h'.get? b = some o → b ≠ h'.objs.size := fun b o e => Nat.ne_of_lt (Heap.lt_size e)
  have tup : ∀ t ∈ as, ∃ k u x v, h'.get? t = some (tupO k u x v) := fun t ht => by
    obtain ⟨j, hj⟩ := List.mem_iff_getElem?.mp ht
    obtain ⟨e, he, hg⟩ := hG.pairs j t hj
    obtain ⟨k, u, x, v, e1, e2⟩ := hk e (List.mem_of_getElem? (by rw [Array.getElem?_toList]; exact he))
    exact ⟨k, u, x, v, by rw [hg, e1, e2]⟩
  generalize hh2 : h'.push { cls := .type "list", data := .seq (as.map Value.ref).toArray } = h2 at hob ⊢
  have kb : ∀ b o, h'.get? b = some o → h2.get? b = some o := fun b o e => by rw [← hh2]; exact Heap.get?_push_of_some _ e
  have hz : (as.map Value.ref).length ≤ sizeLine := by rw [List.length_map, hl]; exact hn
  refine wpAny_call_entry PyProof.Rows.slot_list_sort ⟨_, hob, rfl⟩ PyProof.Rows.entry_list_sort
    (Srt.list_sort_any (s := { s with heap := h2, toks := tk }) hob hz (fun h2' => ?_) fun out hp => ⟨_, rfl, ?_⟩) (PyProof.Rows.args_list_sort _)
  · refine Srt.pairs_sortable (by omega) (fun v hv' => ?_) fun o e => ?_
    · obtain ⟨t, ht, e⟩ := List.mem_map.mp hv'
      obtain ⟨k, u, x, v, hg⟩ := tup t ht
      exact ⟨k, x, t, _, u, v, 0, e.symm, kb _ _ hg, rfl, rfl⟩
    · have e' : some o = some (seqObj "list" (as.map Value.ref).toArray 0) := e.symm.trans hob
      cases e'
      intro c
      exact absurd (Value.type.inj c) (by decide)
  · have kS : ∀ b o, h'.get? b = some o → (sortedHeap h2 h'.objs.size (as.map Value.ref) out.toArray).get? b = some o := fun b o e => (PyProof.Rows.sortedHeap_old (low b o e) (Heap.lt_size (kb b o e))).trans (kb b o e)
    obtain ⟨n, hat⟩ := PyProof.Rows.sortedHeap_at (vs := as.map Value.ref) (out := out.toArray) hob
    obtain ⟨ts, pz, ez⟩ : ∃ ts : List Addr, ts.Perm as ∧ ts.map Value.ref = out := by
      have hm : ∀ u ∈ out, ∃ t, u = Value.ref t := fun u hu => by
        obtain ⟨t, _, e⟩ := List.mem_map.mp (hp.mem_iff.mp hu)
        exact ⟨t, e.symm⟩
      have key : ∀ l : List Value, (∀ u ∈ l, ∃ t, u = Value.ref t) → ∃ ts : List Addr, ts.map Value.ref = l := by
        intro l
        induction l with
        | nil => intro _; exact ⟨[], rfl⟩
        | cons u l ih =>
          intro hl
          obtain ⟨t, e⟩ := hl u List.mem_cons_self
          obtain ⟨ts, e2⟩ := ih fun v hv => hl v (List.mem_cons_of_mem _ hv)
          exact ⟨t :: ts, by rw [List.map_cons, e2, e]⟩
      obtain ⟨ts, e⟩ := key out hm
      refine ⟨ts, ?_, e⟩
      rw [← e] at hp
      have := hp.map (fun u : Value => match u with | .ref a => a | _ => 0)
      simpa [List.map_map, Function.comp_def] using this
    rw [← ez] at hat
    exact h _ tk h'.objs.size n ts (fun b o e => kS b o (hk' b o e)) (by rw [← ez]; exact hat) (by rw [pz.length_eq, hl]) (fun t ht => by
      obtain ⟨k, u, x, v, hg⟩ := tup t (pz.mem_iff.mp ht)
      exact ⟨k, u, x, v, by rw [← ez]; exact (by rw [ez]; exact kS _ _ hg)⟩) hlt
end
theorem tup_list {h : Heap} : ∀ {ts : List Addr}, (∀ t ∈ ts, ∃ k u x v, h.get? t = some (tupO k u x v)) → ∃ qs : List ((Int × Tok) × Int × Tok), qs.length = ts.length ∧ ∀ (j : Nat) t q, ts[j]? = some t → qs[j]? = some q → h.get? t = some (tupO q.1.1 q.1.2 q.2.1 q.2.2)
  | [], _ => ⟨[], rfl, fun j t q e _ => by simp at e⟩
  | t :: ts, hh => by
    obtain ⟨qs, hl, hq⟩ := tup_list (ts := ts) fun x hx => hh x (List.mem_cons_of_mem _ hx)
    obtain ⟨k, u, x, v, e⟩ := hh t List.mem_cons_self
    refine ⟨((k, u), x, v) :: qs, by simp [hl], fun j t' q e1 e2 => ?_⟩
    cases j with
    | zero => cases e1; cases e2; exact e
    | succ j => exact hq j t' q (by simpa using e1) (by simpa using e2)
/-- from ints to ints -/
def IntK (kvs : List (Key × V)) : Prop := ∀ q ∈ kvs, ∃ k x : Int, q = (Sum.inl k, V.int x)
def tDictSrt (te : TE) : TE := fun σ H Q => te σ H fun x H1 => ∃ (a : Addr) (kvs : List (Key × V)), x = .ref a ∧ Rd H1 a (.dK kvs) ∧ IntK kvs ∧ ∀ p kvs', H1 p = none → IntK kvs' → Q (.ref p) (upd H1 p (.dK kvs'))
theorem intK_put {kvs : List (Key × V)} {k x : Int} (h : IntK kvs) : IntK (putK kvs (Sum.inl k) (.int x)) := fun q hq => by
  unfold putK at hq
  split at hq
  · obtain ⟨q0, h0, e⟩ := List.mem_map.mp hq
    split at e
    · rw [← e]
      obtain ⟨k1, x1, e1⟩ := h q0 h0
      exact ⟨k1, x, by rw [e1]⟩
    · rw [← e]; exact h q0 h0
  · rcases List.mem_append.mp hq with z | z
    · exact h q z
    · exact ⟨k, x, List.mem_singleton.mp z⟩
theorem intK_merge : ∀ {more kvs : List (Key × V)}, IntK more → IntK kvs → IntK (mergeK kvs more)
  | [], _, _, h => h
  | q :: more, kvs, hm, h => by
    obtain ⟨k, x, e⟩ := hm q List.mem_cons_self
    show IntK (mergeK (putK kvs q.1 q.2) more)
    rw [e]
    exact intK_merge (fun z hz => hm z (List.mem_cons_of_mem _ hz)) (intK_put h)
theorem pairs_ints {P : Program} {w : World} {kvs : List (Key × V)} {vs : List (Key × Value)} {es : List DictEntry} (hi : IntK kvs) (kv : KV kvs vs) (hp : PySem.Pairs (mixKind P w) es vs) : ∀ e ∈ es, ∃ k t x u, e.key = Value.int k t ∧ e.val = Value.int x u := by
  induction hp generalizing kvs with
  | nil => intro e he; cases he
  | @cons e q es vs hk hv _ ih =>
    cases kv with
    | @cons p q' ps qs hpq ht =>
      intro e' he'
      rcases List.mem_cons.mp he' with z | z
      · subst z
        obtain ⟨k, x, ep⟩ := hi p List.mem_cons_self
        subst ep
        obtain ⟨e1, rv⟩ := hpq
        have e1 : Sum.inl k = q.1 := e1
        have rv : RelV (.int x) q.2 := rv
        obtain ⟨t2, e2⟩ := rv
        rw [← e1] at hk
        obtain ⟨t1, e3⟩ := relV_key (k := Sum.inl k) (show keyIs (Sum.inl k) e'.key = true from hk)
        exact ⟨k, t1, x, t2, e3, by rw [hv, e2]⟩
      · exact ih (fun z hz => hi z (List.mem_cons_of_mem _ hz)) ht e' z
theorem pe_dictSrt {X : Cx} {e : Expr} {te : TE} {p p2 q pos apos cpos : Pos} (hg : Gl X "dict") (hm : X.mg "dict" = none) (hg2 : Gl X "sorted") (hm2 : X.mg "sorted" = none) (he : PE X e te) (hc : X.calm = true := by rfl)
    (hbase : attributeBase e "items" X.env (eval e X.env) = eval e X.env := by rfl) (hline : (apos.endLine == cpos.line) = true := by rfl)
    (hs : starEach [.Call (.Attribute e "items" apos) [] [] cpos] X.env = (false, eval (.Call (.Attribute e "items" apos) [] [] cpos) X.env) :: starEach [] X.env := by rfl) :
    PE X (.Call (.Name "dict" p) [.Call (.Name "sorted" p2) [.Call (.Attribute e "items" apos) [] [] cpos] [] q] [] pos) (tDictSrt te) := by
  refine ⟨fun pins s σ H Q I h => ?_⟩
  refine Call_ (ld_blt (u := .type "dict") I hg hm (by decide +kernel) ?_)
  refine PyProof.Rows.callWith_type1 (PyProof.Rows.args_cons ?_ rfl) rfl rfl
  refine Call_ (ld_blt (u := .builtin "sorted") I hg2 hm2 (by decide +kernel) ?_)
  refine PyProof.Rows.callWith_builtin1 (PyProof.Rows.args_cons ?_ hs) hs rfl
  refine wpAny_Call_method (T := "dict") (id := "dict.items") hbase rfl hline F.plainAttrs_dict F.slot_dict_items F.type_dict_items (thn (he.run pins s σ H _ I h) fun u s1 ⟨x, H1, I1, rx, d, kvs, ex, hd, hi, q⟩ => ?_)
  subst ex
  obtain rfl : u = Value.ref d := rx
  obtain ⟨hz, hs0, vs, kv, hdo⟩ := dk_rd I1.hok hd
  have lk : kvs.length = vs.length := Paired.length kv
  refine ⟨hdo.typeIs, hdo.mapOf.noDict, ?_⟩
  show wpAny _ _ (callWith cpos (.builtin "dict.items") [.ref d] [] []) _ X.xe s1
  refine method_meetsIn F.slot_dict_items F.entry_dict_items rfl (PySem.evalArgs_none ⟨rfl, hdo.typeIs, F.args_dict_items_1 _, _, meets_dict_items (mixKind X.prog X.w) d hs0, ⟨vs, hdo⟩, ?_⟩)
  refine PyProof.Rows.args_nil ?_
  obtain ⟨o, es, ep, ho, hx, hdat, hko, hp, hnd⟩ := hdo
  have hsz : es.size ≤ sizeLine := by
    have : es.toList.length = vs.length := PySem.Pairs.length hp
    rw [← Array.length_toList, this, ← lk]
    exact hz
  refine sorted_items (s := { s1 with heap := s1.heap.push { cls := .type "dict_items", data := .fields #[.ref d] } }) (es := es) (ep := ep) (I1.ok.hd hc) ⟨_, Heap.get?_push_size _ rfl, rfl, rfl⟩ ⟨o, Heap.get?_push_of_some _ ho, hx, hdat⟩ hsz (pairs_ints hi kv hp) fun h' tk L n ts hk hL hl ht hlt => ?_
  refine PyProof.Rows.args_nil ?_
  obtain ⟨qs, ql, hq⟩ := tup_list ht
  have k1 : ∀ b o, s1.heap.get? b = some o → h'.get? b = some o := fun b o e => hk b o (Heap.get?_push_of_some _ e)
  have P := PairArg.list (prog := X.prog) (w := X.w) L (ts.map Value.ref).toArray (fun j => ts.getD j 0) (qs.map fun q => (Value.int q.1.1 q.1.2, Value.int q.2.1 q.2.2))
  have hn : (qs.map fun q => (Value.int q.1.1 q.1.2, Value.int q.2.1 q.2.2)).length ≤ sizeLine := by rw [List.length_map, ql, hl]; exact hsz
  have hgd : X.A.handled = none := I1.ok.hd hc
  refine call_dict_pairs (s := { s1 with heap := h', toks := tk }) (knd := mixKind X.prog X.w) (kvs := qs.map fun q => ((Sum.inl q.1.1 : Key), Value.int q.2.1 q.2.2)) P hgd ⟨⟨_, n, hL, rfl, rfl, rfl⟩, by simp [ql], fun j k v hj => ?_⟩ ⟨by simp, fun i k v hr => ?_⟩ hn fun h2 tk2 hd' hk' => ?_
  · rw [List.getElem?_map] at hj
    cases e : qs[j]? with
    | none => rw [e] at hj; cases hj
    | some q =>
      rw [e] at hj
      cases hj
      have hjl : j < ts.length := by rw [← ql]; exact (List.getElem?_eq_some_iff.mp e).1
      have e2 : ts[j]? = some ts[j] := List.getElem?_eq_getElem hjl
      have hg := hq j _ q e2 e
      have e3 : ts.getD j 0 = ts[j] := by rw [List.getD_eq_getElem?_getD, e2]; rfl
      refine ⟨by simp [e2], ?_⟩
      show PairAt h' (ts.getD j 0) _ _
      rw [e3]
      exact .inl ⟨_, hg, rfl, 0, rfl⟩
  · have hr : (qs.map fun q => (Value.int q.1.1 q.1.2, Value.int q.2.1 q.2.2))[i]? = some (k, v) := hr
    rw [List.getElem?_map] at hr
    cases e : qs[i]? with
    | none => rw [e] at hr; cases hr
    | some q =>
      rw [e] at hr
      cases hr
      exact ⟨Sum.inl q.1.1, by rw [List.getElem?_map, e]; rfl, kV_is (P := X.prog) (w := X.w) (k := Sum.inl q.1.1) ⟨_, rfl⟩⟩
  · have hle : s1.heap.objs.size ≤ h'.objs.size := by
      have : L < h'.objs.size := Heap.lt_size hL
      have h2 : (s1.heap.push { cls := .type "dict_items", data := .fields #[.ref d] }).objs.size < L := hlt
      rw [Heap.size_push] at h2
      exact Nat.le_of_lt (Nat.lt_trans (Nat.lt_trans (Nat.lt_succ_self _) h2) this)
    have hm : (h'.objs.size == sysModules) = false := beq_eq_false_iff_ne.mpr (Nat.ne_of_gt (Nat.lt_of_lt_of_le I1.big hle))
    have rel : KV (qs.map fun q => ((Sum.inl q.1.1 : Key), V.int q.2.1)) (qs.map fun q => ((Sum.inl q.1.1 : Key), Value.int q.2.1 q.2.2)) := by
      generalize qs = l
      induction l with
      | nil => exact .nil
      | cons q l ih => exact .cons ⟨rfl, _, rfl⟩ ih
    have hI : IntK (qs.map fun q => ((Sum.inl q.1.1 : Key), V.int q.2.1)) := fun z hz => by
      obtain ⟨q, _, e⟩ := List.mem_map.mp hz
      exact ⟨q.1.1, q.2.1, e.symm⟩
    have hlen : (mergeK [] (qs.map fun q => ((Sum.inl q.1.1 : Key), V.int q.2.1))).length ≤ sizeLine := by
      refine Nat.le_trans (length_mergeK _ []) ?_
      rw [List.length_nil, Nat.zero_add, List.length_map, ql, hl]
      exact hsz
    have k2 : ∀ b o, s1.heap.get? b = some o → h2.get? b = some o := fun b o e => hk' b o (fun hb => nomatch hb) (k1 b o e)
    have hp : H1 h'.objs.size = none := I1.hok.fresh hle
    exact ⟨.ref h'.objs.size, _, I1.laid (t' := tk2) k2 hle (show ObjOk X.prog X.w _ _ _ (.dK (mergeK [] (qs.map fun q => ((Sum.inl q.1.1 : Key), V.int q.2.1)))) from ⟨hlen, hm, _, KV.merge rel .nil, hd'⟩), rfl, q _ _ hp (intK_merge hI fun z hz => nomatch hz)⟩
end Af
end

section
set_option maxHeartbeats 4000000
/-! More rules of the data logic. -/
namespace Af
open PySem L2
section
variable {C : Addr} {env : Sls} {K : Sl → Sls → Prop} {ta tb tc te tl tk tv : TE} {F : PySem.W.Frag} {H : Hp} {v : V} {B : Addr → Prop} {H0 : Hp} {σ : L2.St} {t : TA} {E : XK} {k : Sl → Prop} {s1 s2 : Sl} {W : Wish} {ts : TS}
variable {g : TG} {tg : List Nat} {dom : Dat → Prop} {f : Dat → Sls → Sls} {KI : List Dat → (Dat → Sls → Sls) → Sls → Prop}
theorem ix_enumT (T : TgOk g tg dom f) (h : EXA C t env fun ss e => ∃ ds, ss = [.im (.tup ds)] ∧ (∀ d ∈ enD ds, dom d) ∧ KI (enD ds) f e) : IX C (iEnumT F t) g tg env KI := fun B H0 σ H R Q q =>
  h B H0 σ H R _ fun ss e vs H1 ⟨ds, es, hd, k⟩ fr o R1 p => by
    subst es
    obtain ⟨v, ev, _, ok, _⟩ := one p
    obtain ⟨a, xs, ev2, hx, r⟩ := rep_tup ok
    refine ⟨a, xs, by rw [ev, ev2], SqT.of hx, q _ _ f e H1 (fun H => H a = some (.tup xs) ∧ Reps C H xs ds) k fr o R1 ⟨hx, r⟩ (fun Ha Hb _ _ ga kp _ _ => ⟨kp _ _ ga.1 trivial, ga.2.mono kp⟩) T.zok ?_⟩
    intro i σ0 H e0 gh R0
    have sq : SqT F H a xs := SqT.of gh.1
    refine ⟨fun hi => ⟨xs, sq, by rw [hi, enD_len, gh.2.length]; exact Nat.le_refl _⟩, fun d hd' => ?_⟩
    obtain ⟨x, hx', ed⟩ := enD_get hd'
    obtain ⟨y, hy, ry⟩ := gh.2.get hx'
    refine ⟨⟨xs, y, sq, hy⟩, fun z H' yl Q' q' => ?_⟩
    obtain ⟨Tp, w, e1, hT, e2, hw⟩ := yl
    have := hw xs sq
    rw [hy] at this
    cases this
    subst e1 e2
    have sm := same_tup (xs := [V.int (i : Nat), y]) hT
    refine T.run C B H0 _ σ0 e0 _ d (hd d (List.mem_of_getElem? hd')) (R0.same sm) ?_ Q' fun σ2 R2 w => q' σ2 _ sm R2 w
    rw [ed]
    exact .tup upd_same (.cons (.int _) (.cons (ry.mono (Kp.same sm)) .nil))
/-! ### a dict comprehension without a test, whose keys are different -/
theorem putKD_new {ks : List (Int × Dat)} {k : Int} {d : Dat} (h : ∀ q ∈ ks, q.1 ≠ k) : putKD ks k d = ks ++ [(k, d)] := by
  unfold putKD
  rw [if_neg]
  rw [List.any_eq_true]
  rintro ⟨q, hq, e⟩
  exact h q hq (by simpa using e)
theorem ex_dcY {wi : TI} {vs : List Nat} (htg : ∀ j ∈ tg, j ∈ vs) (h : IX C wi g tg env fun ds Z e1 => ds.length ≤ 100000 ∧ FreAll e1 vs ∧ ∃ (α : Type) (xs : List α) (enc : α → Dat) (fk : α → Int) (fv : α → Dat), ds = xs.map enc ∧ xs.Pairwise (fun a b => fk a ≠ fk b) ∧
    (∀ x ∈ xs, EX C tk (Z (enc x) (wipeE e1 vs)) fun s e3 => s = .im (.int (fk x)) ∧ e3 = Z (enc x) (wipeE e1 vs)) ∧ (∀ x ∈ xs, EX C tv (Z (enc x) (wipeE e1 vs)) fun s e3 => s = .im (fv x) ∧ e3 = Z (enc x) (wipeE e1 vs)) ∧ K (.od (xs.map fun x => (fk x, fv x))) e1) :
    EX C (tDc wi g tYes tk tv vs) env K := fun B H0 σ H R Q q => by
  refine h B H0 σ H R _ fun J ds Z e1 H1 G ⟨hz, fre, α, xs, enc, fk, fv, hds, hnd, hk, hv, kk⟩ fm1 o1 R1 g1 gk zk wk => ?_
  intro D hD
  have nbD : ¬ B D := fun b => by
    obtain ⟨o, ho, _⟩ := R1.mutB D b
    rw [hD] at ho
    cases ho
  have h0D : H0 D = none := by
    cases e : H0 D with
    | none => rfl
    | some o =>
      have := R1.base D o e nbD
      rw [hD] at this
      cases this
  have hDs : H D = none := fm1.dom D hD
  have smD : Same H1 (upd H1 D (.dK [])) := fun a o ha => by rw [upd_ne (ne_of_none ha hD)]; exact ha
  have nown : ¬ Owned σ e1 D := fun w => by
    obtain ⟨⟨o, ho, _⟩, _⟩ := R1.ownM w
    rw [hD] at ho
    cases ho
  have dl : ds.length = xs.length := by rw [hds, List.length_map]
  refine ⟨fun i m H' => m = ds.length - i ∧ i ≤ ds.length ∧ ∃ kvs, RepE C B H0 H' σ e1 ∧ Kp C H1 H' ∧ G H' ∧ Frm B H σ env H' ∧ H' D = some (.dK kvs) ∧ RepK C H' kvs ((xs.take i).map fun x => (fk x, fv x)),
    ⟨_, rfl, Nat.zero_le _, [], R1.same smD, Kp.same smD, gk _ _ _ _ g1 (Kp.same smD) (R1.same smD) trivial, fm1.other hDs, upd_same, .nil⟩, ?_⟩
  rintro i m H' ⟨hm, hi, kvs, R', kp, gh, fm, hx, rx⟩
  by_cases hlt : i < ds.length
  · have hd : ds[i]? = some ds[i] := List.getElem?_eq_getElem hlt
    have hlx : i < xs.length := by omega
    have hxi : xs[i]? = some xs[i] := List.getElem?_eq_getElem hlx
    have ed : enc xs[i] = ds[i] := by
      have h1 : ds[i]? = some (enc xs[i]) := by rw [hds, List.getElem?_map, hxi]; rfl
      exact Option.some.inj (h1.symm.trans hd)
    have hmem : xs[i] ∈ xs := List.getElem_mem hlx
    obtain ⟨go, yl⟩ := (wk i (L2.wipe σ vs) H' (wipeE e1 vs) gh R'.wipe).2 _ hd
    refine .inr ⟨go, fun H2 => ∃ kvs, RepE C B H0 H2 σ e1 ∧ Kp C H1 H2 ∧ G H2 ∧ Frm B H σ env H2 ∧ H2 D = some (.dK kvs) ∧ RepK C H2 kvs ((xs.take (i + 1)).map fun x => (fk x, fv x)), fun H2 p => ⟨ds.length - (i + 1), by omega, rfl, hlt, p⟩, fun x H2 y => ?_⟩
    refine yl x H2 y _ fun σ2 H3 sm R3 hw => ?_
    have hw' := hw vs htg
    refine ⟨hw'.trans wipe_wipe, ?_⟩
    rw [← ed] at R3
    have oin : ∀ a, Owned σ2 (Z (enc xs[i]) (wipeE e1 vs)) a → Owned σ e1 a := fun a w => owned_in zk htg hw' w
    show tk σ2 H3 _
    refine hk _ hmem B H0 σ2 H3 R3 _ fun s e2 y2 H4 ⟨es, ee⟩ _ f4 o4 R4 ok4 _ => ?_
    subst es ee
    refine hv _ hmem B H0 σ2 H4 R4 _ fun s e3 z H5 ⟨es, ee⟩ _ f5 o5 R5 ok5 _ => ?_
    subst es ee
    have f4' : Frm B H3 σ e1 H4 := f4.of_own oin
    have f5' : Frm B H4 σ e1 H5 := f5.of_own oin
    have hx5 : H5 D = some (.dK kvs) := f5'.keep _ _ (f4'.keep _ _ (sm _ _ hx) nbD nown) nbD nown
    have k35 : Kp C H' H5 := ((Kp.same sm).trans (R3.kp f4)).trans (R4.kp f5)
    have ww2 : L2.wipe σ2 vs = L2.wipe σ vs := hw'.trans wipe_wipe
    have R6 := R'.unwipe (vs := vs) k35 fre R5 ww2 (fre_Z zk)
    rw [unw_Z zk htg] at R6
    have lx : kvs.length ≤ i := by
      have := rx.length
      rw [List.length_map, List.length_take] at this
      omega
    have hnew : ∀ q ∈ ((xs.take i).map fun x => (fk x, fv x)), q.1 ≠ fk xs[i] := fun q hq => by
      obtain ⟨x, hx, e⟩ := List.mem_map.mp hq
      rw [← e]
      obtain ⟨j, hj⟩ := List.mem_iff_getElem?.mp hx
      have hj' := hj
      rw [List.getElem?_take] at hj'
      by_cases hji : j < i
      · rw [if_pos hji] at hj'
        obtain ⟨hjl, ej⟩ := List.getElem?_eq_some_iff.mp hj'
        rw [← ej]
        exact List.pairwise_iff_getElem.mp hnd j i hjl hlx hji
      · rw [if_neg hji] at hj'
        cases hj'
    refine ⟨kvs, Sum.inl (fk xs[i]), rep_int (Rep.mono (R4.kp f5) ok4), hx5, Nat.lt_of_le_of_lt (Nat.le_trans lx (Nat.le_trans hi hz)) (by decide), ?_⟩
    have kpD : Kp C H5 (upd H5 D (.dK (putK kvs (Sum.inl (fk xs[i])) z))) := kp_mut hx5 imm_dK
    have R7 := R6.other' (w := .dK (putK kvs (Sum.inl (fk xs[i])) z)) hx5 imm_dK dK_ni nbD nown h0D
    have e2 : ((xs.take (i + 1)).map fun x => (fk x, fv x)) = putKD ((xs.take i).map fun x => (fk x, fv x)) (fk xs[i]) (fv xs[i]) := by
      rw [putKD_new hnew, List.take_succ_eq_append_getElem hlx, List.map_append]
      rfl
    refine ⟨_, R7, (kp.trans k35).trans kpD, gk _ _ _ _ gh (k35.trans kpD) R7 trivial, ?_, upd_same, ?_⟩
    · exact (((fm.trans (Frm.same sm) (env' := e1) (fun a w => o1 a w)).trans f4' (fun a w => o1 a w)).trans f5' (fun a w => o1 a w)).other hDs
    · rw [e2]
      exact (rx.mono (k35.trans kpD)).put (Rep.mono kpD ok5)
  · have e2 : i = ds.length := by omega
    refine .inl ⟨((wk i (L2.wipe σ vs) H' (wipeE e1 vs) gh R'.wipe).1 e2), ?_⟩
    rw [e2, dl, List.take_length] at rx
    exact q _ e1 (.ref D) H' kk trivial fm o1 R' ⟨D, kvs, rfl, h0D, nbD, hx, rx⟩ fun _ a ea => by cases ea; exact hDs
theorem repK_en : ∀ {xs : List V} {ds : List Dat} (n : Nat), Reps C H xs ds → RepK C H ((xs.zipIdx n).map fun q => ((Sum.inl (q.2 : Int) : Key), q.1)) ((ds.zipIdx n).map fun q => ((q.2 : Int), q.1))
  | _, _, _, .nil => .nil
  | _, _, n, .cons a r => .cons a (repK_en (n + 1) r)
/-- dict(enumerate(tuple)) -/
theorem ex_dictEnum (h : EX C te env fun s e => ∃ ds, s = .im (.tup ds) ∧ K (.od (ds.zipIdx.map fun q => ((q.2 : Int), q.1))) e) : EX C (tDictEnum F te) env K := fun B H0 σ H R Q q =>
  h B H0 σ H R _ fun s e v H1 ⟨ds, es, kk⟩ _ fr o R1 ok _ => by
    subst es
    obtain ⟨a, xs, ev, hx, r⟩ := rep_tup ok
    refine ⟨a, xs, ev, SqT.of hx, fun p hp => ?_⟩
    obtain ⟨okn, sm⟩ := new_od R1 hp (repK_en 0 r)
    exact q _ e _ _ kk trivial (fr.trans (Frm.same sm) o) o (R1.same sm) okn fun _ a ea => by cases ea; exact fr.dom p hp
/-- dict(sorted(d.items())), ints to ints -/
theorem ex_dictSrt (h : EX C te env fun s e => ∃ ks : List (Int × Int), rdd e s = some (ks.map fun q => (q.1, Dat.int q.2)) ∧ ∀ ms : List (Int × Int), K (.od (ms.map fun q => (q.1, Dat.int q.2))) e) : EX C (tDictSrt te) env K := fun B H0 σ H R Q q =>
  h B H0 σ H R _ fun s e v H1 ⟨ks, hd, kk⟩ _ fr o R1 ok _ => by
    obtain ⟨l, xs, ev, hx, r⟩ := rdd_ok R1 ok hd
    refine ⟨l, xs, ev, hx, ?_, fun p kvs' hp hi => ?_⟩
    · have : ∀ {xs : List (Key × V)} {ks : List (Int × Int)}, RepK C H1 xs (ks.map fun q => (q.1, Dat.int q.2)) → IntK xs := by
        intro xs ks
        induction ks generalizing xs with
        | nil => intro r; cases r; intro q hq; cases hq
        | cons z ks ih =>
          intro r
          cases r with
          | cons a r =>
            intro q hq
            rcases List.mem_cons.mp hq with e | e
            · exact ⟨z.1, z.2, by rw [e, rep_int a]⟩
            · exact ih r q e
      exact this r
    · have : ∀ {xs : List (Key × V)}, IntK xs → ∃ ms : List (Int × Int), RepK C H1 xs (ms.map fun q => (q.1, Dat.int q.2)) := by
        intro xs
        induction xs with
        | nil => intro _; exact ⟨[], .nil⟩
        | cons z xs ih =>
          intro hi
          obtain ⟨ms, r⟩ := ih fun q hq => hi q (List.mem_cons_of_mem _ hq)
          obtain ⟨a, b, e⟩ := hi z List.mem_cons_self
          subst e
          exact ⟨(a, b) :: ms, .cons (.int b) r⟩
      obtain ⟨ms, r2⟩ := this hi
      obtain ⟨okn, sm⟩ := new_od R1 hp r2
      exact q _ e _ _ (kk ms) trivial (fr.trans (Frm.same sm) o) o (R1.same sm) okn fun _ a ea => by cases ea; exact fr.dom p hp
/-- != by the class's own == -/
theorem rx_neO {D : DF} {fs gs : List (Str × Dat)} (h : D [.im (.obj fs), .im (.obj gs)] fun s => RetOk s ∧ ∃ b, s = .im (.bl b) ∧ k (.im (.bl (!b)))) : RX C (rNeO C (SpD C D)) (.im (.obj fs)) (.im (.obj gs)) env k := fun B H0 σ H x y R hx hy Q q => by
  obtain ⟨a, dx, vs, ea, ha, _, _⟩ := rep_obj hx
  obtain ⟨b, dy, ws, eb, hb, _, _⟩ := rep_obj hy
  refine ⟨a, b, dx, dy, vs, ws, ea, eb, ha, hb, ?_⟩
  refine sm_call (E := E0) (K := fun s e => ∃ b, s = .im (.bl b) ∧ k (.im (.bl (!b)))) R h (.cons hx (.cons hy .nil)) fun s v H2 ⟨r, es, kk⟩ rs sm ok _ => ?_
  subst es
  exact ⟨r, rep_bl ok, q _ _ _ kk trivial sm (.bl _) fun z => z.elim⟩
/-- isinstance of an own class -/
theorem cx_isC {fs : List (Str × Dat)} (h : k (.im (.bl true))) : CXd C (fun xs H Q => ∃ a dx fs, xs = [.ref a, .ref C] ∧ H a = some (.ins C dx fs) ∧ Q (.bl true) H) [.im (.obj fs), .im (.cls C)] env k := fun B H0 σ H vs R p Q q => by
  obtain ⟨v, v', e, ok, ok'⟩ := two p
  obtain ⟨a, dx, ws, ea, ha, _, _⟩ := rep_obj ok
  have e' : v' = .ref C := by cases ok'; rfl
  exact ⟨a, dx, ws, by rw [e, ea, e'], ha, q _ _ _ h trivial (Same.refl _) (.bl _) fun z => z.elim⟩
/-- len(set(xs)) of different ints -/
theorem ex_lenSet (h : EX C te env fun s e => ∃ ns : List Int, rdl e s = some (ns.map Dat.int) ∧ ns.Nodup ∧ ns.length ≤ 4000 ∧ K (.im (.int (ns.length : Nat))) e) : EX C (RZ.tLenSetI F te) env K := fun B H0 σ H R Q q =>
  h B H0 σ H R _ fun s e v H1 ⟨ns, hd, hn, hl, kk⟩ _ fr o R1 ok _ => by
    obtain ⟨l, xs, ev, hx, r, _⟩ := rdl_ok R1 ok hd
    rw [r.ints] at hx
    exact ⟨l, ns, ev, hx.sq, hn, hl, q _ e _ H1 kk trivial fr o R1 (.int _) fun z => z.elim⟩
/-- {k: v} -/
theorem ex_disp1 (h : EX C tk env fun s1 e1 => ∃ n, s1 = .im (.int n) ∧ EX C tv e1 fun s2 e2 => ∃ d, s2 = .im d ∧ K (.od [(n, d)]) e2) : EX C (tDisp [(tk, tv)]) env K := fun B H0 σ H R Q q => by
  intro p hp
  have nb : ¬ B p := fun b => by
    obtain ⟨o, ho, _⟩ := R.mutB p b
    rw [hp] at ho
    cases ho
  have h0 : H0 p = none := by
    cases e : H0 p with
    | none => rfl
    | some o =>
      have := R.base p o e nb
      rw [hp] at this
      cases this
  have smD : Same H (upd H p (.dK [])) := Same.new hp
  have nown : ∀ e, (∀ a, Owned σ e a → Owned σ env a) → ¬ Owned σ e p := fun e o w => by
    obtain ⟨⟨u, hu, _⟩, _⟩ := R.ownM (o p w)
    rw [hp] at hu
    cases hu
  show tk σ (upd H p (.dK [])) _
  refine h B H0 σ _ (R.same smD) _ fun s1 e1 y H2 ⟨n, es, h2⟩ _ f1 o1 R1 ok1 _ => ?_
  subst es
  refine h2 B H0 σ H2 R1 _ fun s2 e2 z H3 ⟨d, es, kk⟩ _ f2 o2 R2 ok2 _ => ?_
  subst es
  show H3 p = some (.dK []) ∧ _
  have hx : H3 p = some (.dK []) := f2.keep _ _ (f1.keep _ _ upd_same nb (nown env fun _ w => w)) nb (nown e1 o1)
  have ey : y = .int n := rep_int ok1
  refine ⟨hx, [(Sum.inl n, z)], by rw [ey]; rfl, Nat.le_of_ble_eq_true rfl, ?_⟩
  have kpD : Kp C H3 (upd H3 p (.dK [(Sum.inl n, z)])) := kp_mut hx imm_dK
  have o12 : ∀ a, Owned σ e2 a → Owned σ env a := fun a w => o1 a (o2 a w)
  have R3 := R2.other' (w := .dK [(Sum.inl n, z)]) hx imm_dK dK_ni nb (nown e2 o12) h0
  have fm : Frm B H σ env H3 := ((Frm.same smD).trans f1 (fun _ w => w)).trans f2 o1
  exact q _ e2 (.ref p) _ kk trivial (fm.other hp) o12 R3 ⟨p, _, rfl, h0, nb, upd_same, .cons (Rep.mono kpD ok2) .nil⟩ fun _ a ea => by cases ea; exact hp
/-- d.get(k, x) of what never changes -/
theorem ex_dget2 (h : EX C ta env fun s1 e1 => ∃ ks, s1 = .im (.dct ks) ∧ EX C tb e1 fun s2 e2 => ∃ k, s2 = .im (.int k) ∧ EX C tc e2 fun s3 e3 => ∃ d, s3 = .im d ∧ K (.im ((lookK ks k).getD d)) e3) : EX C (tDGet2 ta tb tc) env K := fun B H0 σ H R Q q =>
  h B H0 σ H R _ fun s1 e1 x H1 ⟨ks, es, h1⟩ _ f1 o1 R1 k1 _ => by
    subst es
    obtain ⟨a, ob, xs, ev, hx, r⟩ := rep_dct k1
    refine ⟨a, ev, .inl ⟨xs, .inr ⟨ob, hx⟩⟩, ?_⟩
    refine h1 B H0 σ H1 R1 _ fun s2 e2 y H2 ⟨kk, es, h2⟩ _ f2 o2 R2 k2 _ => ?_
    subst es
    refine h2 B H0 σ H2 R2 _ fun s3 e3 z H3 ⟨d, es, kq⟩ _ f3 o3 R3 k3 _ => ?_
    subst es
    have hx3 : H3 a = some (.frz ob (.dK xs)) := R2.kp f3 _ _ (R1.kp f2 _ _ hx trivial) trivial
    have r3 : RepK C H3 xs ks := r.mono ((R1.kp f2).trans (R2.kp f3))
    refine ⟨valV xs (Sum.inl kk), .inl ⟨xs, Sum.inl kk, .inr ⟨ob, hx3⟩, rep_int (Rep.mono (R2.kp f3) k2), rfl⟩, ?_⟩
    have o12 : ∀ a, Owned σ e2 a → Owned σ env a := fun a w => o1 a (o2 a w)
    have fin : ∀ w, Rep C H3 w ((lookK ks kk).getD d) → Q w H3 := fun w rw' => q _ e3 w H3 kq trivial ((f1.trans f2 o1).trans f3 o12) (fun a w => o12 a (o3 a w)) R3 rw' fun z => z.elim
    rcases r3.look kk with ⟨n1, n2⟩ | ⟨d', w, n1, n2, rw'⟩
    · rw [n2]
      refine fin z ?_
      rw [n1]
      exact k3
    · rw [n2]
      refine fin w ?_
      rw [n1]
      exact rw'
/-- list(range(i, j)) -/
theorem ex_listRg1 (h : EX C te env fun s e => ∃ n : Int, s = .im (.int n) ∧ 0 ≤ n ∧ n ≤ 1000000 ∧ K (.ow (rgD 0 1 n.toNat)) e) : EX C (tLstRg (tRg1 te)) env K := fun B H0 σ H R Q q =>
  h B H0 σ H R _ fun s e v H1 ⟨n, es, h0, h1, kk⟩ _ fr o R1 ok _ => by
    subst es
    refine ⟨n, rep_int ok, RgOk.of_le (by decide) (by omega) (by decide) h0, fun p hp => ?_⟩
    have r : Reps C H1 (rgV 0 n) (rgD 0 1 n.toNat) := by
      have e : rgV 0 n = ((List.range n.toNat).map fun (i : Nat) => (0 + (i : Int))).map V.int := by
        unfold rgV
        rw [Int.sub_zero, List.map_map]
        rfl
      have e2 : rgD 0 1 n.toNat = ((List.range n.toNat).map fun (i : Nat) => (0 + (i : Int))).map Dat.int := by
        unfold rgD
        rw [List.map_map]
        apply List.map_congr_left
        intro i _
        simp
      rw [e, e2]
      exact Reps.of_ints _
    obtain ⟨okn, sm⟩ := new_ow R1 hp r
    exact q _ e _ _ kk trivial (fr.trans (Frm.same sm) o) o (R1.same sm) okn fun _ a ea => by cases ea; exact fr.dom p hp
/-- two generators, the first of nothing -/
theorem ex_lc2E {wi wi1 : TI} {g1 : TG} {tt tt1 : TT} {vs vs1 : List Nat} (h : IX C wi g tg env fun ds Z e1 => ds = [] ∧ K (.ow []) e1) : EX C (tLc2 wi g tt wi1 g1 tt1 te vs vs1) env K := fun B H0 σ H R Q q => by
  refine h B H0 σ H R _ fun J ds Z e1 H1 G ⟨hds, kk⟩ fm1 o1 R1 gg gk zk wk => ?_
  subst hds
  intro D hD
  obtain ⟨ok, smD⟩ := new_ow (xs := []) R1 hD .nil
  have RD := R1.same smD
  refine ⟨fun i m H' => i = 0 ∧ H' = upd H1 D (.lst []), ⟨0, rfl, rfl⟩, ?_⟩
  rintro i m H' ⟨ei, eh⟩
  subst ei eh
  refine .inl ⟨(wk 0 (L2.wipe σ vs) _ (wipeE e1 vs) (gk _ _ _ _ gg (Kp.same smD) RD trivial) RD.wipe).1 rfl, ?_⟩
  exact q _ e1 _ _ kk trivial (fm1.trans (Frm.same smD) o1) o1 RD ok fun _ a ea => by cases ea; exact fm1.dom D hD
/-! ### a borrowed dict, locked while an expression reads it -/
def lockD (a : Addr) (ks : List (Int × Dat)) : Dat → Dat
  | .cls b => if b = a then .dct ks else .cls b
  | d => d
def lockS (a : Addr) (ks : List (Int × Dat)) : Sl → Sl
  | .im d => .im d
  | .mk _ c fs => .ri c (fs.map fun q => (q.1, lockD a ks q.2))
  | .bd b _ => if b = a then .im (.dct ks) else .un
  | _ => .un
theorem lockS_bd {a b : Addr} {ks m : List (Int × Dat)} : lockS a ks (.bd b m) = if b = a then .im (.dct ks) else .un := rfl
theorem lockD_rep {a : Addr} {ks : List (Int × Dat)} {xs : List (Key × V)} {o : Obj} {d : Dat} (ha : H a = some (.frz o (.dK xs))) (r : RepK C H xs ks) (h : Rep C H v d) : Rep C H v (lockD a ks d) := by
  cases d with
  | cls b =>
    have eq : lockD a ks (.cls b) = if b = a then .dct ks else .cls b := rfl
    rw [eq]
    by_cases e : b = a
    · rw [if_pos e]
      subst e
      cases h
      exact .dct ha r
    · rw [if_neg e]; exact h
  | _ => exact h
theorem lockF_rep {a : Addr} {ks : List (Int × Dat)} {xs : List (Key × V)} {o : Obj} (ha : H a = some (.frz o (.dK xs))) (r : RepK C H xs ks) : ∀ {vs : List (Str × V)} {fs : List (Str × Dat)}, RepF C H vs fs → RepF C H vs (fs.map fun q => (q.1, lockD a ks q.2))
  | _, _, .nil => .nil
  | _, _, .cons h t => .cons (lockD_rep ha r h) (lockF_rep ha r t)
theorem ex_lockB {j : Nat} {a : Addr} {ks : List (Int × Dat)} (he : env[j]? = some (.bd a ks)) (h : EX C te (env.map (lockS a ks)) fun s _ => ∃ ns : List Int, s = .ow (ns.map Dat.int) ∧ K (.ow (ns.map Dat.int)) env) : EX C (tLockE te) env K := fun B H0 σ H R Q q => by
  obtain ⟨hB, xs, hx, rr⟩ := bd_at R he
  refine ⟨a, _, hx, trivial, fun od => ?_⟩
  have kp : Kp C H (upd H a (.frz od (.dK xs))) := kp_mut hx imm_dK
  have ha : (upd H a (.frz od (.dK xs))) a = some (.frz od (.dK xs)) := upd_same
  have rL := rr.mono kp
  have RL : RepE C (fun _ => False) (upd H a (.frz od (.dK xs))) (upd H a (.frz od (.dK xs))) σ (env.map (lockS a ks)) := by
    have at' : ∀ (i : Nat) (s : Sl), (env.map (lockS a ks))[i]? = some s → ∃ u, env[i]? = some u ∧ lockS a ks u = s := fun i s e => by
      rw [List.getElem?_map] at e
      cases hu : env[i]? with
      | none => rw [hu] at e; cases e
      | some u => rw [hu] at e; cases e; exact ⟨u, rfl, rfl⟩
    have noOwn : ∀ u, ¬ OwnS (lockS a ks u) := fun u => by
      cases u with
      | bd b m =>
        rw [lockS_bd]
        by_cases e : b = a
        · rw [if_pos e]; exact id
        · rw [if_neg e]; exact id
      | _ => exact id
    refine ⟨by rw [List.length_map]; exact R.len, fun i s e => ?_, fun i j s u w e1 e2 o1 o2 _ _ => ?_, fun i m e => ?_, fun _ _ h _ => h, fun _ b => b.elim⟩
    · obtain ⟨u, hu, es⟩ := at' i s e
      subst es
      rcases R.slot i u hu with z | ⟨w, hw, ok⟩
      · subst z; exact .inl rfl
      · cases u with
        | im d => exact .inr ⟨w, hw, Rep.mono kp ok⟩
        | mk p c fs =>
          obtain ⟨e1, hb, dx, vs, hp, r⟩ := ok
          refine .inr ⟨w, hw, p, dx, vs, e1, ?_, id, lockF_rep ha rL (r.mono kp)⟩
          rw [upd_ne (fun z => by rw [z, hx] at hp; cases hp)]
          exact hp
        | bd b m =>
          rw [lockS_bd]
          by_cases eb : b = a
          · rw [if_pos eb]
            subst eb
            obtain ⟨e1, _⟩ := ok
            exact .inr ⟨w, hw, by rw [e1]; exact .dct ha rL⟩
          · rw [if_neg eb]
            exact .inl rfl
        | _ => exact .inl rfl
    · obtain ⟨u, hu, es⟩ := at' i s e1
      subst es
      exact absurd o1 (noOwn u)
    · obtain ⟨u, hu, es⟩ := at' i _ e
      cases u with
      | bd b m =>
        rw [lockS_bd] at es
        by_cases eb : b = a
        · rw [if_pos eb] at es; cases es
        · rw [if_neg eb] at es; cases es
      | _ => cases es
  refine h _ _ σ _ RL _ fun s e v H' ⟨ns, es, kk⟩ _ f o R' ok nw => ?_
  subst es
  have sm : ∀ x u, (upd H a (.frz od (.dK xs))) x = some u → H' x = some u := fun x u e => R'.base x u e id
  obtain ⟨l, ys, ev, hl0, _, hl, rl⟩ := ok
  have hla : l ≠ a := fun z => by rw [z, ha] at hl0; cases hl0
  have hln : H l = none := by rw [upd_ne hla] at hl0; exact hl0
  refine ⟨sm _ _ ha, ?_⟩
  have smH : Same H (upd H' a (.dK xs)) := fun x u e => by
    by_cases z : x = a
    · subst z
      rw [hx] at e
      cases e
      exact upd_same
    · rw [upd_ne z]
      exact sm x u (by rw [upd_ne z]; exact e)
  refine q _ env v _ kk trivial (Frm.same smH) (fun _ w => w) (R.same smH) ⟨l, ys, ev, ?_, ?_, ?_, ?_⟩ fun _ b eb => by rw [ev] at eb; cases eb; exact hln
  · cases e0 : H0 l with
    | none => rfl
    | some u =>
      exfalso
      by_cases b : B l
      · obtain ⟨u', hu', _⟩ := R.mutB l b
        rw [hln] at hu'
        cases hu'
      · rw [R.base l u e0 b] at hln
        cases hln
  · intro b
    obtain ⟨u', hu', _⟩ := R.mutB l b
    rw [hln] at hu'
    cases hu'
  · rw [upd_ne hla]; exact hl
  · rw [rl.ints]; exact Reps.of_ints ns
end
end Af
end

section
set_option maxHeartbeats 4000000
/-! The data of this program, plain. -/
namespace Af
open PySem L2
abbrev tupI (ns : List Int) : Dat := .tup (ns.map Dat.int)
abbrev lstI (ns : List Int) : Dat := .lst (ns.map Dat.int)
def isBelow (n c : Int) : Bool := decide (0 ≤ n) && decide (n < c)
def areWorths (ns : List Int) : Bool := !ns.isEmpty && ns.all fun n => isBelow n 8
def isContent (ns : List Int) : Bool := areWorths ns && decide ((ns.length : Int) ≤ 24)
/-- worths that are let -/
structure ChOk (ch : List Int) : Prop where
  worths : areWorths ch = true
  rises : ch.Pairwise (· < ·)
  few : ch.length ≤ 8
abbrev Pat := List (Int × List Int)
structure PatOk (cells : Int) (pat : Pat) : Prop where
  keys : ∀ p ∈ pat, isBelow p.1 cells = true
  chs : ∀ p ∈ pat, ChOk p.2
  nd : (pat.map (·.1)).Nodup
  few : pat.length ≤ 100
abbrev encPat (pat : Pat) : Dat := .dct (pat.map fun p => (p.1, tupI p.2))
def isMet (pat : Pat) (cs : List Int) : Bool := pat.all fun p => decide (cs.getD p.1.toNat 0 ∈ p.2)
/-! ### plans -/
abbrev Stp := Option (Int × List Int)
@[reducible] def encStp : Stp → Dat
  | none => .non
  | some (f, ws) => .tup [.int f, tupI ws]
abbrev Pc := Int × Int × List Int
abbrev encPc (p : Pc) : Dat := .tup [.int p.1, .int p.2.1, tupI p.2.2]
def stepOk (cells : Int) : Stp → Bool
  | none => true
  | some (f, ws) => isBelow f cells && areWorths ws && decide (f + (ws.length : Int) ≤ cells)
/-- the pieces of a write, after so many places, and where the next one starts -/
def brkGo (i f w : Int) (ws : List Int) : Nat → List Pc × Nat
  | 0 => ([], 0)
  | p + 1 => if p + 1 = ws.length ∨ (f + ((p + 1 : Nat) : Int)) % w = 0 then ((brkGo i f w ws p).1 ++ [(i, f + ((brkGo i f w ws p).2 : Int), (ws.drop (brkGo i f w ws p).2).take (p + 1 - (brkGo i f w ws p).2))], p + 1) else brkGo i f w ws p
theorem brkGo_pos {i f w : Int} {ws : List Int} {p : Nat} (h : p + 1 = ws.length ∨ (f + ((p + 1 : Nat) : Int)) % w = 0) : brkGo i f w ws (p + 1) = ((brkGo i f w ws p).1 ++ [(i, f + ((brkGo i f w ws p).2 : Int), (ws.drop (brkGo i f w ws p).2).take (p + 1 - (brkGo i f w ws p).2))], p + 1) := by
  rw [brkGo, if_pos h]
theorem brkGo_neg {i f w : Int} {ws : List Int} {p : Nat} (h : ¬ (p + 1 = ws.length ∨ (f + ((p + 1 : Nat) : Int)) % w = 0)) : brkGo i f w ws (p + 1) = brkGo i f w ws p := by
  rw [brkGo, if_neg h]
theorem brkGo_le (i f w : Int) (ws : List Int) : ∀ p : Nat, (brkGo i f w ws p).1.length ≤ p ∧ (brkGo i f w ws p).2 ≤ p
  | 0 => ⟨Nat.le_refl _, Nat.le_refl _⟩
  | p + 1 => by
    have ih := brkGo_le i f w ws p
    unfold brkGo
    split
    · exact ⟨by simp; omega, Nat.le_refl _⟩
    · exact ⟨by omega, by omega⟩
def brk (i f w : Int) (ws : List Int) : List Pc := (brkGo i f w ws ws.length).1
def brkS (w : Int) (p : Stp × Nat) : List Pc := match p.1 with
  | none => []
  | some (f, ws) => brk p.2 f w ws
def partsOf (steps : List Stp) (w : Int) : List Pc := steps.zipIdx.flatMap (brkS w)
def rankOf (steps : List Stp) (p : Pc) : Int := ((steps.take p.1.toNat).countP Option.isNone : Nat)
structure Pl where
  base : List Int
  width : Int
  steps : List Stp
def Pl.parts (p : Pl) : List Pc := partsOf p.steps p.width
def Pl.ranks (p : Pl) : List Int := p.parts.map (rankOf p.steps)
structure PlOk (p : Pl) : Prop where
  base : isContent p.base = true
  w1 : 1 ≤ p.width
  w2 : p.width ≤ 24
  len : p.steps.length ≤ 40
  steps : ∀ s ∈ p.steps, stepOk p.base.length s = true
  few : p.parts.length ≤ 40
def fStart : Str := "start"
def Pl.fs (p : Pl) : List (Str × Dat) := [("start", tupI p.base), ("span", .int p.width), ("deeds", .lst (p.steps.map encStp)), ("parts", .lst (p.parts.map encPc)), ("ranks", lstI p.ranks)]
abbrev Pl.enc (p : Pl) : Dat := .obj p.fs
theorem flatMap_len {α β : Type} {f : α → List β} {m : Nat} : ∀ {l : List α}, (∀ x ∈ l, (f x).length ≤ m) → (l.flatMap f).length ≤ l.length * m
  | [], _ => by simp
  | x :: l, h => by
    rw [List.flatMap_cons, List.length_append, List.length_cons, Nat.succ_mul]
    have := h x List.mem_cons_self
    have := flatMap_len (l := l) fun y hy => h y (List.mem_cons_of_mem _ hy)
    omega
theorem brk_le {i f w : Int} {ws : List Int} : (brk i f w ws).length ≤ ws.length := (brkGo_le i f w ws ws.length).1
theorem brkS_le {w : Int} {p : Stp × Nat} {m : Nat} (h : ∀ f ws, p.1 = some (f, ws) → ws.length ≤ m) : (brkS w p).length ≤ m := by
  obtain ⟨s, n⟩ := p
  cases s with
  | none => exact Nat.zero_le _
  | some x => exact Nat.le_trans brk_le (h x.1 x.2 rfl)
/-! ### places -/
theorem atI_of {α : Type} {xs : List α} {i : Int} {x : α} (h0 : 0 ≤ i) (h : xs[i.toNat]? = some x) : L2.atI xs i = some x := by
  have hl := (List.getElem?_eq_some_iff.mp h).1
  unfold L2.atI ixN
  rw [if_pos h0, if_pos (by omega)]
  exact h
theorem atI_int {ns : List Int} {i : Int} (h0 : 0 ≤ i) (h : i < ns.length) : L2.atI (ns.map Dat.int) i = some (.int (ns.getD i.toNat 0)) := by
  refine atI_of h0 ?_
  rw [List.getElem?_map, List.getD_eq_getElem?_getD, List.getElem?_eq_getElem (by omega)]
  rfl
theorem ixN_of {n : Nat} {i : Int} (h0 : 0 ≤ i) (h : i < n) : ixN n i = some i.toNat := by
  unfold ixN
  rw [if_pos h0, if_pos h]
theorem cutD_of {ds : List Dat} {i j : Nat} (hi : i ≤ j) (hj : j ≤ ds.length) : cutD ds (some (i : Int)) (some (j : Int)) = (ds.drop i).take (j - i) := by
  unfold cutD
  rw [HT.sIx_nat, HT.sIx_nat, Nat.min_eq_left hj, Nat.min_eq_left (Nat.le_trans hi hj)]
theorem cutD_to {ds : List Dat} {j : Nat} : cutD ds none (some (j : Int)) = ds.take j := by
  unfold cutD
  rw [HT.sIx_nat, HT.sIx_none, List.drop_zero, Nat.sub_zero]
  by_cases h : j ≤ ds.length
  · rw [Nat.min_eq_left h]
  · rw [Nat.min_eq_right (by omega), List.take_of_length_le (Nat.le_refl _), List.take_of_length_le (by omega)]
theorem cutD_from {ds : List Dat} {i : Nat} : cutD ds (some (i : Int)) none = ds.drop i := by
  unfold cutD
  rw [HT.sIx_nat, HT.sIx_none]
  by_cases h : i ≤ ds.length
  · rw [Nat.min_eq_left h, List.take_of_length_le (by rw [List.length_drop]; exact Nat.le_refl _)]
  · rw [Nat.min_eq_right (by omega), Nat.sub_self, List.take_zero, List.drop_of_length_le (by omega)]
end Af
end

section
set_option maxHeartbeats 4000000
namespace Af
open PySem L2
def top (i : Nat) : Stmt := PySem.Challenge.pw_afterfall_k62_whole_barriers_more.main.body.getD i (.Pass ⟨0, 0, 0, 0⟩)
abbrev s__wall : Stmt := top 0
abbrev N__wall : List Str := ["k"]
abbrev P__wall : List Str := ["k"]
theorem sc__wall : FnScope N__wall P__wall (defScope s__wall) := ⟨rfl, rfl, rfl, by decide +kernel, rfl, by decide +kernel, by decide +kernel⟩
abbrev s_is_integer : Stmt := top 13
abbrev N_is_integer : List Str := ["thing"]
abbrev P_is_integer : List Str := ["thing"]
theorem sc_is_integer : FnScope N_is_integer P_is_integer (defScope s_is_integer) := ⟨rfl, rfl, rfl, by decide +kernel, rfl, by decide +kernel, by decide +kernel⟩
abbrev s_is_below : Stmt := top 14
abbrev N_is_below : List Str := ["thing", "count"]
abbrev P_is_below : List Str := ["thing", "count"]
theorem sc_is_below : FnScope N_is_below P_is_below (defScope s_is_below) := ⟨rfl, rfl, rfl, by decide +kernel, rfl, by decide +kernel, by decide +kernel⟩
abbrev s_are_worths : Stmt := top 15
abbrev N_are_worths : List Str := ["thing", "worth"]
abbrev P_are_worths : List Str := ["thing"]
theorem sc_are_worths : FnScope N_are_worths P_are_worths (defScope s_are_worths) := ⟨rfl, rfl, rfl, by decide +kernel, rfl, by decide +kernel, by decide +kernel⟩
abbrev s_is_content : Stmt := top 16
abbrev N_is_content : List Str := ["thing"]
abbrev P_is_content : List Str := ["thing"]
theorem sc_is_content : FnScope N_is_content P_is_content (defScope s_is_content) := ⟨rfl, rfl, rfl, by decide +kernel, rfl, by decide +kernel, by decide +kernel⟩
abbrev s_is_choice : Stmt := top 17
abbrev N_is_choice : List Str := ["thing"]
abbrev P_is_choice : List Str := ["thing"]
theorem sc_is_choice : FnScope N_is_choice P_is_choice (defScope s_is_choice) := ⟨rfl, rfl, rfl, by decide +kernel, rfl, by decide +kernel, by decide +kernel⟩
abbrev s_is_pattern : Stmt := top 18
abbrev N_is_pattern : List Str := ["cells", "thing", "cell", "choice"]
abbrev P_is_pattern : List Str := ["cells", "thing"]
theorem sc_is_pattern : FnScope N_is_pattern P_is_pattern (defScope s_is_pattern) := ⟨rfl, rfl, rfl, by decide +kernel, rfl, by decide +kernel, by decide +kernel⟩
abbrev s_check_pattern : Stmt := top 19
abbrev N_check_pattern : List Str := ["cells", "thing"]
abbrev P_check_pattern : List Str := ["cells", "thing"]
theorem sc_check_pattern : FnScope N_check_pattern P_check_pattern (defScope s_check_pattern) := ⟨rfl, rfl, rfl, by decide +kernel, rfl, by decide +kernel, by decide +kernel⟩
abbrev s_is_matched : Stmt := top 20
abbrev N_is_matched : List Str := ["pattern", "content", "cell", "choice"]
abbrev P_is_matched : List Str := ["pattern", "content"]
theorem sc_is_matched : FnScope N_is_matched P_is_matched (defScope s_is_matched) := ⟨rfl, rfl, rfl, by decide +kernel, rfl, by decide +kernel, by decide +kernel⟩
abbrev s_is_step : Stmt := top 24
abbrev N_is_step : List Str := ["cells", "thing"]
abbrev P_is_step : List Str := ["cells", "thing"]
theorem sc_is_step : FnScope N_is_step P_is_step (defScope s_is_step) := ⟨rfl, rfl, rfl, by decide +kernel, rfl, by decide +kernel, by decide +kernel⟩
abbrev s_broken : Stmt := top 25
abbrev N_broken : List Str := ["index", "step", "width", "first", "worths", "found", "start", "place"]
abbrev P_broken : List Str := ["index", "step", "width"]
theorem sc_broken : FnScope N_broken P_broken (defScope s_broken) := ⟨rfl, rfl, rfl, by decide +kernel, rfl, by decide +kernel, by decide +kernel⟩
abbrev s_pieces_of : Stmt := top 26
abbrev N_pieces_of : List Str := ["steps", "width", "found", "index", "step"]
abbrev P_pieces_of : List Str := ["steps", "width"]
theorem sc_pieces_of : FnScope N_pieces_of P_pieces_of (defScope s_pieces_of) := ⟨rfl, rfl, rfl, by decide +kernel, rfl, by decide +kernel, by decide +kernel⟩
abbrev s_PlanX_initX : Stmt := inClass (top 27) 0
abbrev N_PlanX_initX : List Str := ["self", "base", "width", "steps", "part", "step"]
abbrev P_PlanX_initX : List Str := ["self", "base", "width", "steps"]
theorem sc_PlanX_initX : FnScope N_PlanX_initX P_PlanX_initX (defScope s_PlanX_initX) := ⟨rfl, rfl, rfl, by decide +kernel, rfl, by decide +kernel, by decide +kernel⟩
abbrev s_Plan_base : Stmt := inClass (top 27) 1
abbrev N_Plan_base : List Str := ["self"]
abbrev P_Plan_base : List Str := ["self"]
theorem sc_Plan_base : FnScope N_Plan_base P_Plan_base (defScope s_Plan_base) := ⟨rfl, rfl, rfl, by decide +kernel, rfl, by decide +kernel, by decide +kernel⟩
abbrev s_Plan_width : Stmt := inClass (top 27) 2
abbrev N_Plan_width : List Str := ["self"]
abbrev P_Plan_width : List Str := ["self"]
theorem sc_Plan_width : FnScope N_Plan_width P_Plan_width (defScope s_Plan_width) := ⟨rfl, rfl, rfl, by decide +kernel, rfl, by decide +kernel, by decide +kernel⟩
abbrev s_Plan_steps : Stmt := inClass (top 27) 3
abbrev N_Plan_steps : List Str := ["self"]
abbrev P_Plan_steps : List Str := ["self"]
theorem sc_Plan_steps : FnScope N_Plan_steps P_Plan_steps (defScope s_Plan_steps) := ⟨rfl, rfl, rfl, by decide +kernel, rfl, by decide +kernel, by decide +kernel⟩
abbrev s_Plan_pieces : Stmt := inClass (top 27) 4
abbrev N_Plan_pieces : List Str := ["self"]
abbrev P_Plan_pieces : List Str := ["self"]
theorem sc_Plan_pieces : FnScope N_Plan_pieces P_Plan_pieces (defScope s_Plan_pieces) := ⟨rfl, rfl, rfl, by decide +kernel, rfl, by decide +kernel, by decide +kernel⟩
abbrev s_Plan_epochs : Stmt := inClass (top 27) 5
abbrev N_Plan_epochs : List Str := ["self"]
abbrev P_Plan_epochs : List Str := ["self"]
theorem sc_Plan_epochs : FnScope N_Plan_epochs P_Plan_epochs (defScope s_Plan_epochs) := ⟨rfl, rfl, rfl, by decide +kernel, rfl, by decide +kernel, by decide +kernel⟩
abbrev s_Plan_epoch_of : Stmt := inClass (top 27) 6
abbrev N_Plan_epoch_of : List Str := ["self", "piece"]
abbrev P_Plan_epoch_of : List Str := ["self", "piece"]
theorem sc_Plan_epoch_of : FnScope N_Plan_epoch_of P_Plan_epoch_of (defScope s_Plan_epoch_of) := ⟨rfl, rfl, rfl, by decide +kernel, rfl, by decide +kernel, by decide +kernel⟩
abbrev s_Plan_with_step : Stmt := inClass (top 27) 7
abbrev N_Plan_with_step : List Str := ["self", "index", "step"]
abbrev P_Plan_with_step : List Str := ["self", "index", "step"]
theorem sc_Plan_with_step : FnScope N_Plan_with_step P_Plan_with_step (defScope s_Plan_with_step) := ⟨rfl, rfl, rfl, by decide +kernel, rfl, by decide +kernel, by decide +kernel⟩
abbrev s_Plan_without_step : Stmt := inClass (top 27) 8
abbrev N_Plan_without_step : List Str := ["self", "index"]
abbrev P_Plan_without_step : List Str := ["self", "index"]
theorem sc_Plan_without_step : FnScope N_Plan_without_step P_Plan_without_step (defScope s_Plan_without_step) := ⟨rfl, rfl, rfl, by decide +kernel, rfl, by decide +kernel, by decide +kernel⟩
abbrev s_PlanX_eqX : Stmt := inClass (top 27) 9
abbrev N_PlanX_eqX : List Str := ["self", "other"]
abbrev P_PlanX_eqX : List Str := ["self", "other"]
theorem sc_PlanX_eqX : FnScope N_PlanX_eqX P_PlanX_eqX (defScope s_PlanX_eqX) := ⟨rfl, rfl, rfl, by decide +kernel, rfl, by decide +kernel, by decide +kernel⟩
abbrev s_cells_in : Stmt := top 28
abbrev N_cells_in : List Str := ["plan", "piece", "index", "first", "worths", "place", "worth"]
abbrev P_cells_in : List Str := ["plan", "piece"]
theorem sc_cells_in : FnScope N_cells_in P_cells_in (defScope s_cells_in) := ⟨rfl, rfl, rfl, by decide +kernel, rfl, by decide +kernel, by decide +kernel⟩
abbrev s_are_pieces : Stmt := top 30
abbrev N_are_pieces : List Str := ["plan", "thing", "piece"]
abbrev P_are_pieces : List Str := ["plan", "thing"]
theorem sc_are_pieces : FnScope N_are_pieces P_are_pieces (defScope s_are_pieces) := ⟨rfl, rfl, rfl, by decide +kernel, rfl, by decide +kernel, by decide +kernel⟩
abbrev s_lower_pieces : Stmt := top 31
abbrev N_lower_pieces : List Str := ["plan", "epoch", "piece", "rank"]
abbrev P_lower_pieces : List Str := ["plan", "epoch"]
theorem sc_lower_pieces : FnScope N_lower_pieces P_lower_pieces (defScope s_lower_pieces) := ⟨rfl, rfl, rfl, by decide +kernel, rfl, by decide +kernel, by decide +kernel⟩
abbrev s_is_fall : Stmt := top 32
abbrev N_is_fall : List Str := ["plan", "thing", "place", "piece", "other"]
abbrev P_is_fall : List Str := ["plan", "thing"]
theorem sc_is_fall : FnScope N_is_fall P_is_fall (defScope s_is_fall) := ⟨rfl, rfl, rfl, by decide +kernel, rfl, by decide +kernel, by decide +kernel⟩
abbrev s_check_fall : Stmt := top 33
abbrev N_check_fall : List Str := ["plan", "thing"]
abbrev P_check_fall : List Str := ["plan", "thing"]
theorem sc_check_fall : FnScope N_check_fall P_check_fall (defScope s_check_fall) := ⟨rfl, rfl, rfl, by decide +kernel, rfl, by decide +kernel, by decide +kernel⟩
abbrev s_overwritten : Stmt := top 34
abbrev N_overwritten : List Str := ["plan", "content", "pieces", "found", "piece", "cell", "worth"]
abbrev P_overwritten : List Str := ["plan", "content", "pieces"]
theorem sc_overwritten : FnScope N_overwritten P_overwritten (defScope s_overwritten) := ⟨rfl, rfl, rfl, by decide +kernel, rfl, by decide +kernel, by decide +kernel⟩
abbrev s_content_after : Stmt := top 35
abbrev N_content_after : List Str := ["plan", "fall"]
abbrev P_content_after : List Str := ["plan", "fall"]
theorem sc_content_after : FnScope N_content_after P_content_after (defScope s_content_after) := ⟨rfl, rfl, rfl, by decide +kernel, rfl, by decide +kernel, by decide +kernel⟩
abbrev s_is_found : Stmt := top 36
abbrev N_is_found : List Str := ["plan", "fall", "pattern", "content"]
abbrev P_is_found : List Str := ["plan", "fall", "pattern"]
theorem sc_is_found : FnScope N_is_found P_is_found (defScope s_is_found) := ⟨rfl, rfl, rfl, by decide +kernel, rfl, by decide +kernel, by decide +kernel⟩
abbrev s_are_ascending : Stmt := top 38
abbrev N_are_ascending : List Str := ["thing"]
abbrev P_are_ascending : List Str := ["thing"]
theorem sc_are_ascending : FnScope N_are_ascending P_are_ascending (defScope s_are_ascending) := ⟨rfl, rfl, rfl, by decide +kernel, rfl, by decide +kernel, by decide +kernel⟩
abbrev s_is_pair : Stmt := top 39
abbrev N_is_pair : List Str := ["plan", "thing", "piece"]
abbrev P_is_pair : List Str := ["plan", "thing"]
theorem sc_is_pair : FnScope N_is_pair P_is_pair (defScope s_is_pair) := ⟨rfl, rfl, rfl, by decide +kernel, rfl, by decide +kernel, by decide +kernel⟩
abbrev s_led_to : Stmt := top 40
abbrev N_led_to : List Str := ["pairs", "piece", "found", "waiting", "here", "one", "other"]
abbrev P_led_to : List Str := ["pairs", "piece"]
theorem sc_led_to : FnScope N_led_to P_led_to (defScope s_led_to) := ⟨rfl, rfl, rfl, by decide +kernel, rfl, by decide +kernel, by decide +kernel⟩
abbrev s_claimed_there : Stmt := top 41
abbrev N_claimed_there : List Str := ["claims", "there", "gone", "ahead", "pair", "piece"]
abbrev P_claimed_there : List Str := ["claims"]
theorem sc_claimed_there : FnScope N_claimed_there P_claimed_there (defScope s_claimed_there) := ⟨rfl, rfl, rfl, by decide +kernel, rfl, by decide +kernel, by decide +kernel⟩
abbrev s_is_claims : Stmt := top 42
abbrev N_is_claims : List Str := ["plan", "thing", "piece", "other", "part", "pair"]
abbrev P_is_claims : List Str := ["plan", "thing"]
theorem sc_is_claims : FnScope N_is_claims P_is_claims (defScope s_is_claims) := ⟨rfl, rfl, rfl, by decide +kernel, rfl, by decide +kernel, by decide +kernel⟩
abbrev s_check_claims : Stmt := top 43
abbrev N_check_claims : List Str := ["plan", "thing"]
abbrev P_check_claims : List Str := ["plan", "thing"]
theorem sc_check_claims : FnScope N_check_claims P_check_claims (defScope s_check_claims) := ⟨rfl, rfl, rfl, by decide +kernel, rfl, by decide +kernel, by decide +kernel⟩
abbrev s_refusal : Stmt := top 44
abbrev N_refusal : List Str := ["plan", "claims", "epoch", "late", "missing", "piece"]
abbrev P_refusal : List Str := ["plan", "claims", "epoch"]
theorem sc_refusal : FnScope N_refusal P_refusal (defScope s_refusal) := ⟨rfl, rfl, rfl, by decide +kernel, rfl, by decide +kernel, by decide +kernel⟩
abbrev s_sure_in : Stmt := top 45
abbrev N_sure_in : List Str := ["plan", "claims", "epoch"]
abbrev P_sure_in : List Str := ["plan", "claims", "epoch"]
theorem sc_sure_in : FnScope N_sure_in P_sure_in (defScope s_sure_in) := ⟨rfl, rfl, rfl, by decide +kernel, rfl, by decide +kernel, by decide +kernel⟩
abbrev s_PeelX_initX : Stmt := inClass (top 48) 0
abbrev N_PeelX_initX : List Str := ["self", "plan", "pattern", "claims", "epoch", "came", "below", "piece", "other", "rank", "%1", "%2", "%3", "%4"]
abbrev P_PeelX_initX : List Str := ["self", "plan", "pattern", "claims", "epoch", "came"]
theorem sc_PeelX_initX : FnScope N_PeelX_initX P_PeelX_initX (defScope s_PeelX_initX) := ⟨rfl, rfl, rfl, by decide +kernel, rfl, by decide +kernel, by decide +kernel⟩
abbrev s_Peel_spoilt : Stmt := inClass (top 48) 1
abbrev N_Peel_spoilt : List Str := ["self", "piece", "worths", "cell", "%1", "%2", "%3", "%4"]
abbrev P_Peel_spoilt : List Str := ["self", "piece"]
theorem sc_Peel_spoilt : FnScope N_Peel_spoilt P_Peel_spoilt (defScope s_Peel_spoilt) := ⟨rfl, rfl, rfl, by decide +kernel, rfl, by decide +kernel, by decide +kernel⟩
abbrev s_Peel_can_be_last : Stmt := inClass (top 48) 2
abbrev N_Peel_can_be_last : List Str := ["self", "piece", "other", "%1", "%2", "%3", "%4"]
abbrev P_Peel_can_be_last : List Str := ["self", "piece"]
theorem sc_Peel_can_be_last : FnScope N_Peel_can_be_last P_Peel_can_be_last (defScope s_Peel_can_be_last) := ⟨rfl, rfl, rfl, by decide +kernel, rfl, by decide +kernel, by decide +kernel⟩
abbrev s_Peel_take : Stmt := inClass (top 48) 3
abbrev N_Peel_take : List Str := ["self", "piece", "cell", "%1", "%2", "%3", "%4"]
abbrev P_Peel_take : List Str := ["self", "piece"]
theorem sc_Peel_take : FnScope N_Peel_take P_Peel_take (defScope s_Peel_take) := ⟨rfl, rfl, rfl, by decide +kernel, rfl, by decide +kernel, by decide +kernel⟩
abbrev s_Peel_take_all : Stmt := inClass (top 48) 4
abbrev N_Peel_take_all : List Str := ["self", "pieces", "ready", "piece", "%1", "%2", "%3", "%4"]
abbrev P_Peel_take_all : List Str := ["self", "pieces"]
theorem sc_Peel_take_all : FnScope N_Peel_take_all P_Peel_take_all (defScope s_Peel_take_all) := ⟨rfl, rfl, rfl, by decide +kernel, rfl, by decide +kernel, by decide +kernel⟩
abbrev s_Peel_go_through : Stmt := inClass (top 48) 5
abbrev N_Peel_go_through : List Str := ["self", "rank", "piece", "left", "%1", "%2", "%3", "%4"]
abbrev P_Peel_go_through : List Str := ["self"]
theorem sc_Peel_go_through : FnScope N_Peel_go_through P_Peel_go_through (defScope s_Peel_go_through) := ⟨rfl, rfl, rfl, by decide +kernel, rfl, by decide +kernel, by decide +kernel⟩
abbrev s_peeled : Stmt := top 49
abbrev N_peeled : List Str := ["plan", "pattern", "claims", "epoch", "came", "peel", "%1", "%2", "%3", "%4"]
abbrev P_peeled : List Str := ["plan", "pattern", "claims", "epoch", "came"]
theorem sc_peeled : FnScope N_peeled P_peeled (defScope s_peeled) := ⟨rfl, rfl, rfl, by decide +kernel, rfl, by decide +kernel, by decide +kernel⟩
abbrev s_can_begin : Stmt := top 50
abbrev N_can_begin : List Str := ["claims", "came", "piece", "other"]
abbrev P_can_begin : List Str := ["claims", "came"]
theorem sc_can_begin : FnScope N_can_begin P_can_begin (defScope s_can_begin) := ⟨rfl, rfl, rfl, by decide +kernel, rfl, by decide +kernel, by decide +kernel⟩
abbrev s_sought_behind : Stmt := top 51
abbrev N_sought_behind : List Str := ["plan", "pattern", "claims", "came", "epoch", "peel", "piece"]
abbrev P_sought_behind : List Str := ["plan", "pattern", "claims", "came"]
theorem sc_sought_behind : FnScope N_sought_behind P_sought_behind (defScope s_sought_behind) := ⟨rfl, rfl, rfl, by decide +kernel, rfl, by decide +kernel, by decide +kernel⟩
abbrev s_sought : Stmt := top 52
abbrev N_sought : List Str := ["plan", "pattern", "claims"]
abbrev P_sought : List Str := ["plan", "pattern", "claims"]
theorem sc_sought : FnScope N_sought P_sought (defScope s_sought) := ⟨rfl, rfl, rfl, by decide +kernel, rfl, by decide +kernel, by decide +kernel⟩
abbrev s_find : Stmt := top 53
abbrev N_find : List Str := ["plan", "pattern", "claims"]
abbrev P_find : List Str := ["plan", "pattern", "claims"]
theorem sc_find : FnScope N_find P_find (defScope s_find) := ⟨rfl, rfl, rfl, by decide +kernel, rfl, by decide +kernel, by decide +kernel⟩
abbrev s_entry : Stmt := top 54
abbrev N_entry : List Str := ["plan", "pattern", "claims", "epoch", "refused"]
abbrev P_entry : List Str := ["plan", "pattern", "claims", "epoch"]
theorem sc_entry : FnScope N_entry P_entry (defScope s_entry) := ⟨rfl, rfl, rfl, by decide +kernel, rfl, by decide +kernel, by decide +kernel⟩
abbrev s_shut : Stmt := top 55
abbrev N_shut : List Str := ["plan", "pattern", "claims", "epoch"]
abbrev P_shut : List Str := ["plan", "pattern", "claims"]
theorem sc_shut : FnScope N_shut P_shut (defScope s_shut) := ⟨rfl, rfl, rfl, by decide +kernel, rfl, by decide +kernel, by decide +kernel⟩
abbrev s__law_pen : Stmt := top 57
abbrev N__law_pen : List Str := ["_law_script"]
abbrev P__law_pen : List Str := ["_law_script"]
theorem sc__law_pen : FnScope N__law_pen P__law_pen (defScope s__law_pen) := ⟨rfl, rfl, rfl, by decide +kernel, rfl, by decide +kernel, by decide +kernel⟩
abbrev s__law_next : Stmt := top 58
abbrev N__law_next : List Str := ["_law_pen_here", "_law_index", "_law_cell_here", "_law_some_here", "_law_more", "_law_high"]
abbrev P__law_next : List Str := ["_law_pen_here"]
theorem sc__law_next : FnScope N__law_next P__law_next (defScope s__law_next) := ⟨rfl, rfl, rfl, by decide +kernel, rfl, by decide +kernel, by decide +kernel⟩
abbrev s__law_draw : Stmt := top 59
abbrev N__law_draw : List Str := ["_law_pen_here", "_law_under", "_law_digit"]
abbrev P__law_draw : List Str := ["_law_pen_here", "_law_under"]
theorem sc__law_draw : FnScope N__law_draw P__law_draw (defScope s__law_draw) := ⟨rfl, rfl, rfl, by decide +kernel, rfl, by decide +kernel, by decide +kernel⟩
abbrev s__law_some : Stmt := top 60
abbrev N__law_some : List Str := ["_law_pen_here", "_law_pool", "_law_most", "_law_rest", "_law_turn"]
abbrev P__law_some : List Str := ["_law_pen_here", "_law_pool", "_law_most"]
theorem sc__law_some : FnScope N__law_some P__law_some (defScope s__law_some) := ⟨rfl, rfl, rfl, by decide +kernel, rfl, by decide +kernel, by decide +kernel⟩
abbrev s__law_is_whole : Stmt := top 61
abbrev N__law_is_whole : List Str := ["_law_thing", "_law_low", "_law_under"]
abbrev P__law_is_whole : List Str := ["_law_thing", "_law_low", "_law_under"]
theorem sc__law_is_whole : FnScope N__law_is_whole P__law_is_whole (defScope s__law_is_whole) := ⟨rfl, rfl, rfl, by decide +kernel, rfl, by decide +kernel, by decide +kernel⟩
abbrev s__law_split : Stmt := top 62
abbrev N__law_split : List Str := ["_law_index", "_law_step_here", "_law_span_here", "_law_first", "_law_worths_here", "_law_found_here", "_law_some_here", "_law_k"]
abbrev P__law_split : List Str := ["_law_index", "_law_step_here", "_law_span_here"]
theorem sc__law_split : FnScope N__law_split P__law_split (defScope s__law_split) := ⟨rfl, rfl, rfl, by decide +kernel, rfl, by decide +kernel, by decide +kernel⟩
abbrev s__law_parts : Stmt := top 63
abbrev N__law_parts : List Str := ["_law_plan_here", "_law_found_here", "_law_index"]
abbrev P__law_parts : List Str := ["_law_plan_here"]
theorem sc__law_parts : FnScope N__law_parts P__law_parts (defScope s__law_parts) := ⟨rfl, rfl, rfl, by decide +kernel, rfl, by decide +kernel, by decide +kernel⟩
abbrev s__law_ranks : Stmt := top 64
abbrev N__law_ranks : List Str := ["_law_plan_here", "_law_part"]
abbrev P__law_ranks : List Str := ["_law_plan_here"]
theorem sc__law_ranks : FnScope N__law_ranks P__law_ranks (defScope s__law_ranks) := ⟨rfl, rfl, rfl, by decide +kernel, rfl, by decide +kernel, by decide +kernel⟩
abbrev s__law_write : Stmt := top 65
abbrev N__law_write : List Str := ["_law_pen_here", "_law_many", "_law_kinds", "_law_longest_row", "_law_first", "_law_more", "_law_k"]
abbrev P__law_write : List Str := ["_law_pen_here", "_law_many", "_law_kinds", "_law_longest_row"]
theorem sc__law_write : FnScope N__law_write P__law_write (defScope s__law_write) := ⟨rfl, rfl, rfl, by decide +kernel, rfl, by decide +kernel, by decide +kernel⟩
abbrev s__law_drawn : Stmt := top 66
abbrev N__law_drawn : List Str := ["_law_pen_here", "_law_many", "_law_most", "_law_kinds", "_law_cells_here", "_law_plan_here", "_law_turn", "_law_longer", "_law_k"]
abbrev P__law_drawn : List Str := ["_law_pen_here", "_law_many", "_law_most", "_law_kinds"]
theorem sc__law_drawn : FnScope N__law_drawn P__law_drawn (defScope s__law_drawn) := ⟨rfl, rfl, rfl, by decide +kernel, rfl, by decide +kernel, by decide +kernel⟩
abbrev s__law_log : Stmt := top 67
abbrev N__law_log : List Str := ["_law_pen_here", "_law_kinds", "_law_news", "_law_steps_here", "_law_step_here"]
abbrev P__law_log : List Str := ["_law_pen_here", "_law_kinds"]
theorem sc__law_log : FnScope N__law_log P__law_log (defScope s__law_log) := ⟨rfl, rfl, rfl, by decide +kernel, rfl, by decide +kernel, by decide +kernel⟩
abbrev s__law_copy : Stmt := top 68
abbrev N__law_copy : List Str := ["_law_pen_here", "_law_kinds", "_law_news", "_law_steps_here"]
abbrev P__law_copy : List Str := ["_law_pen_here", "_law_kinds"]
theorem sc__law_copy : FnScope N__law_copy P__law_copy (defScope s__law_copy) := ⟨rfl, rfl, rfl, by decide +kernel, rfl, by decide +kernel, by decide +kernel⟩
abbrev s__law_plan : Stmt := top 69
abbrev N__law_plan : List Str := ["_law_pen_here", "_law_most", "_law_way_no"]
abbrev P__law_plan : List Str := ["_law_pen_here", "_law_most"]
theorem sc__law_plan : FnScope N__law_plan P__law_plan (defScope s__law_plan) := ⟨rfl, rfl, rfl, by decide +kernel, rfl, by decide +kernel, by decide +kernel⟩
abbrev s__law_plan_of : Stmt := top 70
abbrev N__law_plan_of : List Str := ["_law_plan_here"]
abbrev P__law_plan_of : List Str := ["_law_plan_here"]
theorem sc__law_plan_of : FnScope N__law_plan_of P__law_plan_of (defScope s__law_plan_of) := ⟨rfl, rfl, rfl, by decide +kernel, rfl, by decide +kernel, by decide +kernel⟩
abbrev s__law_left : Stmt := top 71
abbrev N__law_left : List Str := ["_law_plan_here", "_law_some_here", "_law_parts_here", "_law_found_here", "_law_one", "_law_index", "_law_first", "_law_worths_here", "_law_k"]
abbrev P__law_left : List Str := ["_law_plan_here", "_law_some_here"]
theorem sc__law_left : FnScope N__law_left P__law_left (defScope s__law_left) := ⟨rfl, rfl, rfl, by decide +kernel, rfl, by decide +kernel, by decide +kernel⟩
abbrev s__law_nexts : Stmt := top 72
abbrev N__law_nexts : List Str := ["_law_ranks_here", "_law_some_here", "_law_rest", "_law_low", "_law_k"]
abbrev P__law_nexts : List Str := ["_law_ranks_here", "_law_some_here"]
theorem sc__law_nexts : FnScope N__law_nexts P__law_nexts (defScope s__law_nexts) := ⟨rfl, rfl, rfl, by decide +kernel, rfl, by decide +kernel, by decide +kernel⟩
abbrev s__law_fall : Stmt := top 73
abbrev N__law_fall : List Str := ["_law_pen_here", "_law_plan_here", "_law_ranks_here", "_law_found_here", "_law_turn", "_law_some_here"]
abbrev P__law_fall : List Str := ["_law_pen_here", "_law_plan_here"]
theorem sc__law_fall : FnScope N__law_fall P__law_fall (defScope s__law_fall) := ⟨rfl, rfl, rfl, by decide +kernel, rfl, by decide +kernel, by decide +kernel⟩
abbrev s__law_is_met : Stmt := top 74
abbrev N__law_is_met : List Str := ["_law_pattern_here", "_law_content_here", "_law_one"]
abbrev P__law_is_met : List Str := ["_law_pattern_here", "_law_content_here"]
theorem sc__law_is_met : FnScope N__law_is_met P__law_is_met (defScope s__law_is_met) := ⟨rfl, rfl, rfl, by decide +kernel, rfl, by decide +kernel, by decide +kernel⟩
abbrev s__law_pattern : Stmt := top 75
abbrev N__law_pattern : List Str := ["_law_pen_here", "_law_plan_here", "_law_content_here", "_law_found_here", "_law_one", "_law_worths_here", "_law_turn"]
abbrev P__law_pattern : List Str := ["_law_pen_here", "_law_plan_here"]
theorem sc__law_pattern : FnScope N__law_pattern P__law_pattern (defScope s__law_pattern) := ⟨rfl, rfl, rfl, by decide +kernel, rfl, by decide +kernel, by decide +kernel⟩
abbrev s__law_claims : Stmt := top 76
abbrev N__law_claims : List Str := ["_law_pen_here", "_law_plan_here", "_law_some_here", "_law_k", "_law_rest", "_law_duos", "_law_there_here", "_law_j"]
abbrev P__law_claims : List Str := ["_law_pen_here", "_law_plan_here"]
theorem sc__law_claims : FnScope N__law_claims P__law_claims (defScope s__law_claims) := ⟨rfl, rfl, rfl, by decide +kernel, rfl, by decide +kernel, by decide +kernel⟩
abbrev s__law_is_fall : Stmt := top 77
abbrev N__law_is_fall : List Str := ["_law_plan_here", "_law_thing", "_law_ranks_here", "_law_k", "_law_j", "_law_one"]
abbrev P__law_is_fall : List Str := ["_law_plan_here", "_law_thing"]
theorem sc__law_is_fall : FnScope N__law_is_fall P__law_is_fall (defScope s__law_is_fall) := ⟨rfl, rfl, rfl, by decide +kernel, rfl, by decide +kernel, by decide +kernel⟩
abbrev s__law_found : Stmt := top 78
abbrev N__law_found : List Str := ["_law_made", "_law_pattern_here"]
abbrev P__law_found : List Str := ["_law_made", "_law_pattern_here"]
theorem sc__law_found : FnScope N__law_found P__law_found (defScope s__law_found) := ⟨rfl, rfl, rfl, by decide +kernel, rfl, by decide +kernel, by decide +kernel⟩
abbrev s_law : Stmt := top 79
abbrev N_law : List Str := ["_law_script", "_law_pen_here", "_law_turn", "_law_plan_here", "_law_made", "_law_spot", "_law_tight", "_law_k", "_law_index", "_law_first", "_law_row", "_law_more", "_law_pattern_here", "_law_course", "_law_found_here", "_law_other", "_law_free", "_law_cell", "_law_step_here", "_law_wide"]
abbrev P_law : List Str := ["_law_script"]
theorem sc_law : FnScope N_law P_law (defScope s_law) := ⟨rfl, rfl, rfl, by decide +kernel, rfl, by decide +kernel, by decide +kernel⟩
/-- what the top has left: the built-ins are still there, the constants -/
structure Txt (mg : Str → Option Value) : Prop where
  b_len : mg "len" = none
  b_list : mg "list" = none
  b_tuple : mg "tuple" = none
  b_int : mg "int" = none
  b_bool : mg "bool" = none
  b_dict : mg "dict" = none
  b_all : mg "all" = none
  b_any : mg "any" = none
  b_max : mg "max" = none
  b_min : mg "min" = none
  b_sorted : mg "sorted" = none
  b_set : mg "set" = none
  b_isinstance : mg "isinstance" = none
  b_range : mg "range" = none
  b_enumerate : mg "enumerate" = none
  c_MAX_CELLS : ∃ t, mg "MAX_CELLS" = some (.int 24 t)
  c_WORTHS : ∃ t, mg "WORTHS" = some (.int 8 t)
  c_MAX_STEPS : ∃ t, mg "MAX_STEPS" = some (.int 40 t)
  c_MAX_PIECES : ∃ t, mg "MAX_PIECES" = some (.int 40 t)
  c_BASE : ∃ t, mg "BASE" = some (.int (-1) t)

/-- a def of the top that keeps its promise -/
def DefOk (P : Program) (w : World) (K : PySem.W.Frag) (mg : Str → Option Value) (base : Heap) (name : Str) (k : Nat) (ps : List Str) (sp : Sp) : Prop :=
  ∃ f fd, FnOk P w K mg base CX0 k f fd ps sp ∧ mg name = some (.ref f) ∧ PySem.W.keepIn K (.ref f) = true ∧ Binds K fd ps []
/-- a method -/
def MetOk (P : Program) (w : World) (K : PySem.W.Frag) (mg : Str → Option Value) (base : Heap) (C : Addr) (m : Str) (k : Nat) (ps : List Str) (sp : Sp) : Prop :=
  Cls K C ∧ ∃ f fd, FnOk P w K mg base CX0 k f fd ps sp ∧ Meth K C m f ∧ Binds K fd ps []
/-- a property -/
def PrpOk (P : Program) (w : World) (K : PySem.W.Frag) (mg : Str → Option Value) (base : Heap) (C : Addr) (m : Str) (k : Nat) (sp : Sp) : Prop :=
  Cls K C ∧ ∃ p f fd, FnOk P w K mg base CX0 k f fd ["self"] sp ∧ PropOf K C m p f ∧ Binds K fd ["self"] []
/-- a class that is made -/
def MakOk (P : Program) (w : World) (K : PySem.W.Frag) (mg : Str → Option Value) (base : Heap) (name : Str) (C : Addr) (k : Nat) (ps : List Str) (sp : Sp) : Prop :=
  ∃ f fd, FnOk P w K mg base CX0 k f fd ps sp ∧ Mk K C f ∧ mg name = some (.ref C) ∧ Binds K fd ps []
/-- != of instances -/
def NeOk (P : Program) (w : World) (K : PySem.W.Frag) (mg : Str → Option Value) (base : Heap) (C : Addr) (k : Nat) (sp : Sp) : Prop :=
  ∃ f fd, NeC K C f ∧ FnOk P w K mg base CX0 k f fd ["self", "other"] sp ∧ Binds K fd ["self", "other"] []
theorem op_nePD {X : Cx} {C : Addr} {k : Nat} {sp : Sp} (D : NeOk X.prog X.w X.K X.mg X.base C k sp) (hr : Room (k + 1) X.A) : OpR X (compareOp .NotEq) (rNeO C sp) := by
  obtain ⟨f, fd, N, G, b⟩ := D
  exact op_neO N G b hr (by have := hr.units; omega)
theorem andGet {e : Sls} {i : Nat} {s : Sl} {A : Prop} (h : e[i]? = some s) (a : A) : e[i]? = some s ∧ A := ⟨h, a⟩
theorem iteNF {A B : Prop} (h : A) : if (!false) = true then A else B := h
theorem iteNT {A B : Prop} (h : B) : if (!true) = true then A else B := h
theorem iteE {b c : Bool} {A B : Prop} (e : b = c) (h : if c = true then A else B) : if b = true then A else B := by rw [e]; exact h
section
variable {X : Cx} {k : Nat} {x m : Str} {p pos apos : Pos} {e o : Expr} {es : List Expr} {ta : TE} {t : TA} {ps : List Str} {sp : Sp} {C : Addr}
theorem pe_cI {n : Int} (hg : Gl X x) (hm : ∃ t, X.mg x = some (.int n t)) (hd : (x == ("__debug__" : Str)) = false := by decide) : PE X (.Name x pos) (tC (.int n)) := by
  obtain ⟨t, hm⟩ := hm
  exact pe_glob hg hm ⟨_, rfl⟩ hd
theorem pe_callD (D : DefOk X.prog X.w X.K X.mg X.base x k ps sp) (hr : Room k X.A) (hg : Gl X x) (ha : PA X (e :: es) t) (hdb : (x == ("__debug__" : Str)) = false := by decide)
    (he : starEach (e :: es) X.env = (false, eval e X.env) :: starEach es X.env := by rfl) (hpl : (backTo pos (starEach es X.env)).any (·.1) = false := by rfl) : PE X (.Call (.Name x p) (e :: es) [] pos) (tCall sp [] E0 t) := by
  obtain ⟨f, fd, G, hm, kp, b⟩ := D
  exact pe_call G hr hg hm kp b .nil pass0 ha hdb he hpl
theorem pe_methD {pl : Sem Bool} (D : MetOk X.prog X.w X.K X.mg X.base C m k ps sp) (ho : PE X o ta) (hr : Room k X.A) (ha : PA X (e :: es) t)
    (hst : starEach (e :: es) X.env = (false, eval e X.env) :: starEach es X.env := by rfl) (hpl : (backTo pos (starEach es X.env)).any (·.1) = false := by rfl)
    (ht : eval (.Call (.Attribute o m apos) (e :: es) [] pos) X.env = (do
      let ov ← eval o X.env
      standAt apos.atName
      let (f, first) ← holding [ov] (getMethod ov m pl)
      callWith pos f first (backTo pos (starEach (e :: es) X.env)) (backToKw pos (keywordEach [] X.env))) := by rfl) : PE X (.Call (.Attribute o m apos) (e :: es) [] pos) (tMeth C m sp [] E0 ta t) := by
  obtain ⟨c, f, fd, G, hm, b⟩ := D
  exact pe_meth ho c hm G hr b .nil pass0 ha hst hpl ht
theorem pe_methD0 {pl : Sem Bool} (D : MetOk X.prog X.w X.K X.mg X.base C m k ps sp) (ho : PE X o ta) (hr : Room k X.A)
    (ht : eval (.Call (.Attribute o m apos) [] [] pos) X.env = (do
      let ov ← eval o X.env
      standAt apos.atName
      let (f, first) ← holding [ov] (getMethod ov m pl)
      callWith pos f first (backTo pos (starEach [] X.env)) (backToKw pos (keywordEach [] X.env))) := by rfl) : PE X (.Call (.Attribute o m apos) [] [] pos) (tMeth C m sp [] E0 ta tNil) := by
  obtain ⟨c, f, fd, G, hm, b⟩ := D
  exact pe_meth0 ho c hm G hr b .nil pass0 ht
theorem pe_propD (D : PrpOk X.prog X.w X.K X.mg X.base C m k sp) (ho : PE X o ta) (hr : Room (k + 1) X.A) (hab : attributeBase o m X.env (eval o X.env) = eval o X.env) : PE X (.Attribute o m pos) (tProp C sp [] E0 ta) := by
  obtain ⟨c, q, f, fd, G, hp, b⟩ := D
  exact pe_prop ho c hp G hr b .nil pass0 hab
theorem pe_makeD (D : MakOk X.prog X.w X.K X.mg X.base x C k ps sp) (ha : PA X (e :: es) t) (hr : Room (k + 1) X.A) (hg : Gl X x := by rfl) (hdb : (x == ("__debug__" : Str)) = false := by decide)
    (he : starEach (e :: es) X.env = (false, eval e X.env) :: starEach es X.env := by rfl) (hpl : (backTo pos (starEach es X.env)).any (·.1) = false := by rfl) : PE X (.Call (.Name x p) (e :: es) [] pos) (tMake C sp [] E0 t) := by
  obtain ⟨f, fd, G, M, hm, b⟩ := D
  exact pe_make M G hr hg hm b .nil pass0 ha hdb he hpl
end
/-! rules with the fragment named: for a comprehension's block -/
section
variable (K : PySem.W.Frag) {X : Cx} {tgt l o e : Expr} {es : List Expr} {f : Str} {p pos apos cpos p1 p2 p3 : Pos} {ta te tl : TE} {t : TA}
theorem kk_fld (he : PE X e ta) (hb : attributeBase e f X.env (eval e X.env) = eval e X.env) (hK : X.K = K := by rfl) : PE X (.Attribute e f pos) (tFld K ta f) := by subst hK; exact pe_fld he hb
theorem kk_ixL (hK : X.K = K := by rfl) : IxR X (rIxL K) := by subst hK; exact L2.ix_list
theorem kk_ixT (hK : X.K = K := by rfl) : IxR X (rIxT K) := by subst hK; exact L2.ix_tup
theorem kk_in (hK : X.K = K := by rfl) : OpR X (compareOp .In) (rIn K false) := by subst hK; exact op_in_seq
theorem kk_notIn (hK : X.K = K := by rfl) : OpR X (compareOp .NotIn) (rIn K true) := by subst hK; exact op_notIn_seq
theorem kk_eqD (hu : X.A.units + 64 < cLine) (hK : X.K = K := by rfl) : OpR X (compareOp .Eq) (rEqD K) := by subst hK; exact op_eqD hu
theorem kk_neD (hu : X.A.units + 64 < cLine) (hK : X.K = K := by rfl) : OpR X (compareOp .NotEq) (rNeD K) := by subst hK; exact op_neD hu
theorem kk_len (hK : X.K = K := by rfl) : CallR X (.builtin "len") (rLenQ K) := by subst hK; exact call_len_seq
theorem kk_all (hc : X.calm = true) (hK : X.K = K := by rfl) : CallR X (.builtin "all") (rAll K) := by subst hK; exact cr_all hc
theorem kk_any (hc : X.calm = true) (hK : X.K = K := by rfl) : CallR X (.builtin "any") (rAny K) := by subst hK; exact cr_any hc
theorem kk_max (hc : X.calm = true) (hK : X.K = K := by rfl) : CallR X (.builtin "max") (rMax K) := by subst hK; exact cr_max hc
theorem kk_min (hc : X.calm = true) (hK : X.K = K := by rfl) : CallR X (.builtin "min") (rMin K) := by subst hK; exact cr_min hc
theorem kk_list (hK : X.K = K := by rfl) : CallR X (.type "list") (rListQ K) := by subst hK; exact call_list_of
theorem kk_tuple (hK : X.K = K := by rfl) : CallR X (.type "tuple") (rTupQ K) := by subst hK; exact call_tuple_of
theorem kk_isi (hK : X.K = K := by rfl) : CallR X (.builtin "isinstance") (rIsi K) := by subst hK; exact call_isi
theorem kk_slL (hK : X.K = K := by rfl) : SlR X (rSlL K) := by subst hK; exact sl_list
theorem kk_slT (hK : X.K = K := by rfl) : SlR X (rSlA K) := by subst hK; exact sl_tupA
theorem kk_star (he : PE X e te) (hr : PA X es t) (hs : starEach (.Starred e p :: es) X.env = (true, eval e X.env) :: starEach es X.env := by rfl) (hK : X.K = K := by rfl) : PA X (.Starred e p :: es) (StX.tStar K te t) := by subst hK; exact StX.pa_star he hr hs
theorem kk_pil (hl : PE X l tl) (hK : X.K = K := by rfl) : PI X tgt l (iList K tl) := by subst hK; exact pi_list hl
theorem kk_pit (hl : PE X l tl) (hK : X.K = K := by rfl) : PI X tgt l (iTup K tl) := by subst hK; exact pi_tup hl
theorem kk_count (hu : X.A.units + 1 < cLine) (hK : X.K = K := by rfl) : MtR X "list.count" (rCntN K) := by subst hK; exact mt_countN hu
theorem kk_bm {name : Str} {T id : String} {r : V → List V → Hp → VK → Prop} (pa : PlainAttrs T) (slot : Slot T name id) (hty : typeOf (.builtin id) = pure (.type "method_descriptor")) (hm : MtR X id r) (ho : PE X o te) (ha : PA X (e :: es) t)
    (hbase : attributeBase o name X.env (eval o X.env) = eval o X.env := by rfl)
    (hfew : ((backTo cpos (starEach (e :: es) X.env)).all (fun x => !x.1) && (backToKw cpos (keywordEach [] X.env)).all (fun x => x.1.isSome)
      && decide ((e :: es).length + ([] : List Keyword).length + (if ([] : List Keyword).isEmpty then 0 else 1) < 30)) = true := by rfl)
    (hline : (apos.endLine == cpos.line) = true := by rfl) (hs : starEach (e :: es) X.env = (false, eval e X.env) :: starEach es X.env := by rfl) (hplain : (backTo cpos (starEach es X.env)).any (·.1) = false := by rfl) (hK : X.K = K := by rfl) :
    PE X (.Call (.Attribute o name apos) (e :: es) [] cpos) (tBM K T r te t) := by
  subst hK
  exact pe_bm pa slot hty hm ho ha hbase hfew hline hs hplain
theorem kk_sfld {value : Expr} {pos' : Pos} {tv : TE} (ha : PE X o ta) (hv : PE X value tv) (hs : swapsWith value (some (.Attribute o f pos')) pos.line X.env = pure false) (hK : X.K = K := by rfl) : PS X (.Assign [.Attribute o f pos'] value pos) (sFld K ta tv f) := by subst hK; exact ps_fld ha hv hs
theorem kk_dictEnum {a : Expr} {q : Pos} (hg : Gl X "dict") (hm : X.mg "dict" = none) (hg2 : Gl X "enumerate") (hm2 : X.mg "enumerate" = none) (ha : PE X a ta) (hc : X.calm = true := by rfl)
    (na : starEach [a] X.env = (false, eval a X.env) :: starEach [] X.env := by rfl) (hK : X.K = K := by rfl) : PE X (.Call (.Name "dict" p) [.Call (.Name "enumerate" p2) [a] [] q] [] pos) (tDictEnum K ta) := by subst hK; exact pe_dictEnum hg hm hg2 hm2 ha hc na
theorem kk_lenSet {a : Expr} {q : Pos} (hg : Gl X "len") (hm : X.mg "len" = none) (hg2 : Gl X "set") (hm2 : X.mg "set" = none) (ha : PE X a ta) (hc : X.calm = true := by rfl)
    (na : starEach [a] X.env = (false, eval a X.env) :: starEach [] X.env := by rfl) (hK : X.K = K := by rfl) : PE X (.Call (.Name "len" p) [.Call (.Name "set" p2) [a] [] q] [] pos) (RZ.tLenSetI K ta) := by subst hK; exact RZ.pe_lenSetI hg hm hg2 hm2 ha hc na
theorem kk_revL {k : Nat} (he : PE X e te) (hK : X.K = K := by rfl) : PE X (.Subscript e (.Slice none none (some (.UnaryOp .USub (.Constant (.int 1) k p1) p2)) p3) pos) (tRevL K te) := by subst hK; exact pe_revL he
end
end Af
end

section
set_option maxHeartbeats 4000000
/-! Rules for this program's own things. -/
namespace Af
open PySem L2
structure PlanC (K : PySem.W.Frag) (C : Addr) : Prop where
  cls : Cls K C
  n_start : NoAttr K C "start"
  n_span : NoAttr K C "span"
  n_deeds : NoAttr K C "deeds"
  n_parts : NoAttr K C "parts"
  n_ranks : NoAttr K C "ranks"
section
variable {C : Addr} {env : Sls} {K : Sl → Sls → Prop} {ta tb tc te tl : TE} {F : PySem.W.Frag} {W : Wish} {k : Sl → Prop} {s1 s2 : Sl}
theorem ex_start (pc : PlanC F C) (h : EX C te env fun s e => ∃ p, s = .im (Pl.enc p) ∧ K (.im (tupI p.base)) e) : EX C (tFld F te "start") env K :=
  ex_fld fun B H0 σ H R Q q => h B H0 σ H R Q fun s e v H' ⟨p, es, k⟩ => q s e v H' ⟨C, p.fs, _, by rw [es]; rfl, pc.cls, pc.n_start, rfl, k⟩
theorem ex_span (pc : PlanC F C) (h : EX C te env fun s e => ∃ p, s = .im (Pl.enc p) ∧ K (.im (.int p.width)) e) : EX C (tFld F te "span") env K :=
  ex_fld fun B H0 σ H R Q q => h B H0 σ H R Q fun s e v H' ⟨p, es, k⟩ => q s e v H' ⟨C, p.fs, _, by rw [es]; rfl, pc.cls, pc.n_span, rfl, k⟩
theorem ex_deeds (pc : PlanC F C) (h : EX C te env fun s e => ∃ p, s = .im (Pl.enc p) ∧ K (.im (.lst (p.steps.map encStp))) e) : EX C (tFld F te "deeds") env K :=
  ex_fld fun B H0 σ H R Q q => h B H0 σ H R Q fun s e v H' ⟨p, es, k⟩ => q s e v H' ⟨C, p.fs, _, by rw [es]; rfl, pc.cls, pc.n_deeds, rfl, k⟩
theorem ex_parts (pc : PlanC F C) (h : EX C te env fun s e => ∃ p, s = .im (Pl.enc p) ∧ K (.im (.lst (p.parts.map encPc))) e) : EX C (tFld F te "parts") env K :=
  ex_fld fun B H0 σ H R Q q => h B H0 σ H R Q fun s e v H' ⟨p, es, k⟩ => q s e v H' ⟨C, p.fs, _, by rw [es]; rfl, pc.cls, pc.n_parts, rfl, k⟩
theorem ex_ranks (pc : PlanC F C) (h : EX C te env fun s e => ∃ p, s = .im (Pl.enc p) ∧ K (.im (lstI p.ranks)) e) : EX C (tFld F te "ranks") env K :=
  ex_fld fun B H0 σ H R Q q => h B H0 σ H R Q fun s e v H' ⟨p, es, k⟩ => q s e v H' ⟨C, p.fs, _, by rw [es]; rfl, pc.cls, pc.n_ranks, rfl, k⟩
end
/-! ### where a loop stands -/
theorem pre_at {pre post ds : List Dat} {d : Dat} (e : ds = pre ++ d :: post) : ds[pre.length]? = some d := by
  rw [e]
  simp
theorem rgD_at {lo c : Int} {n : Nat} {pre post : List Dat} {d : Dat} (e : rgD lo c n = pre ++ d :: post) : pre.length < n ∧ d = .int (lo + (pre.length : Int) * c) := rgD_get (pre_at e)
theorem map_at {α : Type} {enc : α → Dat} {xs : List α} {pre post : List Dat} {d : Dat} (e : xs.map enc = pre ++ d :: post) : ∃ x, xs[pre.length]? = some x ∧ d = enc x := by
  have h := pre_at e
  rw [List.getElem?_map] at h
  cases hx : xs[pre.length]? with
  | none => rw [hx] at h; cases h
  | some x => rw [hx] at h; cases h; exact ⟨x, rfl, rfl⟩
theorem take_snoc {α : Type} {xs : List α} {n : Nat} {x : α} (h : xs[n]? = some x) : xs.take (n + 1) = xs.take n ++ [x] := by
  obtain ⟨hl, e⟩ := List.getElem?_eq_some_iff.mp h
  rw [List.take_succ_eq_append_getElem hl, e]
theorem map_len {α : Type} {enc : α → Dat} {xs : List α} {pre post : List Dat} {d : Dat} (e : xs.map enc = pre ++ d :: post) : pre.length < xs.length := by
  obtain ⟨x, hx, _⟩ := map_at e
  exact (List.getElem?_eq_some_iff.mp hx).1
end Af
end

section
set_option maxHeartbeats 4000000
/-! What is borrowed grows and shrinks: an object that is made with lists and dicts of its own. -/
namespace Af
open PySem L2
/-- a slot that no name of the text has: set to any value -/
def tGh (j : Nat) (t : TS) : TS := fun D σ H => t { D with nx := fun σ' H' => ∃ v, D.nx (σ'.set j (some v)) H' } σ H
theorem ps_gh {X : Cx} (j : Nat) {y : Str} (hj : X.N[j]? = some y) (hy : X.env.scope.names.lookup y = none) {st : Stmt} {t : TS} (h : PS X st t) : PS X st (tGh j t) := ⟨fun pins s σ H D I hw =>
  thn (h.run pins s σ H _ I hw) fun f s1 q => by
    cases f with
    | next =>
      obtain ⟨σ', H', I1, v, q⟩ := q
      refine ⟨σ'.set j (some v), H', Inv.ghost I1 (List.length_set ..) fun i x w e1 e2 e3 => ?_, q⟩
      by_cases hij : j = i
      · subst hij
        rw [hj] at e1
        cases e1
        have vis : X.env.scope.names.lookup y = some .local ∨ X.env.scope.names.lookup y = some .cell ∨ X.env.scope.names.lookup y = some .free := e2
        rw [hy] at vis
        rcases vis with z | z | z <;> cases z
      · rw [List.getElem?_set_ne hij] at e3
        exact e3
    | ret v => exact q
    | brk => exact q
    | cont => exact q⟩
section
variable (C : Addr) (ex : Addr → Prop)
/-- as SX, what is borrowed may change: it is exempt, or new -/
def SXB (t : TS) (env : Sls) (W : Wish) : Prop := ∀ (B : Addr → Prop) (H0 : Hp) (σ : L2.St) (H : Hp), (∀ a, B a → ex a ∨ H0 a = none) → RepE C B H0 H σ env → ∀ D : Ends,
  (∀ B' σ' H' env', (∀ a, B' a → ex a ∨ H0 a = none) → W.nx env' → RepE C B' H0 H' σ' env' → D.nx σ' H') →
  (∀ s env' v σ' H', W.rt s env' → RepE C (fun _ => False) H0 H' σ' env' → SlOk C (fun _ => False) H0 H' σ' v s → D.rt v H') → t D σ H
end
section
variable {C : Addr} {ex : Addr → Prop} {env : Sls} {K : Sl → Sls → Prop} {ta tb tc te : TE} {F : PySem.W.Frag} {H : Hp} {v : V} {B : Addr → Prop} {H0 : Hp} {σ : L2.St} {t : TA} {E : XK} {W : Wish} {t1 t2 ts : TS}
theorem sxb_of (h : SX C ts env { nx := W.nx, rt := fun _ _ => False }) : SXB C ex ts env W := fun B H0 σ H hB R D n r =>
  h B H0 σ H R D (fun σ' H' e' k _ R' => n B σ' H' e' hB k R') (fun _ _ _ _ _ z => False.elim z) (fun _ _ _ z => False.elim z) (fun _ _ _ z => False.elim z)
theorem sxb_seq (h : SXB C ex t1 env { W with nx := fun e => SXB C ex t2 e W }) : SXB C ex (tSeq t1 t2) env W := fun B H0 σ H hB R D n r =>
  h B H0 σ H hB R { D with nx := t2 D } (fun B' σ' H' e' hB' k R' => k B' H0 σ' H' hB' R' D n r) r
/-- no slot borrows what is new -/
theorem noAd_of {a : Addr} (h : ∀ (i : Nat) (s : Sl), env[i]? = some s → isB s = true → adr s ≠ a) : NoAd a env := by
  induction env with
  | nil => trivial
  | cons s e ih =>
    have tl := ih fun i u hu => h (i + 1) u (by simpa using hu)
    have hd := h 0 s rfl
    cases s with
    | pn p n => exact ⟨hd rfl, tl⟩
    | mk p c fs => exact ⟨hd rfl, tl⟩
    | bd p fs => exact ⟨hd rfl, tl⟩
    | bl p fs => exact ⟨hd rfl, tl⟩
    | _ => exact tl
theorem adr_at (R : RepE C B H0 H σ env) {i : Nat} {s : Sl} (e : env[i]? = some s) (b : isB s = true) : B (adr s) ∧ ∃ o, H (adr s) = some o := by
  obtain ⟨v, hv, ok⟩ := R.at B e (fun z => by subst z; cases b)
  cases s with
  | pn p n =>
    obtain ⟨_, hb, L, o, ns, i, z, h1, _⟩ := ok
    exact ⟨hb, _, h1⟩
  | mk p c fs =>
    obtain ⟨_, hb, dx, vs, h1, _⟩ := ok
    exact ⟨hb, _, h1⟩
  | bd p fs =>
    obtain ⟨_, hb, xs, h1, _⟩ := ok
    exact ⟨hb, _, h1⟩
  | bl p fs =>
    obtain ⟨_, hb, xs, h1, _⟩ := ok
    exact ⟨hb, _, h1⟩
  | _ => cases b
theorem noAd_new (R : RepE C B H0 H σ env) {a : Addr} (nb : ¬ B a) : NoAd a env := noAd_of fun i s e b z => nb (z ▸ (adr_at R e b).1)
/-- one's own list or dict is borrowed from now on, and stands in a slot of its own -/
theorem RepE.borrow {j : Nat} {l : Addr} {u : HO} {s : Sl} (R : RepE C B H0 H σ env) (hu : H l = some u) (nu : ¬ Imm C u) (h0 : H0 l = none) (nb : ¬ B l) (no : ¬ Owned σ env l) (hni : ∀ c dx fs, u ≠ .ins c dx fs) (hs : isB s = true)
    (ok : ∀ σ', SlOk C (fun a => B a ∨ a = l) H0 H σ' (.ref l) s) : RepE C (fun a => B a ∨ a = l) H0 H (σ.set j (some (.ref l))) (env.set j s) := by
  have np : ∀ m, s ≠ .pr m := fun m z => by rw [z] at hs; cases hs
  have nos : ¬ OwnS s := fun o => by rw [own_nb o] at hs; cases hs
  refine ⟨by rw [List.length_set, List.length_set]; exact R.len, fun i t e => ?_, fun i k t t' w e1 e2 o1 o2 g1 g2 => ?_, fun i m e => ?_, fun a o h nb' => R.base a o h fun b => nb' (.inl b), fun a b => ?_⟩
  · by_cases hj : j = i
    · subst hj
      by_cases hl : j < env.length
      · rw [List.getElem?_set_self hl] at e
        cases e
        exact .inr ⟨_, List.getElem?_set_self (by rw [R.len]; exact hl), ok _⟩
      · rw [List.getElem?_eq_none (by rw [List.length_set]; omega)] at e
        cases e
    · rw [List.getElem?_set_ne hj] at e
      rcases R.slot i t e with h | ⟨w, hw, k⟩
      · exact .inl h
      · refine .inr ⟨w, by rw [List.getElem?_set_ne hj]; exact hw, ?_⟩
        cases t with
        | un => trivial
        | im d => exact k
        | ow ds =>
          obtain ⟨q, xs, e1, h1, h2, h3, r⟩ := k
          exact ⟨q, xs, e1, h1, fun z => Or.elim z h2 fun z => no ⟨i, _, e, trivial, by rw [hw, e1, z]⟩, h3, r⟩
        | od ds =>
          obtain ⟨q, xs, e1, h1, h2, h3, r⟩ := k
          exact ⟨q, xs, e1, h1, fun z => Or.elim z h2 fun z => no ⟨i, _, e, trivial, by rw [hw, e1, z]⟩, h3, r⟩
        | ro ds =>
          obtain ⟨q, xs, e1, h1, h2, r⟩ := k
          exact ⟨q, xs, e1, h1, fun z => Or.elim z h2 (fun z => by rw [z, h0] at h1; cases h1), r⟩
        | ri c fs =>
          obtain ⟨p, dx, vs, e1, h1, h2, r⟩ := k
          exact ⟨p, dx, vs, e1, h1, fun z => Or.elim z h2 (fun z => by rw [z, h0] at h1; cases h1), r⟩
        | pn p n =>
          obtain ⟨e1, h2, r⟩ := k
          exact ⟨e1, .inl h2, r⟩
        | pr m => exact absurd e (R.nopr i m)
        | mk p c fs =>
          obtain ⟨e1, h2, r⟩ := k
          exact ⟨e1, .inl h2, r⟩
        | qi c fs =>
          obtain ⟨p, dx, vs, e1, h1, h2, hp, r⟩ := k
          exact ⟨p, dx, vs, e1, h1, fun z => Or.elim z h2 fun z => by rw [z, hu] at hp; cases hp; exact hni _ _ _ rfl, hp, r⟩
        | bd p fs =>
          obtain ⟨e1, h2, r⟩ := k
          exact ⟨e1, .inl h2, r⟩
        | bl p fs =>
          obtain ⟨e1, h2, r⟩ := k
          exact ⟨e1, .inl h2, r⟩
  · by_cases hi : j = i
    · subst hi
      by_cases hl : j < env.length
      · rw [List.getElem?_set_self hl] at e1
        cases e1
        exact absurd o1 nos
      · rw [List.getElem?_eq_none (by rw [List.length_set]; omega)] at e1
        cases e1
    · by_cases hk : j = k
      · subst hk
        by_cases hl : j < env.length
        · rw [List.getElem?_set_self hl] at e2
          cases e2
          exact absurd o2 nos
        · rw [List.getElem?_eq_none (by rw [List.length_set]; omega)] at e2
          cases e2
      · rw [List.getElem?_set_ne hi] at e1 g1
        rw [List.getElem?_set_ne hk] at e2 g2
        exact R.dist i k t t' w e1 e2 o1 o2 g1 g2
  · by_cases hj : j = i
    · subst hj
      by_cases hl : j < env.length
      · rw [List.getElem?_set_self hl] at e
        cases e
        exact np m rfl
      · rw [List.getElem?_eq_none (by rw [List.length_set]; omega)] at e
        cases e
    · rw [List.getElem?_set_ne hj] at e
      exact R.nopr i m e
  · rcases b with b | b
    · exact R.mutB a b
    · exact ⟨u, b ▸ hu, nu⟩
/-- self.f = a new list or dict -/
theorem sxb_own {i j : Nat} {f : Str} {p c : Addr} {fs : List (Str × Dat)} (he : env[i]? = some (.mk p c fs)) (hc : Cls F c) (hn : NoAttr F c f) (hne : c ≠ C) (hlen : fs.length < 999) (no : NoAd p (env.set i .un))
    (h : EX C te env fun s e => e = env ∧ ((∃ ds, s = .ow ds ∧ ∀ a, NoAd a env → W.nx ((env.set i (.mk p c (putFd f (.cls a) fs))).set j (.bl a ds))) ∨ ∃ ks, s = .od ks ∧ ∀ a, NoAd a env → W.nx ((env.set i (.mk p c (putFd f (.cls a) fs))).set j (.bd a ks)))) : SXB C ex (tGh j (sFld F (tVar i) te f)) env W := fun B H0 σ H hB R D n r => by
  refine h B H0 σ H R _ fun s e w H1 ⟨ee, k⟩ _ f1 o R1 ok nw => ?_
  subst ee
  obtain ⟨v, hv, ev, hBp, dx, vs, hp, rr⟩ := R1.at B he (fun z => nomatch z)
  subst ev
  have ni : ∀ vs, ¬ Imm C (.ins c dx vs) := fun vs z => hne z.1
  have kp : Kp C H1 (upd H1 p (.ins c dx (putF f w vs))) := kp_mut hp (ni vs)
  refine ⟨_, hv, p, c, dx, vs, rfl, hp, hc, hn, by rw [rr.length]; omega, ?_⟩
  have go : ∀ (l : Addr) (u : HO) (s' : Sl), w = .ref l → H1 l = some u → ¬ Imm C u → (∀ c dx fs, u ≠ .ins c dx fs) → H0 l = none → ¬ B l → H l = none → isB s' = true → (∀ (H' : Hp) σ', H' l = some u → Kp C H1 H' → SlOk C (fun a => B a ∨ a = l) H0 H' σ' (.ref l) s') → (NoAd l e → W.nx ((e.set i (.mk p c (putFd f (.cls l) fs))).set j s')) →
      ∃ v, D.nx (σ.set j (some v)) (upd H1 p (.ins c dx (putF f w vs))) := fun l u s' ew hu nu hni h0 nb hl hs hok kk => by
    subst ew
    obtain ⟨R2, f2, o2⟩ := R1.bump he rfl rfl no hp (ni vs) (ni (putF f (.ref l) vs)) hBp (s' := .mk p c (putFd f (.cls l) fs)) rfl ⟨rfl, hBp, dx, _, upd_same, (rr.mono kp).put (.cls l)⟩
    have hpl : l ≠ p := fun z => by
      subst z
      rw [hu] at hp
      exact hni _ _ _ (Option.some.inj hp)
    have hu2 : (upd H1 p (.ins c dx (putF f (.ref l) vs))) l = some u := by rw [upd_ne hpl]; exact hu
    have no2 : ¬ Owned σ (e.set i (.mk p c (putFd f (.cls l) fs))) l := fun z => by
      obtain ⟨⟨u', hu', _⟩, _⟩ := R.ownM (o2 l z)
      rw [hl] at hu'
      cases hu'
    refine ⟨.ref l, n _ _ _ _ (fun a b => ?_) (kk (noAd_new R nb)) (R2.borrow hu2 nu h0 nb no2 hni hs fun σ' => hok _ σ' hu2 kp)⟩
    rcases b with b | b
    · exact hB a b
    · exact .inr (b ▸ h0)
  rcases k with ⟨ds, es, kk⟩ | ⟨ks, es, kk⟩
  · subst es
    obtain ⟨l, xs, ew, h0, nb, hl, rx⟩ := ok
    exact go l _ (.bl l ds) ew hl imm_lst lst_ni h0 nb (nw trivial l ew) rfl (fun H' σ' h1 kp' => ⟨rfl, .inr rfl, xs, h1, rx.mono kp'⟩) (kk l)
  · subst es
    obtain ⟨l, xs, ew, h0, nb, hl, rx⟩ := ok
    exact go l _ (.bd l ks) ew hl imm_dK dK_ni h0 nb (nw trivial l ew) rfl (fun H' σ' h1 kp' => ⟨rfl, .inr rfl, xs, h1, rx.mono kp'⟩) (kk l)
/-- a slot that owns nothing is set -/
theorem RepE.setN {i : Nat} {s : Sl} (R : RepE C B H0 H σ env) (np : ∀ m, s ≠ .pr m) (no : ¬ OwnS s) (ok : ∀ σ', SlOk C B H0 H σ' v s) : RepE C B H0 H (σ.set i (some v)) (env.set i s) := by
  refine ⟨by rw [List.length_set, List.length_set]; exact R.len, fun j t e => ?_, fun j k t t' w e1 e2 o1 o2 g1 g2 => ?_, fun j m e => ?_, R.base, R.mutB⟩
  · by_cases hj : i = j
    · subst hj
      by_cases hl : i < env.length
      · rw [List.getElem?_set_self hl] at e
        cases e
        exact .inr ⟨v, List.getElem?_set_self (by rw [R.len]; exact hl), ok _⟩
      · rw [List.getElem?_eq_none (by rw [List.length_set]; omega)] at e
        cases e
    · rw [List.getElem?_set_ne hj] at e
      rcases R.slot j t e with h | ⟨w, hw, k⟩
      · exact .inl h
      · refine .inr ⟨w, by rw [List.getElem?_set_ne hj]; exact hw, ?_⟩
        cases t with
        | pr m => exact absurd e (R.nopr j m)
        | _ => exact k
  · by_cases hi : i = j
    · subst hi
      by_cases hl : i < env.length
      · rw [List.getElem?_set_self hl] at e1
        cases e1
        exact absurd o1 no
      · rw [List.getElem?_eq_none (by rw [List.length_set]; omega)] at e1
        cases e1
    · by_cases hk : i = k
      · subst hk
        by_cases hl : i < env.length
        · rw [List.getElem?_set_self hl] at e2
          cases e2
          exact absurd o2 no
        · rw [List.getElem?_eq_none (by rw [List.length_set]; omega)] at e2
          cases e2
      · rw [List.getElem?_set_ne hi] at e1 g1
        rw [List.getElem?_set_ne hk] at e2 g2
        exact R.dist j k t t' w e1 e2 o1 o2 g1 g2
  · by_cases hj : i = j
    · subst hj
      by_cases hl : i < env.length
      · rw [List.getElem?_set_self hl] at e
        cases e
        exact np m rfl
      · rw [List.getElem?_eq_none (by rw [List.length_set]; omega)] at e
        cases e
    · rw [List.getElem?_set_ne hj] at e
      exact R.nopr j m e
/-- what is new is borrowed, too -/
theorem RepE.adopt {B' : Addr → Prop} {H' : Hp} (R : RepE C B H0 H σ env) (sm : Same H H') (hN : ∀ a, B' a → H a = none) (hm : ∀ a, B' a → ∃ o, H' a = some o ∧ ¬ Imm C o) : RepE C (fun a => B a ∨ B' a) H0 H' σ env := by
  have R' := R.same sm
  have nb : ∀ {l o}, H l = some o → ¬ B l → ¬ (B l ∨ B' l) := fun {l o} e n z => Or.elim z n fun z => by rw [hN l z] at e; cases e
  refine ⟨R.len, fun i s e => ?_, R.dist, R.nopr, fun a o h n => R'.base a o h fun b => n (.inl b), fun a b => Or.elim b (R'.mutB a) (hm a)⟩
  rcases R.slot i s e with h | ⟨w, hw, k⟩
  · exact .inl h
  · refine .inr ⟨w, hw, ?_⟩
    have kp : Kp C H H' := Kp.same sm
    cases s with
    | un => trivial
    | im d => exact Rep.mono kp k
    | ow ds =>
      obtain ⟨l, xs, e1, h1, h2, h3, r⟩ := k
      exact ⟨l, xs, e1, h1, nb h3 h2, sm _ _ h3, r.mono kp⟩
    | od ds =>
      obtain ⟨l, xs, e1, h1, h2, h3, r⟩ := k
      exact ⟨l, xs, e1, h1, nb h3 h2, sm _ _ h3, r.mono kp⟩
    | ro ds =>
      obtain ⟨l, xs, e1, h1, h2, r⟩ := k
      exact ⟨l, xs, e1, h1, nb (R.base _ _ h1 h2) h2, r.mono kp⟩
    | ri c fs =>
      obtain ⟨p, dx, vs, e1, h1, h2, r⟩ := k
      exact ⟨p, dx, vs, e1, h1, nb (R.base _ _ h1 h2) h2, r.mono kp⟩
    | pn p n =>
      obtain ⟨e1, h2, L, o, ns, u, z, q1, q2, q3⟩ := k
      exact ⟨e1, .inl h2, L, o, ns, u, z, sm _ _ q1, sm _ _ q2, q3⟩
    | pr m => exact k
    | mk p c fs =>
      obtain ⟨e1, h2, dx, vs, hp, r⟩ := k
      exact ⟨e1, .inl h2, dx, vs, sm _ _ hp, r.mono kp⟩
    | qi c fs =>
      obtain ⟨p, dx, vs, e1, h1, h2, hp, r⟩ := k
      exact ⟨p, dx, vs, e1, h1, nb hp h2, sm _ _ hp, r.mono kp⟩
    | bd p fs =>
      obtain ⟨e1, h2, xs, hp, r⟩ := k
      exact ⟨e1, .inl h2, xs, sm _ _ hp, r.mono kp⟩
    | bl p fs =>
      obtain ⟨e1, h2, xs, hp, r⟩ := k
      exact ⟨e1, .inl h2, xs, sm _ _ hp, r.mono kp⟩
theorem slB_wide {B' : Addr → Prop} {H0' : Hp} {s : Sl} (hB : ∀ a, B a → B' a) (b : isB s = true) (h : SlOk C B H0' H [] (.ref (adr s)) s) (σ' : L2.St) : SlOk C B' H0 H σ' (.ref (adr s)) s := by
  cases s with
  | pn p n => obtain ⟨e1, h2, r⟩ := h; exact ⟨e1, hB _ h2, r⟩
  | mk p c fs => obtain ⟨e1, h2, r⟩ := h; exact ⟨e1, hB _ h2, r⟩
  | bd p fs => obtain ⟨e1, h2, r⟩ := h; exact ⟨e1, hB _ h2, r⟩
  | bl p fs => obtain ⟨e1, h2, r⟩ := h; exact ⟨e1, hB _ h2, r⟩
  | _ => cases b
abbrev DO := Addr → List Dat → (List Sl → Prop) → Prop
def SpO (C c : Addr) (D : DO) : Sp := fun vs H Q _ => ∃ (x dx : Addr) (vs' : List V) (ds : List Dat) (k : List Sl → Prop), vs = .ref x :: vs' ∧ H x = some (.ins c dx []) ∧ Reps C H vs' ds ∧ D x ds k ∧
  ∀ st B' H', k st → StOk C B' H' st → (∀ a, B' a → a = x ∨ H a = none) → (∀ a, B' a → ∃ o, H' a = some o ∧ ¬ Imm C o) → (∀ a o, H a = some o → a ≠ x → H' a = some o) → Q .non H'
theorem setB {j : Nat} {s : Sl} (R : RepE C B H0 H σ env) (b : isB s = true) (ok : ∀ σ', SlOk C B H0 H σ' (.ref (adr s)) s) : RepE C B H0 H (σ.set j (some (.ref (adr s)))) (env.set j s) :=
  R.setN (fun m z => by rw [z] at b; cases b) (fun o => by rw [own_nb o] at b; cases b) ok
/-- x = C(..), an object with four things of its own -/
theorem sxb_make {i j1 j2 j3 j4 : Nat} {c : Addr} {D : DO} (h : EXA C t env fun ss e => ∃ ds, ss = ds.map Sl.im ∧ ∀ x, D x ds fun st => ∃ fs s1 s2 s3 s4, st = [.mk x c fs, s1, s2, s3, s4] ∧ W.nx (((((e.set i (.mk x c fs)).set j1 s1).set j2 s2).set j3 s3).set j4 s4)) :
    SXB C ex (tGh j4 (tGh j3 (tGh j2 (tGh j1 (tAsg (tMake c (SpO C c D) [] E t) (gName i)))))) env W := fun B H0 σ H hB R De n r =>
  h B H0 σ H R _ fun ss e1 vs H1 ⟨ds, es, h1⟩ f1 o1 R1 p1 x dx hx hdx hne => by
    subst es
    have s1 : Same H1 (upd H1 dx (.own x)) := Same.new hdx
    have s2 : Same (upd H1 dx (.own x)) (upd (upd H1 dx (.own x)) x (.ins c dx [])) := Same.new (by rw [upd_ne (Ne.symm hne)]; exact hx)
    refine ⟨x, dx, vs, ds, _, by rw [List.append_nil], upd_same, ((reps_of p1).mono (Kp.same s1)).mono (Kp.same s2), h1 x, fun st B' H' k so hN hm hk => ⟨rfl, ?_⟩⟩
    obtain ⟨fs, u1, u2, u3, u4, est, kk⟩ := k
    have sm : Same H1 H' := fun a o ha => hk a o (s2 _ _ (s1 _ _ ha)) (fun z => by rw [z, hx] at ha; cases ha)
    have hN1 : ∀ a, B' a → H1 a = none := fun a b => by
      rcases hN a b with z | z
      · rw [z]; exact hx
      · cases e : H1 a with
        | none => rfl
        | some o => rw [s2 _ _ (s1 _ _ e)] at z; cases z
    have R2 := R1.adopt sm hN1 hm
    have g : ∀ s ∈ st, isB s = true ∧ ∀ σ', SlOk C (fun a => B a ∨ B' a) H0 H' σ' (.ref (adr s)) s := fun s hs => ⟨(so s hs).1, fun σ' => slB_wide (fun a b => .inr b) (so s hs).1 (so s hs).2 σ'⟩
    rw [est] at g
    obtain ⟨b0, k0⟩ := g (.mk x c fs) (by simp)
    obtain ⟨b1, k1⟩ := g u1 (by simp)
    obtain ⟨b2, k2⟩ := g u2 (by simp)
    obtain ⟨b3, k3⟩ := g u3 (by simp)
    obtain ⟨b4, k4⟩ := g u4 (by simp)
    refine ⟨_, _, _, _, n _ _ _ _ (fun a b => ?_) kk (setB (setB (setB (setB (setB (s := .mk x c fs) R2 b0 k0) b1 k1) b2 k2) b3 k3) b4 k4)⟩
    rcases b with b | b
    · exact hB a b
    · refine .inr ?_
      have := hN1 a b
      cases e : H0 a with
      | none => rfl
      | some o =>
        by_cases ba : B a
        · obtain ⟨o', h', _⟩ := R1.mutB a ba
          rw [this] at h'
          cases h'
        · rw [R1.base a o e ba] at this
          cases this
/-! ### what is borrowed is locked for good -/
def subD (a : Addr) (D : Dat) : Dat → Dat
  | .cls b => if b = a then D else .cls b
  | d => d
def subS (a : Addr) (D : Dat) : Sl → Sl
  | .mk p c fs => .mk p c (fs.map fun q => (q.1, subD a D q.2))
  | s => s
theorem subD_rep {a : Addr} {D d : Dat} (hD : Rep C H (.ref a) D) (h : Rep C H v d) : Rep C H v (subD a D d) := by
  cases d with
  | cls b =>
    have eq : subD a D (.cls b) = if b = a then D else .cls b := rfl
    rw [eq]
    by_cases e : b = a
    · rw [if_pos e]
      subst e
      cases h
      exact hD
    · rw [if_neg e]; exact h
  | _ => exact h
theorem subF_rep {a : Addr} {D : Dat} (hD : Rep C H (.ref a) D) : ∀ {vs : List (Str × V)} {fs : List (Str × Dat)}, RepF C H vs fs → RepF C H vs (fs.map fun q => (q.1, subD a D q.2))
  | _, _, .nil => .nil
  | _, _, .cons h t => .cons (subD_rep hD h) (subF_rep hD t)
theorem RepE.seal {j : Nat} {a : Addr} {s : Sl} {u w : HO} {D : Dat} (R : RepE C B H0 H σ env) (he : env[j]? = some s) (hs : isB s = true) (ha : adr s = a) (no : NoAd a (env.set j .un)) (hu : H a = some u) (nu : ¬ Imm C u) (hni : ∀ c dx fs, u ≠ .ins c dx fs) (h0 : H0 a = none) (hD : Rep C (upd H a w) (.ref a) D) :
    RepE C (fun b => B b ∧ b ≠ a) H0 (upd H a w) σ ((env.map (subS a D)).set j (.im D)) := by
  have kp : Kp C H (upd H a w) := kp_mut hu nu
  have hBa : B a := ha ▸ (adr_at R he hs).1
  have hj : j < env.length := (List.getElem?_eq_some_iff.mp he).1
  obtain ⟨v0, hv0, ok0⟩ := R.at B he (fun z => by subst z; cases hs)
  obtain ⟨ev0, _⟩ := slB (H0' := H0) (σ' := σ) hs ok0
  rw [ha] at ev0
  subst ev0
  have at' : ∀ (i : Nat) (t : Sl), j ≠ i → ((env.map (subS a D)).set j (.im D))[i]? = some t → ∃ q, env[i]? = some q ∧ subS a D q = t := fun i t hij e => by
    rw [List.getElem?_set_ne hij, List.getElem?_map] at e
    cases hq : env[i]? with
    | none => rw [hq] at e; cases e
    | some q => rw [hq] at e; cases e; exact ⟨q, rfl, rfl⟩
  have own' : ∀ q, OwnS (subS a D q) → subS a D q = q := fun q o => by cases q <;> first | rfl | exact o.elim
  have self : ∀ t, ((env.map (subS a D)).set j (.im D))[j]? = some t → t = .im D := fun t e => by
    rw [List.getElem?_set_self (by rw [List.length_map]; exact hj)] at e
    cases e
    rfl
  refine ⟨by rw [List.length_set, List.length_map]; exact R.len, fun i t e => ?_, fun i k t t' x e1 e2 o1 o2 g1 g2 => ?_, fun i m e => ?_, fun b o h nb => ?_, fun b hb => ?_⟩
  · by_cases hij : j = i
    · subst hij
      rw [self t e]
      exact .inr ⟨_, hv0, hD⟩
    · obtain ⟨q, hq, et⟩ := at' i t hij e
      subst et
      have nj : isB q = true → adr q ≠ a := fun bq => NoAd.at' no (j := i) (by rw [List.getElem?_set_ne hij]; exact hq) bq
      rcases R.slot i q hq with z | ⟨x, hx, k⟩
      · subst z; exact .inl rfl
      · refine .inr ⟨x, hx, ?_⟩
        cases q with
        | un => trivial
        | im d => exact Rep.mono kp k
        | ow ds =>
          obtain ⟨l, xs, e1, h1, h2, h3, r⟩ := k
          exact ⟨l, xs, e1, h1, fun z => h2 z.1, by rw [upd_ne (fun z => h2 (by rw [z]; exact hBa))]; exact h3, r.mono kp⟩
        | od ds =>
          obtain ⟨l, xs, e1, h1, h2, h3, r⟩ := k
          exact ⟨l, xs, e1, h1, fun z => h2 z.1, by rw [upd_ne (fun z => h2 (by rw [z]; exact hBa))]; exact h3, r.mono kp⟩
        | ro ds =>
          obtain ⟨l, xs, e1, h1, h2, r⟩ := k
          exact ⟨l, xs, e1, h1, fun z => h2 z.1, r.mono kp⟩
        | ri c fs =>
          obtain ⟨p, dx, vs, e1, h1, h2, r⟩ := k
          exact ⟨p, dx, vs, e1, h1, fun z => h2 z.1, r.mono kp⟩
        | pr m => exact k
        | qi c fs =>
          obtain ⟨p, dx, vs, e1, h1, h2, hp, r⟩ := k
          exact ⟨p, dx, vs, e1, h1, fun z => h2 z.1, by rw [upd_ne (fun z => h2 (by rw [z]; exact hBa))]; exact hp, r.mono kp⟩
        | pn p n =>
          obtain ⟨e1, h2, L, o, ns, u', z, q1, q2, q3⟩ := k
          have hp : p ≠ a := nj rfl
          exact ⟨e1, ⟨h2, hp⟩, L, o, ns, u', z, by rw [upd_ne hp]; exact q1, kp _ _ q2 trivial, q3⟩
        | mk p c fs =>
          obtain ⟨e1, h2, dx, vs, hp, r⟩ := k
          have hpa : p ≠ a := nj rfl
          exact ⟨e1, ⟨h2, hpa⟩, dx, vs, by rw [upd_ne hpa]; exact hp, subF_rep hD (r.mono kp)⟩
        | bd p fs =>
          obtain ⟨e1, h2, xs, hp, r⟩ := k
          have hpa : p ≠ a := nj rfl
          exact ⟨e1, ⟨h2, hpa⟩, xs, by rw [upd_ne hpa]; exact hp, r.mono kp⟩
        | bl p fs =>
          obtain ⟨e1, h2, xs, hp, r⟩ := k
          have hpa : p ≠ a := nj rfl
          exact ⟨e1, ⟨h2, hpa⟩, xs, by rw [upd_ne hpa]; exact hp, r.mono kp⟩
  · by_cases hi : j = i
    · subst hi
      rw [self t e1] at o1
      exact o1.elim
    · by_cases hk : j = k
      · subst hk
        rw [self t' e2] at o2
        exact o2.elim
      · obtain ⟨q, hq, et⟩ := at' i t hi e1
        obtain ⟨q', hq', et'⟩ := at' k t' hk e2
        subst et et'
        rw [own' q o1] at o1
        rw [own' q' o2] at o2
        exact R.dist i k q q' x hq hq' o1 o2 g1 g2
  · by_cases hi : j = i
    · subst hi
      cases self _ e
    · obtain ⟨q, hq, et⟩ := at' i _ hi e
      cases q with
      | pr n => exact R.nopr i n hq
      | _ => cases et
  · have hba : b ≠ a := fun z => by rw [z, h0] at h; cases h
    rw [upd_ne hba]
    exact R.base b o h fun z => nb ⟨z, hba⟩
  · obtain ⟨o, h, n⟩ := R.mutB b hb.1
    exact ⟨o, by rw [upd_ne hb.2]; exact h, n⟩
theorem sxb_fzL {j : Nat} (h : SXB C (fun _ => False) ts env { W with nx := fun e => ∃ a ds, e[j]? = some (.bl a ds) ∧ NoAd a (e.set j .un) ∧ W.nx ((e.map (subS a (.lst ds))).set j (.im (.lst ds))) }) : SXB C (fun _ => False) (tFzS j ts) env W := fun B H0 σ H hB R D n r =>
  h B H0 σ H hB R _ (fun B' σ' H' e' hB' ⟨a, ds, he, no, k⟩ R' => by
    obtain ⟨hBa, xs, hx, rx⟩ := bl_at R' he
    obtain ⟨w, hw, e1, _⟩ := R'.at B' he (fun z => nomatch z)
    subst e1
    have h0 : H0 a = none := (hB' a hBa).elim (fun z => z.elim) id
    refine ⟨a, _, hw, hx, trivial, fun o => ?_⟩
    exact n _ σ' _ _ (fun b hb => hB' b hb.1) k (R'.seal he rfl rfl no hx imm_lst lst_ni h0 (.lst upd_same (rx.mono (kp_mut hx imm_lst))))) r
theorem sxb_fzD {j : Nat} (h : SXB C (fun _ => False) ts env { W with nx := fun e => ∃ a ks, e[j]? = some (.bd a ks) ∧ NoAd a (e.set j .un) ∧ W.nx ((e.map (subS a (.dct ks))).set j (.im (.dct ks))) }) : SXB C (fun _ => False) (tFzS j ts) env W := fun B H0 σ H hB R D n r =>
  h B H0 σ H hB R _ (fun B' σ' H' e' hB' ⟨a, ks, he, no, k⟩ R' => by
    obtain ⟨hBa, xs, hx, rx⟩ := bd_at R' he
    obtain ⟨w, hw, e1, _⟩ := R'.at B' he (fun z => nomatch z)
    subst e1
    have h0 : H0 a = none := (hB' a hBa).elim (fun z => z.elim) id
    refine ⟨a, _, hw, hx, trivial, fun o => ?_⟩
    exact n _ σ' _ _ (fun b hb => hB' b hb.1) k (R'.seal he rfl rfl no hx imm_dK dK_ni h0 (.dct upd_same (rx.mono (kp_mut hx imm_dK))))) r
def dropB : Sl → Sl
  | .pn _ _ => .un
  | .mk _ _ _ => .un
  | .bd _ _ => .un
  | .bl _ _ => .un
  | s => s
theorem RepE.free (R : RepE C B H0 H σ env) (h0 : ∀ a, B a → H0 a = none) : RepE C (fun _ => False) H0 H σ (env.map dropB) := by
  have at' : ∀ (i : Nat) (t : Sl), (env.map dropB)[i]? = some t → ∃ q, env[i]? = some q ∧ dropB q = t := fun i t e => by
    rw [List.getElem?_map] at e
    cases hq : env[i]? with
    | none => rw [hq] at e; cases e
    | some q => rw [hq] at e; cases e; exact ⟨q, rfl, rfl⟩
  have own' : ∀ q, OwnS (dropB q) → dropB q = q := fun q o => by cases q <;> first | rfl | exact o.elim
  refine ⟨by rw [List.length_map]; exact R.len, fun i t e => ?_, fun i k t t' x e1 e2 o1 o2 g1 g2 => ?_, fun i m e => ?_, fun a o h _ => R.base a o h fun b => (by rw [h0 a b] at h; cases h), fun _ z => z.elim⟩
  · obtain ⟨q, hq, et⟩ := at' i t e
    subst et
    rcases R.slot i q hq with z | ⟨x, hx, k⟩
    · subst z; exact .inl rfl
    · cases q with
      | un => exact .inl rfl
      | im d => exact .inr ⟨x, hx, k⟩
      | ow ds => exact .inr ⟨x, hx, let ⟨l, xs, e1, h1, _, h3, r⟩ := k; ⟨l, xs, e1, h1, id, h3, r⟩⟩
      | od ds => exact .inr ⟨x, hx, let ⟨l, xs, e1, h1, _, h3, r⟩ := k; ⟨l, xs, e1, h1, id, h3, r⟩⟩
      | ro ds => exact .inr ⟨x, hx, let ⟨l, xs, e1, h1, _, r⟩ := k; ⟨l, xs, e1, h1, id, r⟩⟩
      | ri c fs => exact .inr ⟨x, hx, let ⟨p, dx, vs, e1, h1, _, r⟩ := k; ⟨p, dx, vs, e1, h1, id, r⟩⟩
      | pr m => exact absurd hq (R.nopr i m)
      | qi c fs => exact .inr ⟨x, hx, let ⟨p, dx, vs, e1, h1, _, hp, r⟩ := k; ⟨p, dx, vs, e1, h1, id, hp, r⟩⟩
      | _ => exact .inl rfl
  · obtain ⟨q, hq, et⟩ := at' i t e1
    obtain ⟨q', hq', et'⟩ := at' k t' e2
    subst et et'
    rw [own' q o1] at o1
    rw [own' q' o2] at o2
    exact R.dist i k q q' x hq hq' o1 o2 g1 g2
  · obtain ⟨q, hq, et⟩ := at' i _ e
    cases q with
    | pr n => exact R.nopr i n hq
    | _ => cases et
/-- return x, the object that was made -/
theorem sxb_retM {i : Nat} {p c : Addr} {fs : List (Str × Dat)} (he : env[i]? = some (.mk p c fs)) (h : ∀ e, W.rt (.qi c fs) e) : SXB C (fun _ => False) (tRet (tVar i)) env W := fun B H0 σ H hB R D n r => by
  obtain ⟨v, hv, ev, hb, dx, vs, hp, rr⟩ := R.at B he (fun z => nomatch z)
  have h0 : ∀ a, B a → H0 a = none := fun a b => (hB a b).elim (fun z => z.elim) id
  exact ⟨v, hv, r _ _ v σ H (h _) (R.free h0) ⟨p, dx, vs, ev, h0 p hb, id, hp, rr⟩⟩
/-- return x, an object that was made elsewhere -/
theorem sx_retQ {i : Nat} {c : Addr} {fs : List (Str × Dat)} (he : env[i]? = some (.qi c fs)) (h : W.rt (.qi c fs) env) : SX C (tRet (tVar i)) env W := fun B H0 σ H R D n r b c => by
  obtain ⟨v, hv, ok⟩ := R.at B he (fun z => nomatch z)
  exact ⟨v, hv, r _ env v σ H h R ok⟩
end
theorem fn_initB {P : Program} {w : World} {K : PySem.W.Frag} {mg : Str → Option Value} {base : Heap} {C c : Addr} {x qual : Str} {stm : Stmt} {f : Addr} {fd : FuncData} {N ps : List Str} {k : Nat} {D : DO} (F : Fun K x qual stm f fd) (S : FnScope N ps (defScope stm)) (hne : c ≠ C)
    (len : ∀ x ds k, D x ds k → ds.length + 1 = ps.length) (hps : ps.length ≤ N.length)
    (hbody : ∀ (cdv : Value) (A : Around) (outer : List PySem.Env) (s : Shared) (H : Hp) (E : XK) (ds : List Dat) (p : Addr) (kk : List Sl → Prop), Room k (A.deeper (PyProof.Rows.envOfC qual (defScope stm) s.heap.objs.size f cdv)) → D p ds kk →
      ∃ t, PSs (cxOf CX0 P w K mg base N qual (defScope stm) f cdv A outer s H E).nox (defBody stm) t ∧
        SXB C (fun a => a = p) t ((.mk p c [] :: ds.map Sl.im) ++ List.replicate (N.length - ps.length) .un) { nx := fun e => kk (getB e), rt := fun _ _ => False }) : FnOk P w K mg base CX0 (k + 1) f fd ps (SpO C c D) := by
  refine F.ok S (fun vs H Q E h => ?_) (fun cdv A outer s H vs Q E hr h => ?_)
  · obtain ⟨p, dx, vs', ds, kk, ev, hx, hreps, hd, _⟩ := h
    rw [ev, List.length_cons, hreps.length]
    exact len _ _ _ hd
  · obtain ⟨p, dx, vs', ds, kk, ev, hx, hreps, hd, hq⟩ := h
    obtain ⟨t, ht, hs⟩ := hbody cdv A outer s H E ds p kk hr hd
    have lv : vs.length = ps.length := by rw [ev, List.length_cons, hreps.length]; exact len _ _ _ hd
    have es : L2.start N vs = vs.map some ++ List.replicate (N.length - ps.length) none := by unfold L2.start; rw [lv]
    have al : Al (fun v s => SlOk C (fun a => a = p) H H [] v s) (vs.map some ++ List.replicate (N.length - ps.length) none) ((.mk p c [] :: ds.map Sl.im) ++ List.replicate (N.length - ps.length) .un) := by
      refine (Al.vals ?_).app Al.un
      rw [ev]
      exact .cons ⟨rfl, rfl, dx, [], hx, .nil⟩ (paired_im hreps)
    have kind : ∀ s ∈ ((.mk p c [] :: ds.map Sl.im) ++ List.replicate (N.length - ps.length) Sl.un), ¬ OwnS s ∧ ∀ m, s ≠ .pr m := fun s hs => by
      rcases List.mem_append.mp hs with hs | hs
      · rcases List.mem_cons.mp hs with q | q
        · rw [q]
          exact ⟨id, fun _ z => nomatch z⟩
        · obtain ⟨d, _, e⟩ := List.mem_map.mp q
          subst e
          exact ⟨id, fun _ z => nomatch z⟩
      · rw [List.eq_of_mem_replicate hs]
        exact ⟨id, fun _ z => nomatch z⟩
    have R : RepE C (fun a => a = p) H H (vs.map some ++ List.replicate (N.length - ps.length) none) ((.mk p c [] :: ds.map Sl.im) ++ List.replicate (N.length - ps.length) .un) := by
      refine ⟨al.len, fun i s e => ?_, fun i j s u v e1 e2 o1 o2 _ _ => absurd o1 (kind s (List.mem_of_getElem? e1)).1, fun i m e => (kind _ (List.mem_of_getElem? e)).2 m rfl, fun a o h _ => h, fun a b => ⟨.ins c dx [], by subst b; exact hx, fun z => hne (show c = C ∧ _ from z).1⟩⟩
      rcases al.at' i s e with h | ⟨v, hv, ok⟩
      · exact .inl h
      · refine .inr ⟨v, hv, ?_⟩
        cases s with
        | pr m => exact absurd rfl ((kind _ (List.mem_of_getElem? e)).2 m)
        | _ => exact ok
    refine ⟨t, ht, ?_⟩
    rw [es]
    refine hs _ H _ H (fun a b => .inl b) R _ (fun B' σ' H' e' hB' k' R' => ?_) (fun s v' e' σ' H' k' R' ok => k'.elim)
    refine hq _ B' H' k' R'.stOk hB' R'.mutB fun a o h na => R'.base a o h fun b => ?_
    rcases hB' a b with z | z
    · exact na z
    · rw [z] at h; cases h
/-- a def that hands back an object it made -/
theorem fn_pureB {P : Program} {w : World} {K : PySem.W.Frag} {mg : Str → Option Value} {base : Heap} {C : Addr} {x qual : Str} {st : Stmt} {f : Addr} {fd : FuncData} {N ps : List Str} {k : Nat} {D : DF} (F : Fun K x qual st f fd) (S : FnScope N ps (defScope st))
    (len : ∀ ss k, D ss k → ss.length = ps.length) (hps : ps.length ≤ N.length)
    (hbody : ∀ (cdv : Value) (A : Around) (outer : List PySem.Env) (s : Shared) (H : Hp) (E : XK) (ss : List Sl) (kk : Sl → Prop), Room k (A.deeper (PyProof.Rows.envOfC qual (defScope st) s.heap.objs.size f cdv)) → D ss kk →
      ∃ t, PSs (cxOf CX0 P w K mg base N qual (defScope st) f cdv A outer s H E).nox (defBody st) t ∧
        SXB C (fun _ => False) t (ss ++ List.replicate (N.length - ss.length) .un) { nx := fun _ => False, rt := fun s _ => RetOk s ∧ kk s }) : FnOk P w K mg base CX0 (k + 1) f fd ps (SpD C D) := by
  refine F.ok S (fun vs H Q E h => ?_) (fun cdv A outer s H vs Q E hr h => ?_)
  · obtain ⟨ss, kk, hd, hp, _⟩ := h
    rw [hp.length]
    exact len ss kk hd
  · obtain ⟨ss, kk, hd, hp, hq⟩ := h
    obtain ⟨t, ht, hs⟩ := hbody cdv A outer s H E ss kk hr hd
    refine ⟨t, ht, hs (fun _ => False) H (L2.start N vs) H (fun _ z => z.elim) (start_rep (by rw [hp.length, len ss kk hd]; exact hps) hp) _ (fun B' σ' H' e' hB' k' R' => k'.elim) (fun s v' e' σ' H' k' R' ok => ?_)⟩
    obtain ⟨ro, k'⟩ := k'
    obtain ⟨rs, np, _⟩ := ro.res
    refine hq _ _ H' k' (fun a o h => R'.base a o h id) ?_ rs np
    cases s with
    | pr i => exact absurd rfl (np i)
    | _ => exact ok
/-! ### a borrowed list is walked -/
section
variable {C : Addr} {env : Sls} {ta te tl : TE} {F : PySem.W.Frag} {g : TG} {tg : List Nat} {dom : Dat → Prop} {f : Dat → Sls → Sls} {KI : List Dat → (Dat → Sls → Sls) → Sls → Prop}
theorem ix_bl {j : Nat} {a : Addr} {ds : List Dat} (T : TgOk g tg dom f) (h : EX C tl env fun s e => hitS j a s ∧ e[j]? = some (.bl a ds) ∧ (∀ d ∈ ds, dom d) ∧ KI ds f e) : IXg C (fun e => e[j]? = some (.bl a ds)) (iList F tl) g tg env KI := fun B H0 σ H R Q q =>
  h B H0 σ H R _ fun s e v H1 ⟨hit, he, hd, k⟩ _ fr o R1 ok _ => by
    have ev := hit_val R1 he rfl rfl ok hit
    subst ev
    obtain ⟨hB, xs, hx, r⟩ := bl_at R1 he
    refine ⟨a, rfl, ⟨xs, .inl (.inl hx)⟩, q _ ds f e H1 (fun H => ∃ xs, H a = some (.lst xs) ∧ Reps C H xs ds) k fr o R1 ⟨xs, hx, r⟩ (fun Ha Hb σ2 e2 _ _ R2 g2 => ?_) T.zok ?_⟩
    · obtain ⟨_, ys, hy, ry⟩ := bl_at R2 g2
      exact ⟨ys, hy, ry⟩
    intro i σ0 H e0 ⟨ys, hy, ry⟩ R0
    have sq : SqL F H a ys := .inl (.inl hy)
    refine ⟨fun hi => ⟨ys, sq, by rw [hi, ry.length]; exact Nat.le_refl _⟩, fun d hd' => ?_⟩
    obtain ⟨x, hx', rx⟩ := ry.get hd'
    refine ⟨⟨ys, x, sq, hx'⟩, fun y H' yl Q' q' => ?_⟩
    obtain ⟨e1, yl⟩ := yl
    subst e1
    have := yl ys sq
    rw [hx'] at this
    cases this
    exact T.run C B H0 _ σ0 e0 x d (hd d (List.mem_of_getElem? hd')) R0 rx Q' fun σ2 R2 w => q' σ2 _ (Same.refl _) R2 w
end
section
variable {C : Addr} {env : Sls} {K K1 : Sl → Sls → Prop} {te : TE} {tt : TT} {KT KT1 : Bool → Sls → Prop}
theorem EX.fix {s0 : Sl} (h : EX C te env fun s e => s = s0 ∧ e = env) (k : K s0 env) : EX C te env K := fun B H0 σ H R Q q =>
  h B H0 σ H R Q fun s e v H' z => q s e v H' (by obtain ⟨a, b⟩ := z; subst a b; exact k)
theorem EX.imp (h : EX C te env K1) (i : ∀ s e, K1 s e → K s e) : EX C te env K := fun B H0 σ H R Q q =>
  h B H0 σ H R Q fun s e v H' z => q s e v H' (i s e z)
theorem ET.fix {b : Bool} (h : ET C tt env fun b' e => b' = b ∧ e = env) (k : KT b env) : ET C tt env KT := fun B H0 σ H R Q q =>
  h B H0 σ H R Q fun b e H' z => q b e H' (by obtain ⟨a, b⟩ := z; subst a b; exact k)
theorem ex_neg (h : EX C te env fun s e => ∃ i, s = .im (.int i) ∧ K (.im (.int (-i))) e) : EX C (tUn (rU fun i => .int (-i)) te) env K := fun B H0 σ H R Q q =>
  h B H0 σ H R _ fun s e v H1 ⟨i, es, kk⟩ _ fr o R1 ok _ => by
    subst es
    exact ⟨i, rep_int ok, q _ e _ H1 kk trivial fr o R1 (.int _) fun z => z.elim⟩
end
/-! ### a name's thing is forgotten -/
theorem RepE.forget {C : Addr} {B : Addr → Prop} {H0 H : Hp} {σ : L2.St} {env : Sls} (i : Nat) (R : RepE C B H0 H σ env) : RepE C B H0 H σ (env.set i .un) := by
  have at' : ∀ (j : Nat) (s : Sl), (env.set i .un)[j]? = some s → s = .un ∨ env[j]? = some s := fun j s e => by
    by_cases h : i = j
    · subst h
      by_cases hl : i < env.length
      · rw [List.getElem?_set_self hl] at e; cases e; exact .inl rfl
      · rw [List.getElem?_eq_none (by rw [List.length_set]; omega)] at e; cases e
    · rw [List.getElem?_set_ne h] at e; exact .inr e
  refine ⟨by rw [List.length_set]; exact R.len, fun j s e => ?_, fun j k s t v e1 e2 o1 o2 g1 g2 => ?_, fun j m e => ?_, R.base, R.mutB⟩
  · rcases at' j s e with h | h
    · exact .inl h
    · exact R.slot j s h
  · rcases at' j s e1 with h | h
    · subst h; exact o1.elim
    · rcases at' k t e2 with h2 | h2
      · subst h2; exact o2.elim
      · exact R.dist j k s t v h h2 o1 o2 g1 g2
  · rcases at' j _ e with h | h
    · cases h
    · exact R.nopr j m h
theorem sx_forget {C : Addr} {env : Sls} {t : TS} {W : Wish} (i : Nat) (h : SX C t (env.set i .un) W) : SX C t env W := fun B H0 σ H R D n r b c => h B H0 σ H (R.forget i) D n r b c
end Af
end

section
set_option maxHeartbeats 4000000
/-! The plain law: pieces of any kind, falls, and what is taken from the last one on. -/
namespace Af
structure Sys where
  n : Nat
  rk : Int → Int
  lk : Int → Int → Option Int
  bs : Int → Int
namespace Sys
variable (y : Sys)
def isP (i : Int) : Prop := 0 ≤ i ∧ i < y.n
structure Fall (f : List Int) : Prop where
  pcs : ∀ i ∈ f, y.isP i
  nd : f.Nodup
  low : ∀ pre i post, f = pre ++ i :: post → ∀ j, y.isP j → y.rk j < y.rk i → j ∈ pre
def wr (c : Int) (v : Int) (i : Int) : Int := (y.lk i c).getD v
def val (f : List Int) (c : Int) : Int := f.foldl (y.wr c) (y.bs c)
def Met (pat : Pat) (f : List Int) : Prop := ∀ q ∈ pat, y.val f q.1 ∈ q.2
def spo1 (i : Int) (q : Int × List Int) : Bool := match y.lk i q.1 with
  | some w => decide (w ∉ q.2)
  | none => false
def spo (need : Pat) (i : Int) : Bool := need.any (y.spo1 i)
def spoB (need : Pat) : Bool := need.any fun q => decide (y.bs q.1 ∉ q.2)
end Sys
structure PS where
  need : Pat
  left : List Int
  taken : List Int
namespace Sys
variable (y : Sys)
def tk (s : PS) (i : Int) : PS := ⟨s.need.filter fun q => (y.lk i q.1).isNone, s.left.erase i, s.taken ++ [i]⟩
inductive Tks (ps : List Int) (s : PS) : PS → Prop
  | refl : Tks ps s s
  | step {s1 : PS} {i : Int} : Tks ps s s1 → i ∈ ps → i ∈ s1.left → y.spo s1.need i = false → Tks ps s (y.tk s1 i)
def All (ps : List Int) (s s' : PS) : Prop := y.Tks ps s s' ∧ ∀ i ∈ ps, i ∈ s'.left → y.spo s'.need i = true
def at' (r : Nat) (s : PS) : List Int := s.left.filter fun i => decide (y.rk i = (r : Int))
def held (e : Int) (ps : List Int) (s' : PS) : Prop := ∃ i ∈ ps, i ∈ s'.left ∧ y.rk i < e
inductive Go (e : Int) : Nat → PS → PS → Bool → Prop
  | done {s : PS} : Go e 0 s s (!y.spoB s.need)
  | stop {r : Nat} {s s' : PS} : y.All (y.at' r s) s s' → y.held e (y.at' r s) s' → Go e (r + 1) s s' false
  | next {r : Nat} {s s' s2 : PS} {b : Bool} : y.All (y.at' r s) s s' → ¬ y.held e (y.at' r s) s' → Go e r s' s2 b → Go e (r + 1) s s2 b
variable {y}
/-- what a row of takings does -/
structure Tk (y : Sys) (ps : List Int) (s s' : PS) (T : List Int) : Prop where
  taken : s'.taken = s.taken ++ T
  sub : ∀ i ∈ T, i ∈ ps ∧ i ∈ s.left
  mem : ∀ i, i ∈ s'.left → i ∈ s.left
  out : ∀ i ∈ s.left, i ∉ s'.left → i ∈ T
  keep : ∀ i ∈ s.left, i ∉ T → i ∈ s'.left
  nd : s.left.Nodup → s'.left.Nodup ∧ T.Nodup ∧ ∀ i ∈ T, i ∉ s'.left
  need : ∀ q, q ∈ s'.need ↔ q ∈ s.need ∧ ∀ i ∈ T, y.lk i q.1 = none
  good : ∀ q ∈ s.need, ∀ w, T.findSome? (fun i => y.lk i q.1) = some w → w ∈ q.2
theorem Tks.tk {ps : List Int} {s s' : PS} (h : y.Tks ps s s') : ∃ T, Tk y ps s s' T := by
  induction h with
  | refl => exact ⟨[], by simp, by simp, fun _ h => h, fun i h n => absurd h n, fun i h _ => h, fun h => ⟨h, .nil, by simp⟩, by simp, by simp⟩
  | @step s1 i _ hi hl hs ih =>
    obtain ⟨T, h⟩ := ih
    refine ⟨T ++ [i], ?_, ?_, ?_, ?_, ?_, ?_, ?_, ?_⟩
    · show s1.taken ++ [i] = _
      rw [h.taken, List.append_assoc]
    · intro j hj
      rcases List.mem_append.mp hj with q | q
      · exact h.sub j q
      · rw [List.mem_singleton.mp q]
        exact ⟨hi, h.mem i hl⟩
    · intro j hj
      exact h.mem j (List.mem_of_mem_erase hj)
    · intro j hj hn
      by_cases e : j = i
      · subst e; simp
      · refine List.mem_append_left _ (h.out j hj fun q => hn ?_)
        exact (List.mem_erase_of_ne e).mpr q
    · intro j hj hn
      have hne : j ≠ i := fun e => hn (by subst e; simp)
      exact (List.mem_erase_of_ne hne).mpr (h.keep j hj fun q => hn (List.mem_append_left _ q))
    · intro nd
      obtain ⟨a, b, c⟩ := h.nd nd
      refine ⟨a.erase i, ?_, ?_⟩
      · rw [List.nodup_append]
        refine ⟨b, by simp, fun x hx z hz => ?_⟩
        rw [List.mem_singleton.mp hz]
        intro e
        subst e
        exact c _ hx hl
      · intro j hj hm
        rcases List.mem_append.mp hj with q | q
        · exact c j q (List.mem_of_mem_erase hm)
        · rw [List.mem_singleton.mp q] at hm
          exact (List.Nodup.mem_erase_iff a).mp hm |>.1 rfl
    · intro q
      show q ∈ s1.need.filter _ ↔ _
      rw [List.mem_filter, h.need q, Option.isNone_iff_eq_none]
      constructor
      · rintro ⟨⟨a, b⟩, c⟩
        refine ⟨a, fun j hj => ?_⟩
        rcases List.mem_append.mp hj with z | z
        · exact b j z
        · rw [List.mem_singleton.mp z]; exact c
      · rintro ⟨a, b⟩
        exact ⟨⟨a, fun j hj => b j (List.mem_append_left _ hj)⟩, b i (by simp)⟩
    · intro q hq w hw
      rw [List.findSome?_append] at hw
      cases e : T.findSome? (fun i => y.lk i q.1) with
      | some v =>
        rw [e] at hw
        cases hw
        exact h.good q hq _ e
      | none =>
        rw [e] at hw
        have hq1 : q ∈ s1.need := (h.need q).mpr ⟨hq, fun j hj => List.findSome?_eq_none_iff.mp e j hj⟩
        have hw : y.lk i q.1 = some w := by simpa using hw
        unfold Sys.spo at hs
        rw [List.any_eq_false] at hs
        have := hs q hq1
        unfold spo1 at this
        rw [hw] at this
        simpa using this
/-- from the first taken one on -/
theorem val_rev (c : Int) : ∀ T : List Int, y.val T.reverse c = (T.findSome? (fun i => y.lk i c)).getD (y.bs c)
  | [] => rfl
  | i :: T => by
    have ih := val_rev c T
    unfold val at ih ⊢
    rw [List.reverse_cons, List.foldl_append, ih, List.foldl_cons, List.foldl_nil, List.findSome?_cons]
    unfold wr
    cases y.lk i c <;> rfl
structure Inv (y : Sys) (e : Int) (pat : Pat) (r : Nat) (s : PS) : Prop where
  lp : ∀ i ∈ s.left, y.isP i ∧ y.rk i ≤ e
  ld : s.left.Nodup
  td : s.taken.Nodup
  tl : ∀ i ∈ s.taken, i ∉ s.left
  tp : ∀ i ∈ s.taken, y.isP i ∧ y.rk i ≤ e ∧ (r : Int) ≤ y.rk i
  ts : s.taken.Pairwise fun a b => y.rk b ≤ y.rk a
  low : ∀ i, y.isP i → y.rk i < r → y.rk i ≤ e → i ∈ s.left
  all : ∀ i, y.isP i → (r : Int) ≤ y.rk i → y.rk i < e → i ∈ s.taken
  need : ∀ q ∈ pat, (q ∈ s.need ↔ ∀ i ∈ s.taken, y.lk i q.1 = none)
  good : ∀ q ∈ pat, ∀ w, s.taken.findSome? (fun i => y.lk i q.1) = some w → w ∈ q.2
theorem at_mem {r : Nat} {s : PS} {i : Int} : i ∈ y.at' r s ↔ i ∈ s.left ∧ y.rk i = (r : Int) := by
  unfold at'
  rw [List.mem_filter, decide_eq_true_eq]
theorem Inv.step {e : Int} {pat : Pat} {r : Nat} {s s' : PS} (I : Inv y e pat (r + 1) s) (A : y.All (y.at' r s) s s') (n : ¬ y.held e (y.at' r s) s') : Inv y e pat r s' := by
  obtain ⟨T, h⟩ := A.1.tk
  obtain ⟨n1, n2, n3⟩ := h.nd I.ld
  have hT : ∀ i ∈ T, y.rk i = (r : Int) := fun i hi => (at_mem.mp (h.sub i hi).1).2
  refine ⟨fun i hi => I.lp i (h.mem i hi), n1, ?_, ?_, ?_, ?_, ?_, ?_, ?_, ?_⟩
  · rw [h.taken, List.nodup_append]
    refine ⟨I.td, n2, fun a ha b hb e => ?_⟩
    subst e
    exact I.tl a ha (h.sub a hb).2
  · intro i hi
    rw [h.taken] at hi
    rcases List.mem_append.mp hi with q | q
    · exact fun z => I.tl i q (h.mem i z)
    · exact n3 i q
  · intro i hi
    rw [h.taken] at hi
    rcases List.mem_append.mp hi with q | q
    · obtain ⟨a, b, c⟩ := I.tp i q
      exact ⟨a, b, by omega⟩
    · obtain ⟨a, b⟩ := I.lp i (h.sub i q).2
      exact ⟨a, b, by rw [hT i q]; omega⟩
  · rw [h.taken, List.pairwise_append]
    refine ⟨I.ts, ?_, ?_⟩
    · exact List.Pairwise.imp_of_mem (S := fun a b => y.rk b ≤ y.rk a) (fun {a b} ha hb _ => by rw [hT a ha, hT b hb]; omega) n2
    · intro a ha b hb
      have := (I.tp a ha).2.2
      rw [hT b hb]
      omega
  · intro i hi h1 h2
    refine h.keep i (I.low i hi (by omega) h2) fun q => ?_
    rw [hT i q] at h1
    omega
  · intro i hi h1 h2
    rw [h.taken]
    by_cases e1 : ((r + 1 : Nat) : Int) ≤ y.rk i
    · exact List.mem_append_left _ (I.all i hi e1 h2)
    · have hl := I.low i hi (by omega) (by omega)
      have er : y.rk i = (r : Int) := by omega
      refine List.mem_append_right _ (h.out i hl fun q => n ⟨i, at_mem.mpr ⟨hl, er⟩, q, h2⟩)
  · intro q hq
    rw [h.need q, I.need q hq, h.taken]
    constructor
    · rintro ⟨a, b⟩ i hi
      rcases List.mem_append.mp hi with z | z
      · exact a i z
      · exact b i z
    · intro a
      exact ⟨fun i hi => a i (List.mem_append_left _ hi), fun i hi => a i (List.mem_append_right _ hi)⟩
  · intro q hq w hw
    rw [h.taken, List.findSome?_append] at hw
    cases e : s.taken.findSome? (fun i => y.lk i q.1) with
    | some v =>
      rw [e] at hw
      cases hw
      exact I.good q hq _ e
    | none =>
      rw [e] at hw
      have hq1 : q ∈ s.need := (I.need q hq).mpr fun j hj => List.findSome?_eq_none_iff.mp e j hj
      exact h.good q hq1 w (by simpa using hw)
theorem go_sound {e : Int} {pat : Pat} (hr : ∀ i, y.isP i → 0 ≤ y.rk i) {r : Nat} {s s' : PS} {b : Bool} (g : y.Go e r s s' b) (hb : b = true) (I : Inv y e pat r s) : y.Fall s'.taken.reverse ∧ y.Met pat s'.taken.reverse := by
  induction g with
  | @done s =>
    have hsp : y.spoB s.need = false := by simpa using hb
    refine ⟨⟨fun i hi => (I.tp i (List.mem_reverse.mp hi)).1, List.pairwise_reverse.mpr (I.td.imp fun h z => h z.symm), fun pre i post ef j hj hlt => ?_⟩, fun q hq => ?_⟩
    · have hi : i ∈ s.taken := List.mem_reverse.mp (by rw [ef]; simp)
      have hm : j ∈ s.taken.reverse := List.mem_reverse.mpr (I.all j hj (hr j hj) (by have := (I.tp i hi).2.1; omega))
      have hp : s.taken.reverse.Pairwise fun a b => y.rk a ≤ y.rk b := List.pairwise_reverse.mpr I.ts
      rw [ef] at hm hp
      rcases List.mem_append.mp hm with z | z
      · exact z
      · rcases List.mem_cons.mp z with z | z
        · subst z; omega
        · have := (List.pairwise_cons.mp (List.pairwise_append.mp hp).2.1).1 j z
          omega
    · rw [val_rev]
      cases e : s.taken.findSome? (fun i => y.lk i q.1) with
      | some w => exact I.good q hq w e
      | none =>
        have hn : q ∈ s.need := (I.need q hq).mpr fun j hj => List.findSome?_eq_none_iff.mp e j hj
        unfold spoB at hsp
        rw [List.any_eq_false] at hsp
        simpa using hsp q hn
  | stop => cases hb
  | next a n _ ih => exact ih hb (I.step a n)
/-- the pieces up to an epoch -/
def below (y : Sys) (e : Int) : List Int := ((List.range y.n).map fun (i : Nat) => (i : Int)).filter fun i => decide (y.rk i ≤ e)
theorem below_mem {e i : Int} : i ∈ y.below e ↔ y.isP i ∧ y.rk i ≤ e := by
  unfold below isP
  rw [List.mem_filter, List.mem_map, decide_eq_true_eq]
  constructor
  · rintro ⟨⟨k, hk, ek⟩, h⟩
    have := List.mem_range.mp hk
    subst ek
    exact ⟨⟨by omega, by omega⟩, h⟩
  · rintro ⟨⟨a, b⟩, h⟩
    exact ⟨⟨i.toNat, List.mem_range.mpr (by omega), by omega⟩, h⟩
theorem below_nd {e : Int} : (y.below e).Nodup := by
  unfold below
  refine List.Pairwise.filter _ ?_
  exact List.Pairwise.map _ (fun a b h z => h (by omega)) List.nodup_range
def init (y : Sys) (pat : Pat) (e : Int) : PS := ⟨pat, y.below e, []⟩
theorem sound {e : Nat} {pat : Pat} (hr : ∀ i, y.isP i → 0 ≤ y.rk i) {s' : PS} (g : y.Go e (e + 1) (y.init pat e) s' true) : y.Fall s'.taken.reverse ∧ y.Met pat s'.taken.reverse :=
  go_sound (pat := pat) hr g rfl { lp := fun i hi => below_mem.mp hi, ld := below_nd, td := List.Pairwise.nil, tl := fun i hi => (nomatch hi), tp := fun i hi => (nomatch hi), ts := List.Pairwise.nil, low := fun i h1 h2 h3 => below_mem.mpr ⟨h1, h3⟩, all := fun i h1 h2 h3 => by omega, need := fun q hq => ⟨fun _ i hi => (nomatch hi), fun _ => hq⟩, good := fun q hq w hw => by cases hw }
/-! ### nothing is missed -/
theorem Fall.sorted {f : List Int} (F : y.Fall f) : f.Pairwise fun a b => y.rk a ≤ y.rk b := by
  have : ∀ (l : List Int), (∀ pre i post, l = pre ++ i :: post → ∀ j ∈ post, y.rk i ≤ y.rk j) → l.Pairwise fun a b => y.rk a ≤ y.rk b := by
    intro l
    induction l with
    | nil => intro _; exact .nil
    | cons a r ih =>
      intro h
      refine .cons (fun j hj => h [] a r rfl j hj) (ih fun pre i post e j hj => h (a :: pre) i post (by rw [e]; rfl) j hj)
  refine this f fun pre i post e j hj => ?_
  refine Int.not_lt.mp fun lt => ?_
  have hjp : y.isP j := F.pcs j (by rw [e]; simp [hj])
  have hm := F.low pre i post e j hjp lt
  have nd := F.nd
  rw [e] at nd
  exact (List.nodup_append.mp nd).2.2 j hm j (List.mem_cons_of_mem _ hj) rfl
theorem split_rank {r : Int} : ∀ {f : List Int}, f.Pairwise (fun a b => y.rk a ≤ y.rk b) → f.filter (fun i => decide (y.rk i < r + 1)) = f.filter (fun i => decide (y.rk i < r)) ++ f.filter (fun i => decide (y.rk i = r))
  | [], _ => rfl
  | i :: f, h => by
    obtain ⟨h1, h2⟩ := List.pairwise_cons.mp h
    have ih := split_rank (r := r) h2
    by_cases a : y.rk i < r
    · rw [List.filter_cons_of_pos (by simp; omega), List.filter_cons_of_pos (by simpa using a), List.filter_cons_of_neg (by simp; omega), ih]
      rfl
    · have e0 : f.filter (fun i => decide (y.rk i < r)) = [] := by
        rw [List.filter_eq_nil_iff]
        intro j hj
        have := h1 j hj
        simp; omega
      by_cases b : y.rk i = r
      · rw [List.filter_cons_of_pos (by simp; omega), List.filter_cons_of_neg (by simpa using a), List.filter_cons_of_pos (by simpa using b), ih, e0]
        rfl
      · rw [List.filter_cons_of_neg (by simp; omega), List.filter_cons_of_neg (by simpa using a), List.filter_cons_of_neg (by simpa using b), ih]
theorem foldl_skip {c : Int} : ∀ {g : List Int} {v : Int}, (∀ i ∈ g, y.lk i c = none) → g.foldl (y.wr c) v = v
  | [], _, _ => rfl
  | i :: g, v, h => by
    rw [List.foldl_cons, show y.wr c v i = v by unfold wr; rw [h i List.mem_cons_self]; rfl]
    exact foldl_skip fun j hj => h j (List.mem_cons_of_mem _ hj)
theorem last_of {P : Int → Prop} [DecidablePred P] : ∀ {g : List Int}, (∃ i ∈ g, P i) → ∃ a i b, g = a ++ i :: b ∧ P i ∧ ∀ j ∈ b, ¬ P j
  | [], h => by obtain ⟨i, hi, _⟩ := h; cases hi
  | x :: g, h => by
    by_cases q : ∃ i ∈ g, P i
    · obtain ⟨a, i, b, e, h1, h2⟩ := last_of q
      exact ⟨x :: a, i, b, by rw [e]; rfl, h1, h2⟩
    · obtain ⟨i, hi, hp⟩ := h
      rcases List.mem_cons.mp hi with z | z
      · subst z
        exact ⟨[], i, g, rfl, hp, fun j hj hj2 => q ⟨j, hj, hj2⟩⟩
      · exact absurd ⟨i, z, hp⟩ q
structure Cov (y : Sys) (f : List Int) (e : Int) (r : Nat) (s : PS) : Prop where
  met : ∀ q ∈ s.need, (f.filter fun i => decide (y.rk i < r)).foldl (y.wr q.1) (y.bs q.1) ∈ q.2
  low : ∀ i, y.isP i → y.rk i < r → y.rk i ≤ e → i ∈ s.left
  lp : ∀ i ∈ s.left, y.isP i
theorem Cov.step {f : List Int} {e : Int} {r : Nat} {s s' : PS} (F : y.Fall f) (hf : ∀ i ∈ f, y.rk i ≤ e) (C : Cov y f e (r + 1) s) (A : y.All (y.at' r s) s s') : Cov y f e r s' ∧ ∀ i ∈ f, y.rk i = (r : Int) → i ∉ s'.left := by
  obtain ⟨T, h⟩ := A.1.tk
  have hT : ∀ i ∈ T, y.rk i = (r : Int) := fun i hi => (at_mem.mp (h.sub i hi).1).2
  have hcast : ((r + 1 : Nat) : Int) = (r : Int) + 1 := by omega
  have inl : ∀ i ∈ f, y.rk i = (r : Int) → i ∈ s.left := fun i hi er => C.low i (F.pcs i hi) (by omega) (hf i hi)
  have outs : ∀ i ∈ f, y.rk i = (r : Int) → i ∉ s'.left := by
    intro i0 hi0 er0 hl0
    obtain ⟨a, i, b, eg, hp, hb⟩ := last_of (P := fun i => i ∈ s'.left) (g := f.filter (fun i => decide (y.rk i = (r : Int)))) ⟨i0, List.mem_filter.mpr ⟨hi0, by simpa using er0⟩, hl0⟩
    have hig : i ∈ f ∧ y.rk i = (r : Int) := by
      have : i ∈ f.filter (fun i => decide (y.rk i = (r : Int))) := by rw [eg]; simp
      simpa using this
    have hsp := A.2 i (at_mem.mpr ⟨inl i hig.1 hig.2, hig.2⟩) hp
    unfold spo at hsp
    rw [List.any_eq_true] at hsp
    obtain ⟨q, hq, hs⟩ := hsp
    have hq0 := (h.need q).mp hq
    unfold spo1 at hs
    cases hw : y.lk i q.1 with
    | none => rw [hw] at hs; cases hs
    | some w =>
      rw [hw] at hs
      have hs : w ∉ q.2 := by simpa using hs
      apply hs
      have hm := C.met q hq0.1
      rw [hcast, split_rank F.sorted, eg, List.foldl_append, List.foldl_append, List.foldl_cons] at hm
      rw [foldl_skip] at hm
      · unfold wr at hm
        rw [hw] at hm
        exact hm
      · intro j hj
        have hjg : j ∈ f ∧ y.rk j = (r : Int) := by
          have : j ∈ f.filter (fun i => decide (y.rk i = (r : Int))) := by rw [eg]; simp [hj]
          simpa using this
        exact hq0.2 j (h.out j (inl j hjg.1 hjg.2) (hb j hj))
  refine ⟨⟨fun q hq => ?_, fun i hi h1 h2 => h.keep i (C.low i hi (by omega) h2) fun q => by rw [hT i q] at h1; omega, fun i hi => C.lp i (h.mem i hi)⟩, outs⟩
  obtain ⟨hq0, hqT⟩ := (h.need q).mp hq
  have hm := C.met q hq0
  rw [hcast, split_rank F.sorted, List.foldl_append] at hm
  rw [foldl_skip] at hm
  · exact hm
  · intro j hj
    have hjg : j ∈ f ∧ y.rk j = (r : Int) := by simpa using hj
    exact hqT j (h.out j (inl j hjg.1 hjg.2) (outs j hjg.1 hjg.2))
theorem go_cov {f : List Int} {e : Int} (F : y.Fall f) (hr : ∀ i, y.isP i → 0 ≤ y.rk i) (hf : ∀ i ∈ f, y.rk i ≤ e) (top : ∀ i, y.isP i → y.rk i < e → i ∈ f) {r : Nat} {s s' : PS} {b : Bool} (g : y.Go e r s s' b) (C : Cov y f e r s) : b = true := by
  induction g with
  | @done s =>
    rw [Bool.not_eq_true']
    unfold spoB
    rw [List.any_eq_false]
    intro q hq
    have hm := C.met q hq
    have e0 : f.filter (fun i => decide (y.rk i < ((0 : Nat) : Int))) = [] := by
      rw [List.filter_eq_nil_iff]
      intro j hj
      have := hr j (F.pcs j hj)
      simp; omega
    rw [e0] at hm
    simpa using hm
  | @stop r s s' a h =>
    obtain ⟨i, hi, hl, hlt⟩ := h
    have hs := at_mem.mp hi
    exfalso
    have hx := (Cov.step F hf C a).2
    exact hx i (top i (C.lp i hs.1) hlt) hs.2 hl
  | next a n _ ih => exact ih (Cov.step F hf C a).1
/-- a fall's epoch -/
theorem exists_top : ∀ f : List Int, f = [] ∨ ∃ i ∈ f, ∀ j ∈ f, y.rk j ≤ y.rk i
  | [] => .inl rfl
  | i :: f => .inr (by
    rcases exists_top f with h | ⟨k, hk, h⟩
    · subst h
      exact ⟨i, List.mem_cons_self, fun j hj => by rw [List.mem_singleton.mp hj]; exact Int.le_refl _⟩
    · by_cases c : y.rk k ≤ y.rk i
      · refine ⟨i, List.mem_cons_self, fun j hj => ?_⟩
        rcases List.mem_cons.mp hj with z | z
        · rw [z]; exact Int.le_refl _
        · have := h j z
          omega
      · refine ⟨k, List.mem_cons_of_mem _ hk, fun j hj => ?_⟩
        rcases List.mem_cons.mp hj with z | z
        · rw [z]; omega
        · exact h j z)
theorem complete {pat : Pat} {E : Nat} (hr : ∀ i, y.isP i → 0 ≤ y.rk i ∧ y.rk i < E) (hE : 0 < E) {f : List Int} (F : y.Fall f) (M : y.Met pat f) : ∃ e : Nat, e < E ∧ ∀ s' b, y.Go e (e + 1) (y.init pat e) s' b → b = true := by
  have fin : ∀ e : Nat, (∀ i ∈ f, y.rk i ≤ (e : Int)) → (∀ i, y.isP i → y.rk i < (e : Int) → i ∈ f) → ∀ s' b, y.Go e (e + 1) (y.init pat e) s' b → b = true := fun e h1 h2 s' b g =>
    go_cov F (fun i hi => (hr i hi).1) h1 h2 g ⟨fun q hq => by
      rw [List.filter_eq_self.mpr (fun i hi => by have := h1 i hi; simp; omega)]
      exact M q hq, fun i hi _ h => below_mem.mpr ⟨hi, h⟩, fun i hi => (below_mem.mp hi).1⟩
  rcases exists_top (y := y) f with h | ⟨i, hi, h⟩
  · subst h
    exact ⟨0, hE, fin 0 (fun i hi => nomatch hi) fun i hi h => by have := (hr i hi).1; omega⟩
  · obtain ⟨h0, h1⟩ := hr i (F.pcs i hi)
    have ec : ((y.rk i).toNat : Int) = y.rk i := by omega
    refine ⟨(y.rk i).toNat, by omega, fin _ (fun j hj => by rw [ec]; exact h j hj) fun j hj hlt => ?_⟩
    rw [ec] at hlt
    obtain ⟨pre, post, e⟩ := List.append_of_mem hi
    rw [e]
    exact List.mem_append_left _ (F.low pre i post e j hj hlt)
end Sys
end Af
end

section
set_option maxHeartbeats 4000000
/-! The plain law, of plans: a barrier more, a step at the end. -/
namespace Af
/-! ### pieces -/
structure PcIn (i f : Int) (ws : List Int) (x : Pc) : Prop where
  ix : x.1 = i
  lo : f ≤ x.2.1
  hi : x.2.1 + (x.2.2.length : Int) ≤ f + (ws.length : Int)
  sub : ∀ w ∈ x.2.2, w ∈ ws
theorem brkGo_in {i f w : Int} {ws : List Int} : ∀ p : Nat, p ≤ ws.length → ∀ x ∈ (brkGo i f w ws p).1, PcIn i f ws x
  | 0, _, x, h => by cases h
  | p + 1, hp, x, h => by
    have ih := brkGo_in (i := i) (f := f) (w := w) (ws := ws) p (by omega)
    by_cases c : p + 1 = ws.length ∨ (f + ((p + 1 : Nat) : Int)) % w = 0
    · rw [brkGo_pos c] at h
      rcases List.mem_append.mp h with q | q
      · exact ih x q
      · rw [List.mem_singleton.mp q]
        refine ⟨rfl, by simp; omega, ?_, fun w hw => List.mem_of_mem_drop (List.mem_of_mem_take hw)⟩
        simp only [List.length_take, List.length_drop]
        have := (brkGo_le i f w ws p).2
        omega
    · rw [brkGo_neg c] at h
      exact ih x h
theorem brk_in {i f w : Int} {ws : List Int} {x : Pc} (h : x ∈ brk i f w ws) : PcIn i f ws x := brkGo_in _ (Nat.le_refl _) x h
theorem parts_in {steps : List Stp} {w : Int} {x : Pc} (h : x ∈ partsOf steps w) : ∃ (n : Nat) (f : Int) (ws : List Int), steps[n]? = some (some (f, ws)) ∧ PcIn (n : Int) f ws x := by
  unfold partsOf at h
  obtain ⟨⟨s, n⟩, hm, hx⟩ := List.mem_flatMap.mp h
  have hs : steps[n]? = some s := List.mem_zipIdx_iff_getElem?.mp hm
  cases s with
  | none => cases hx
  | some q => exact ⟨n, q.1, q.2, hs, brk_in hx⟩
def shP (x : Pc) : Pc := (x.1 + 1, x.2.1, x.2.2)
theorem brkGo_sh {i f w : Int} {ws : List Int} : ∀ p : Nat, brkGo (i + 1) f w ws p = ((brkGo i f w ws p).1.map shP, (brkGo i f w ws p).2)
  | 0 => rfl
  | p + 1 => by
    have ih := brkGo_sh (i := i) (f := f) (w := w) (ws := ws) p
    by_cases c : p + 1 = ws.length ∨ (f + ((p + 1 : Nat) : Int)) % w = 0
    · rw [brkGo_pos c, brkGo_pos c, ih, List.map_append]
      rfl
    · rw [brkGo_neg c, brkGo_neg c, ih]
theorem brkS_sh {w : Int} {s : Stp} {n : Nat} : brkS w (s, n + 1) = (brkS w (s, n)).map shP := by
  cases s with
  | none => rfl
  | some q =>
    show brk ((n + 1 : Nat) : Int) q.1 w q.2 = (brk (n : Int) q.1 w q.2).map shP
    unfold brk
    rw [show ((n + 1 : Nat) : Int) = (n : Int) + 1 by omega, brkGo_sh]
/-- the index behind a step that is put in -/
def shK (k : Nat) (x : Pc) : Pc := (x.1 + (if (k : Int) ≤ x.1 then 1 else 0), x.2.1, x.2.2)
def Pl.ins (p : Pl) (k : Nat) (s : Stp) : Pl := { p with steps := p.steps.take k ++ s :: p.steps.drop k }
def Pl.del (p : Pl) (k : Nat) : Pl := { p with steps := p.steps.take k ++ p.steps.drop (k + 1) }
theorem ins_del {p : Pl} {k : Nat} {s : Stp} (h : k ≤ p.steps.length) : (p.ins k s).del k = p := by
  cases p with
  | mk b w st =>
    unfold Pl.ins Pl.del
    congr 1
    have h : k ≤ st.length := h
    have hl : (st.take k).length = k := by rw [List.length_take, Nat.min_eq_left h]
    show List.take k (st.take k ++ s :: st.drop k) ++ List.drop (k + 1) (st.take k ++ s :: st.drop k) = st
    rw [List.take_append, List.drop_append, hl]
    simp [List.take_take, List.drop_take, show k + 1 - k = 1 by omega]
theorem flat_sh {w : Int} : ∀ {l : List Stp} {n : Nat}, (l.zipIdx (n + 1)).flatMap (brkS w) = ((l.zipIdx n).flatMap (brkS w)).map shP
  | [], _ => rfl
  | s :: l, n => by
    rw [List.zipIdx_cons, List.zipIdx_cons, List.flatMap_cons, List.flatMap_cons, List.map_append, flat_sh, brkS_sh]
theorem flat_ge {w : Int} {l : List Stp} {n : Nat} {x : Pc} (h : x ∈ (l.zipIdx n).flatMap (brkS w)) : (n : Int) ≤ x.1 ∧ x.1 < ((n + l.length : Nat) : Int) := by
  obtain ⟨⟨s, m⟩, hm, hx⟩ := List.mem_flatMap.mp h
  obtain ⟨h1, h2, _⟩ := List.mem_zipIdx hm
  cases s with
  | none => cases hx
  | some q =>
    have := (brk_in hx).ix
    have this : x.1 = (m : Int) := this
    omega
theorem ins_parts {p : Pl} {k : Nat} (h : k ≤ p.steps.length) : (p.ins k none).parts = p.parts.map (shK k) := by
  have hl : (p.steps.take k).length = k := by rw [List.length_take, Nat.min_eq_left h]
  have e : p.parts = ((p.steps.take k).zipIdx.flatMap (brkS p.width)) ++ ((p.steps.drop k).zipIdx k).flatMap (brkS p.width) := by
    unfold Pl.parts partsOf
    rw [← List.flatMap_append]
    congr 1
    have : p.steps = p.steps.take k ++ p.steps.drop k := (List.take_append_drop k p.steps).symm
    conv => lhs; rw [this]
    rw [List.zipIdx_append, hl, Nat.zero_add]
  rw [e]
  show partsOf (p.steps.take k ++ none :: p.steps.drop k) p.width = _
  unfold partsOf
  rw [List.zipIdx_append, List.flatMap_append, List.map_append, hl, Nat.zero_add, List.zipIdx_cons, List.flatMap_cons, flat_sh]
  congr 1
  · conv => lhs; rw [← List.map_id ((p.steps.take k).zipIdx.flatMap (brkS p.width))]
    apply List.map_congr_left
    intro x hx
    have := flat_ge hx
    rw [hl] at this
    show x = _
    unfold shK
    rw [if_neg (by omega), Int.add_zero]
  · show [] ++ _ = _
    rw [List.nil_append]
    apply List.map_congr_left
    intro x hx
    have := flat_ge hx
    unfold shK shP
    rw [if_pos (by omega)]
theorem end_parts {p : Pl} {s : Stp} : (p.ins p.steps.length s).parts = p.parts ++ brkS p.width (s, p.steps.length) := by
  unfold Pl.parts Pl.ins partsOf
  simp only [List.take_length, List.drop_length]
  rw [List.zipIdx_append, List.flatMap_append, Nat.zero_add]
  congr 1
  simp
theorem brk_one {i f w v : Int} : brk i f w [v] = [(i, f, [v])] := by
  have h : (0 : Nat) + 1 = [v].length ∨ (f + ((0 + 1 : Nat) : Int)) % w = 0 := .inl rfl
  show (brkGo i f w [v] (0 + 1)).1 = _
  rw [brkGo_pos h]
  simp [brkGo]
/-! ### the plan as a system -/
def lkp (l : List (Int × Int)) (c : Int) : Option Int := (l.find? fun q => decide (q.1 = c)).map (·.2)
def cellsP (x : Pc) : List (Int × Int) := x.2.2.zipIdx.map fun q => (x.2.1 + (q.2 : Int), q.1)
def Pl.cells (p : Pl) (i : Int) : List (Int × Int) := match p.parts[i.toNat]? with
  | some x => cellsP x
  | none => []
def Pl.rank (p : Pl) (i : Int) : Int := p.ranks.getD i.toNat 0
def Pl.sys (p : Pl) : Sys := ⟨p.parts.length, p.rank, fun i c => lkp (p.cells i) c, fun c => p.base.getD c.toNat 0⟩
def setC (cs : List Int) (q : Int × Int) : List Int := cs.set q.1.toNat q.2
def wrP (p : Pl) (cs : List Int) (i : Int) : List Int := (p.cells i).foldl setC cs
def Pl.over (p : Pl) (cs f : List Int) : List Int := f.foldl (wrP p) cs
theorem setC_len {l : List (Int × Int)} : ∀ {cs : List Int}, (l.foldl setC cs).length = cs.length := by
  induction l with
  | nil => intro cs; rfl
  | cons q l ih => intro cs; rw [List.foldl_cons, ih]; unfold setC; rw [List.length_set]
theorem over_len {p : Pl} {f : List Int} : ∀ {cs : List Int}, (p.over cs f).length = cs.length := by
  unfold Pl.over
  induction f with
  | nil => intro cs; rfl
  | cons q l ih => intro cs; rw [List.foldl_cons, ih]; unfold wrP; rw [setC_len]
theorem lkp_cons {q : Int × Int} {l : List (Int × Int)} {c : Int} : lkp (q :: l) c = if q.1 = c then some q.2 else lkp l c := by
  unfold lkp
  rw [List.find?_cons]
  by_cases h : q.1 = c
  · rw [if_pos h, decide_eq_true h]; rfl
  · rw [if_neg h, decide_eq_false h]
theorem setC_get {n : Nat} {c : Int} (h0 : 0 ≤ c) (hc : c < n) : ∀ {l : List (Int × Int)} {cs : List Int}, cs.length = n → (∀ q ∈ l, 0 ≤ q.1) → l.Pairwise (fun a b => a.1 ≠ b.1) → (l.foldl setC cs).getD c.toNat 0 = (lkp l c).getD (cs.getD c.toNat 0)
  | [], _, _, _, _ => rfl
  | q :: l, cs, hl, hq, hn => by
    obtain ⟨n1, n2⟩ := List.pairwise_cons.mp hn
    rw [List.foldl_cons, setC_get h0 hc (by unfold setC; rw [List.length_set]; exact hl) (fun z hz => hq z (List.mem_cons_of_mem _ hz)) n2, lkp_cons]
    have hq0 := hq q List.mem_cons_self
    unfold setC
    by_cases e : q.1 = c
    · rw [if_pos e]
      have : lkp l c = none := by
        unfold lkp
        rw [Option.map_eq_none_iff, List.find?_eq_none]
        intro z hz
        have := n1 z hz
        rw [e] at this
        simpa using fun h => this h.symm
      rw [this, e, Option.getD_none, Option.getD_some, List.getD_eq_getElem?_getD, List.getElem?_set_self (by omega)]
      rfl
    · rw [if_neg e, List.getD_eq_getElem?_getD (i := c.toNat), List.getElem?_set_ne (by omega), ← List.getD_eq_getElem?_getD]
theorem cells_pw {x : Pc} : (cellsP x).Pairwise fun a b => a.1 ≠ b.1 := by
  unfold cellsP
  have : ∀ (l : List Int) (n : Nat), ((l.zipIdx n).map fun q => (x.2.1 + (q.2 : Int), q.1)).Pairwise (fun a b => a.1 ≠ b.1) := by
    intro l
    induction l with
    | nil => intro n; exact .nil
    | cons a r ih =>
      intro n
      rw [List.zipIdx_cons, List.map_cons]
      refine .cons (fun b hb => ?_) (ih (n + 1))
      obtain ⟨⟨v, m⟩, hm, e⟩ := List.mem_map.mp hb
      have := (List.mem_zipIdx hm).1
      rw [← e]
      show x.2.1 + (n : Int) ≠ x.2.1 + (m : Int)
      omega
  exact this x.2.2 0
theorem cells_of {x : Pc} {q : Int × Int} (h : q ∈ cellsP x) : x.2.1 ≤ q.1 ∧ q.1 < x.2.1 + (x.2.2.length : Int) ∧ q.2 ∈ x.2.2 := by
  unfold cellsP at h
  obtain ⟨⟨v, m⟩, hm, e⟩ := List.mem_map.mp h
  obtain ⟨_, h2, h3⟩ := List.mem_zipIdx hm
  rw [← e]
  refine ⟨by show x.2.1 ≤ x.2.1 + (m : Int); omega, by show x.2.1 + (m : Int) < _; omega, ?_⟩
  rw [h3]
  exact List.getElem_mem _
/-- a piece lies in the store -/
structure PcOk (n : Nat) (len : Nat) (x : Pc) : Prop where
  ix : 0 ≤ x.1
  ixl : x.1 < len
  lo : 0 ≤ x.2.1
  hi : x.2.1 + (x.2.2.length : Int) ≤ n
theorem isBelow_iff {n c : Int} : isBelow n c = true ↔ 0 ≤ n ∧ n < c := by
  unfold isBelow
  rw [Bool.and_eq_true, decide_eq_true_eq, decide_eq_true_eq]
theorem stepOk_iff {c f : Int} {ws : List Int} : stepOk c (some (f, ws)) = true ↔ (0 ≤ f ∧ f < c) ∧ areWorths ws = true ∧ f + (ws.length : Int) ≤ c := by
  unfold stepOk
  rw [Bool.and_eq_true, Bool.and_eq_true, isBelow_iff, decide_eq_true_eq, and_assoc]
theorem PlOk.pc {p : Pl} (h : ∀ s ∈ p.steps, stepOk p.base.length s = true) {x : Pc} (hx : x ∈ p.parts) : PcOk p.base.length p.steps.length x := by
  obtain ⟨n, f, ws, hn, hi⟩ := parts_in hx
  have hs := stepOk_iff.mp (h _ (List.mem_of_getElem? hn))
  have hl := (List.getElem?_eq_some_iff.mp hn).1
  have e := hi.ix
  have a := hi.lo
  have b := hi.hi
  exact ⟨by omega, by omega, by omega, by omega⟩
abbrev StepsOk (p : Pl) : Prop := ∀ s ∈ p.steps, stepOk p.base.length s = true
theorem cells_at {p : Pl} {i : Int} {q : Int × Int} (h : q ∈ p.cells i) : ∃ x ∈ p.parts, q ∈ cellsP x := by
  unfold Pl.cells at h
  cases e : p.parts[i.toNat]? with
  | none => rw [e] at h; cases h
  | some x => rw [e] at h; exact ⟨x, List.mem_of_getElem? e, h⟩
theorem cells_in {p : Pl} (h : StepsOk p) {i : Int} {q : Int × Int} (hq : q ∈ p.cells i) : 0 ≤ q.1 ∧ q.1 < p.base.length := by
  obtain ⟨x, hx, hc⟩ := cells_at hq
  have a := PlOk.pc h hx
  have b := cells_of hc
  have := a.lo
  have := a.hi
  omega
theorem cells_nd {p : Pl} {i : Int} : (p.cells i).Pairwise fun a b => a.1 ≠ b.1 := by
  unfold Pl.cells
  split
  · exact cells_pw
  · exact .nil
theorem over_get {p : Pl} (h : StepsOk p) {c : Int} (h0 : 0 ≤ c) (hc : c < p.base.length) : ∀ {f cs : List Int}, cs.length = p.base.length → (p.over cs f).getD c.toNat 0 = f.foldl (p.sys.wr c) (cs.getD c.toNat 0)
  | [], _, _ => rfl
  | i :: f, cs, hl => by
    have e : p.over cs (i :: f) = p.over (wrP p cs i) f := rfl
    rw [e, over_get h h0 hc (by unfold wrP; rw [setC_len]; exact hl), List.foldl_cons]
    congr 1
    unfold wrP
    rw [setC_get h0 hc hl (fun q hq => (cells_in h hq).1) cells_nd]
    rfl
theorem met_iff {p : Pl} {pat : Pat} (h : StepsOk p) (hp : PatOk p.base.length pat) {f : List Int} : isMet pat (p.over p.base f) = true ↔ p.sys.Met pat f := by
  unfold isMet Sys.Met Sys.val
  rw [List.all_eq_true]
  refine forall_congr' fun q => forall_congr' fun hq => ?_
  have hb := isBelow_iff.mp (hp.keys q hq)
  rw [decide_eq_true_eq, over_get h hb.1 hb.2 rfl]
  rfl
/-! ### a barrier more -/
theorem ins_len {p : Pl} {k : Nat} (h : k ≤ p.steps.length) : (p.ins k none).parts.length = p.parts.length := by
  rw [ins_parts h, List.length_map]
theorem ins_cells {p : Pl} {k : Nat} (h : k ≤ p.steps.length) (i : Int) : (p.ins k none).cells i = p.cells i := by
  unfold Pl.cells
  rw [ins_parts h, List.getElem?_map]
  cases p.parts[i.toNat]? <;> rfl
theorem ins_over {p : Pl} {k : Nat} (h : k ≤ p.steps.length) (cs f : List Int) : (p.ins k none).over cs f = p.over cs f := by
  unfold Pl.over
  congr 1
  funext cs i
  unfold wrP
  rw [ins_cells h]
theorem rank_at {p : Pl} {i : Int} {x : Pc} (h : p.parts[i.toNat]? = some x) : p.rank i = rankOf p.steps x := by
  unfold Pl.rank Pl.ranks
  rw [List.getD_eq_getElem?_getD, List.getElem?_map, h]
  rfl
theorem rank_none {p : Pl} {i : Int} (h : p.parts[i.toNat]? = none) : p.rank i = 0 := by
  unfold Pl.rank Pl.ranks
  rw [List.getD_eq_getElem?_getD, List.getElem?_map, h]
  rfl
theorem rankOf_ins {p : Pl} {k : Nat} (h : k ≤ p.steps.length) {x : Pc} (h0 : 0 ≤ x.1) : rankOf (p.ins k none).steps (shK k x) = rankOf p.steps x + (if (k : Int) ≤ x.1 then 1 else 0) := by
  have hl : (p.steps.take k).length = k := by rw [List.length_take, Nat.min_eq_left h]
  unfold rankOf shK Pl.ins
  simp only
  by_cases c : (k : Int) ≤ x.1
  · rw [if_pos c, List.take_append, hl, List.take_of_length_le (by omega)]
    have e1 : (x.1 + 1).toNat - k = (x.1.toNat - k) + 1 := by omega
    rw [e1, List.take_succ_cons, List.countP_append, List.countP_cons]
    have e2 : p.steps.take x.1.toNat = p.steps.take k ++ (p.steps.drop k).take (x.1.toNat - k) := by
      conv => lhs; rw [← List.take_append_drop k p.steps]
      rw [List.take_append, hl, List.take_of_length_le (l := p.steps.take k) (by omega)]
    rw [e2, List.countP_append]
    simp
    omega
  · rw [if_neg c, Int.add_zero, Int.add_zero, List.take_append, hl, show x.1.toNat - k = 0 by omega, List.take_zero, List.append_nil, List.take_take, Nat.min_eq_left (by omega)]
theorem isP_at {p : Pl} {i : Int} (h : p.sys.isP i) : ∃ x, p.parts[i.toNat]? = some x := by
  obtain ⟨a, b⟩ := h
  have b : i < (p.parts.length : Int) := b
  exact ⟨_, List.getElem?_eq_getElem (by omega)⟩
theorem rankOf_mono {steps : List Stp} {x y : Pc} (h : x.1 ≤ y.1) : rankOf steps x ≤ rankOf steps y := by
  unfold rankOf
  have : List.countP Option.isNone (steps.take x.1.toNat) ≤ List.countP Option.isNone (steps.take y.1.toNat) := by
    refine List.Sublist.countP_le ?_
    have e : steps.take x.1.toNat = (steps.take y.1.toNat).take x.1.toNat := by rw [List.take_take, Nat.min_eq_left (by omega)]
    rw [e]
    exact List.take_sublist _ _
  omega
theorem ins_fall {p : Pl} (ok : StepsOk p) {k : Nat} (h : k ≤ p.steps.length) {f : List Int} (F : (p.ins k none).sys.Fall f) : p.sys.Fall f := by
  have hP : ∀ i, (p.ins k none).sys.isP i ↔ p.sys.isP i := fun i => by
    show (0 ≤ i ∧ i < ((p.ins k none).parts.length : Int)) ↔ (0 ≤ i ∧ i < (p.parts.length : Int))
    rw [ins_len h]
  refine ⟨fun i hi => (hP i).mp (F.pcs i hi), F.nd, fun pre i post e j hj hlt => F.low pre i post e j ((hP j).mpr hj) ?_⟩
  have hi : p.sys.isP i := (hP i).mp (F.pcs i (by rw [e]; simp))
  obtain ⟨x, hx⟩ := isP_at hi
  obtain ⟨z, hz⟩ := isP_at hj
  have hlt : p.rank j < p.rank i := hlt
  rw [rank_at hx, rank_at hz] at hlt
  have hx' : (p.ins k none).parts[i.toNat]? = some (shK k x) := by rw [ins_parts h, List.getElem?_map, hx]; rfl
  have hz' : (p.ins k none).parts[j.toNat]? = some (shK k z) := by rw [ins_parts h, List.getElem?_map, hz]; rfl
  show (p.ins k none).rank j < (p.ins k none).rank i
  rw [rank_at hx', rank_at hz', rankOf_ins h (PlOk.pc ok (List.mem_of_getElem? hx)).ix, rankOf_ins h (PlOk.pc ok (List.mem_of_getElem? hz)).ix]
  have hlti : z.1 < x.1 := Int.not_le.mp fun c => by
    have := rankOf_mono (steps := p.steps) c
    omega
  split <;> split <;> omega
theorem ins_val {p : Pl} {k : Nat} (h : k ≤ p.steps.length) (f : List Int) (c : Int) : (p.ins k none).sys.val f c = p.sys.val f c := by
  have : (p.ins k none).sys.lk = p.sys.lk := by
    funext i c
    show lkp ((p.ins k none).cells i) c = lkp (p.cells i) c
    rw [ins_cells h]
  unfold Sys.val Sys.wr
  rw [this]
  rfl
theorem ins_met {p : Pl} {k : Nat} (h : k ≤ p.steps.length) {pat : Pat} {f : List Int} : (p.ins k none).sys.Met pat f ↔ p.sys.Met pat f := by
  unfold Sys.Met
  refine forall_congr' fun q => forall_congr' fun hq => ?_
  rw [ins_val h]
def HasFall (p : Pl) (pat : Pat) : Prop := ∃ f, p.sys.Fall f ∧ p.sys.Met pat f
theorem ins_has {p : Pl} (ok : StepsOk p) {k : Nat} (h : k ≤ p.steps.length) {pat : Pat} (H : HasFall (p.ins k none) pat) : HasFall p pat := by
  obtain ⟨f, a, b⟩ := H
  exact ⟨f, ins_fall ok h a, (ins_met h).mp b⟩
/-! ### a step at the end that touches no cell of the pattern -/
theorem filter_mid {α : Type} {q : α → Bool} : ∀ {f pre : List α} {i : α} {post : List α}, f.filter q = pre ++ i :: post → ∃ a b, f = a ++ i :: b ∧ a.filter q = pre
  | [], pre, i, post, e => by simp at e
  | x :: f, pre, i, post, e => by
    cases hq : q x with
    | true =>
      rw [List.filter_cons_of_pos hq] at e
      cases pre with
      | nil =>
        simp only [List.nil_append, List.cons.injEq] at e
        exact ⟨[], f, by rw [e.1]; rfl, rfl⟩
      | cons z pre =>
        simp only [List.cons_append, List.cons.injEq] at e
        obtain ⟨a, b, e1, e2⟩ := filter_mid e.2
        exact ⟨x :: a, b, by rw [e1]; rfl, by rw [List.filter_cons_of_pos hq, e2, e.1]⟩
    | false =>
      rw [List.filter_cons_of_neg (by rw [hq]; decide)] at e
      obtain ⟨a, b, e1, e2⟩ := filter_mid e
      exact ⟨x :: a, b, by rw [e1]; rfl, by rw [List.filter_cons_of_neg (by rw [hq]; decide), e2]⟩
structure Free (s : Stp) (pat : Pat) : Prop where
  cell : ∀ f ws, s = some (f, ws) → ∃ v, ws = [v] ∧ ∀ q ∈ pat, q.1 ≠ f
theorem end_has {p : Pl} (ok : StepsOk p) {s : Stp} {pat : Pat} (fr : Free s pat) : HasFall (p.ins p.steps.length s) pat ↔ HasFall p pat := by
  have hlen : p.parts.length ≤ (p.ins p.steps.length s).parts.length := by rw [end_parts, List.length_append]; omega
  have old : ∀ i, p.sys.isP i → (p.ins p.steps.length s).parts[i.toNat]? = p.parts[i.toNat]? := fun i hi => by
    have a : 0 ≤ i := hi.1
    have b : i < (p.parts.length : Int) := hi.2
    rw [end_parts, List.getElem?_append_left (by omega)]
  have steps : (p.ins p.steps.length s).steps = p.steps ++ [s] := by
    unfold Pl.ins
    simp
  have oldr : ∀ i, p.sys.isP i → (p.ins p.steps.length s).sys.rk i = p.sys.rk i := fun i hi => by
    obtain ⟨x, hx⟩ := isP_at hi
    show Pl.rank _ i = Pl.rank _ i
    rw [rank_at hx, rank_at (p := p.ins p.steps.length s) (x := x) (by rw [old i hi, hx])]
    unfold rankOf
    have := (PlOk.pc ok (List.mem_of_getElem? hx))
    have h0 := this.ix
    have h1 := this.ixl
    rw [steps, List.take_append, show x.1.toNat - p.steps.length = 0 by omega, List.take_zero, List.append_nil]
  have topr : ∀ i, p.sys.isP i → p.sys.rk i ≤ (p.steps.countP Option.isNone : Nat) := fun i hi => by
    obtain ⟨x, hx⟩ := isP_at hi
    show Pl.rank _ i ≤ _
    rw [rank_at hx]
    unfold rankOf
    have := List.Sublist.countP_le (p := Option.isNone) (List.take_sublist x.1.toNat p.steps)
    omega
  have newr : ∀ i, (p.ins p.steps.length s).sys.isP i → ¬ p.sys.isP i → (p.ins p.steps.length s).sys.rk i = (p.steps.countP Option.isNone : Nat) := fun i hi hn => by
    obtain ⟨x, hx⟩ := isP_at hi
    show Pl.rank _ i = _
    rw [rank_at hx]
    have hge : p.parts.length ≤ i.toNat := by
      have := hi.1
      exact Nat.le_of_not_lt fun c => hn ⟨hi.1, show i < (p.parts.length : Int) by omega⟩
    rw [end_parts, List.getElem?_append_right hge] at hx
    have hm := List.mem_of_getElem? hx
    cases s with
    | none => cases hm
    | some q =>
      have := (brk_in (show x ∈ brk (p.steps.length : Int) q.1 p.width q.2 from hm)).ix
      unfold rankOf
      rw [this, steps]
      simp
  have lkold : ∀ i, p.sys.isP i → ∀ c, (p.ins p.steps.length s).sys.lk i c = p.sys.lk i c := fun i hi c => by
    show lkp (Pl.cells _ i) c = lkp (p.cells i) c
    unfold Pl.cells
    rw [old i hi]
  have lknew : ∀ i, (p.ins p.steps.length s).sys.isP i → ¬ p.sys.isP i → ∀ q ∈ pat, (p.ins p.steps.length s).sys.lk i q.1 = none := fun i hi hn q hq => by
    obtain ⟨x, hx⟩ := isP_at hi
    show lkp (Pl.cells _ i) q.1 = none
    unfold Pl.cells
    rw [hx]
    have hge : p.parts.length ≤ i.toNat := by
      have := hi.1
      exact Nat.le_of_not_lt fun c => hn ⟨hi.1, show i < (p.parts.length : Int) by omega⟩
    rw [end_parts, List.getElem?_append_right hge] at hx
    have hm := List.mem_of_getElem? hx
    cases s with
    | none => cases hm
    | some z =>
      obtain ⟨f, ws⟩ := z
      obtain ⟨v, ev, hv⟩ := fr.cell f ws rfl
      subst ev
      have hm : x ∈ brk (p.steps.length : Int) f p.width [v] := hm
      rw [brk_one, List.mem_singleton] at hm
      subst hm
      show lkp [(f + ((0 : Nat) : Int), v)] q.1 = none
      rw [lkp_cons, if_neg (fun z => hv q hq (by simpa using z.symm))]
      rfl
  constructor
  · rintro ⟨f, F, M⟩
    have Pn : ∀ i, p.sys.isP i → (p.ins p.steps.length s).sys.isP i := fun i hi => ⟨hi.1, by have : i < (p.parts.length : Int) := hi.2; show i < ((p.ins p.steps.length s).parts.length : Int); omega⟩
    have dec : ∀ i : Int, (decide (i < (p.parts.length : Int)) = true) ↔ i < (p.parts.length : Int) := fun i => decide_eq_true_iff
    have inP : ∀ i ∈ f, i < (p.parts.length : Int) → p.sys.isP i := fun i hi h => ⟨(F.pcs i hi).1, h⟩
    refine ⟨f.filter fun i => decide (i < (p.parts.length : Int)), ⟨fun i hi => ?_, F.nd.filter _, fun pre i post e j hj hlt => ?_⟩, fun q hq => ?_⟩
    · obtain ⟨a, b⟩ := List.mem_filter.mp hi
      exact inP i a ((dec i).mp b)
    · obtain ⟨a, b, e1, e2⟩ := filter_mid e
      have hi : i ∈ f.filter fun i => decide (i < (p.parts.length : Int)) := by rw [e]; simp
      obtain ⟨hif, hil⟩ := List.mem_filter.mp hi
      have hip := inP i hif ((dec i).mp hil)
      have := F.low a i b e1 j (Pn j hj) (by rw [oldr j hj, oldr i hip]; exact hlt)
      rw [← e2]
      exact List.mem_filter.mpr ⟨this, (dec j).mpr hj.2⟩
    · have hm := M q hq
      have go : ∀ (l : List Int) (v : Int), (∀ i ∈ l, i ∈ f) → l.foldl ((p.ins p.steps.length s).sys.wr q.1) v = (l.filter fun i => decide (i < (p.parts.length : Int))).foldl (p.sys.wr q.1) v := by
        intro l
        induction l with
        | nil => intro v _; rfl
        | cons i l ih =>
          intro v hl
          have hi := hl i List.mem_cons_self
          by_cases c : i < (p.parts.length : Int)
          · rw [List.filter_cons, if_pos ((dec i).mpr c), List.foldl_cons, List.foldl_cons, ih _ fun z hz => hl z (List.mem_cons_of_mem _ hz)]
            congr 1
            unfold Sys.wr
            rw [lkold i (inP i hi c)]
          · rw [List.filter_cons, if_neg (fun z => c ((dec i).mp z)), List.foldl_cons, ih _ fun z hz => hl z (List.mem_cons_of_mem _ hz)]
            congr 1
            unfold Sys.wr
            rw [lknew i (F.pcs i hi) (fun z => c z.2) q hq]
            rfl
      unfold Sys.val at hm ⊢
      rw [go f _ fun _ h => h] at hm
      exact hm
  · rintro ⟨f, F, M⟩
    have Pn : ∀ i, p.sys.isP i → (p.ins p.steps.length s).sys.isP i := fun i hi => ⟨hi.1, by have : i < (p.parts.length : Int) := hi.2; show i < ((p.ins p.steps.length s).parts.length : Int); omega⟩
    refine ⟨f, ⟨fun i hi => Pn i (F.pcs i hi), F.nd, fun pre i post e j hj hlt => ?_⟩, fun q hq => ?_⟩
    · have hi := F.pcs i (by rw [e]; simp)
      by_cases hjp : p.sys.isP j
      · exact F.low pre i post e j hjp (by rw [oldr j hjp, oldr i hi] at hlt; exact hlt)
      · exfalso
        rw [newr j hj hjp, oldr i hi] at hlt
        have := topr i hi
        omega
    · have hm := M q hq
      have go : ∀ (l : List Int) (v : Int), (∀ i ∈ l, i ∈ f) → l.foldl ((p.ins p.steps.length s).sys.wr q.1) v = l.foldl (p.sys.wr q.1) v := by
        intro l
        induction l with
        | nil => intro v _; rfl
        | cons i l ih =>
          intro v hl
          rw [List.foldl_cons, List.foldl_cons, ih _ fun z hz => hl z (List.mem_cons_of_mem _ hz)]
          congr 1
          unfold Sys.wr
          rw [lkold i (F.pcs i (hl i List.mem_cons_self))]
      unfold Sys.val at hm ⊢
      rw [go f _ fun _ h => h]
      exact hm
/-! ### is a list of ints a fall -/
def Pl.lower (p : Pl) (r : Int) : List Int := ((List.range p.parts.length).filter fun (i : Nat) => decide (p.rank i < r)).map fun (i : Nat) => (i : Int)
theorem lower_mem {p : Pl} {r i : Int} : i ∈ p.lower r ↔ p.sys.isP i ∧ p.rank i < r := by
  unfold Pl.lower Sys.isP
  rw [List.mem_map]
  constructor
  · rintro ⟨k, hk, e⟩
    obtain ⟨a, b⟩ := List.mem_filter.mp hk
    have := List.mem_range.mp a
    subst e
    exact ⟨⟨by omega, show (k : Int) < (p.parts.length : Int) by omega⟩, by simpa using b⟩
  · rintro ⟨⟨a, b⟩, c⟩
    have b : i < (p.parts.length : Int) := b
    refine ⟨i.toNat, List.mem_filter.mpr ⟨List.mem_range.mpr (by omega), ?_⟩, by omega⟩
    rw [show ((i.toNat : Nat) : Int) = i by omega]
    simpa using c
def arePcs (p : Pl) (f : List Int) : Bool := (f.all fun i => isBelow i p.parts.length) && decide f.Nodup
def fallB (p : Pl) (f : List Int) : Bool := arePcs p f && f.zipIdx.all fun q => (p.lower (p.rank q.1)).all fun j => decide (j ∈ f.take q.2)
theorem arePcs_iff {p : Pl} {f : List Int} : arePcs p f = true ↔ (∀ i ∈ f, p.sys.isP i) ∧ f.Nodup := by
  unfold arePcs
  rw [Bool.and_eq_true, decide_eq_true_eq, List.all_eq_true]
  refine and_congr ?_ Iff.rfl
  refine forall_congr' fun i => forall_congr' fun _ => ?_
  rw [isBelow_iff]
  rfl
theorem fall_iff {p : Pl} {f : List Int} : fallB p f = true ↔ p.sys.Fall f := by
  unfold fallB
  rw [Bool.and_eq_true, arePcs_iff, List.all_eq_true]
  constructor
  · rintro ⟨⟨a, b⟩, c⟩
    refine ⟨a, b, fun pre i post e j hj hlt => ?_⟩
    have hm : (i, pre.length) ∈ f.zipIdx := by
      rw [List.mem_zipIdx_iff_getElem?, e]
      simp
    have := c _ hm
    rw [List.all_eq_true] at this
    have := this j (lower_mem.mpr ⟨hj, hlt⟩)
    rw [decide_eq_true_eq, e] at this
    simpa using this
  · intro F
    refine ⟨⟨F.pcs, F.nd⟩, fun ⟨i, k⟩ hq => ?_⟩
    have hk := List.mem_zipIdx_iff_getElem?.mp hq
    have hk : f[k]? = some i := hk
    obtain ⟨hl, ei⟩ := List.getElem?_eq_some_iff.mp hk
    rw [List.all_eq_true]
    intro j hj
    obtain ⟨h1, h2⟩ := lower_mem.mp hj
    rw [decide_eq_true_eq]
    refine F.low (f.take k) i (f.drop (k + 1)) ?_ j h1 h2
    rw [← ei, List.getElem_cons_drop, List.take_append_drop]
theorem rank_nn {p : Pl} {i : Int} : 0 ≤ p.rank i := by
  cases h : p.parts[i.toNat]? with
  | none => rw [rank_none h]; exact Int.le_refl _
  | some x => rw [rank_at h]; unfold rankOf; omega
def Pl.epochs (p : Pl) : Nat := p.steps.countP Option.isNone + 1
theorem rank_lt {p : Pl} {i : Int} : p.rank i < p.epochs := by
  cases h : p.parts[i.toNat]? with
  | none => rw [rank_none h]; unfold Pl.epochs; omega
  | some x =>
    rw [rank_at h]
    unfold rankOf Pl.epochs
    have := List.Sublist.countP_le (p := Option.isNone) (List.take_sublist x.1.toNat p.steps)
    omega
/-- what a search says -/
inductive Fd (p : Pl) (pat : Pat) : Option (List Int) → Prop
  | no : ¬ HasFall p pat → Fd p pat none
  | yes {f : List Int} : p.sys.Fall f → p.sys.Met pat f → Fd p pat (some f)
theorem fd_no {p : Pl} {pat : Pat} (h : ∀ e : Nat, e < p.epochs → ∃ s', p.sys.Go e (e + 1) (p.sys.init pat e) s' false) : Fd p pat none := .no fun ⟨f, F, M⟩ => by
  obtain ⟨e, he, hc⟩ := Sys.complete (y := p.sys) (fun i _ => ⟨rank_nn, rank_lt⟩) (by unfold Pl.epochs; omega) F M
  obtain ⟨s', g⟩ := h e he
  cases hc s' false g
theorem fd_yes {p : Pl} {pat : Pat} {e : Nat} {s' : PS} (h : p.sys.Go e (e + 1) (p.sys.init pat e) s' true) : Fd p pat (some s'.taken.reverse) :=
  .yes (Sys.sound (fun i _ => rank_nn) h).1 (Sys.sound (fun i _ => rank_nn) h).2
theorem Fd.isNone {p : Pl} {pat : Pat} {r : Option (List Int)} (h : Fd p pat r) : r = none ↔ ¬ HasFall p pat := by
  cases h with
  | no h => exact ⟨fun _ => h, fun _ => rfl⟩
  | yes a b => exact Iff.intro (fun z => nomatch z) (fun z => absurd ⟨_, a, b⟩ z)
end Af
end

section
set_option maxHeartbeats 4000000
namespace Af
open PySem L2
local macro_rules | `(tactic| walk_at "sc") => `(tactic| first | exact ScD.int _ | exact ScD.bl _ | exact ScD.non | exact ScD.str _ | exact ScD.ty _ | exact ScD.cls _)
local macro_rules | `(tactic| walk_at "rx") => `(tactic| first
  | ((with_reducible refine' rx_ixT ?h ?_); (case h => exact rfl))
  | ((with_reducible refine' rx_ixL ?h1 ?h2 ?_); (case h1 => exact rfl); (case h2 => exact rfl))
  | with_reducible refine rx_I0i ?_
  | with_reducible refine rx_I0b ?_
  | ((with_reducible refine' rx_Ii ?h ?_); (case h => first | decide | (show (0 : Int) < _; omega)))
  | with_reducible refine rx_eqI ?_
  | with_reducible refine rx_neI ?_
  | with_reducible refine rx_neB ?_
  | with_reducible refine rx_isN ?_
  | with_reducible refine rx_notN ?_
  | with_reducible refine rx_neT ?_
  | ((with_reducible refine' rx_neN ?h1 ?h2 ?_); (case h1 => exact rfl); (case h2 => exact rfl))
  | ((with_reducible refine' rx_eqN ?h1 ?h2 ?_); (case h1 => exact rfl); (case h2 => exact rfl)))
local macro_rules | `(tactic| walk_at "go1") => `(tactic| first
  | with_reducible refine sx_seq ?_
  | ((with_reducible refine' sx_retO ?h ?_); (case h => exact rfl))
  | ((with_reducible refine' sx_retD ?h ?_); (case h => exact rfl))
  | with_reducible refine sx_ret ?_
  | ((with_reducible refine' sx_fldM ?z ?a ?b ?c ?d ?_); (case z => exact rfl); (case a => assumption); (case b => assumption); (case c => assumption); (case d => exact Nat.le_of_ble_eq_true rfl))
  | ((with_reducible refine' sx_append ?h ?_); (case h => exact rfl))
  | ((with_reducible refine' sx_extend ?h ?_); (case h => exact rfl))
  | with_reducible refine sx_drop ?_
  | with_reducible refine sx_retN ?_
  | with_reducible refine sx_next ?_
  | with_reducible refine sx_if ?_
  | with_reducible refine sx_asg ?_
  | with_reducible refine sx_asgT ?_
  | ((with_reducible refine' ex_im ?h ?_); (case h => exact rfl))
  | ((with_reducible refine' ex_ow ?h ?_); (case h => exact rfl))
  | ((with_reducible refine' ex_ro ?h ?_); (case h => exact rfl))
  | ((with_reducible refine' ex_od ?h ?_); (case h => exact rfl))
  | ((with_reducible refine' ex_pn ?h ?_); (case h => exact rfl))
  | ((with_reducible refine' ex_mk ?h ?_); (case h => exact rfl))
  | ((with_reducible refine' ex_ri ?h ?_); (case h => exact rfl))
  | ((with_reducible refine' ex_qi ?h ?_); (case h => exact rfl))
  | ((with_reducible refine' ex_bl ?h ?_); (case h => exact rfl))
  | ((with_reducible refine' ex_c ?h ?_); (case h => walk_at "sc"))
  | with_reducible refine ex_op ?_
  | with_reducible refine ex_andV ?_
  | with_reducible refine ex_orV ?_
  | with_reducible refine ex_notV ?_
  | with_reducible refine ex_if ?_
  | with_reducible refine ex_chain ?_
  | with_reducible refine ex_tup ?_
  | with_reducible refine ex_lst ?_
  | with_reducible refine ex_sortedSet ?_
  | with_reducible refine ex_countN ?_
  | with_reducible refine ex_revL ?_
  | with_reducible refine ex_cb ?_
  | with_reducible refine ex_call ?_
  | with_reducible refine ex_callB ?_
  | with_reducible refine exa_nil ?_
  | with_reducible refine exa_cons ?_
  | with_reducible refine et_test ?_
  | with_reducible refine et_B ?_
  | with_reducible refine et_and ?_
  | with_reducible refine et_or ?_
  | with_reducible refine et_not ?_
  | walk_at "rx"
  | ((with_reducible refine' cx_isi (b := true) ?h ?k ?_); (case h => exact rfl); (case k => decide +kernel))
  | ((with_reducible refine' cx_isi (b := false) ?h ?k ?_); (case h => exact rfl); (case k => decide +kernel))
  | ((with_reducible refine' cx_len ?h ?_); (case h => exact rfl))
  | ((with_reducible refine' cx_list ?h ?_); (case h => exact rfl))
  | ((with_reducible refine' cx_tuple ?h ?_); (case h => exact rfl))
  | ((with_reducible refine' cx_allF ?h ?_); (case h => exact rfl))
  | ((with_reducible refine' cx_anyF ?h ?_); (case h => exact rfl))
  | with_reducible refine cx_intI ?_
  | with_reducible refine cx_intB ?_
  | with_reducible refine ex_fz ?_
  | refine .inl ⟨_, rfl, ?_⟩
  | refine .inr ⟨_, rfl, ?_⟩
  | ((with_reducible refine' sx_par ?_))
  | ((with_reducible refine' sx_dput ?h); (case h => skip))
  | with_reducible refine cx_max2 ?_
  | with_reducible refine cx_min2 ?_
  | ((with_reducible refine' cx_dict ?h ?_); (case h => exact rfl))
  | with_reducible refine ex_make ?_
  | ((with_reducible refine' ex_fzV ?h ?_); (case h => exact rfl))
  | ((with_reducible refine' ex_fzVD ?h ?_); (case h => exact rfl))
  | ((with_reducible refine' ex_start ?pc ?_); (case pc => assumption))
  | ((with_reducible refine' ex_span ?pc ?_); (case pc => assumption))
  | ((with_reducible refine' ex_deeds ?pc ?_); (case pc => assumption))
  | ((with_reducible refine' ex_parts ?pc ?_); (case pc => assumption))
  | ((with_reducible refine' ex_ranks ?pc ?_); (case pc => assumption))
  | with_reducible refine ex_fld ?_
  | with_reducible refine ex_prop ?_
  | with_reducible refine ex_lenSet ?_
  | with_reducible refine ex_dictEnum ?_
  | with_reducible refine ex_dget2 ?_
  | with_reducible refine ex_disp1 ?_
  | with_reducible refine ex_listRg1 ?_
  | with_reducible refine cx_isC ?_
  | with_reducible refine ex_meth ?_
  | with_reducible refine ex_slT ?_
  | with_reducible refine ex_slL ?_
  | with_reducible refine exo_none ?_
  | with_reducible refine exo_some ?_
  | with_reducible refine ex_dget ?_
  | with_reducible refine ex_din ?_
  | with_reducible refine ex_dnotin ?_
  | with_reducible refine ex_dnew ?_
  | with_reducible refine exa_star ?_
  | with_reducible refine iteT ?_
  | with_reducible refine iteF ?_
  | with_reducible refine iteNF ?_
  | with_reducible refine iteNT ?_
  | refine ⟨(trivial : RetOk (Sl.im _)), ?_⟩
  | refine ⟨(trivial : RetOk (Sl.ow _)), ?_⟩
  | refine ⟨[], rfl, Nat.le_of_ble_eq_true rfl, ?_⟩
  | refine ⟨[_], rfl, Nat.le_of_ble_eq_true rfl, ?_⟩
  | refine ⟨[_, _], rfl, Nat.le_of_ble_eq_true rfl, ?_⟩
  | refine ⟨[_, _, _], rfl, Nat.le_of_ble_eq_true rfl, ?_⟩
  | refine ⟨[_, _, _, _, _], rfl, Nat.le_of_ble_eq_true rfl, ?_⟩
  | refine ⟨rfl, rfl, ?_⟩
  | refine ⟨_, _, _, rfl, by assumption, by assumption, rfl, ?_⟩
  | refine ⟨npI, ?_⟩
  | refine ⟨npO, ?_⟩
  | refine ⟨npD, ?_⟩
  | refine ⟨npQ, ?_⟩
  | refine ⟨_, rfl, ?_⟩
  | refine ⟨_, _, rfl, ?_⟩
  | refine ⟨_, _, _, rfl, ?_⟩
  | refine ⟨_, _, _, _, rfl, ?_⟩
  | ((with_reducible refine' andGet ?h ?_); (case h => exact rfl)))
local macro_rules | `(tactic| walk_at "go") => `(tactic| repeat walk_at "go1")
local macro_rules | `(tactic| walk_at "T") => `(tactic| (refine iteE (c := true) rfl ?_; walk_at "go"))
local macro_rules | `(tactic| walk_at "F") => `(tactic| (refine iteE (c := false) rfl ?_; walk_at "go"))
section
variable {P : Program} {w : World} {K : PySem.W.Frag} {mg : Str → Option Value} {base : Heap} {C : Addr}
def dIsInteger : DF := fun ss k => ∃ n, ss = [.im (.int n)] ∧ k (.im (.bl true))
theorem ok_is_integer {f : Addr} {fd : FuncData} (F : Fun K "is_integer" "is_integer" s_is_integer f fd) (T : Txt mg) : FnOk P w K mg base CX0 1 f fd P_is_integer (SpD C dIsInteger) := by
  refine fn_pure F sc_is_integer (fun ss k h => ?_) (by decide) fun cdv A outer s H E ss kk hr h => ?_
  · obtain ⟨_, e, _⟩ := h
    rw [e]; rfl
  · obtain ⟨n, e, hk⟩ := h
    subst e
    refine ⟨_, (pss_one (ps_ret (pe_and (pe_callB (kk_isi K) (by rfl) T.b_isinstance (by decide +kernel) (pa_cons (pv 0) (pa_cons (pe_bltn (v := .ty "int") (by rfl) T.b_int (by decide +kernel) rfl) pa_nil))) (pe_one (pe_not (pe_callB (kk_isi K) (by rfl) T.b_isinstance (by decide +kernel) (pa_cons (pv 0) (pa_cons (pe_bltn (v := .ty "bool") (by rfl) T.b_bool (by decide +kernel) rfl) pa_nil)))))))), ?_⟩
    walk_at "go"
    exact hk
def dIsBelow : DF := fun ss k => ∃ n c, ss = [.im (.int n), .im (.int c)] ∧ k (.im (.bl (isBelow n c)))
theorem ok_is_below {f : Addr} {fd : FuncData} (F : Fun K "is_below" "is_below" s_is_below f fd) (T : Txt mg) (D_is_integer : DefOk P w K mg base "is_integer" 1 P_is_integer (SpD C dIsInteger)) : FnOk P w K mg base CX0 2 f fd P_is_below (SpD C dIsBelow) := by
  refine fn_pure F sc_is_below (fun ss k h => ?_) (by decide) fun cdv A outer s H E ss kk hr h => ?_
  · obtain ⟨_, _, e, _⟩ := h
    rw [e]; rfl
  · obtain ⟨n, c, e, hk⟩ := h
    subst e
    refine ⟨_, (pss_one (ps_ret (pe_and (pe_callD D_is_integer (hr.mono (by decide)) (by rfl) (pa_cons (pv 0) pa_nil)) (pe_one (pe_chain op_le op_lt pe_int (pv 0) (pv 1)))))), ?_⟩
    walk_at "go"
    unfold isBelow at hk
    cases e : decide (0 ≤ n) with
    | true =>
      rw [e, Bool.true_and] at hk
      walk_at "go"
      exact hk
    | false =>
      rw [e, Bool.false_and] at hk
      walk_at "go"
      exact hk
def dAreWorths : DF := fun ss k => ∃ ns, ss = [.im (tupI ns)] ∧ ns.length ≤ 1000 ∧ k (.im (.bl (areWorths ns)))
theorem ok_are_worths {f : Addr} {fd : FuncData} (F : Fun K "are_worths" "are_worths" s_are_worths f fd) (T : Txt mg) (D_is_below : DefOk P w K mg base "is_below" 2 P_is_below (SpD C dIsBelow)) : FnOk P w K mg base CX0 3 f fd P_are_worths (SpD C dAreWorths) := by
  refine fn_pure F sc_are_worths (fun ss k h => ?_) (by decide) fun cdv A outer s H E ss kk hr h => ?_
  · obtain ⟨_, e, _⟩ := h
    rw [e]; rfl
  · obtain ⟨ns, e, hz, hk⟩ := h
    subst e
    refine ⟨_, (pss_one (ps_ret (pe_and (pe_callB (kk_isi K) (by rfl) T.b_isinstance (by decide +kernel) (pa_cons (pv 0) (pa_cons (pe_bltn (v := .ty "tuple") (by rfl) T.b_tuple (by decide +kernel) rfl) pa_nil))) (pe_and (pe_cmpR (kk_neD K hr.units) (pv 0) (pe_tup pa_nil) (nomark _)) (pe_one (pe_callB (kk_all K rfl) (by rfl) T.b_all (by decide +kernel) (pa_cons (pe_lc (own := [("worth", 1)]) (g := (gName 1)) rfl sc_are_worths.nd (kk_pit K (pv 0)) (blkOk_by (own := [("worth", 1)]) (N := N_are_worths) (sc := defScope s_are_worths) (by decide +kernel)) (fun _ _ _ _ _ => (pg_name (i := 1) sc_are_worths.nd rfl (Or.inl rfl))) (fun _ _ _ _ _ => pts_nil) (fun _ _ _ _ _ => (pe_callD D_is_below (hr.mono (by decide)) (by rfl) (pa_cons (pv 1) (pa_cons (pe_cI (by rfl) T.c_WORTHS) pa_nil))))) pa_nil))))))), ?_⟩
    walk_at "go"
    cases he : ns.isEmpty with
    | true =>
      walk_at "go"
      rw [areWorths, he] at hk
      exact hk
    | false =>
      walk_at "go"
      refine' ex_lcY ?htg (ix_tup tg_name ?_)
      case htg => decide
      walk_at "go"
      refine' ⟨fun _ _ => trivial, by simp; omega, ⟨trivial, trivial⟩, Int, ns, Dat.int, (fun x => .bl (isBelow x 8)), rfl, fun x hx => ?_, ?_⟩
      · walk_at "go"
        exact ⟨rfl, rfl⟩
      · walk_at "go"
        rw [areWorths, he] at hk
        exact hk
def dIsContent : DF := fun ss k => ∃ ns, ss = [.im (tupI ns)] ∧ ns.length ≤ 1000 ∧ k (.im (.bl (isContent ns)))
theorem ok_is_content {f : Addr} {fd : FuncData} (F : Fun K "is_content" "is_content" s_is_content f fd) (T : Txt mg) (D_are_worths : DefOk P w K mg base "are_worths" 3 P_are_worths (SpD C dAreWorths)) : FnOk P w K mg base CX0 4 f fd P_is_content (SpD C dIsContent) := by
  refine fn_pure F sc_is_content (fun ss k h => ?_) (by decide) fun cdv A outer s H E ss kk hr h => ?_
  · obtain ⟨_, e, _⟩ := h
    rw [e]; rfl
  · obtain ⟨ns, e, hz, hk⟩ := h
    subst e
    refine ⟨_, (pss_one (ps_ret (pe_and (pe_callD D_are_worths (hr.mono (by decide)) (by rfl) (pa_cons (pv 0) pa_nil)) (pe_one (pe_cmpR op_le (pe_callB (kk_len K) (by rfl) T.b_len (by decide +kernel) (pa_cons (pv 0) pa_nil)) (pe_cI (by rfl) T.c_MAX_CELLS) (nomark _)))))), ?_⟩
    walk_at "go"
    refine ⟨hz, ?_⟩
    walk_at "go"
    unfold isContent at hk
    cases e : areWorths ns with
    | true =>
      rw [e, Bool.true_and] at hk
      walk_at "go"
      rw [List.length_map]
      exact hk
    | false =>
      rw [e, Bool.false_and] at hk
      walk_at "go"
      exact hk
def dIsChoice : DF := fun ss k => ∃ ns, ss = [.im (tupI ns)] ∧ ChOk ns ∧ k (.im (.bl true))
theorem ok_is_choice {f : Addr} {fd : FuncData} (F : Fun K "is_choice" "is_choice" s_is_choice f fd) (T : Txt mg) (D_are_worths : DefOk P w K mg base "are_worths" 3 P_are_worths (SpD C dAreWorths)) : FnOk P w K mg base CX0 4 f fd P_is_choice (SpD C dIsChoice) := by
  refine fn_pure F sc_is_choice (fun ss k h => ?_) (by decide) fun cdv A outer s H E ss kk hr h => ?_
  · obtain ⟨_, e, _⟩ := h
    rw [e]; rfl
  · obtain ⟨ns, e, hc, hk⟩ := h
    subst e
    refine ⟨_, (pss_one (ps_ret (pe_and (pe_callD D_are_worths (hr.mono (by decide)) (by rfl) (pa_cons (pv 0) pa_nil)) (pe_one (pe_cmpR (kk_eqD K hr.units) (pe_callTy (kk_list K) (by rfl) T.b_list (by decide +kernel) (pa_cons (pv 0) pa_nil)) (pe_callB (cr_sortedSet rfl) (by rfl) T.b_sorted (by decide +kernel) (pa_cons (pe_callTy (cr_setI rfl) (by rfl) T.b_set (by decide +kernel) (pa_cons (pv 0) pa_nil)) pa_nil)) (nomark _)))))), ?_⟩
    walk_at "go"
    refine ⟨Nat.le_trans hc.few (by decide), ?_⟩
    rw [hc.worths]
    walk_at "go"
    refine ⟨Nat.le_trans hc.few (by decide), fun ms h1 h2 => ?_⟩
    rw [rising_eq h1 hc.rises h2]
    exact rx_eqD 1 true rfl rfl (pln_ints ns) (pln_ints ns) (by decide) (by simp) ⟨trivial, hk⟩
def dIsPattern : DF := fun ss k => ∃ c pat, ss = [.im (.int c), .im (encPat pat)] ∧ PatOk c pat ∧ k (.im (.bl true))
theorem ok_is_pattern {f : Addr} {fd : FuncData} (F : Fun K "is_pattern" "is_pattern" s_is_pattern f fd) (T : Txt mg) (D_is_below : DefOk P w K mg base "is_below" 2 P_is_below (SpD C dIsBelow)) (D_is_choice : DefOk P w K mg base "is_choice" 4 P_is_choice (SpD C dIsChoice)) : FnOk P w K mg base CX0 5 f fd P_is_pattern (SpD C dIsPattern) := by
  refine fn_pure F sc_is_pattern (fun ss k h => ?_) (by decide) fun cdv A outer s H E ss kk hr h => ?_
  · obtain ⟨_, _, e, _⟩ := h
    rw [e]; rfl
  · obtain ⟨c, pat, e, hp, hk⟩ := h
    subst e
    refine ⟨_, (pss_cons (ps_if (pt_not (pt_val (pe_callB (kk_isi K) (by rfl) T.b_isinstance (by decide +kernel) (pa_cons (pv 1) (pa_cons (pe_bltn (v := .ty "dict") (by rfl) T.b_dict (by decide +kernel) rfl) pa_nil))))) (pss_one (ps_ret pe_bl)) pss_nil)
      (pss_one (ps_ret (pe_callB (kk_all K rfl) (by rfl) T.b_all (by decide +kernel) (pa_cons (pe_lc (own := [("cell", 2), ("choice", 3)]) (g := (gTup _ 2 (gNames [2, 3]))) rfl sc_is_pattern.nd (pi_items (pv 1)) (blkOk_by (own := [("cell", 2), ("choice", 3)]) (N := N_is_pattern) (sc := defScope s_is_pattern) (by decide +kernel)) (fun _ _ _ _ _ => (pg_tup rfl (t := gNames [2, 3]) (pgs_cons (pg_name (i := 2) sc_is_pattern.nd rfl (Or.inl rfl)) (pgs_cons (pg_name (i := 3) sc_is_pattern.nd rfl (Or.inl rfl)) pgs_nil)))) (fun _ _ _ _ _ => pts_nil) (fun _ _ _ _ _ => (pe_and (pe_callD D_is_below (hr.mono (by decide)) (by rfl) (pa_cons (pv 2) (pa_cons (pv 0) pa_nil))) (pe_one (pe_callD D_is_choice (hr.mono (by decide)) (by rfl) (pa_cons (pv 3) pa_nil)))))) pa_nil))))), ?_⟩
    walk_at "go"
    refine' ex_lcY ?htg (ix_items (tg_tup rfl) ?_)
    case htg => decide
    walk_at "go"
    refine' ⟨fun d hd => ?_, by simp [itD]; exact Nat.le_trans hp.few (by decide), ⟨trivial, trivial, trivial⟩, Int × List Int, pat, (fun p => .tup [.int p.1, tupI p.2]), (fun _ => .bl true), by simp [itD], fun x hx => ?_, ?_⟩
    · obtain ⟨p, _, e⟩ := List.mem_map.mp hd
      subst e
      exact ⟨_, rfl, rfl⟩
    · walk_at "go"
      rw [hp.keys x hx]
      walk_at "go"
      exact ⟨hp.chs x hx, trivial, rfl, rfl⟩
    · walk_at "go"
      rw [List.all_eq_true.mpr (fun _ _ => rfl)]
      exact hk
def dCheckPattern : DF := fun ss k => ∃ c pat, ss = [.im (.int c), .im (encPat pat)] ∧ PatOk c pat ∧ k (.im .non)
theorem ok_check_pattern {f : Addr} {fd : FuncData} (F : Fun K "check_pattern" "check_pattern" s_check_pattern f fd) (T : Txt mg) (D_is_pattern : DefOk P w K mg base "is_pattern" 5 P_is_pattern (SpD C dIsPattern)) : FnOk P w K mg base CX0 6 f fd P_check_pattern (SpD C dCheckPattern) := by
  refine fn_pure F sc_check_pattern (fun ss k h => ?_) (by decide) fun cdv A outer s H E ss kk hr h => ?_
  · obtain ⟨_, _, e, _⟩ := h
    rw [e]; rfl
  · obtain ⟨c, pat, e, hp, hk⟩ := h
    subst e
    refine ⟨_, (pss_one (ps_if (pt_not (pt_val (pe_callD D_is_pattern (hr.mono (by decide)) (by rfl) (pa_cons (pv 0) (pa_cons (pv 1) pa_nil))))) pss_never pss_nil)), ?_⟩
    walk_at "go"
    refine ⟨hp, trivial, _, rfl, ?_⟩
    walk_at "go"
    exact hk
def dIsMatched : DF := fun ss k => ∃ pat cs, ss = [.im (encPat pat), .im (tupI cs)] ∧ PatOk cs.length pat ∧ k (.im (.bl (isMet pat cs)))
theorem ok_is_matched {f : Addr} {fd : FuncData} (F : Fun K "is_matched" "is_matched" s_is_matched f fd) (T : Txt mg) : FnOk P w K mg base CX0 1 f fd P_is_matched (SpD C dIsMatched) := by
  refine fn_pure F sc_is_matched (fun ss k h => ?_) (by decide) fun cdv A outer s H E ss kk hr h => ?_
  · obtain ⟨_, _, e, _⟩ := h
    rw [e]; rfl
  · obtain ⟨pat, cs, e, hp, hk⟩ := h
    subst e
    refine ⟨_, (pss_one (ps_ret (pe_callB (kk_all K rfl) (by rfl) T.b_all (by decide +kernel) (pa_cons (pe_lc (own := [("cell", 2), ("choice", 3)]) (g := (gTup _ 2 (gNames [2, 3]))) rfl sc_is_matched.nd (pi_items (pv 0)) (blkOk_by (own := [("cell", 2), ("choice", 3)]) (N := N_is_matched) (sc := defScope s_is_matched) (by decide +kernel)) (fun _ _ _ _ _ => (pg_tup rfl (t := gNames [2, 3]) (pgs_cons (pg_name (i := 2) sc_is_matched.nd rfl (Or.inl rfl)) (pgs_cons (pg_name (i := 3) sc_is_matched.nd rfl (Or.inl rfl)) pgs_nil)))) (fun _ _ _ _ _ => pts_nil) (fun _ _ _ _ _ => (pe_cmpR (kk_in K) (pe_ix (kk_ixT K) (pv 1) (pv 2) (fun _ _ => rfl)) (pv 3) rfl))) pa_nil)))), ?_⟩
    walk_at "go"
    refine' ex_lcY ?htg (ix_items (tg_tup rfl) ?_)
    case htg => decide
    walk_at "go"
    refine' ⟨fun d hd => ?_, by simp [itD]; exact Nat.le_trans hp.few (by decide), ⟨trivial, trivial, trivial⟩, Int × List Int, pat, (fun p => .tup [.int p.1, tupI p.2]), (fun p => .bl (decide (cs.getD p.1.toNat 0 ∈ p.2))), by simp [itD], fun x hx => ?_, ?_⟩
    · obtain ⟨p, _, e⟩ := List.mem_map.mp hd
      subst e
      exact ⟨_, rfl, rfl⟩
    · walk_at "go"
      have hb := hp.keys x hx
      unfold isBelow at hb
      simp only [Bool.and_eq_true, decide_eq_true_eq] at hb
      refine rx_ixT (atI_int hb.1 hb.2) ?_
      walk_at "go"
      exact rx_inT (neg := false) rfl ⟨rfl, rfl⟩
    · walk_at "go"
      exact hk
end
end Af
end

section
set_option maxHeartbeats 4000000
namespace Af
open PySem L2
local macro_rules | `(tactic| walk_at "sc") => `(tactic| first | exact ScD.int _ | exact ScD.bl _ | exact ScD.non | exact ScD.str _ | exact ScD.ty _ | exact ScD.cls _)
local macro_rules | `(tactic| walk_at "rx") => `(tactic| first
  | ((with_reducible refine' rx_ixT ?h ?_); (case h => exact rfl))
  | ((with_reducible refine' rx_ixL ?h1 ?h2 ?_); (case h1 => exact rfl); (case h2 => exact rfl))
  | with_reducible refine rx_I0i ?_
  | with_reducible refine rx_I0b ?_
  | ((with_reducible refine' rx_Ii ?h ?_); (case h => first | decide | (show (0 : Int) < _; omega)))
  | with_reducible refine rx_eqI ?_
  | with_reducible refine rx_neI ?_
  | with_reducible refine rx_neB ?_
  | with_reducible refine rx_isN ?_
  | with_reducible refine rx_notN ?_
  | with_reducible refine rx_neT ?_
  | ((with_reducible refine' rx_neN ?h1 ?h2 ?_); (case h1 => exact rfl); (case h2 => exact rfl))
  | ((with_reducible refine' rx_eqN ?h1 ?h2 ?_); (case h1 => exact rfl); (case h2 => exact rfl)))
local macro_rules | `(tactic| walk_at "go1") => `(tactic| first
  | with_reducible refine sx_seq ?_
  | ((with_reducible refine' sx_retO ?h ?_); (case h => exact rfl))
  | ((with_reducible refine' sx_retD ?h ?_); (case h => exact rfl))
  | with_reducible refine sx_ret ?_
  | ((with_reducible refine' sx_fldM ?z ?a ?b ?c ?d ?_); (case z => exact rfl); (case a => assumption); (case b => assumption); (case c => assumption); (case d => exact Nat.le_of_ble_eq_true rfl))
  | ((with_reducible refine' sx_append ?h ?_); (case h => exact rfl))
  | ((with_reducible refine' sx_extend ?h ?_); (case h => exact rfl))
  | with_reducible refine sx_drop ?_
  | with_reducible refine sx_retN ?_
  | with_reducible refine sx_next ?_
  | with_reducible refine sx_if ?_
  | with_reducible refine sx_asg ?_
  | with_reducible refine sx_asgT ?_
  | ((with_reducible refine' ex_im ?h ?_); (case h => exact rfl))
  | ((with_reducible refine' ex_ow ?h ?_); (case h => exact rfl))
  | ((with_reducible refine' ex_ro ?h ?_); (case h => exact rfl))
  | ((with_reducible refine' ex_od ?h ?_); (case h => exact rfl))
  | ((with_reducible refine' ex_pn ?h ?_); (case h => exact rfl))
  | ((with_reducible refine' ex_mk ?h ?_); (case h => exact rfl))
  | ((with_reducible refine' ex_ri ?h ?_); (case h => exact rfl))
  | ((with_reducible refine' ex_qi ?h ?_); (case h => exact rfl))
  | ((with_reducible refine' ex_bl ?h ?_); (case h => exact rfl))
  | ((with_reducible refine' ex_c ?h ?_); (case h => walk_at "sc"))
  | with_reducible refine ex_op ?_
  | with_reducible refine ex_andV ?_
  | with_reducible refine ex_orV ?_
  | with_reducible refine ex_notV ?_
  | with_reducible refine ex_if ?_
  | with_reducible refine ex_chain ?_
  | with_reducible refine ex_tup ?_
  | with_reducible refine ex_lst ?_
  | with_reducible refine ex_sortedSet ?_
  | with_reducible refine ex_countN ?_
  | with_reducible refine ex_revL ?_
  | with_reducible refine ex_cb ?_
  | with_reducible refine ex_call ?_
  | with_reducible refine ex_callB ?_
  | with_reducible refine exa_nil ?_
  | with_reducible refine exa_cons ?_
  | with_reducible refine et_test ?_
  | with_reducible refine et_B ?_
  | with_reducible refine et_and ?_
  | with_reducible refine et_or ?_
  | with_reducible refine et_not ?_
  | walk_at "rx"
  | ((with_reducible refine' cx_isi (b := true) ?h ?k ?_); (case h => exact rfl); (case k => decide +kernel))
  | ((with_reducible refine' cx_isi (b := false) ?h ?k ?_); (case h => exact rfl); (case k => decide +kernel))
  | ((with_reducible refine' cx_len ?h ?_); (case h => exact rfl))
  | ((with_reducible refine' cx_list ?h ?_); (case h => exact rfl))
  | ((with_reducible refine' cx_tuple ?h ?_); (case h => exact rfl))
  | ((with_reducible refine' cx_allF ?h ?_); (case h => exact rfl))
  | ((with_reducible refine' cx_anyF ?h ?_); (case h => exact rfl))
  | with_reducible refine cx_intI ?_
  | with_reducible refine cx_intB ?_
  | with_reducible refine ex_fz ?_
  | refine .inl ⟨_, rfl, ?_⟩
  | refine .inr ⟨_, rfl, ?_⟩
  | ((with_reducible refine' sx_par ?_))
  | ((with_reducible refine' sx_dput ?h); (case h => skip))
  | with_reducible refine cx_max2 ?_
  | with_reducible refine cx_min2 ?_
  | ((with_reducible refine' cx_dict ?h ?_); (case h => exact rfl))
  | with_reducible refine ex_make ?_
  | ((with_reducible refine' ex_fzV ?h ?_); (case h => exact rfl))
  | ((with_reducible refine' ex_fzVD ?h ?_); (case h => exact rfl))
  | ((with_reducible refine' ex_start ?pc ?_); (case pc => assumption))
  | ((with_reducible refine' ex_span ?pc ?_); (case pc => assumption))
  | ((with_reducible refine' ex_deeds ?pc ?_); (case pc => assumption))
  | ((with_reducible refine' ex_parts ?pc ?_); (case pc => assumption))
  | ((with_reducible refine' ex_ranks ?pc ?_); (case pc => assumption))
  | with_reducible refine ex_fld ?_
  | with_reducible refine ex_prop ?_
  | with_reducible refine ex_lenSet ?_
  | with_reducible refine ex_dictEnum ?_
  | with_reducible refine ex_dget2 ?_
  | with_reducible refine ex_disp1 ?_
  | with_reducible refine ex_listRg1 ?_
  | with_reducible refine cx_isC ?_
  | with_reducible refine ex_meth ?_
  | with_reducible refine ex_slT ?_
  | with_reducible refine ex_slL ?_
  | with_reducible refine exo_none ?_
  | with_reducible refine exo_some ?_
  | with_reducible refine ex_dget ?_
  | with_reducible refine ex_din ?_
  | with_reducible refine ex_dnotin ?_
  | with_reducible refine ex_dnew ?_
  | with_reducible refine exa_star ?_
  | with_reducible refine iteT ?_
  | with_reducible refine iteF ?_
  | with_reducible refine iteNF ?_
  | with_reducible refine iteNT ?_
  | refine ⟨(trivial : RetOk (Sl.im _)), ?_⟩
  | refine ⟨(trivial : RetOk (Sl.ow _)), ?_⟩
  | refine ⟨[], rfl, Nat.le_of_ble_eq_true rfl, ?_⟩
  | refine ⟨[_], rfl, Nat.le_of_ble_eq_true rfl, ?_⟩
  | refine ⟨[_, _], rfl, Nat.le_of_ble_eq_true rfl, ?_⟩
  | refine ⟨[_, _, _], rfl, Nat.le_of_ble_eq_true rfl, ?_⟩
  | refine ⟨[_, _, _, _, _], rfl, Nat.le_of_ble_eq_true rfl, ?_⟩
  | refine ⟨rfl, rfl, ?_⟩
  | refine ⟨_, _, _, rfl, by assumption, by assumption, rfl, ?_⟩
  | refine ⟨npI, ?_⟩
  | refine ⟨npO, ?_⟩
  | refine ⟨npD, ?_⟩
  | refine ⟨npQ, ?_⟩
  | refine ⟨_, rfl, ?_⟩
  | refine ⟨_, _, rfl, ?_⟩
  | refine ⟨_, _, _, rfl, ?_⟩
  | refine ⟨_, _, _, _, rfl, ?_⟩
  | ((with_reducible refine' andGet ?h ?_); (case h => exact rfl)))
local macro_rules | `(tactic| walk_at "go") => `(tactic| repeat walk_at "go1")
local macro_rules | `(tactic| walk_at "T") => `(tactic| (refine iteE (c := true) rfl ?_; walk_at "go"))
local macro_rules | `(tactic| walk_at "F") => `(tactic| (refine iteE (c := false) rfl ?_; walk_at "go"))
section
variable {P : Program} {w : World} {K : PySem.W.Frag} {mg : Str → Option Value} {base : Heap} {C : Addr}
def dIsStep : DF := fun ss k => ∃ c s, ss = [.im (.int c), .im (encStp s)] ∧ c ≤ 24 ∧ stepOk c s = true ∧ k (.im (.bl true))
theorem ok_is_step {f : Addr} {fd : FuncData} (F : Fun K "is_step" "is_step" s_is_step f fd) (T : Txt mg) (D_is_below : DefOk P w K mg base "is_below" 2 P_is_below (SpD C dIsBelow)) (D_are_worths : DefOk P w K mg base "are_worths" 3 P_are_worths (SpD C dAreWorths)) : FnOk P w K mg base CX0 4 f fd P_is_step (SpD C dIsStep) := by
  refine fn_pure F sc_is_step (fun ss k h => ?_) (by decide) fun cdv A outer s H E ss kk hr h => ?_
  · obtain ⟨_, _, e, _⟩ := h
    rw [e]; rfl
  · obtain ⟨c, s, e, hc, hs, hk⟩ := h
    subst e
    refine ⟨_, (pss_cons (ps_if (pt_cmpR op_isN (pv 1) pe_non (nomark _)) (pss_one (ps_ret pe_bl)) pss_nil)
      (pss_cons (ps_if (PW.pt (pw_or (pt_not (pt_val (pe_callB (kk_isi K) (by rfl) T.b_isinstance (by decide +kernel) (pa_cons (pv 1) (pa_cons (pe_bltn (v := .ty "tuple") (by rfl) T.b_tuple (by decide +kernel) rfl) pa_nil))))) (pw_or (pt_cmpR op_ne (pe_callB (kk_len K) (by rfl) T.b_len (by decide +kernel) (pa_cons (pv 1) pa_nil)) pe_int (nomark _)) (pw_or (pt_not (pt_val (pe_callD D_is_below (hr.mono (by decide)) (by rfl) (pa_cons (pe_ix (kk_ixT K) (pv 1) pe_int (fun _ _ => rfl)) (pa_cons (pv 0) pa_nil))))) (pw_or1 (pt_not (pt_val (pe_callD D_are_worths (hr.mono (by decide)) (by rfl) (pa_cons (pe_ix (kk_ixT K) (pv 1) pe_int (fun _ _ => rfl)) pa_nil))))))))) (pss_one (ps_ret pe_bl)) pss_nil)
      (pss_one (ps_ret (pe_cmpR op_le (pe_op op_add (pe_ix (kk_ixT K) (pv 1) pe_int (fun _ _ => rfl)) (pe_callB (kk_len K) (by rfl) T.b_len (by decide +kernel) (pa_cons (pe_ix (kk_ixT K) (pv 1) pe_int (fun _ _ => rfl)) pa_nil))) (pv 0) (nomark _)))))), ?_⟩
    cases s with
    | none =>
      walk_at "go"
      walk_at "T"
      exact hk
    | some x =>
      obtain ⟨f, ws⟩ := x
      unfold stepOk at hs
      simp only [Bool.and_eq_true, decide_eq_true_eq] at hs
      have hb := hs.1.1
      unfold isBelow at hb
      simp only [Bool.and_eq_true, decide_eq_true_eq] at hb
      have hl : ws.length ≤ 1000 := by omega
      walk_at "go"
      walk_at "F"
      walk_at "F"
      rw [hs.1.1]
      walk_at "go"
      refine ⟨hl, ?_⟩
      walk_at "go"
      rw [hs.1.2]
      walk_at "go"
      rw [List.length_map, decide_eq_true hs.2]
      exact hk
def dBroken : DF := fun ss k => ∃ i f ws w, ss = [.im (.int i), .im (encStp (some (f, ws))), .im (.int w)] ∧ 1 ≤ w ∧ ws.length ≤ 1000 ∧ k (.ow ((brk i f w ws).map encPc))
theorem ok_broken {f : Addr} {fd : FuncData} (F : Fun K "broken" "broken" s_broken f fd) (T : Txt mg) : FnOk P w K mg base CX0 1 f fd P_broken (SpD C dBroken) := by
  refine fn_pure F sc_broken (fun ss k h => ?_) (by decide) fun cdv A outer s H E ss kk hr h => ?_
  · obtain ⟨_, _, _, _, e, _⟩ := h
    rw [e]; rfl
  · obtain ⟨i, f, ws, w, e, hw, hl, hk⟩ := h
    subst e
    refine ⟨_, (pss_cons (ps_asg (pv 1) (pg_tup rfl (t := gNames [3, 4]) (pgs_cons (pg_name (i := 3) sc_broken.nd rfl (Or.inl rfl)) (pgs_cons (pg_name (i := 4) sc_broken.nd rfl (Or.inl rfl)) pgs_nil))))
      (pss_cons (ps_set (i := 5) sc_broken.nd rfl (Or.inl rfl) (pe_lst pa_nil))
      (pss_cons (ps_set (i := 6) sc_broken.nd rfl (Or.inl rfl) pe_int)
      (pss_cons (ps_for (g := (gName 7)) PassesOwn.never rfl (pi_range2 (by rfl) T.b_range (pa_cons pe_int (pa_cons (pe_op op_add (pe_callB (kk_len K) (by rfl) T.b_len (by decide +kernel) (pa_cons (pv 4) pa_nil)) pe_int) pa_nil))) (pg_name (i := 7) sc_broken.nd rfl (Or.inl rfl)) (pss_one (ps_if (PW.pt (pw_or (pt_cmpR op_eq (pv 7) (pe_callB (kk_len K) (by rfl) T.b_len (by decide +kernel) (pa_cons (pv 4) pa_nil)) (nomark _)) (pw_or1 (pt_cmpR op_eq (pe_op op_mod (pe_op op_add (pv 3) (pv 7)) (pv 2)) pe_int (nomark _))))) (pss_cons (ps_expr (kk_bm K PySem.F.plainAttrs_list PySem.F.slot_list_append PySem.F.type_list_append mt_append (pv 5) (pa_cons (pe_tup (pa_cons (pv 0) (pa_cons (pe_op op_add (pv 3) (pv 6)) (pa_cons (pe_slice (kk_slT K) (pv 4) (po_some (pv 6)) (po_some (pv 7))) pa_nil)))) pa_nil)))
      (pss_one (ps_set (i := 6) sc_broken.nd rfl (Or.inl rfl) (pv 7)))) pss_nil)))
      (pss_one (ps_ret (pv 5))))))), ?_⟩
    walk_at "go"
    refine sx_for (ix_range2 tg_name ?_)
    walk_at "go"
    refine ⟨by simp; omega, fun pre e => ∃ s, e = [.im (.int i), .im (encStp (some (f, ws))), .im (.int w), .im (.int f), .im (tupI ws), .ow ((brkGo i f w ws pre.length).1.map encPc), .im (.int ((brkGo i f w ws pre.length).2 : Nat)), s], ⟨_, rfl⟩, ?_, ?_⟩
    · rintro pre d post e hd ⟨s, rfl⟩
      obtain ⟨hp, rfl⟩ := rgD_at hd
      have e1 : 1 + (pre.length : Int) * 1 = ((pre.length + 1 : Nat) : Int) := by omega
      rw [List.length_map] at hp
      have hle := brkGo_le i f w ws pre.length
      rw [e1]
      have hn : (pre ++ [Dat.int ((pre.length + 1 : Nat) : Int)]).length = pre.length + 1 := by simp
      refine sx_ifB (decide (pre.length + 1 = ws.length ∨ (f + ((pre.length + 1 : Nat) : Int)) % w = 0)) ?_ (fun hc => ?_) (fun hc => ?_)
      · walk_at "go"
        rw [List.length_map]
        by_cases h1 : pre.length + 1 = ws.length
        · rw [decide_eq_true (show ((pre.length + 1 : Nat) : Int) = ws.length by omega), decide_eq_true (Or.inl h1)]
          exact ⟨rfl, rfl⟩
        · rw [decide_eq_false (show ¬ ((pre.length + 1 : Nat) : Int) = ws.length by omega)]
          walk_at "go"
          refine ⟨?_, rfl⟩
          rw [Bool.eq_iff_iff, decide_eq_true_eq, decide_eq_true_eq]
          simp only [h1, false_or]
      · walk_at "go"
        rw [decide_eq_true_eq] at hc
        refine ⟨by rw [List.length_map]; omega, ?_⟩
        walk_at "go"
        dsimp only
        rw [hn, cutD_of (by omega) (by simp; omega), ← List.map_drop, ← List.map_take]
        rw [brkGo_pos hc, List.map_append]
        exact ⟨_, rfl⟩
      · walk_at "go"
        rw [decide_eq_false_iff_not] at hc
        dsimp only
        rw [hn]
        rw [brkGo_neg hc]
        exact ⟨_, rfl⟩
    · rintro e ⟨s, rfl⟩
      walk_at "go"
      rw [rgD_len, List.length_map, show ((ws.length : Int) + 1 - 1).toNat = ws.length by omega]
      exact hk
def dPiecesOf : DF := fun ss k => ∃ sts w, ss = [.im (.lst (sts.map encStp)), .im (.int w)] ∧ 1 ≤ w ∧ sts.length ≤ 40 ∧ (∀ f ws, some (f, ws) ∈ sts → ws.length ≤ 1000) ∧ k (.ow ((partsOf sts w).map encPc))
theorem ok_pieces_of {f : Addr} {fd : FuncData} (F : Fun K "pieces_of" "pieces_of" s_pieces_of f fd) (T : Txt mg) (D_broken : DefOk P w K mg base "broken" 1 P_broken (SpD C dBroken)) : FnOk P w K mg base CX0 2 f fd P_pieces_of (SpD C dPiecesOf) := by
  refine fn_pure F sc_pieces_of (fun ss k h => ?_) (by decide) fun cdv A outer s H E ss kk hr h => ?_
  · obtain ⟨_, _, e, _⟩ := h
    rw [e]; rfl
  · obtain ⟨sts, w, e, hw, hl, hs, hk⟩ := h
    subst e
    refine ⟨_, (pss_cons (ps_set (i := 2) sc_pieces_of.nd rfl (Or.inl rfl) (pe_lst pa_nil))
      (pss_cons (ps_for (g := (gTup _ 2 (gNames [3, 4]))) PassesOwn.never rfl (pi_enum (by rfl) T.b_enumerate (pa_cons (pv 0) pa_nil)) (pg_tup rfl (t := gNames [3, 4]) (pgs_cons (pg_name (i := 3) sc_pieces_of.nd rfl (Or.inl rfl)) (pgs_cons (pg_name (i := 4) sc_pieces_of.nd rfl (Or.inl rfl)) pgs_nil))) (pss_one (ps_if (pt_cmpR op_notN (pv 4) pe_non (nomark _)) (pss_one (ps_expr (kk_bm K PySem.F.plainAttrs_list PySem.F.slot_list_extend PySem.F.type_list_extend mt_extend (pv 2) (pa_cons (pe_callD D_broken (hr.mono (by decide)) (by rfl) (pa_cons (pv 3) (pa_cons (pv 4) (pa_cons (pv 1) pa_nil)))) pa_nil)))) pss_nil)))
      (pss_one (ps_ret (pv 2))))), ?_⟩
    walk_at "go"
    refine sx_for (ix_enum (tg_tup rfl) ?_)
    walk_at "go"
    refine ⟨fun d hd => ?_, fun pre e => ∃ s1 s2, e = [.im (.lst (sts.map encStp)), .im (.int w), .ow (((sts.zipIdx.take pre.length).flatMap (brkS w)).map encPc), s1, s2], ⟨_, _, rfl⟩, ?_, ?_⟩
    · obtain ⟨i, hi⟩ := List.getElem?_of_mem hd
      obtain ⟨x, _, e⟩ := enD_get hi
      exact ⟨_, e, rfl⟩
    · rintro pre d post e hd ⟨s1, s2, rfl⟩
      obtain ⟨x, hx, rfl⟩ := enD_get (pre_at hd)
      rw [List.getElem?_map] at hx
      obtain ⟨st, hst, rfl⟩ := Option.map_eq_some_iff.mp hx
      have hmem := List.mem_of_getElem? hst
      have hz : sts.zipIdx[pre.length]? = some (st, pre.length) := by rw [List.getElem?_zipIdx, hst]; simp
      have hn : (pre ++ [Dat.tup [Dat.int (pre.length : Nat), encStp st]]).length = pre.length + 1 := by simp
      cases st with
      | none =>
        walk_at "go"
        walk_at "F"
        dsimp only
        rw [hn, take_snoc hz, List.flatMap_append]
        exact ⟨_, _, by rw [List.flatMap_singleton, show brkS w (none, pre.length) = [] from rfl, List.append_nil]; rfl⟩
      | some y =>
        obtain ⟨f, ws⟩ := y
        have hlen : (((sts.zipIdx.take pre.length).flatMap (brkS w)).map encPc).length ≤ 40 * 1000 := by
          rw [List.length_map]
          refine Nat.le_trans (flatMap_len (m := 1000) fun p hp => brkS_le fun f ws e => hs f ws ?_) (Nat.mul_le_mul_right _ ?_)
          · have := List.mem_of_mem_take hp
            obtain ⟨_, _, h2⟩ := List.mem_zipIdx this
            rw [← e, h2]
            exact List.getElem_mem _
          · rw [List.length_take]
            have := List.length_zipIdx (l := sts) (i := 0)
            omega
        have hws := hs f ws hmem
        walk_at "go"
        walk_at "T"
        refine ⟨hw, hws, ?_⟩
        walk_at "go"
        refine ⟨by rw [List.length_map (as := brk _ _ _ _)]; have := @brk_le (pre.length : Nat) f w ws; omega, ?_⟩
        dsimp only
        rw [hn, take_snoc hz, List.flatMap_append, List.map_append]
        exact ⟨_, _, by rw [List.flatMap_singleton]; rfl⟩
    · rintro e ⟨s1, s2, rfl⟩
      walk_at "go"
      have e1 : sts.zipIdx.take (enD (sts.map encStp)).length = sts.zipIdx := List.take_of_length_le (by rw [enD_len, List.length_map, List.length_zipIdx]; exact Nat.le_refl _)
      rw [e1]
      exact hk
end
end Af
end

section
set_option maxHeartbeats 4000000
namespace Af
open PySem L2
local macro_rules | `(tactic| walk_at "sc") => `(tactic| first | exact ScD.int _ | exact ScD.bl _ | exact ScD.non | exact ScD.str _ | exact ScD.ty _ | exact ScD.cls _)
local macro_rules | `(tactic| walk_at "rx") => `(tactic| first
  | ((with_reducible refine' rx_ixT ?h ?_); (case h => exact rfl))
  | ((with_reducible refine' rx_ixL ?h1 ?h2 ?_); (case h1 => exact rfl); (case h2 => exact rfl))
  | with_reducible refine rx_I0i ?_
  | with_reducible refine rx_I0b ?_
  | ((with_reducible refine' rx_Ii ?h ?_); (case h => first | decide | (show (0 : Int) < _; omega)))
  | with_reducible refine rx_eqI ?_
  | with_reducible refine rx_neI ?_
  | with_reducible refine rx_neB ?_
  | with_reducible refine rx_isN ?_
  | with_reducible refine rx_notN ?_
  | with_reducible refine rx_neT ?_
  | ((with_reducible refine' rx_neN ?h1 ?h2 ?_); (case h1 => exact rfl); (case h2 => exact rfl))
  | ((with_reducible refine' rx_eqN ?h1 ?h2 ?_); (case h1 => exact rfl); (case h2 => exact rfl)))
local macro_rules | `(tactic| walk_at "go1") => `(tactic| first
  | with_reducible refine sx_seq ?_
  | ((with_reducible refine' sx_retO ?h ?_); (case h => exact rfl))
  | ((with_reducible refine' sx_retD ?h ?_); (case h => exact rfl))
  | with_reducible refine sx_ret ?_
  | ((with_reducible refine' sx_fldM ?z ?a ?b ?c ?d ?_); (case z => exact rfl); (case a => assumption); (case b => assumption); (case c => assumption); (case d => exact Nat.le_of_ble_eq_true rfl))
  | ((with_reducible refine' sx_append ?h ?_); (case h => exact rfl))
  | ((with_reducible refine' sx_extend ?h ?_); (case h => exact rfl))
  | with_reducible refine sx_drop ?_
  | with_reducible refine sx_retN ?_
  | with_reducible refine sx_next ?_
  | with_reducible refine sx_if ?_
  | with_reducible refine sx_asg ?_
  | with_reducible refine sx_asgT ?_
  | ((with_reducible refine' ex_im ?h ?_); (case h => exact rfl))
  | ((with_reducible refine' ex_ow ?h ?_); (case h => exact rfl))
  | ((with_reducible refine' ex_ro ?h ?_); (case h => exact rfl))
  | ((with_reducible refine' ex_od ?h ?_); (case h => exact rfl))
  | ((with_reducible refine' ex_pn ?h ?_); (case h => exact rfl))
  | ((with_reducible refine' ex_mk ?h ?_); (case h => exact rfl))
  | ((with_reducible refine' ex_ri ?h ?_); (case h => exact rfl))
  | ((with_reducible refine' ex_qi ?h ?_); (case h => exact rfl))
  | ((with_reducible refine' ex_bl ?h ?_); (case h => exact rfl))
  | ((with_reducible refine' ex_c ?h ?_); (case h => walk_at "sc"))
  | with_reducible refine ex_op ?_
  | with_reducible refine ex_andV ?_
  | with_reducible refine ex_orV ?_
  | with_reducible refine ex_notV ?_
  | with_reducible refine ex_if ?_
  | with_reducible refine ex_chain ?_
  | with_reducible refine ex_tup ?_
  | with_reducible refine ex_lst ?_
  | with_reducible refine ex_sortedSet ?_
  | with_reducible refine ex_countN ?_
  | with_reducible refine ex_revL ?_
  | with_reducible refine ex_cb ?_
  | with_reducible refine ex_call ?_
  | with_reducible refine ex_callB ?_
  | with_reducible refine exa_nil ?_
  | with_reducible refine exa_cons ?_
  | with_reducible refine et_test ?_
  | with_reducible refine et_B ?_
  | with_reducible refine et_and ?_
  | with_reducible refine et_or ?_
  | with_reducible refine et_not ?_
  | walk_at "rx"
  | ((with_reducible refine' cx_isi (b := true) ?h ?k ?_); (case h => exact rfl); (case k => decide +kernel))
  | ((with_reducible refine' cx_isi (b := false) ?h ?k ?_); (case h => exact rfl); (case k => decide +kernel))
  | ((with_reducible refine' cx_len ?h ?_); (case h => exact rfl))
  | ((with_reducible refine' cx_list ?h ?_); (case h => exact rfl))
  | ((with_reducible refine' cx_tuple ?h ?_); (case h => exact rfl))
  | ((with_reducible refine' cx_allF ?h ?_); (case h => exact rfl))
  | ((with_reducible refine' cx_anyF ?h ?_); (case h => exact rfl))
  | with_reducible refine cx_intI ?_
  | with_reducible refine cx_intB ?_
  | with_reducible refine ex_fz ?_
  | refine .inl ⟨_, rfl, ?_⟩
  | refine .inr ⟨_, rfl, ?_⟩
  | ((with_reducible refine' sx_par ?_))
  | ((with_reducible refine' sx_dput ?h); (case h => skip))
  | with_reducible refine cx_max2 ?_
  | with_reducible refine cx_min2 ?_
  | ((with_reducible refine' cx_dict ?h ?_); (case h => exact rfl))
  | with_reducible refine ex_make ?_
  | ((with_reducible refine' ex_fzV ?h ?_); (case h => exact rfl))
  | ((with_reducible refine' ex_fzVD ?h ?_); (case h => exact rfl))
  | ((with_reducible refine' ex_start ?pc ?_); (case pc => assumption))
  | ((with_reducible refine' ex_span ?pc ?_); (case pc => assumption))
  | ((with_reducible refine' ex_deeds ?pc ?_); (case pc => assumption))
  | ((with_reducible refine' ex_parts ?pc ?_); (case pc => assumption))
  | ((with_reducible refine' ex_ranks ?pc ?_); (case pc => assumption))
  | with_reducible refine ex_fld ?_
  | with_reducible refine ex_prop ?_
  | with_reducible refine ex_lenSet ?_
  | with_reducible refine ex_dictEnum ?_
  | with_reducible refine ex_dget2 ?_
  | with_reducible refine ex_disp1 ?_
  | with_reducible refine ex_listRg1 ?_
  | with_reducible refine cx_isC ?_
  | with_reducible refine ex_meth ?_
  | with_reducible refine ex_slT ?_
  | with_reducible refine ex_slL ?_
  | with_reducible refine exo_none ?_
  | with_reducible refine exo_some ?_
  | with_reducible refine ex_dget ?_
  | with_reducible refine ex_din ?_
  | with_reducible refine ex_dnotin ?_
  | with_reducible refine ex_dnew ?_
  | with_reducible refine exa_star ?_
  | with_reducible refine iteT ?_
  | with_reducible refine iteF ?_
  | with_reducible refine iteNF ?_
  | with_reducible refine iteNT ?_
  | refine ⟨(trivial : RetOk (Sl.im _)), ?_⟩
  | refine ⟨(trivial : RetOk (Sl.ow _)), ?_⟩
  | refine ⟨[], rfl, Nat.le_of_ble_eq_true rfl, ?_⟩
  | refine ⟨[_], rfl, Nat.le_of_ble_eq_true rfl, ?_⟩
  | refine ⟨[_, _], rfl, Nat.le_of_ble_eq_true rfl, ?_⟩
  | refine ⟨[_, _, _], rfl, Nat.le_of_ble_eq_true rfl, ?_⟩
  | refine ⟨[_, _, _, _, _], rfl, Nat.le_of_ble_eq_true rfl, ?_⟩
  | refine ⟨rfl, rfl, ?_⟩
  | refine ⟨_, _, _, rfl, by assumption, by assumption, rfl, ?_⟩
  | refine ⟨npI, ?_⟩
  | refine ⟨npO, ?_⟩
  | refine ⟨npD, ?_⟩
  | refine ⟨npQ, ?_⟩
  | refine ⟨_, rfl, ?_⟩
  | refine ⟨_, _, rfl, ?_⟩
  | refine ⟨_, _, _, rfl, ?_⟩
  | refine ⟨_, _, _, _, rfl, ?_⟩
  | ((with_reducible refine' andGet ?h ?_); (case h => exact rfl)))
local macro_rules | `(tactic| walk_at "go") => `(tactic| repeat walk_at "go1")
local macro_rules | `(tactic| walk_at "T") => `(tactic| (refine iteE (c := true) rfl ?_; walk_at "go"))
local macro_rules | `(tactic| walk_at "F") => `(tactic| (refine iteE (c := false) rfl ?_; walk_at "go"))
section
variable {P : Program} {w : World} {K : PySem.W.Frag} {mg : Str → Option Value} {base : Heap} {C : Addr}
theorem noObj_stp (s : Stp) : noObj (encStp s) = true := by
  cases s with
  | none => rfl
  | some x => simp [noObj, noObjs, noObj_ints]
theorem noObj_pc (p : Pc) : noObj (encPc p) = true := by
  simp [noObj, noObjs, noObj_ints]
def dPlan : DI := fun ds k => ∃ p : Pl, ds = [tupI p.base, .int p.width, .lst (p.steps.map encStp)] ∧ PlOk p ∧ k p.fs
theorem pln_stp (s : Stp) : pln 2 (encStp s) := by
  cases s with
  | none => trivial
  | some x =>
    intro d hd
    simp at hd
    rcases hd with h | h
    · subst h; trivial
    · subst h; exact fun x hx => pln_ints (n := 0) _ x hx
theorem pln_stps {l : List Stp} : ∀ d ∈ l.map encStp, pln 2 d := fun d hd => by
  obtain ⟨s, _, e⟩ := List.mem_map.mp hd
  rw [← e]
  exact pln_stp s
theorem count_stp (l : List Stp) : (l.map encStp).countP isNonD = l.countP Option.isNone := by
  rw [List.countP_map]
  congr 1
  funext s
  cases s <;> rfl
theorem ok_PlanX_initX {D0 : Addr} (hne : C ≠ D0) {f : Addr} {fd : FuncData} (F : Fun K "__init__" "Plan.__init__" s_PlanX_initX f fd) (T : Txt mg) (PC : PlanC K C) (D_is_content : DefOk P w K mg base "is_content" 4 P_is_content (SpD D0 dIsContent)) (D_is_integer : DefOk P w K mg base "is_integer" 1 P_is_integer (SpD D0 dIsInteger)) (D_is_step : DefOk P w K mg base "is_step" 4 P_is_step (SpD D0 dIsStep)) (D_pieces_of : DefOk P w K mg base "pieces_of" 2 P_pieces_of (SpD D0 dPiecesOf)) : FnOk P w K mg base CX0 5 f fd P_PlanX_initX (SpI C dPlan) := by
  refine fn_init F sc_PlanX_initX hne (fun ds k h => ?_) (by decide) fun cdv A outer s H E ds x kk hr h => ?_
  · obtain ⟨_, e, _⟩ := h
    rw [e]; rfl
  · obtain ⟨p, e, hp, hk⟩ := h
    subst e
    refine ⟨_, (pss_cons (ps_if (PW.pt (pw_or (pt_not (pt_val (pe_callD D_is_content (hr.mono (by decide)) (by rfl) (pa_cons (pv 1) pa_nil)))) (pw_or (pt_not (pt_val (pe_callD D_is_integer (hr.mono (by decide)) (by rfl) (pa_cons (pv 2) pa_nil)))) (pw_or1 (pt_not (pt_chain op_le op_le pe_int (pv 2) (pe_cI (by rfl) T.c_MAX_CELLS))))))) pss_never pss_nil)
      (pss_cons (ps_if (PW.pt (pw_or (pt_not (pt_val (pe_callB (kk_isi K) (by rfl) T.b_isinstance (by decide +kernel) (pa_cons (pv 3) (pa_cons (pe_bltn (v := .ty "list") (by rfl) T.b_list (by decide +kernel) rfl) pa_nil))))) (pw_or1 (pt_cmpR op_gt (pe_callB (kk_len K) (by rfl) T.b_len (by decide +kernel) (pa_cons (pv 3) pa_nil)) (pe_cI (by rfl) T.c_MAX_STEPS) (nomark _))))) pss_never pss_nil)
      (pss_cons (ps_if (pt_not (pt_val (pe_callB (kk_all K rfl) (by rfl) T.b_all (by decide +kernel) (pa_cons (pe_lc (own := [("step", 5)]) (g := (gName 5)) rfl sc_PlanX_initX.nd (kk_pil K (pv 3)) (blkOk_by (own := [("step", 5)]) (N := N_PlanX_initX) (sc := defScope s_PlanX_initX) (by decide +kernel)) (fun _ _ _ _ _ => (pg_name (i := 5) sc_PlanX_initX.nd rfl (Or.inl rfl))) (fun _ _ _ _ _ => pts_nil) (fun _ _ _ _ _ => (pe_callD D_is_step (hr.mono (by decide)) (by rfl) (pa_cons (pe_callB (kk_len K) (by rfl) T.b_len (by decide +kernel) (pa_cons (pv 1) pa_nil)) (pa_cons (pv 5) pa_nil))))) pa_nil)))) pss_never pss_nil)
      (pss_cons (kk_sfld K (pv 0) (pv 1) rfl)
      (pss_cons (kk_sfld K (pv 0) (pv 2) rfl)
      (pss_cons (kk_sfld K (pv 0) (pe_fz (pe_callTy (kk_list K) (by rfl) T.b_list (by decide +kernel) (pa_cons (pv 3) pa_nil))) rfl)
      (pss_cons (kk_sfld K (pv 0) (pe_fz (pe_callD D_pieces_of (hr.mono (by decide)) (by rfl) (pa_cons (pv 3) (pa_cons (pv 2) pa_nil)))) rfl)
      (pss_cons (ps_if (pt_cmpR op_gt (pe_callB (kk_len K) (by rfl) T.b_len (by decide +kernel) (pa_cons (kk_fld K (pv 0) rfl) pa_nil)) (pe_cI (by rfl) T.c_MAX_PIECES) (nomark _)) pss_never pss_nil)
      (pss_one (kk_sfld K (pv 0) (pe_fz (pe_lc (own := [("part", 4)]) (g := (gName 4)) rfl sc_PlanX_initX.nd (kk_pil K (kk_fld K (pv 0) rfl)) (blkOk_by (own := [("part", 4)]) (N := N_PlanX_initX) (sc := defScope s_PlanX_initX) (by decide +kernel)) (fun _ _ _ _ _ => (pg_name (i := 4) sc_PlanX_initX.nd rfl (Or.inl rfl))) (fun _ _ _ _ _ => pts_nil) (fun _ _ _ _ _ => (kk_bm K PySem.F.plainAttrs_list PySem.F.slot_list_count PySem.F.type_list_count (kk_count K (hu_of hr)) (pe_slice (kk_slL K) (pv 3) po_none (po_some (pe_ix (kk_ixT K) (pv 4) pe_int (fun _ _ => rfl)))) (pa_cons pe_non pa_nil))))) rfl)))))))))), ?_⟩
    obtain ⟨c1, c2, c3, c4, c5, c6⟩ := PC
    have hb : p.base.length ≤ 24 := by
      have := hp.base
      unfold isContent at this
      simp only [Bool.and_eq_true, decide_eq_true_eq] at this
      omega
    walk_at "go"
    refine ⟨by omega, ?_⟩
    walk_at "go"
    rw [hp.base]
    walk_at "go"
    have w1 := hp.w1
    have w2 := hp.w2
    rw [decide_eq_true w1]
    walk_at "go"
    rw [decide_eq_true w2]
    walk_at "go"
    have hl := hp.len
    rw [List.length_map, decide_eq_false (show ¬ ((40 : Int) < (p.steps.length : Nat)) by omega)]
    walk_at "go"
    refine' ex_lcY ?htg (ix_list tg_name ?_)
    case htg => decide
    walk_at "go"
    refine' ⟨fun _ _ => trivial, by rw [List.length_map]; omega, ⟨trivial, trivial⟩, Stp, p.steps, encStp, (fun _ => .bl true), rfl, fun x hx => ?_, ?_⟩
    · walk_at "go"
      rw [List.length_map]
      refine ⟨by omega, hp.steps x hx, trivial, rfl, rfl⟩
    · walk_at "go"
      rw [List.all_eq_true.mpr (fun _ _ => rfl)]
      walk_at "go"
      refine ⟨hp.w1, hp.len, fun f ws h => ?_, ?_⟩
      · have := (stepOk_iff.mp (hp.steps _ h))
        omega
      walk_at "go"
      have hf := hp.few
      rw [List.length_map, show partsOf p.steps p.width = p.parts from rfl, decide_eq_false (show ¬ ((40 : Int) < (p.parts.length : Nat)) by omega)]
      walk_at "go"
      refine' ex_lcT ?htg (ix_list tg_name ?_)
      case htg => decide
      walk_at "go"
      refine' ⟨fun _ _ => trivial, by rw [List.length_map]; omega, ⟨trivial, trivial⟩, Pc, p.parts, encPc, (fun _ => true), (fun q => .int (rankOf p.steps q)), rfl, fun q hq => et_yes ⟨rfl, rfl⟩, fun q hq _ => ?_, ?_⟩
      · have e1 : q.1 = ((q.1.toNat : Nat) : Int) := by have := (PlOk.pc hp.steps hq).ix; omega
        walk_at "go"
        refine ⟨_, 2, rfl, ?_⟩
        rw [e1, cutD_to, ← List.map_take, count_stp]
        exact ⟨pln_stps, rfl, rfl⟩
      · walk_at "go"
        rw [List.filter_eq_self.mpr (fun _ _ => rfl), show p.parts.map (fun q => Dat.int (rankOf p.steps q)) = p.ranks.map Dat.int by unfold Pl.ranks; rw [List.map_map]; rfl]
        refine ⟨?_, hk⟩
        show noObjF [_, _, _, _, _] = true
        simp [noObjF, noObj, noObj_ints, noObjs_map noObj_stp, noObjs_map noObj_pc]
end
end Af
end

section
set_option maxHeartbeats 4000000
namespace Af
open PySem L2
local macro_rules | `(tactic| walk_at "sc") => `(tactic| first | exact ScD.int _ | exact ScD.bl _ | exact ScD.non | exact ScD.str _ | exact ScD.ty _ | exact ScD.cls _)
local macro_rules | `(tactic| walk_at "rx") => `(tactic| first
  | ((with_reducible refine' rx_ixT ?h ?_); (case h => exact rfl))
  | ((with_reducible refine' rx_ixL ?h1 ?h2 ?_); (case h1 => exact rfl); (case h2 => exact rfl))
  | with_reducible refine rx_I0i ?_
  | with_reducible refine rx_I0b ?_
  | ((with_reducible refine' rx_Ii ?h ?_); (case h => first | decide | (show (0 : Int) < _; omega)))
  | with_reducible refine rx_eqI ?_
  | with_reducible refine rx_neI ?_
  | with_reducible refine rx_neB ?_
  | with_reducible refine rx_isN ?_
  | with_reducible refine rx_notN ?_
  | with_reducible refine rx_neT ?_
  | ((with_reducible refine' rx_neN ?h1 ?h2 ?_); (case h1 => exact rfl); (case h2 => exact rfl))
  | ((with_reducible refine' rx_eqN ?h1 ?h2 ?_); (case h1 => exact rfl); (case h2 => exact rfl)))
local macro_rules | `(tactic| walk_at "go1") => `(tactic| first
  | with_reducible refine sx_seq ?_
  | ((with_reducible refine' sx_retO ?h ?_); (case h => exact rfl))
  | ((with_reducible refine' sx_retD ?h ?_); (case h => exact rfl))
  | with_reducible refine sx_ret ?_
  | ((with_reducible refine' sx_fldM ?z ?a ?b ?c ?d ?_); (case z => exact rfl); (case a => assumption); (case b => assumption); (case c => assumption); (case d => exact Nat.le_of_ble_eq_true rfl))
  | ((with_reducible refine' sx_append ?h ?_); (case h => exact rfl))
  | ((with_reducible refine' sx_extend ?h ?_); (case h => exact rfl))
  | with_reducible refine sx_drop ?_
  | with_reducible refine sx_retN ?_
  | with_reducible refine sx_next ?_
  | with_reducible refine sx_if ?_
  | with_reducible refine sx_asg ?_
  | with_reducible refine sx_asgT ?_
  | ((with_reducible refine' ex_im ?h ?_); (case h => exact rfl))
  | ((with_reducible refine' ex_ow ?h ?_); (case h => exact rfl))
  | ((with_reducible refine' ex_ro ?h ?_); (case h => exact rfl))
  | ((with_reducible refine' ex_od ?h ?_); (case h => exact rfl))
  | ((with_reducible refine' ex_pn ?h ?_); (case h => exact rfl))
  | ((with_reducible refine' ex_mk ?h ?_); (case h => exact rfl))
  | ((with_reducible refine' ex_ri ?h ?_); (case h => exact rfl))
  | ((with_reducible refine' ex_qi ?h ?_); (case h => exact rfl))
  | ((with_reducible refine' ex_bl ?h ?_); (case h => exact rfl))
  | ((with_reducible refine' ex_c ?h ?_); (case h => walk_at "sc"))
  | with_reducible refine ex_op ?_
  | with_reducible refine ex_andV ?_
  | with_reducible refine ex_orV ?_
  | with_reducible refine ex_notV ?_
  | with_reducible refine ex_if ?_
  | with_reducible refine ex_chain ?_
  | with_reducible refine ex_tup ?_
  | with_reducible refine ex_lst ?_
  | with_reducible refine ex_sortedSet ?_
  | with_reducible refine ex_countN ?_
  | with_reducible refine ex_revL ?_
  | with_reducible refine ex_cb ?_
  | with_reducible refine ex_call ?_
  | with_reducible refine ex_callB ?_
  | with_reducible refine exa_nil ?_
  | with_reducible refine exa_cons ?_
  | with_reducible refine et_test ?_
  | with_reducible refine et_B ?_
  | with_reducible refine et_and ?_
  | with_reducible refine et_or ?_
  | with_reducible refine et_not ?_
  | walk_at "rx"
  | ((with_reducible refine' cx_isi (b := true) ?h ?k ?_); (case h => exact rfl); (case k => decide +kernel))
  | ((with_reducible refine' cx_isi (b := false) ?h ?k ?_); (case h => exact rfl); (case k => decide +kernel))
  | ((with_reducible refine' cx_len ?h ?_); (case h => exact rfl))
  | ((with_reducible refine' cx_list ?h ?_); (case h => exact rfl))
  | ((with_reducible refine' cx_tuple ?h ?_); (case h => exact rfl))
  | ((with_reducible refine' cx_allF ?h ?_); (case h => exact rfl))
  | ((with_reducible refine' cx_anyF ?h ?_); (case h => exact rfl))
  | with_reducible refine cx_intI ?_
  | with_reducible refine cx_intB ?_
  | with_reducible refine ex_fz ?_
  | refine .inl ⟨_, rfl, ?_⟩
  | refine .inr ⟨_, rfl, ?_⟩
  | ((with_reducible refine' sx_par ?_))
  | ((with_reducible refine' sx_dput ?h); (case h => skip))
  | with_reducible refine cx_max2 ?_
  | with_reducible refine cx_min2 ?_
  | ((with_reducible refine' cx_dict ?h ?_); (case h => exact rfl))
  | with_reducible refine ex_make ?_
  | ((with_reducible refine' ex_fzV ?h ?_); (case h => exact rfl))
  | ((with_reducible refine' ex_fzVD ?h ?_); (case h => exact rfl))
  | ((with_reducible refine' ex_start ?pc ?_); (case pc => assumption))
  | ((with_reducible refine' ex_span ?pc ?_); (case pc => assumption))
  | ((with_reducible refine' ex_deeds ?pc ?_); (case pc => assumption))
  | ((with_reducible refine' ex_parts ?pc ?_); (case pc => assumption))
  | ((with_reducible refine' ex_ranks ?pc ?_); (case pc => assumption))
  | with_reducible refine ex_fld ?_
  | with_reducible refine ex_prop ?_
  | with_reducible refine ex_lenSet ?_
  | with_reducible refine ex_dictEnum ?_
  | with_reducible refine ex_dget2 ?_
  | with_reducible refine ex_disp1 ?_
  | with_reducible refine ex_listRg1 ?_
  | with_reducible refine cx_isC ?_
  | with_reducible refine ex_meth ?_
  | with_reducible refine ex_slT ?_
  | with_reducible refine ex_slL ?_
  | with_reducible refine exo_none ?_
  | with_reducible refine exo_some ?_
  | with_reducible refine ex_dget ?_
  | with_reducible refine ex_din ?_
  | with_reducible refine ex_dnotin ?_
  | with_reducible refine ex_dnew ?_
  | with_reducible refine exa_star ?_
  | with_reducible refine iteT ?_
  | with_reducible refine iteF ?_
  | with_reducible refine iteNF ?_
  | with_reducible refine iteNT ?_
  | refine ⟨(trivial : RetOk (Sl.im _)), ?_⟩
  | refine ⟨(trivial : RetOk (Sl.ow _)), ?_⟩
  | refine ⟨[], rfl, Nat.le_of_ble_eq_true rfl, ?_⟩
  | refine ⟨[_], rfl, Nat.le_of_ble_eq_true rfl, ?_⟩
  | refine ⟨[_, _], rfl, Nat.le_of_ble_eq_true rfl, ?_⟩
  | refine ⟨[_, _, _], rfl, Nat.le_of_ble_eq_true rfl, ?_⟩
  | refine ⟨[_, _, _, _, _], rfl, Nat.le_of_ble_eq_true rfl, ?_⟩
  | refine ⟨rfl, rfl, ?_⟩
  | refine ⟨_, _, _, rfl, by assumption, by assumption, rfl, ?_⟩
  | refine ⟨npI, ?_⟩
  | refine ⟨npO, ?_⟩
  | refine ⟨npD, ?_⟩
  | refine ⟨npQ, ?_⟩
  | refine ⟨_, rfl, ?_⟩
  | refine ⟨_, _, rfl, ?_⟩
  | refine ⟨_, _, _, rfl, ?_⟩
  | refine ⟨_, _, _, _, rfl, ?_⟩
  | ((with_reducible refine' andGet ?h ?_); (case h => exact rfl)))
local macro_rules | `(tactic| walk_at "go") => `(tactic| repeat walk_at "go1")
local macro_rules | `(tactic| walk_at "T") => `(tactic| (refine iteE (c := true) rfl ?_; walk_at "go"))
local macro_rules | `(tactic| walk_at "F") => `(tactic| (refine iteE (c := false) rfl ?_; walk_at "go"))
section
variable {P : Program} {w : World} {K : PySem.W.Frag} {mg : Str → Option Value} {base : Heap} {C : Addr}
def dPlBase : DF := fun ss k => ∃ (p : Pl), ss = [.im p.enc] ∧ k (.im (tupI p.base))
theorem ok_Plan_base {f : Addr} {fd : FuncData} (F : Fun K "base" "Plan.base" s_Plan_base f fd) (T : Txt mg) (PC : PlanC K C) : FnOk P w K mg base CX0 1 f fd P_Plan_base (SpD C dPlBase) := by
  refine fn_pure F sc_Plan_base (fun ss k h => ?_) (by decide) fun cdv A outer s H E ss kk hr h => ?_
  · obtain ⟨_, e, _⟩ := h
    rw [e]; rfl
  · obtain ⟨p, e, hk⟩ := h
    subst e
    refine ⟨_, (pss_one (ps_ret (kk_fld K (pv 0) rfl))), ?_⟩
    walk_at "go"
    exact hk
def dPlPieces : DF := fun ss k => ∃ (p : Pl), ss = [.im p.enc] ∧ k (.ow (p.parts.map encPc))
theorem ok_Plan_pieces {f : Addr} {fd : FuncData} (F : Fun K "pieces" "Plan.pieces" s_Plan_pieces f fd) (T : Txt mg) (PC : PlanC K C) : FnOk P w K mg base CX0 1 f fd P_Plan_pieces (SpD C dPlPieces) := by
  refine fn_pure F sc_Plan_pieces (fun ss k h => ?_) (by decide) fun cdv A outer s H E ss kk hr h => ?_
  · obtain ⟨_, e, _⟩ := h
    rw [e]; rfl
  · obtain ⟨p, e, hk⟩ := h
    subst e
    refine ⟨_, (pss_one (ps_ret (pe_callTy (kk_list K) (by rfl) T.b_list (by decide +kernel) (pa_cons (kk_fld K (pv 0) rfl) pa_nil)))), ?_⟩
    walk_at "go"
    exact hk
def dPlEpochs : DF := fun ss k => ∃ (p : Pl), ss = [.im p.enc] ∧ k (.im (.int (p.epochs : Nat)))
theorem ok_Plan_epochs {f : Addr} {fd : FuncData} (F : Fun K "epochs" "Plan.epochs" s_Plan_epochs f fd) (T : Txt mg) (PC : PlanC K C) : FnOk P w K mg base CX0 1 f fd P_Plan_epochs (SpD C dPlEpochs) := by
  refine fn_pure F sc_Plan_epochs (fun ss k h => ?_) (by decide) fun cdv A outer s H E ss kk hr h => ?_
  · obtain ⟨_, e, _⟩ := h
    rw [e]; rfl
  · obtain ⟨p, e, hk⟩ := h
    subst e
    refine ⟨_, (pss_one (ps_ret (pe_op op_add (kk_bm K PySem.F.plainAttrs_list PySem.F.slot_list_count PySem.F.type_list_count (kk_count K (hu_of hr)) (kk_fld K (pv 0) rfl) (pa_cons pe_non pa_nil)) pe_int))), ?_⟩
    walk_at "go"
    refine ⟨_, 2, rfl, pln_stps, ?_⟩
    rw [count_stp]
    walk_at "go"
    exact hk
def dWithStep : DF := fun ss k => ∃ (p : Pl) (n : Nat) (s : Stp), ss = [.im p.enc, .im (.int (n : Nat)), .im (encStp s)] ∧ PlOk p ∧ n ≤ p.steps.length ∧ stepOk p.base.length s = true ∧ PlOk (p.ins n s) ∧ k (.im (p.ins n s).enc)
theorem ok_Plan_with_step {f : Addr} {fd : FuncData} (F : Fun K "with_step" "Plan.with_step" s_Plan_with_step f fd) (T : Txt mg) (PC : PlanC K C) (D_is_below : DefOk P w K mg base "is_below" 2 P_is_below (SpD C dIsBelow)) (D_is_step : DefOk P w K mg base "is_step" 4 P_is_step (SpD C dIsStep)) (D_Plan : MakOk P w K mg base "Plan" C 5 P_PlanX_initX (SpI C dPlan)) (c_Plan : mg "Plan" = some (.ref C)) : FnOk P w K mg base CX0 8 f fd P_Plan_with_step (SpD C dWithStep) := by
  refine fn_pure F sc_Plan_with_step (fun ss k h => ?_) (by decide) fun cdv A outer s H E ss kk hr h => ?_
  · obtain ⟨_, _, _, e, _⟩ := h
    rw [e]; rfl
  · obtain ⟨p, n, s, e, hp, hn, hs, hq, hk⟩ := h
    subst e
    refine ⟨_, (pss_cons (ps_if (pt_not (pt_val (pe_callD D_is_below (hr.mono (by decide)) (by rfl) (pa_cons (pv 1) (pa_cons (pe_op op_add (pe_callB (kk_len K) (by rfl) T.b_len (by decide +kernel) (pa_cons (kk_fld K (pv 0) rfl) pa_nil)) pe_int) pa_nil))))) pss_never pss_nil)
      (pss_cons (ps_if (pt_not (pt_val (pe_callD D_is_step (hr.mono (by decide)) (by rfl) (pa_cons (pe_callB (kk_len K) (by rfl) T.b_len (by decide +kernel) (pa_cons (kk_fld K (pv 0) rfl) pa_nil)) (pa_cons (pv 2) pa_nil))))) pss_never pss_nil)
      (pss_one (ps_ret (pe_makeD D_Plan (pa_cons (kk_fld K (pv 0) rfl) (pa_cons (kk_fld K (pv 0) rfl) (pa_cons (pe_fz (pe_lst (kk_star K (pe_slice (kk_slL K) (kk_fld K (pv 0) rfl) po_none (po_some (pv 1))) (pa_cons (pv 2) (kk_star K (pe_slice (kk_slL K) (kk_fld K (pv 0) rfl) (po_some (pv 1)) po_none) pa_nil))))) pa_nil))) (hr.mono (by decide))))))), ?_⟩
    have hb : p.base.length ≤ 24 := by
      have := hp.base
      unfold isContent at this
      simp only [Bool.and_eq_true, decide_eq_true_eq] at this
      omega
    have hl := hp.len
    walk_at "go"
    rw [List.length_map, isBelow_iff.mpr ⟨by omega, by omega⟩]
    walk_at "go"
    rw [List.length_map]
    refine ⟨by omega, hs, ?_⟩
    walk_at "go"
    rw [cutD_to, cutD_from]
    refine ⟨(p.ins n s).steps.map encStp, by simp [Pl.ins], by rw [List.length_map]; exact Nat.le_trans hq.len (by decide), ?_⟩
    walk_at "go"
    exact ⟨[_, _, _], rfl, by simp [noObjs, noObj, noObj_ints, noObjs_map noObj_stp], p.ins n s, rfl, hq, rfl, trivial, hk⟩
def dWithoutStep : DF := fun ss k => ∃ (p : Pl) (n : Nat), ss = [.im p.enc, .im (.int (n : Nat))] ∧ PlOk p ∧ n < p.steps.length ∧ PlOk (p.del n) ∧ k (.im (p.del n).enc)
theorem ok_Plan_without_step {f : Addr} {fd : FuncData} (F : Fun K "without_step" "Plan.without_step" s_Plan_without_step f fd) (T : Txt mg) (PC : PlanC K C) (D_is_below : DefOk P w K mg base "is_below" 2 P_is_below (SpD C dIsBelow)) (D_Plan : MakOk P w K mg base "Plan" C 5 P_PlanX_initX (SpI C dPlan)) (c_Plan : mg "Plan" = some (.ref C)) : FnOk P w K mg base CX0 8 f fd P_Plan_without_step (SpD C dWithoutStep) := by
  refine fn_pure F sc_Plan_without_step (fun ss k h => ?_) (by decide) fun cdv A outer s H E ss kk hr h => ?_
  · obtain ⟨_, _, e, _⟩ := h
    rw [e]; rfl
  · obtain ⟨p, n, e, hp, hn, hq, hk⟩ := h
    subst e
    refine ⟨_, (pss_cons (ps_if (pt_not (pt_val (pe_callD D_is_below (hr.mono (by decide)) (by rfl) (pa_cons (pv 1) (pa_cons (pe_callB (kk_len K) (by rfl) T.b_len (by decide +kernel) (pa_cons (kk_fld K (pv 0) rfl) pa_nil)) pa_nil))))) pss_never pss_nil)
      (pss_one (ps_ret (pe_makeD D_Plan (pa_cons (kk_fld K (pv 0) rfl) (pa_cons (kk_fld K (pv 0) rfl) (pa_cons (pe_fz (pe_op op_catS (pe_slice (kk_slL K) (kk_fld K (pv 0) rfl) po_none (po_some (pv 1))) (pe_slice (kk_slL K) (kk_fld K (pv 0) rfl) (po_some (pe_op op_add (pv 1) pe_int)) po_none))) pa_nil))) (hr.mono (by decide)))))), ?_⟩
    have hl := hp.len
    walk_at "go"
    rw [List.length_map, isBelow_iff.mpr ⟨by omega, by omega⟩]
    walk_at "go"
    rw [cutD_to, show ((n : Nat) : Int) + 1 = ((n + 1 : Nat) : Int) by omega, cutD_from]
    refine rx_cat rfl rfl (by simp; omega) ?_
    walk_at "go"
    rw [show (p.steps.map encStp).take n ++ (p.steps.map encStp).drop (n + 1) = (p.del n).steps.map encStp by simp [Pl.del]]
    exact ⟨[_, _, _], rfl, by simp [noObjs, noObj, noObj_ints, noObjs_map noObj_stp], p.del n, rfl, hq, rfl, trivial, hk⟩
def dPlEq : DF := fun ss k => ∃ (p : Pl), ss = [.im p.enc, .im p.enc] ∧ PlOk p ∧ k (.im (.bl true))
theorem ok_PlanX_eqX {f : Addr} {fd : FuncData} (F : Fun K "__eq__" "Plan.__eq__" s_PlanX_eqX f fd) (T : Txt mg) (PC : PlanC K C) (D_isPlan : C8.InsC K C) (c_Plan : mg "Plan" = some (.ref C)) : FnOk P w K mg base CX0 1 f fd P_PlanX_eqX (SpD C dPlEq) := by
  refine fn_pure F sc_PlanX_eqX (fun ss k h => ?_) (by decide) fun cdv A outer s H E ss kk hr h => ?_
  · obtain ⟨_, e, _⟩ := h
    rw [e]; rfl
  · obtain ⟨p, e, hp, hk⟩ := h
    subst e
    refine ⟨_, (pss_cons (ps_if (pt_not (pt_val (pe_callB (C8.call_isC D_isPlan) (by rfl) T.b_isinstance (by decide +kernel) (pa_cons (pv 1) (pa_cons (pe_glob (v := .ref C) (by rfl) c_Plan rfl) pa_nil))))) (pss_one (ps_ret pe_bl)) pss_nil)
      (pss_one (ps_ret (pe_cmpR (kk_eqD K hr.units) (pe_tup (pa_cons (kk_fld K (pv 0) rfl) (pa_cons (kk_fld K (pv 0) rfl) (pa_cons (kk_fld K (pv 0) rfl) pa_nil)))) (pe_tup (pa_cons (kk_fld K (pv 1) rfl) (pa_cons (kk_fld K (pv 1) rfl) (pa_cons (kk_fld K (pv 1) rfl) pa_nil)))) (nomark _))))), ?_⟩
    walk_at "go"
    have pl : pln 4 (.tup [tupI p.base, .int p.width, .lst (p.steps.map encStp)]) := fun x hx => by
      simp at hx
      rcases hx with h | h | h
      · subst h; exact fun y hy => pln_ints (n := 2) _ y hy
      · subst h; trivial
      · subst h; exact pln_stps
    refine rx_eqD 4 true rfl rfl pl pl (by decide) (by simp) ?_
    exact ⟨trivial, hk⟩
end
end Af
end

section
set_option maxHeartbeats 4000000
namespace Af
open PySem L2
local macro_rules | `(tactic| walk_at "sc") => `(tactic| first | exact ScD.int _ | exact ScD.bl _ | exact ScD.non | exact ScD.str _ | exact ScD.ty _ | exact ScD.cls _)
local macro_rules | `(tactic| walk_at "rx") => `(tactic| first
  | ((with_reducible refine' rx_ixT ?h ?_); (case h => exact rfl))
  | ((with_reducible refine' rx_ixL ?h1 ?h2 ?_); (case h1 => exact rfl); (case h2 => exact rfl))
  | with_reducible refine rx_I0i ?_
  | with_reducible refine rx_I0b ?_
  | ((with_reducible refine' rx_Ii ?h ?_); (case h => first | decide | (show (0 : Int) < _; omega)))
  | with_reducible refine rx_eqI ?_
  | with_reducible refine rx_neI ?_
  | with_reducible refine rx_neB ?_
  | with_reducible refine rx_isN ?_
  | with_reducible refine rx_notN ?_
  | with_reducible refine rx_neT ?_
  | ((with_reducible refine' rx_neN ?h1 ?h2 ?_); (case h1 => exact rfl); (case h2 => exact rfl))
  | ((with_reducible refine' rx_eqN ?h1 ?h2 ?_); (case h1 => exact rfl); (case h2 => exact rfl)))
local macro_rules | `(tactic| walk_at "go1") => `(tactic| first
  | with_reducible refine sx_seq ?_
  | ((with_reducible refine' sx_retO ?h ?_); (case h => exact rfl))
  | ((with_reducible refine' sx_retD ?h ?_); (case h => exact rfl))
  | with_reducible refine sx_ret ?_
  | ((with_reducible refine' sx_fldM ?z ?a ?b ?c ?d ?_); (case z => exact rfl); (case a => assumption); (case b => assumption); (case c => assumption); (case d => exact Nat.le_of_ble_eq_true rfl))
  | ((with_reducible refine' sx_append ?h ?_); (case h => exact rfl))
  | ((with_reducible refine' sx_extend ?h ?_); (case h => exact rfl))
  | with_reducible refine sx_drop ?_
  | with_reducible refine sx_retN ?_
  | with_reducible refine sx_next ?_
  | with_reducible refine sx_if ?_
  | with_reducible refine sx_asg ?_
  | with_reducible refine sx_asgT ?_
  | ((with_reducible refine' ex_im ?h ?_); (case h => exact rfl))
  | ((with_reducible refine' ex_ow ?h ?_); (case h => exact rfl))
  | ((with_reducible refine' ex_ro ?h ?_); (case h => exact rfl))
  | ((with_reducible refine' ex_od ?h ?_); (case h => exact rfl))
  | ((with_reducible refine' ex_pn ?h ?_); (case h => exact rfl))
  | ((with_reducible refine' ex_mk ?h ?_); (case h => exact rfl))
  | ((with_reducible refine' ex_ri ?h ?_); (case h => exact rfl))
  | ((with_reducible refine' ex_qi ?h ?_); (case h => exact rfl))
  | ((with_reducible refine' ex_bl ?h ?_); (case h => exact rfl))
  | ((with_reducible refine' ex_c ?h ?_); (case h => walk_at "sc"))
  | with_reducible refine ex_op ?_
  | with_reducible refine ex_andV ?_
  | with_reducible refine ex_orV ?_
  | with_reducible refine ex_notV ?_
  | with_reducible refine ex_if ?_
  | with_reducible refine ex_chain ?_
  | with_reducible refine ex_tup ?_
  | with_reducible refine ex_lst ?_
  | with_reducible refine ex_sortedSet ?_
  | with_reducible refine ex_countN ?_
  | with_reducible refine ex_revL ?_
  | with_reducible refine ex_cb ?_
  | with_reducible refine ex_call ?_
  | with_reducible refine ex_callB ?_
  | with_reducible refine exa_nil ?_
  | with_reducible refine exa_cons ?_
  | with_reducible refine et_test ?_
  | with_reducible refine et_B ?_
  | with_reducible refine et_and ?_
  | with_reducible refine et_or ?_
  | with_reducible refine et_not ?_
  | walk_at "rx"
  | ((with_reducible refine' cx_isi (b := true) ?h ?k ?_); (case h => exact rfl); (case k => decide +kernel))
  | ((with_reducible refine' cx_isi (b := false) ?h ?k ?_); (case h => exact rfl); (case k => decide +kernel))
  | ((with_reducible refine' cx_len ?h ?_); (case h => exact rfl))
  | ((with_reducible refine' cx_list ?h ?_); (case h => exact rfl))
  | ((with_reducible refine' cx_tuple ?h ?_); (case h => exact rfl))
  | ((with_reducible refine' cx_allF ?h ?_); (case h => exact rfl))
  | ((with_reducible refine' cx_anyF ?h ?_); (case h => exact rfl))
  | with_reducible refine cx_intI ?_
  | with_reducible refine cx_intB ?_
  | with_reducible refine ex_fz ?_
  | refine .inl ⟨_, rfl, ?_⟩
  | refine .inr ⟨_, rfl, ?_⟩
  | ((with_reducible refine' sx_par ?_))
  | ((with_reducible refine' sx_dput ?h); (case h => skip))
  | with_reducible refine cx_max2 ?_
  | with_reducible refine cx_min2 ?_
  | ((with_reducible refine' cx_dict ?h ?_); (case h => exact rfl))
  | with_reducible refine ex_make ?_
  | ((with_reducible refine' ex_fzV ?h ?_); (case h => exact rfl))
  | ((with_reducible refine' ex_fzVD ?h ?_); (case h => exact rfl))
  | ((with_reducible refine' ex_start ?pc ?_); (case pc => assumption))
  | ((with_reducible refine' ex_span ?pc ?_); (case pc => assumption))
  | ((with_reducible refine' ex_deeds ?pc ?_); (case pc => assumption))
  | ((with_reducible refine' ex_parts ?pc ?_); (case pc => assumption))
  | ((with_reducible refine' ex_ranks ?pc ?_); (case pc => assumption))
  | with_reducible refine ex_fld ?_
  | with_reducible refine ex_prop ?_
  | with_reducible refine ex_lenSet ?_
  | with_reducible refine ex_dictEnum ?_
  | with_reducible refine ex_dget2 ?_
  | with_reducible refine ex_disp1 ?_
  | with_reducible refine ex_listRg1 ?_
  | with_reducible refine cx_isC ?_
  | with_reducible refine ex_meth ?_
  | with_reducible refine ex_slT ?_
  | with_reducible refine ex_slL ?_
  | with_reducible refine exo_none ?_
  | with_reducible refine exo_some ?_
  | with_reducible refine ex_dget ?_
  | with_reducible refine ex_din ?_
  | with_reducible refine ex_dnotin ?_
  | with_reducible refine ex_dnew ?_
  | with_reducible refine exa_star ?_
  | with_reducible refine iteT ?_
  | with_reducible refine iteF ?_
  | with_reducible refine iteNF ?_
  | with_reducible refine iteNT ?_
  | refine ⟨(trivial : RetOk (Sl.im _)), ?_⟩
  | refine ⟨(trivial : RetOk (Sl.ow _)), ?_⟩
  | refine ⟨[], rfl, Nat.le_of_ble_eq_true rfl, ?_⟩
  | refine ⟨[_], rfl, Nat.le_of_ble_eq_true rfl, ?_⟩
  | refine ⟨[_, _], rfl, Nat.le_of_ble_eq_true rfl, ?_⟩
  | refine ⟨[_, _, _], rfl, Nat.le_of_ble_eq_true rfl, ?_⟩
  | refine ⟨[_, _, _, _, _], rfl, Nat.le_of_ble_eq_true rfl, ?_⟩
  | refine ⟨rfl, rfl, ?_⟩
  | refine ⟨_, _, _, rfl, by assumption, by assumption, rfl, ?_⟩
  | refine ⟨npI, ?_⟩
  | refine ⟨npO, ?_⟩
  | refine ⟨npD, ?_⟩
  | refine ⟨npQ, ?_⟩
  | refine ⟨_, rfl, ?_⟩
  | refine ⟨_, _, rfl, ?_⟩
  | refine ⟨_, _, _, rfl, ?_⟩
  | refine ⟨_, _, _, _, rfl, ?_⟩
  | ((with_reducible refine' andGet ?h ?_); (case h => exact rfl)))
local macro_rules | `(tactic| walk_at "go") => `(tactic| repeat walk_at "go1")
local macro_rules | `(tactic| walk_at "T") => `(tactic| (refine iteE (c := true) rfl ?_; walk_at "go"))
local macro_rules | `(tactic| walk_at "F") => `(tactic| (refine iteE (c := false) rfl ?_; walk_at "go"))
section
variable {P : Program} {w : World} {K : PySem.W.Frag} {mg : Str → Option Value} {base : Heap} {C : Addr}
theorem zipIdx_range (l : List Int) : l.zipIdx = (List.range l.length).map fun i => (l.getD i 0, i) := by
  apply List.ext_getElem?
  intro i
  rw [List.getElem?_zipIdx, List.getElem?_map]
  by_cases h : i < l.length
  · rw [List.getElem?_range h, List.getElem?_eq_getElem h]
    simp [List.getD_eq_getElem?_getD, List.getElem?_eq_getElem h]
  · rw [List.getElem?_eq_none (by omega), List.getElem?_eq_none (by rw [List.length_range]; omega)]
    rfl
theorem enD_ints (l : List Int) : enD (l.map Dat.int) = l.zipIdx.map fun q => .tup [.int (q.2 : Nat), .int q.1] := by
  unfold enD
  rw [List.zipIdx_map, List.map_map]
  rfl
abbrev encCells (l : List (Int × Int)) : List (Int × Dat) := l.map fun q => (q.1, Dat.int q.2)
theorem parts_at {p : Pl} {i : Int} (h : p.sys.isP i) : ∃ x, p.parts[i.toNat]? = some x ∧ L2.atI (p.parts.map encPc) i = some (encPc x) ∧ p.cells i = cellsP x := by
  obtain ⟨x, hx⟩ := isP_at h
  refine ⟨x, hx, atI_of h.1 (by rw [List.getElem?_map, hx]; rfl), ?_⟩
  unfold Pl.cells
  rw [hx]
theorem base_le {p : Pl} (hp : PlOk p) : p.base.length ≤ 24 := by
  have := hp.base
  unfold isContent at this
  simp only [Bool.and_eq_true, decide_eq_true_eq] at this
  omega
theorem pc_le {p : Pl} (hp : PlOk p) {x : Pc} (hx : x ∈ p.parts) : x.2.2.length ≤ 24 := by
  have a := PlOk.pc hp.steps hx
  have := a.hi
  have := a.lo
  have := base_le hp
  omega
theorem ranks_len {p : Pl} : p.ranks.length = p.parts.length := by unfold Pl.ranks; rw [List.length_map]
theorem lower_eq {p : Pl} {r : Int} : (p.ranks.zipIdx.filter fun q => decide (q.1 < r)).map (fun q => Dat.int (q.2 : Nat)) = (p.lower r).map Dat.int := by
  rw [zipIdx_range, List.filter_map, List.map_map, ranks_len]
  unfold Pl.lower
  rw [List.map_map]
  rfl
def dCellsIn : DF := fun ss k => ∃ (p : Pl) (i : Int), ss = [.im p.enc, .im (.int i)] ∧ PlOk p ∧ p.sys.isP i ∧ k (.od (encCells (p.cells i)))
theorem ok_cells_in {f : Addr} {fd : FuncData} (F : Fun K "cells_in" "cells_in" s_cells_in f fd) (T : Txt mg) (PC : PlanC K C) : FnOk P w K mg base CX0 1 f fd P_cells_in (SpD C dCellsIn) := by
  refine fn_pure F sc_cells_in (fun ss k h => ?_) (by decide) fun cdv A outer s H E ss kk hr h => ?_
  · obtain ⟨_, _, e, _⟩ := h
    rw [e]; rfl
  · obtain ⟨p, i, e, hp, hi, hk⟩ := h
    subst e
    refine ⟨_, (pss_cons (ps_asg (pe_ix (kk_ixL K) (kk_fld K (pv 0) rfl) (pv 1) (fun _ _ => rfl)) (pg_tup rfl (t := gNames [2, 3, 4]) (pgs_cons (pg_name (i := 2) sc_cells_in.nd rfl (Or.inl rfl)) (pgs_cons (pg_name (i := 3) sc_cells_in.nd rfl (Or.inr rfl)) (pgs_cons (pg_name (i := 4) sc_cells_in.nd rfl (Or.inl rfl)) pgs_nil)))))
      (pss_one (ps_ret (pe_dc (own := [("place", 5), ("worth", 6)]) (g := (gTup _ 2 (gNames [5, 6]))) rfl sc_cells_in.nd (pi_enumT (by rfl) T.b_enumerate (pa_cons (pv 4) pa_nil)) (blkOk_by (own := [("place", 5), ("worth", 6)]) (N := N_cells_in) (sc := defScope s_cells_in) (by decide +kernel)) (fun _ _ _ _ _ => (pg_tup rfl (t := gNames [5, 6]) (pgs_cons (pg_name (i := 5) sc_cells_in.nd rfl (Or.inl rfl)) (pgs_cons (pg_name (i := 6) sc_cells_in.nd rfl (Or.inl rfl)) pgs_nil)))) (fun _ _ _ _ _ => pts_nil) (fun _ _ _ _ _ => (pe_op op_add (pv 3) (pv 5))) (fun _ _ _ _ _ => (pv 6)))))), ?_⟩
    obtain ⟨x, hx, hat, hc⟩ := parts_at hi
    have hm := List.mem_of_getElem? hx
    walk_at "go"
    refine rx_ixL rfl hat ?_
    walk_at "go"
    refine ex_dcY (by decide) (ix_enumT (tg_tup rfl) ?_)
    walk_at "go"
    refine ⟨fun d hd => ?_, by rw [enD_len, List.length_map]; exact Nat.le_trans (pc_le hp hm) (by decide), ⟨trivial, trivial, trivial⟩, Int × Nat, x.2.2.zipIdx, (fun q => .tup [.int (q.2 : Nat), .int q.1]), (fun q => x.2.1 + (q.2 : Int)), (fun q => .int q.1), enD_ints _, (by have h := cells_pw (x := x); unfold cellsP at h; have h2 := List.pairwise_map.mp h; exact h2), fun q hq => ?_, fun q hq => ?_, ?_⟩
    · obtain ⟨j, hj⟩ := List.getElem?_of_mem hd
      obtain ⟨y, _, e⟩ := enD_get hj
      exact ⟨_, e, rfl⟩
    · walk_at "go"
      exact ⟨rfl, rfl⟩
    · walk_at "go"
      exact ⟨rfl, rfl⟩
    · refine ⟨trivial, ?_⟩
      rw [hc] at hk
      unfold cellsP at hk
      unfold encCells at hk
      rw [List.map_map] at hk
      exact hk
def dLower : DF := fun ss k => ∃ (p : Pl) (r : Int), ss = [.im p.enc, .im (.int r)] ∧ PlOk p ∧ k (.ow ((p.lower r).map Dat.int))
theorem ok_lower_pieces {f : Addr} {fd : FuncData} (F : Fun K "lower_pieces" "lower_pieces" s_lower_pieces f fd) (T : Txt mg) (PC : PlanC K C) : FnOk P w K mg base CX0 1 f fd P_lower_pieces (SpD C dLower) := by
  refine fn_pure F sc_lower_pieces (fun ss k h => ?_) (by decide) fun cdv A outer s H E ss kk hr h => ?_
  · obtain ⟨_, _, e, _⟩ := h
    rw [e]; rfl
  · obtain ⟨p, r, e, hp, hk⟩ := h
    subst e
    refine ⟨_, (pss_one (ps_ret (pe_lc (own := [("piece", 2), ("rank", 3)]) (g := (gTup _ 2 (gNames [2, 3]))) rfl sc_lower_pieces.nd (pi_enum (by rfl) T.b_enumerate (pa_cons (kk_fld K (pv 0) rfl) pa_nil)) (blkOk_by (own := [("piece", 2), ("rank", 3)]) (N := N_lower_pieces) (sc := defScope s_lower_pieces) (by decide +kernel)) (fun _ _ _ _ _ => (pg_tup rfl (t := gNames [2, 3]) (pgs_cons (pg_name (i := 2) sc_lower_pieces.nd rfl (Or.inl rfl)) (pgs_cons (pg_name (i := 3) sc_lower_pieces.nd rfl (Or.inl rfl)) pgs_nil)))) (fun _ _ _ _ _ => (pts_one (pt_cmpR op_lt (pv 3) (pv 1) (nomark _)))) (fun _ _ _ _ _ => (pv 2))))), ?_⟩
    have hf := hp.few
    walk_at "go"
    refine ex_lcT (by decide) (ix_enum (tg_tup rfl) ?_)
    walk_at "go"
    refine ⟨fun d hd => ?_, by rw [enD_len, List.length_map, ranks_len]; omega, ⟨trivial, trivial, trivial⟩, Int × Nat, p.ranks.zipIdx, (fun q => .tup [.int (q.2 : Nat), .int q.1]), (fun q => decide (q.1 < r)), (fun q => .int (q.2 : Nat)), enD_ints _, fun q hq => ?_, fun q hq _ => ?_, ?_⟩
    · obtain ⟨j, hj⟩ := List.getElem?_of_mem hd
      obtain ⟨y, _, e⟩ := enD_get hj
      exact ⟨_, e, rfl⟩
    · walk_at "go"
      exact ⟨rfl, rfl⟩
    · walk_at "go"
      exact ⟨rfl, rfl⟩
    · rw [lower_eq]
      exact ⟨trivial, hk⟩
def dArePieces : DF := fun ss k => ∃ (p : Pl) (f : List Int), ss = [.im p.enc, .im (lstI f)] ∧ f.length ≤ 1000 ∧ f.Nodup ∧ k (.im (.bl (arePcs p f)))
theorem ok_are_pieces {f : Addr} {fd : FuncData} (F : Fun K "are_pieces" "are_pieces" s_are_pieces f fd) (T : Txt mg) (PC : PlanC K C) (D_is_below : DefOk P w K mg base "is_below" 2 P_is_below (SpD C dIsBelow)) : FnOk P w K mg base CX0 3 f fd P_are_pieces (SpD C dArePieces) := by
  refine fn_pure F sc_are_pieces (fun ss k h => ?_) (by decide) fun cdv A outer s H E ss kk hr h => ?_
  · obtain ⟨_, _, e, _⟩ := h
    rw [e]; rfl
  · obtain ⟨p, f, e, hl, hn, hk⟩ := h
    subst e
    refine ⟨_, (pss_cons (ps_if (PW.pt (pw_or (pt_not (pt_val (pe_callB (kk_isi K) (by rfl) T.b_isinstance (by decide +kernel) (pa_cons (pv 1) (pa_cons (pe_bltn (v := .ty "list") (by rfl) T.b_list (by decide +kernel) rfl) pa_nil))))) (pw_or1 (pt_not (pt_val (pe_callB (kk_all K rfl) (by rfl) T.b_all (by decide +kernel) (pa_cons (pe_lc (own := [("piece", 2)]) (g := (gName 2)) rfl sc_are_pieces.nd (kk_pil K (pv 1)) (blkOk_by (own := [("piece", 2)]) (N := N_are_pieces) (sc := defScope s_are_pieces) (by decide +kernel)) (fun _ _ _ _ _ => (pg_name (i := 2) sc_are_pieces.nd rfl (Or.inl rfl))) (fun _ _ _ _ _ => pts_nil) (fun _ _ _ _ _ => (pe_callD D_is_below (hr.mono (by decide)) (by rfl) (pa_cons (pv 2) (pa_cons (pe_callB (kk_len K) (by rfl) T.b_len (by decide +kernel) (pa_cons (kk_fld K (pv 0) rfl) pa_nil)) pa_nil))))) pa_nil))))))) (pss_one (ps_ret pe_bl)) pss_nil)
      (pss_one (ps_ret (pe_cmpR op_eq (kk_lenSet K (by rfl) T.b_len (by rfl) T.b_set (pv 1)) (pe_callB (kk_len K) (by rfl) T.b_len (by decide +kernel) (pa_cons (pv 1) pa_nil)) (nomark _))))), ?_⟩
    walk_at "go"
    refine ex_lcY (by decide) (ix_list tg_name ?_)
    walk_at "go"
    refine ⟨fun _ _ => trivial, by rw [List.length_map]; omega, ⟨trivial, trivial⟩, Int, f, Dat.int, (fun x => .bl (isBelow x p.parts.length)), rfl, fun x hx => ?_, ?_⟩
    · walk_at "go"
      rw [List.length_map]
      exact ⟨rfl, rfl⟩
    · walk_at "go"
      unfold arePcs at hk
      rw [decide_eq_true hn, Bool.and_true] at hk
      cases hb : (f.all fun i => isBelow i p.parts.length) with
      | false =>
        walk_at "go"
        rw [hb] at hk
        exact hk
      | true =>
        walk_at "go"
        refine ⟨hn, by omega, ?_⟩
        walk_at "go"
        rw [hb] at hk
        rw [List.length_map, decide_eq_true rfl]
        exact hk
end
end Af
end

section
set_option maxHeartbeats 4000000
namespace Af
open PySem L2
local macro_rules | `(tactic| walk_at "sc") => `(tactic| first | exact ScD.int _ | exact ScD.bl _ | exact ScD.non | exact ScD.str _ | exact ScD.ty _ | exact ScD.cls _)
local macro_rules | `(tactic| walk_at "rx") => `(tactic| first
  | ((with_reducible refine' rx_ixT ?h ?_); (case h => exact rfl))
  | ((with_reducible refine' rx_ixL ?h1 ?h2 ?_); (case h1 => exact rfl); (case h2 => exact rfl))
  | with_reducible refine rx_I0i ?_
  | with_reducible refine rx_I0b ?_
  | ((with_reducible refine' rx_Ii ?h ?_); (case h => first | decide | (show (0 : Int) < _; omega)))
  | with_reducible refine rx_eqI ?_
  | with_reducible refine rx_neI ?_
  | with_reducible refine rx_neB ?_
  | with_reducible refine rx_isN ?_
  | with_reducible refine rx_notN ?_
  | with_reducible refine rx_neT ?_
  | ((with_reducible refine' rx_neN ?h1 ?h2 ?_); (case h1 => exact rfl); (case h2 => exact rfl))
  | ((with_reducible refine' rx_eqN ?h1 ?h2 ?_); (case h1 => exact rfl); (case h2 => exact rfl)))
local macro_rules | `(tactic| walk_at "go1") => `(tactic| first
  | with_reducible refine sx_seq ?_
  | ((with_reducible refine' sx_retO ?h ?_); (case h => exact rfl))
  | ((with_reducible refine' sx_retD ?h ?_); (case h => exact rfl))
  | with_reducible refine sx_ret ?_
  | ((with_reducible refine' sx_fldM ?z ?a ?b ?c ?d ?_); (case z => exact rfl); (case a => assumption); (case b => assumption); (case c => assumption); (case d => exact Nat.le_of_ble_eq_true rfl))
  | ((with_reducible refine' sx_append ?h ?_); (case h => exact rfl))
  | ((with_reducible refine' sx_extend ?h ?_); (case h => exact rfl))
  | with_reducible refine sx_drop ?_
  | with_reducible refine sx_retN ?_
  | with_reducible refine sx_next ?_
  | with_reducible refine sx_if ?_
  | with_reducible refine sx_asg ?_
  | with_reducible refine sx_asgT ?_
  | ((with_reducible refine' ex_im ?h ?_); (case h => exact rfl))
  | ((with_reducible refine' ex_ow ?h ?_); (case h => exact rfl))
  | ((with_reducible refine' ex_ro ?h ?_); (case h => exact rfl))
  | ((with_reducible refine' ex_od ?h ?_); (case h => exact rfl))
  | ((with_reducible refine' ex_pn ?h ?_); (case h => exact rfl))
  | ((with_reducible refine' ex_mk ?h ?_); (case h => exact rfl))
  | ((with_reducible refine' ex_ri ?h ?_); (case h => exact rfl))
  | ((with_reducible refine' ex_qi ?h ?_); (case h => exact rfl))
  | ((with_reducible refine' ex_bl ?h ?_); (case h => exact rfl))
  | ((with_reducible refine' ex_c ?h ?_); (case h => walk_at "sc"))
  | with_reducible refine ex_op ?_
  | with_reducible refine ex_andV ?_
  | with_reducible refine ex_orV ?_
  | with_reducible refine ex_notV ?_
  | with_reducible refine ex_if ?_
  | with_reducible refine ex_chain ?_
  | with_reducible refine ex_tup ?_
  | with_reducible refine ex_lst ?_
  | with_reducible refine ex_sortedSet ?_
  | with_reducible refine ex_countN ?_
  | with_reducible refine ex_revL ?_
  | with_reducible refine ex_cb ?_
  | with_reducible refine ex_call ?_
  | with_reducible refine ex_callB ?_
  | with_reducible refine exa_nil ?_
  | with_reducible refine exa_cons ?_
  | with_reducible refine et_test ?_
  | with_reducible refine et_B ?_
  | with_reducible refine et_and ?_
  | with_reducible refine et_or ?_
  | with_reducible refine et_not ?_
  | walk_at "rx"
  | ((with_reducible refine' cx_isi (b := true) ?h ?k ?_); (case h => exact rfl); (case k => decide +kernel))
  | ((with_reducible refine' cx_isi (b := false) ?h ?k ?_); (case h => exact rfl); (case k => decide +kernel))
  | ((with_reducible refine' cx_len ?h ?_); (case h => exact rfl))
  | ((with_reducible refine' cx_list ?h ?_); (case h => exact rfl))
  | ((with_reducible refine' cx_tuple ?h ?_); (case h => exact rfl))
  | ((with_reducible refine' cx_allF ?h ?_); (case h => exact rfl))
  | ((with_reducible refine' cx_anyF ?h ?_); (case h => exact rfl))
  | with_reducible refine cx_intI ?_
  | with_reducible refine cx_intB ?_
  | with_reducible refine ex_fz ?_
  | refine .inl ⟨_, rfl, ?_⟩
  | refine .inr ⟨_, rfl, ?_⟩
  | ((with_reducible refine' sx_par ?_))
  | ((with_reducible refine' sx_dput ?h); (case h => skip))
  | with_reducible refine cx_max2 ?_
  | with_reducible refine cx_min2 ?_
  | ((with_reducible refine' cx_dict ?h ?_); (case h => exact rfl))
  | with_reducible refine ex_make ?_
  | ((with_reducible refine' ex_fzV ?h ?_); (case h => exact rfl))
  | ((with_reducible refine' ex_fzVD ?h ?_); (case h => exact rfl))
  | ((with_reducible refine' ex_start ?pc ?_); (case pc => assumption))
  | ((with_reducible refine' ex_span ?pc ?_); (case pc => assumption))
  | ((with_reducible refine' ex_deeds ?pc ?_); (case pc => assumption))
  | ((with_reducible refine' ex_parts ?pc ?_); (case pc => assumption))
  | ((with_reducible refine' ex_ranks ?pc ?_); (case pc => assumption))
  | with_reducible refine ex_fld ?_
  | with_reducible refine ex_prop ?_
  | with_reducible refine ex_lenSet ?_
  | with_reducible refine ex_dictEnum ?_
  | with_reducible refine ex_dget2 ?_
  | with_reducible refine ex_disp1 ?_
  | with_reducible refine ex_listRg1 ?_
  | with_reducible refine cx_isC ?_
  | with_reducible refine ex_meth ?_
  | with_reducible refine ex_slT ?_
  | with_reducible refine ex_slL ?_
  | with_reducible refine exo_none ?_
  | with_reducible refine exo_some ?_
  | with_reducible refine ex_dget ?_
  | with_reducible refine ex_din ?_
  | with_reducible refine ex_dnotin ?_
  | with_reducible refine ex_dnew ?_
  | with_reducible refine exa_star ?_
  | with_reducible refine iteT ?_
  | with_reducible refine iteF ?_
  | with_reducible refine iteNF ?_
  | with_reducible refine iteNT ?_
  | refine ⟨(trivial : RetOk (Sl.im _)), ?_⟩
  | refine ⟨(trivial : RetOk (Sl.ow _)), ?_⟩
  | refine ⟨[], rfl, Nat.le_of_ble_eq_true rfl, ?_⟩
  | refine ⟨[_], rfl, Nat.le_of_ble_eq_true rfl, ?_⟩
  | refine ⟨[_, _], rfl, Nat.le_of_ble_eq_true rfl, ?_⟩
  | refine ⟨[_, _, _], rfl, Nat.le_of_ble_eq_true rfl, ?_⟩
  | refine ⟨[_, _, _, _, _], rfl, Nat.le_of_ble_eq_true rfl, ?_⟩
  | refine ⟨rfl, rfl, ?_⟩
  | refine ⟨_, _, _, rfl, by assumption, by assumption, rfl, ?_⟩
  | refine ⟨npI, ?_⟩
  | refine ⟨npO, ?_⟩
  | refine ⟨npD, ?_⟩
  | refine ⟨npQ, ?_⟩
  | refine ⟨_, rfl, ?_⟩
  | refine ⟨_, _, rfl, ?_⟩
  | refine ⟨_, _, _, rfl, ?_⟩
  | refine ⟨_, _, _, _, rfl, ?_⟩
  | ((with_reducible refine' andGet ?h ?_); (case h => exact rfl)))
local macro_rules | `(tactic| walk_at "go") => `(tactic| repeat walk_at "go1")
local macro_rules | `(tactic| walk_at "T") => `(tactic| (refine iteE (c := true) rfl ?_; walk_at "go"))
local macro_rules | `(tactic| walk_at "F") => `(tactic| (refine iteE (c := false) rfl ?_; walk_at "go"))
section
variable {P : Program} {w : World} {K : PySem.W.Frag} {mg : Str → Option Value} {base : Heap} {C : Addr}
theorem rank_at' {p : Pl} {i : Int} (h : p.sys.isP i) : L2.atI (p.ranks.map Dat.int) i = some (.int (p.rank i)) := atI_int h.1 (by rw [ranks_len]; exact h.2)
theorem zipIdx_all_succ {f : List Int} {n : Nat} {x : Int} (h : f[n]? = some x) (g : Int × Nat → Bool) : (f.zipIdx.take (n + 1)).all g = ((f.zipIdx.take n).all g && g (x, n)) := by
  have hz : f.zipIdx[n]? = some (x, n) := by rw [List.getElem?_zipIdx, h]; simp
  rw [take_snoc hz, List.all_append]
  simp
def dIsFall : DF := fun ss k => ∃ (p : Pl) (f : List Int), ss = [.im p.enc, .im (lstI f)] ∧ PlOk p ∧ f.length ≤ 1000 ∧ f.Nodup ∧ k (.im (.bl (fallB p f)))
theorem ok_is_fall {f : Addr} {fd : FuncData} (F : Fun K "is_fall" "is_fall" s_is_fall f fd) (T : Txt mg) (PC : PlanC K C) (D_are_pieces : DefOk P w K mg base "are_pieces" 3 P_are_pieces (SpD C dArePieces)) (D_lower_pieces : DefOk P w K mg base "lower_pieces" 1 P_lower_pieces (SpD C dLower)) : FnOk P w K mg base CX0 4 f fd P_is_fall (SpD C dIsFall) := by
  refine fn_pure F sc_is_fall (fun ss k h => ?_) (by decide) fun cdv A outer s H E ss kk hr h => ?_
  · obtain ⟨_, _, e, _⟩ := h
    rw [e]; rfl
  · obtain ⟨p, f, e, hp, hl, hn, hk⟩ := h
    subst e
    refine ⟨_, (pss_cons (ps_if (pt_not (pt_val (pe_callD D_are_pieces (hr.mono (by decide)) (by rfl) (pa_cons (pv 0) (pa_cons (pv 1) pa_nil))))) (pss_one (ps_ret pe_bl)) pss_nil)
      (pss_cons (ps_for (g := (gTup _ 2 (gNames [2, 3]))) PassesOwn.never rfl (pi_enum (by rfl) T.b_enumerate (pa_cons (pv 1) pa_nil)) (pg_tup rfl (t := gNames [2, 3]) (pgs_cons (pg_name (i := 2) sc_is_fall.nd rfl (Or.inr rfl)) (pgs_cons (pg_name (i := 3) sc_is_fall.nd rfl (Or.inl rfl)) pgs_nil))) (pss_one (ps_if (pt_not (pt_val (pe_callB (kk_all K rfl) (by rfl) T.b_all (by decide +kernel) (pa_cons (pe_lc (own := [("other", 4)]) (g := (gName 4)) rfl sc_is_fall.nd (kk_pil K (pe_fz (pe_callD D_lower_pieces (hr.mono (by decide)) (by rfl) (pa_cons (pv 0) (pa_cons (pe_ix (kk_ixL K) (kk_fld K (pv 0) rfl) (pv 3) (fun _ _ => rfl)) pa_nil))))) (blkOk_by (own := [("other", 4)]) (N := N_is_fall) (sc := defScope s_is_fall) (by decide +kernel)) (fun _ _ _ _ _ => (pg_name (i := 4) sc_is_fall.nd rfl (Or.inl rfl))) (fun _ _ _ _ _ => pts_nil) (fun _ _ _ _ _ => (pe_cmpR (kk_in K) (pv 4) (pe_slice (kk_slL K) (pv 1) po_none (po_some (pv 2))) rfl))) pa_nil)))) (pss_one (ps_ret pe_bl)) pss_nil)))
      (pss_one (ps_ret pe_bl)))), ?_⟩
    have hf := hp.few
    walk_at "go"
    refine ⟨hl, hn, ?_⟩
    walk_at "go"
    unfold fallB at hk
    cases hb : arePcs p f with
    | false =>
      walk_at "go"
      rw [hb] at hk
      exact hk
    | true =>
      rw [hb, Bool.true_and] at hk
      have hP := (arePcs_iff.mp hb).1
      walk_at "go"
      refine sx_for (ix_enum (tg_tup rfl) ?_)
      walk_at "go"
      refine ⟨fun d hd => ?_, fun pre e => (∃ s1 s2, e = [.im p.enc, .im (lstI f), s1, s2, .un]) ∧ (f.zipIdx.take pre.length).all (fun q => (p.lower (p.rank q.1)).all fun j => decide (j ∈ f.take q.2)) = true, ⟨⟨_, _, rfl⟩, rfl⟩, ?_, ?_⟩
      · obtain ⟨i, hi⟩ := List.getElem?_of_mem hd
        obtain ⟨x, _, e⟩ := enD_get hi
        exact ⟨_, e, rfl⟩
      · rintro pre d post e hd ⟨⟨s1, s2, rfl⟩, hall⟩
        obtain ⟨x, hx, rfl⟩ := enD_get (pre_at hd)
        rw [List.getElem?_map] at hx
        obtain ⟨i, hi, rfl⟩ := Option.map_eq_some_iff.mp hx
        have hip := hP i (List.mem_of_getElem? hi)
        have hn1 : (pre ++ [Dat.tup [Dat.int (pre.length : Nat), Dat.int i]]).length = pre.length + 1 := by simp
        walk_at "go"
        refine ex_lcY (by decide) (ix_list tg_name ?_)
        walk_at "go"
        refine rx_ixL rfl (rank_at' hip) ?_
        walk_at "go"
        refine ⟨hp, ?_⟩
        walk_at "go"
        refine ⟨fun _ _ => trivial, ?_, ⟨trivial, trivial⟩, Int, p.lower (p.rank i), Dat.int, (fun j => .bl (decide (j ∈ f.take pre.length))), rfl, fun j hj => ?_, ?_⟩
        · rw [List.length_map]
          unfold Pl.lower
          rw [List.length_map]
          exact Nat.le_trans (List.length_filter_le _ _) (by rw [List.length_range]; omega)
        · walk_at "go"
          refine rx_inL (neg := false) (ns := f.take pre.length) (by show some _ = some _; rw [cutD_to, List.map_take]) ?_
          exact ⟨rfl, rfl⟩
        · walk_at "go"
          cases hc : (p.lower (p.rank i)).all fun j => decide (j ∈ f.take pre.length) with
          | false =>
            walk_at "go"
            have : (f.zipIdx.all fun q => (p.lower (p.rank q.1)).all fun j => decide (j ∈ f.take q.2)) = false := by
              rw [List.all_eq_false]
              refine ⟨(i, pre.length), ?_, by rw [hc]; decide⟩
              rw [List.mem_zipIdx_iff_getElem?]
              exact hi
            rw [this] at hk
            exact hk
          | true =>
            walk_at "go"
            refine ⟨⟨_, _, rfl⟩, ?_⟩
            rw [hn1, zipIdx_all_succ hi, hall]
            exact hc
      · rintro e ⟨⟨s1, s2, rfl⟩, hall⟩
        rw [enD_len, List.length_map, List.take_of_length_le (by rw [List.length_zipIdx]; exact Nat.le_refl _)] at hall
        rw [hall] at hk
        walk_at "go"
        exact hk
def dCheckFall : DF := fun ss k => ∃ (p : Pl) (f : List Int), ss = [.im p.enc, .im (lstI f)] ∧ PlOk p ∧ f.length ≤ 1000 ∧ p.sys.Fall f ∧ k (.im .non)
theorem ok_check_fall {f : Addr} {fd : FuncData} (F : Fun K "check_fall" "check_fall" s_check_fall f fd) (T : Txt mg) (D_is_fall : DefOk P w K mg base "is_fall" 4 P_is_fall (SpD C dIsFall)) : FnOk P w K mg base CX0 5 f fd P_check_fall (SpD C dCheckFall) := by
  refine fn_pure F sc_check_fall (fun ss k h => ?_) (by decide) fun cdv A outer s H E ss kk hr h => ?_
  · obtain ⟨_, _, e, _⟩ := h
    rw [e]; rfl
  · obtain ⟨p, f, e, hp, hl, hF, hk⟩ := h
    subst e
    refine ⟨_, (pss_one (ps_if (pt_not (pt_val (pe_callD D_is_fall (hr.mono (by decide)) (by rfl) (pa_cons (pv 0) (pa_cons (pv 1) pa_nil))))) pss_never pss_nil)), ?_⟩
    walk_at "go"
    refine ⟨hp, hl, hF.nd, ?_⟩
    rw [fall_iff.mpr hF]
    walk_at "go"
    exact hk
end
end Af
end

section
set_option maxHeartbeats 4000000
namespace Af
open PySem L2
local macro_rules | `(tactic| walk_at "sc") => `(tactic| first | exact ScD.int _ | exact ScD.bl _ | exact ScD.non | exact ScD.str _ | exact ScD.ty _ | exact ScD.cls _)
local macro_rules | `(tactic| walk_at "rx") => `(tactic| first
  | ((with_reducible refine' rx_ixT ?h ?_); (case h => exact rfl))
  | ((with_reducible refine' rx_ixL ?h1 ?h2 ?_); (case h1 => exact rfl); (case h2 => exact rfl))
  | with_reducible refine rx_I0i ?_
  | with_reducible refine rx_I0b ?_
  | ((with_reducible refine' rx_Ii ?h ?_); (case h => first | decide | (show (0 : Int) < _; omega)))
  | with_reducible refine rx_eqI ?_
  | with_reducible refine rx_neI ?_
  | with_reducible refine rx_neB ?_
  | with_reducible refine rx_isN ?_
  | with_reducible refine rx_notN ?_
  | with_reducible refine rx_neT ?_
  | ((with_reducible refine' rx_neN ?h1 ?h2 ?_); (case h1 => exact rfl); (case h2 => exact rfl))
  | ((with_reducible refine' rx_eqN ?h1 ?h2 ?_); (case h1 => exact rfl); (case h2 => exact rfl)))
local macro_rules | `(tactic| walk_at "go1") => `(tactic| first
  | with_reducible refine sx_seq ?_
  | ((with_reducible refine' sx_retO ?h ?_); (case h => exact rfl))
  | ((with_reducible refine' sx_retD ?h ?_); (case h => exact rfl))
  | with_reducible refine sx_ret ?_
  | ((with_reducible refine' sx_fldM ?z ?a ?b ?c ?d ?_); (case z => exact rfl); (case a => assumption); (case b => assumption); (case c => assumption); (case d => exact Nat.le_of_ble_eq_true rfl))
  | ((with_reducible refine' sx_append ?h ?_); (case h => exact rfl))
  | ((with_reducible refine' sx_extend ?h ?_); (case h => exact rfl))
  | with_reducible refine sx_drop ?_
  | with_reducible refine sx_retN ?_
  | with_reducible refine sx_next ?_
  | with_reducible refine sx_if ?_
  | with_reducible refine sx_asg ?_
  | with_reducible refine sx_asgT ?_
  | ((with_reducible refine' ex_im ?h ?_); (case h => exact rfl))
  | ((with_reducible refine' ex_ow ?h ?_); (case h => exact rfl))
  | ((with_reducible refine' ex_ro ?h ?_); (case h => exact rfl))
  | ((with_reducible refine' ex_od ?h ?_); (case h => exact rfl))
  | ((with_reducible refine' ex_pn ?h ?_); (case h => exact rfl))
  | ((with_reducible refine' ex_mk ?h ?_); (case h => exact rfl))
  | ((with_reducible refine' ex_ri ?h ?_); (case h => exact rfl))
  | ((with_reducible refine' ex_qi ?h ?_); (case h => exact rfl))
  | ((with_reducible refine' ex_bl ?h ?_); (case h => exact rfl))
  | ((with_reducible refine' ex_c ?h ?_); (case h => walk_at "sc"))
  | with_reducible refine ex_op ?_
  | with_reducible refine ex_andV ?_
  | with_reducible refine ex_orV ?_
  | with_reducible refine ex_notV ?_
  | with_reducible refine ex_if ?_
  | with_reducible refine ex_chain ?_
  | with_reducible refine ex_tup ?_
  | with_reducible refine ex_lst ?_
  | with_reducible refine ex_sortedSet ?_
  | with_reducible refine ex_countN ?_
  | with_reducible refine ex_revL ?_
  | with_reducible refine ex_cb ?_
  | with_reducible refine ex_call ?_
  | with_reducible refine ex_callB ?_
  | with_reducible refine exa_nil ?_
  | with_reducible refine exa_cons ?_
  | with_reducible refine et_test ?_
  | with_reducible refine et_B ?_
  | with_reducible refine et_and ?_
  | with_reducible refine et_or ?_
  | with_reducible refine et_not ?_
  | walk_at "rx"
  | ((with_reducible refine' cx_isi (b := true) ?h ?k ?_); (case h => exact rfl); (case k => decide +kernel))
  | ((with_reducible refine' cx_isi (b := false) ?h ?k ?_); (case h => exact rfl); (case k => decide +kernel))
  | ((with_reducible refine' cx_len ?h ?_); (case h => exact rfl))
  | ((with_reducible refine' cx_list ?h ?_); (case h => exact rfl))
  | ((with_reducible refine' cx_tuple ?h ?_); (case h => exact rfl))
  | ((with_reducible refine' cx_allF ?h ?_); (case h => exact rfl))
  | ((with_reducible refine' cx_anyF ?h ?_); (case h => exact rfl))
  | with_reducible refine cx_intI ?_
  | with_reducible refine cx_intB ?_
  | with_reducible refine ex_fz ?_
  | refine .inl ⟨_, rfl, ?_⟩
  | refine .inr ⟨_, rfl, ?_⟩
  | ((with_reducible refine' sx_par ?_))
  | ((with_reducible refine' sx_dput ?h); (case h => skip))
  | with_reducible refine cx_max2 ?_
  | with_reducible refine cx_min2 ?_
  | ((with_reducible refine' cx_dict ?h ?_); (case h => exact rfl))
  | with_reducible refine ex_make ?_
  | ((with_reducible refine' ex_fzV ?h ?_); (case h => exact rfl))
  | ((with_reducible refine' ex_fzVD ?h ?_); (case h => exact rfl))
  | ((with_reducible refine' ex_start ?pc ?_); (case pc => assumption))
  | ((with_reducible refine' ex_span ?pc ?_); (case pc => assumption))
  | ((with_reducible refine' ex_deeds ?pc ?_); (case pc => assumption))
  | ((with_reducible refine' ex_parts ?pc ?_); (case pc => assumption))
  | ((with_reducible refine' ex_ranks ?pc ?_); (case pc => assumption))
  | with_reducible refine ex_fld ?_
  | with_reducible refine ex_prop ?_
  | with_reducible refine ex_lenSet ?_
  | with_reducible refine ex_dictEnum ?_
  | with_reducible refine ex_dget2 ?_
  | with_reducible refine ex_disp1 ?_
  | with_reducible refine ex_listRg1 ?_
  | with_reducible refine cx_isC ?_
  | with_reducible refine ex_meth ?_
  | with_reducible refine ex_slT ?_
  | with_reducible refine ex_slL ?_
  | with_reducible refine exo_none ?_
  | with_reducible refine exo_some ?_
  | with_reducible refine ex_dget ?_
  | with_reducible refine ex_din ?_
  | with_reducible refine ex_dnotin ?_
  | with_reducible refine ex_dnew ?_
  | with_reducible refine exa_star ?_
  | with_reducible refine iteT ?_
  | with_reducible refine iteF ?_
  | with_reducible refine iteNF ?_
  | with_reducible refine iteNT ?_
  | refine ⟨(trivial : RetOk (Sl.im _)), ?_⟩
  | refine ⟨(trivial : RetOk (Sl.ow _)), ?_⟩
  | refine ⟨[], rfl, Nat.le_of_ble_eq_true rfl, ?_⟩
  | refine ⟨[_], rfl, Nat.le_of_ble_eq_true rfl, ?_⟩
  | refine ⟨[_, _], rfl, Nat.le_of_ble_eq_true rfl, ?_⟩
  | refine ⟨[_, _, _], rfl, Nat.le_of_ble_eq_true rfl, ?_⟩
  | refine ⟨[_, _, _, _, _], rfl, Nat.le_of_ble_eq_true rfl, ?_⟩
  | refine ⟨rfl, rfl, ?_⟩
  | refine ⟨_, _, _, rfl, by assumption, by assumption, rfl, ?_⟩
  | refine ⟨npI, ?_⟩
  | refine ⟨npO, ?_⟩
  | refine ⟨npD, ?_⟩
  | refine ⟨npQ, ?_⟩
  | refine ⟨_, rfl, ?_⟩
  | refine ⟨_, _, rfl, ?_⟩
  | refine ⟨_, _, _, rfl, ?_⟩
  | refine ⟨_, _, _, _, rfl, ?_⟩
  | ((with_reducible refine' andGet ?h ?_); (case h => exact rfl)))
local macro_rules | `(tactic| walk_at "go") => `(tactic| repeat walk_at "go1")
local macro_rules | `(tactic| walk_at "T") => `(tactic| (refine iteE (c := true) rfl ?_; walk_at "go"))
local macro_rules | `(tactic| walk_at "F") => `(tactic| (refine iteE (c := false) rfl ?_; walk_at "go"))
section
variable {P : Program} {w : World} {K : PySem.W.Frag} {mg : Str → Option Value} {base : Heap} {C : Addr}
theorem itD_cells (l : List (Int × Int)) : itD (encCells l) = l.map fun q => .tup [.int q.1, .int q.2] := by
  unfold itD encCells
  rw [List.map_map]
  rfl
theorem over_snoc {p : Pl} {cs f : List Int} {n : Nat} {i : Int} (h : f[n]? = some i) : p.over cs (f.take (n + 1)) = wrP p (p.over cs (f.take n)) i := by
  unfold Pl.over
  rw [take_snoc h, List.foldl_append]
  rfl
theorem fold_snoc {l : List (Int × Int)} {cs : List Int} {n : Nat} {q : Int × Int} (h : l[n]? = some q) : (l.take (n + 1)).foldl setC cs = setC ((l.take n).foldl setC cs) q := by
  rw [take_snoc h, List.foldl_append]
  rfl
theorem map_set' {l : List Int} {j : Nat} {w : Int} : (l.map Dat.int).set j (.int w) = (l.set j w).map Dat.int := by rw [List.map_set]
def dOver : DF := fun ss k => ∃ (p : Pl) (cs f : List Int), ss = [.im p.enc, .im (tupI cs), .im (lstI f)] ∧ PlOk p ∧ cs.length = p.base.length ∧ (∀ i ∈ f, p.sys.isP i) ∧ k (.im (tupI (p.over cs f)))
theorem ok_overwritten {f : Addr} {fd : FuncData} (F : Fun K "overwritten" "overwritten" s_overwritten f fd) (T : Txt mg) (PC : PlanC K C) (D_cells_in : DefOk P w K mg base "cells_in" 1 P_cells_in (SpD C dCellsIn)) : FnOk P w K mg base CX0 2 f fd P_overwritten (SpD C dOver) := by
  refine fn_pure F sc_overwritten (fun ss k h => ?_) (by decide) fun cdv A outer s H E ss kk hr h => ?_
  · obtain ⟨_, _, _, e, _⟩ := h
    rw [e]; rfl
  · obtain ⟨p, cs, f, e, hp, hc, hf, hk⟩ := h
    subst e
    refine ⟨_, (pss_cons (ps_set (i := 3) sc_overwritten.nd rfl (Or.inl rfl) (pe_callTy (kk_list K) (by rfl) T.b_list (by decide +kernel) (pa_cons (pv 1) pa_nil)))
      (pss_cons (ps_for (g := (gName 4)) PassesOwn.never rfl (kk_pil K (pv 2)) (pg_name (i := 4) sc_overwritten.nd rfl (Or.inl rfl)) (pss_one (ps_for (g := (gTup _ 2 (gNames [5, 6]))) PassesOwn.never rfl (pi_items (pe_fz (pe_callD D_cells_in (hr.mono (by decide)) (by rfl) (pa_cons (pv 0) (pa_cons (pv 4) pa_nil))))) (pg_tup rfl (t := gNames [5, 6]) (pgs_cons (pg_name (i := 5) sc_overwritten.nd rfl (Or.inl rfl)) (pgs_cons (pg_name (i := 6) sc_overwritten.nd rfl (Or.inl rfl)) pgs_nil))) (pss_one (ps_asg (pv 6) (pg_sub (pv 3) (pv 5) set_list))))))
      (pss_one (ps_ret (pe_callTy (kk_tuple K) (by rfl) T.b_tuple (by decide +kernel) (pa_cons (pv 3) pa_nil)))))), ?_⟩
    walk_at "go"
    refine sx_for (ix_list tg_name ?_)
    walk_at "go"
    refine ⟨fun _ _ => trivial, fun pre e => ∃ s4 s5 s6, e = [.im p.enc, .im (tupI cs), .im (lstI f), .ow ((p.over cs (f.take pre.length)).map Dat.int), s4, s5, s6], ⟨_, _, _, rfl⟩, ?_, ?_⟩
    · rintro pre d post e hd ⟨s4, s5, s6, rfl⟩
      obtain ⟨i, hi, rfl⟩ := map_at hd
      have hip := hf i (List.mem_of_getElem? hi)
      have hn1 : (pre ++ [Dat.int i]).length = pre.length + 1 := by simp
      refine sx_for (ix_items (tg_tup rfl) ?_)
      walk_at "go"
      refine ⟨hp, hip, ?_⟩
      walk_at "go"
      rw [itD_cells]
      refine ⟨fun d hd => ?_, fun pre2 e => ∃ s5 s6, e = [.im p.enc, .im (tupI cs), .im (lstI f), .ow ((((p.cells i).take pre2.length).foldl setC (p.over cs (f.take pre.length))).map Dat.int), .im (.int i), s5, s6], ⟨_, _, rfl⟩, ?_, ?_⟩
      · obtain ⟨q, _, e⟩ := List.mem_map.mp hd
        exact ⟨_, e.symm, rfl⟩
      · rintro pre2 d2 post2 e hd2 ⟨s5, s6, rfl⟩
        obtain ⟨q, hq, rfl⟩ := map_at hd2
        have hqc := cells_in hp.steps (List.mem_of_getElem? hq)
        have hn2 : (pre2 ++ [Dat.tup [Dat.int q.1, Dat.int q.2]]).length = pre2.length + 1 := by simp
        refine sx_setL ?_
        walk_at "go"
        refine ⟨_, _, rfl, rfl, ?_⟩
        walk_at "go"
        refine ⟨_, q.1.toNat, rfl, rfl, ixN_of hqc.1 (by rw [List.length_map, setC_len, over_len, hc]; exact hqc.2), ?_⟩
        dsimp only
        rw [hn2, fold_snoc hq, map_set']
        exact ⟨_, _, rfl⟩
      · rintro e ⟨s5, s6, rfl⟩
        dsimp only
        rw [hn1, over_snoc hi]
        rw [List.length_map, List.take_length]
        exact ⟨_, _, _, rfl⟩
    · rintro e ⟨s4, s5, s6, rfl⟩
      rw [List.length_map, List.take_length]
      walk_at "go"
      exact hk
def dAfter : DF := fun ss k => ∃ (p : Pl) (f : List Int), ss = [.im p.enc, .im (lstI f)] ∧ PlOk p ∧ f.length ≤ 1000 ∧ p.sys.Fall f ∧ k (.im (tupI (p.over p.base f)))
theorem ok_content_after {f : Addr} {fd : FuncData} (F : Fun K "content_after" "content_after" s_content_after f fd) (T : Txt mg) (D_check_fall : DefOk P w K mg base "check_fall" 5 P_check_fall (SpD C dCheckFall)) (D_overwritten : DefOk P w K mg base "overwritten" 2 P_overwritten (SpD C dOver)) (D_Plan_base : PrpOk P w K mg base C "base" 1 (SpD C dPlBase)) : FnOk P w K mg base CX0 6 f fd P_content_after (SpD C dAfter) := by
  refine fn_pure F sc_content_after (fun ss k h => ?_) (by decide) fun cdv A outer s H E ss kk hr h => ?_
  · obtain ⟨_, _, e, _⟩ := h
    rw [e]; rfl
  · obtain ⟨p, f, e, hp, hl, hF, hk⟩ := h
    subst e
    refine ⟨_, (pss_cons (ps_expr (pe_callD D_check_fall (hr.mono (by decide)) (by rfl) (pa_cons (pv 0) (pa_cons (pv 1) pa_nil))))
      (pss_one (ps_ret (pe_callD D_overwritten (hr.mono (by decide)) (by rfl) (pa_cons (pv 0) (pa_cons (pe_propD D_Plan_base (pv 0) (hr.mono (by decide)) rfl) (pa_cons (pv 1) pa_nil))))))), ?_⟩
    walk_at "go"
    refine ⟨hp, hl, hF, ?_⟩
    walk_at "go"
    refine ⟨hp, rfl, hF.pcs, ?_⟩
    walk_at "go"
    exact hk
def dIsFound : DF := fun ss k => ∃ (p : Pl) (f : List Int) (pat : Pat), ss = [.im p.enc, .im (lstI f), .im (encPat pat)] ∧ PlOk p ∧ f.length ≤ 1000 ∧ p.sys.Fall f ∧ PatOk p.base.length pat ∧ k (.im (.bl (isMet pat (p.over p.base f))))
theorem ok_is_found {f : Addr} {fd : FuncData} (F : Fun K "is_found" "is_found" s_is_found f fd) (T : Txt mg) (D_content_after : DefOk P w K mg base "content_after" 6 P_content_after (SpD C dAfter)) (D_check_pattern : DefOk P w K mg base "check_pattern" 6 P_check_pattern (SpD C dCheckPattern)) (D_is_matched : DefOk P w K mg base "is_matched" 1 P_is_matched (SpD C dIsMatched)) : FnOk P w K mg base CX0 7 f fd P_is_found (SpD C dIsFound) := by
  refine fn_pure F sc_is_found (fun ss k h => ?_) (by decide) fun cdv A outer s H E ss kk hr h => ?_
  · obtain ⟨_, _, _, e, _⟩ := h
    rw [e]; rfl
  · obtain ⟨p, f, pat, e, hp, hl, hF, ht, hk⟩ := h
    subst e
    refine ⟨_, (pss_cons (ps_set (i := 3) sc_is_found.nd rfl (Or.inl rfl) (pe_callD D_content_after (hr.mono (by decide)) (by rfl) (pa_cons (pv 0) (pa_cons (pv 1) pa_nil))))
      (pss_cons (ps_expr (pe_callD D_check_pattern (hr.mono (by decide)) (by rfl) (pa_cons (pe_callB (kk_len K) (by rfl) T.b_len (by decide +kernel) (pa_cons (pv 3) pa_nil)) (pa_cons (pv 2) pa_nil))))
      (pss_one (ps_ret (pe_callD D_is_matched (hr.mono (by decide)) (by rfl) (pa_cons (pv 2) (pa_cons (pv 3) pa_nil))))))), ?_⟩
    walk_at "go"
    refine ⟨hp, hl, hF, ?_⟩
    walk_at "go"
    rw [List.length_map, over_len]
    refine ⟨ht, ?_⟩
    walk_at "go"
    refine ⟨by rw [over_len]; exact ht, ?_⟩
    exact ⟨trivial, trivial, hk⟩
end
end Af
end

section
set_option maxHeartbeats 4000000
namespace Af
open PySem L2
local macro_rules | `(tactic| walk_at "sc") => `(tactic| first | exact ScD.int _ | exact ScD.bl _ | exact ScD.non | exact ScD.str _ | exact ScD.ty _ | exact ScD.cls _)
local macro_rules | `(tactic| walk_at "rx") => `(tactic| first
  | ((with_reducible refine' rx_ixT ?h ?_); (case h => exact rfl))
  | ((with_reducible refine' rx_ixL ?h1 ?h2 ?_); (case h1 => exact rfl); (case h2 => exact rfl))
  | with_reducible refine rx_I0i ?_
  | with_reducible refine rx_I0b ?_
  | ((with_reducible refine' rx_Ii ?h ?_); (case h => first | decide | (show (0 : Int) < _; omega)))
  | with_reducible refine rx_eqI ?_
  | with_reducible refine rx_neI ?_
  | with_reducible refine rx_neB ?_
  | with_reducible refine rx_isN ?_
  | with_reducible refine rx_notN ?_
  | with_reducible refine rx_neT ?_
  | ((with_reducible refine' rx_neN ?h1 ?h2 ?_); (case h1 => exact rfl); (case h2 => exact rfl))
  | ((with_reducible refine' rx_eqN ?h1 ?h2 ?_); (case h1 => exact rfl); (case h2 => exact rfl)))
local macro_rules | `(tactic| walk_at "go1") => `(tactic| first
  | with_reducible refine sx_seq ?_
  | ((with_reducible refine' sx_retO ?h ?_); (case h => exact rfl))
  | ((with_reducible refine' sx_retD ?h ?_); (case h => exact rfl))
  | with_reducible refine sx_ret ?_
  | ((with_reducible refine' sx_fldM ?z ?a ?b ?c ?d ?_); (case z => exact rfl); (case a => assumption); (case b => assumption); (case c => assumption); (case d => exact Nat.le_of_ble_eq_true rfl))
  | ((with_reducible refine' sx_append ?h ?_); (case h => exact rfl))
  | ((with_reducible refine' sx_extend ?h ?_); (case h => exact rfl))
  | with_reducible refine sx_drop ?_
  | with_reducible refine sx_retN ?_
  | with_reducible refine sx_next ?_
  | with_reducible refine sx_if ?_
  | with_reducible refine sx_asg ?_
  | with_reducible refine sx_asgT ?_
  | ((with_reducible refine' ex_im ?h ?_); (case h => exact rfl))
  | ((with_reducible refine' ex_ow ?h ?_); (case h => exact rfl))
  | ((with_reducible refine' ex_ro ?h ?_); (case h => exact rfl))
  | ((with_reducible refine' ex_od ?h ?_); (case h => exact rfl))
  | ((with_reducible refine' ex_pn ?h ?_); (case h => exact rfl))
  | ((with_reducible refine' ex_mk ?h ?_); (case h => exact rfl))
  | ((with_reducible refine' ex_ri ?h ?_); (case h => exact rfl))
  | ((with_reducible refine' ex_qi ?h ?_); (case h => exact rfl))
  | ((with_reducible refine' ex_bl ?h ?_); (case h => exact rfl))
  | ((with_reducible refine' ex_c ?h ?_); (case h => walk_at "sc"))
  | with_reducible refine ex_op ?_
  | with_reducible refine ex_andV ?_
  | with_reducible refine ex_orV ?_
  | with_reducible refine ex_notV ?_
  | with_reducible refine ex_if ?_
  | with_reducible refine ex_chain ?_
  | with_reducible refine ex_tup ?_
  | with_reducible refine ex_lst ?_
  | with_reducible refine ex_sortedSet ?_
  | with_reducible refine ex_countN ?_
  | with_reducible refine ex_revL ?_
  | with_reducible refine ex_cb ?_
  | with_reducible refine ex_call ?_
  | with_reducible refine ex_callB ?_
  | with_reducible refine exa_nil ?_
  | with_reducible refine exa_cons ?_
  | with_reducible refine et_test ?_
  | with_reducible refine et_B ?_
  | with_reducible refine et_and ?_
  | with_reducible refine et_or ?_
  | with_reducible refine et_not ?_
  | walk_at "rx"
  | ((with_reducible refine' cx_isi (b := true) ?h ?k ?_); (case h => exact rfl); (case k => decide +kernel))
  | ((with_reducible refine' cx_isi (b := false) ?h ?k ?_); (case h => exact rfl); (case k => decide +kernel))
  | ((with_reducible refine' cx_len ?h ?_); (case h => exact rfl))
  | ((with_reducible refine' cx_list ?h ?_); (case h => exact rfl))
  | ((with_reducible refine' cx_tuple ?h ?_); (case h => exact rfl))
  | ((with_reducible refine' cx_allF ?h ?_); (case h => exact rfl))
  | ((with_reducible refine' cx_anyF ?h ?_); (case h => exact rfl))
  | with_reducible refine cx_intI ?_
  | with_reducible refine cx_intB ?_
  | with_reducible refine ex_fz ?_
  | refine .inl ⟨_, rfl, ?_⟩
  | refine .inr ⟨_, rfl, ?_⟩
  | ((with_reducible refine' sx_par ?_))
  | ((with_reducible refine' sx_dput ?h); (case h => skip))
  | with_reducible refine cx_max2 ?_
  | with_reducible refine cx_min2 ?_
  | ((with_reducible refine' cx_dict ?h ?_); (case h => exact rfl))
  | with_reducible refine ex_make ?_
  | ((with_reducible refine' ex_fzV ?h ?_); (case h => exact rfl))
  | ((with_reducible refine' ex_fzVD ?h ?_); (case h => exact rfl))
  | ((with_reducible refine' ex_start ?pc ?_); (case pc => assumption))
  | ((with_reducible refine' ex_span ?pc ?_); (case pc => assumption))
  | ((with_reducible refine' ex_deeds ?pc ?_); (case pc => assumption))
  | ((with_reducible refine' ex_parts ?pc ?_); (case pc => assumption))
  | ((with_reducible refine' ex_ranks ?pc ?_); (case pc => assumption))
  | with_reducible refine ex_fld ?_
  | with_reducible refine ex_prop ?_
  | with_reducible refine ex_lenSet ?_
  | with_reducible refine ex_dictEnum ?_
  | with_reducible refine ex_dget2 ?_
  | with_reducible refine ex_disp1 ?_
  | with_reducible refine ex_listRg1 ?_
  | with_reducible refine cx_isC ?_
  | with_reducible refine ex_meth ?_
  | with_reducible refine ex_slT ?_
  | with_reducible refine ex_slL ?_
  | with_reducible refine exo_none ?_
  | with_reducible refine exo_some ?_
  | with_reducible refine ex_dget ?_
  | with_reducible refine ex_din ?_
  | with_reducible refine ex_dnotin ?_
  | with_reducible refine ex_dnew ?_
  | with_reducible refine exa_star ?_
  | with_reducible refine iteT ?_
  | with_reducible refine iteF ?_
  | with_reducible refine iteNF ?_
  | with_reducible refine iteNT ?_
  | refine ⟨(trivial : RetOk (Sl.im _)), ?_⟩
  | refine ⟨(trivial : RetOk (Sl.ow _)), ?_⟩
  | refine ⟨[], rfl, Nat.le_of_ble_eq_true rfl, ?_⟩
  | refine ⟨[_], rfl, Nat.le_of_ble_eq_true rfl, ?_⟩
  | refine ⟨[_, _], rfl, Nat.le_of_ble_eq_true rfl, ?_⟩
  | refine ⟨[_, _, _], rfl, Nat.le_of_ble_eq_true rfl, ?_⟩
  | refine ⟨[_, _, _, _, _], rfl, Nat.le_of_ble_eq_true rfl, ?_⟩
  | refine ⟨rfl, rfl, ?_⟩
  | refine ⟨_, _, _, rfl, by assumption, by assumption, rfl, ?_⟩
  | refine ⟨npI, ?_⟩
  | refine ⟨npO, ?_⟩
  | refine ⟨npD, ?_⟩
  | refine ⟨npQ, ?_⟩
  | refine ⟨_, rfl, ?_⟩
  | refine ⟨_, _, rfl, ?_⟩
  | refine ⟨_, _, _, rfl, ?_⟩
  | refine ⟨_, _, _, _, rfl, ?_⟩
  | ((with_reducible refine' andGet ?h ?_); (case h => exact rfl)))
local macro_rules | `(tactic| walk_at "go") => `(tactic| repeat walk_at "go1")
local macro_rules | `(tactic| walk_at "T") => `(tactic| (refine iteE (c := true) rfl ?_; walk_at "go"))
local macro_rules | `(tactic| walk_at "F") => `(tactic| (refine iteE (c := false) rfl ?_; walk_at "go"))
section
variable {P : Program} {w : World} {K : PySem.W.Frag} {mg : Str → Option Value} {base : Heap} {C : Addr}
/-- no claims -/
abbrev noClaims : Dat := .tup [.lst [], .lst [], .lst []]
def dNever : DF := fun _ _ => False
theorem ok_is_pair {f : Addr} {fd : FuncData} (F : Fun K "is_pair" "is_pair" s_is_pair f fd) : FnOk P w K mg base CX0 1 f fd P_is_pair (SpD C dNever) :=
  fn_pure F sc_is_pair (fun ss k h => h.elim) (by decide) fun cdv A outer s H E ss kk hr h => h.elim
theorem ok_led_to {f : Addr} {fd : FuncData} (F : Fun K "led_to" "led_to" s_led_to f fd) : FnOk P w K mg base CX0 1 f fd P_led_to (SpD C dNever) :=
  fn_pure F sc_led_to (fun ss k h => h.elim) (by decide) fun cdv A outer s H E ss kk hr h => h.elim
def dAscends : DF := fun ss k => ss = [.im (.lst [])] ∧ k (.im (.bl true))
theorem ok_are_ascending {f : Addr} {fd : FuncData} (F : Fun K "are_ascending" "are_ascending" s_are_ascending f fd) (T : Txt mg) : FnOk P w K mg base CX0 1 f fd P_are_ascending (SpD C dAscends) := by
  refine fn_pure F sc_are_ascending (fun ss k h => ?_) (by decide) fun cdv A outer s H E ss kk hr h => ?_
  · obtain ⟨e, _⟩ := h
    rw [e]; rfl
  · obtain ⟨e, hk⟩ := h
    subst e
    refine ⟨_, (pss_one (ps_ret (pe_cmpR (kk_eqD K hr.units) (pv 0) (pe_callB (cr_sortedSet rfl) (by rfl) T.b_sorted (by decide +kernel) (pa_cons (pe_callTy (cr_setI rfl) (by rfl) T.b_set (by decide +kernel) (pa_cons (pv 0) pa_nil)) pa_nil)) (nomark _)))), ?_⟩
    walk_at "go"
    refine fun ms h1 h2 => ?_
    rw [rising_eq h1 .nil h2]
    exact rx_eqN (ns := []) rfl rfl ⟨trivial, hk⟩
def dClaimed : DF := fun ss k => ss = [.im noClaims] ∧ k (.ow [])
theorem ok_claimed_there {f : Addr} {fd : FuncData} (F : Fun K "claimed_there" "claimed_there" s_claimed_there f fd) (T : Txt mg) : FnOk P w K mg base CX0 1 f fd P_claimed_there (SpD C dClaimed) := by
  refine fn_pure F sc_claimed_there (fun ss k h => ?_) (by decide) fun cdv A outer s H E ss kk hr h => ?_
  · obtain ⟨e, _⟩ := h
    rw [e]; rfl
  · obtain ⟨e, hk⟩ := h
    subst e
    refine ⟨_, (pss_cons (ps_asg (pv 0) (pg_tup rfl (t := gNames [1, 2, 3]) (pgs_cons (pg_name (i := 1) sc_claimed_there.nd rfl (Or.inl rfl)) (pgs_cons (pg_name (i := 2) sc_claimed_there.nd rfl (Or.inl rfl)) (pgs_cons (pg_name (i := 3) sc_claimed_there.nd rfl (Or.inl rfl)) pgs_nil)))))
      (pss_one (ps_ret (pe_callB (cr_sortedSet rfl) (by rfl) T.b_sorted (by decide +kernel) (pa_cons (pe_callTy (cr_setI rfl) (by rfl) T.b_set (by decide +kernel) (pa_cons (pe_fz (pe_lst (kk_star K (pv 1) (kk_star K (pe_lc2 (own := [("pair", 4), ("piece", 5)]) (vs1 := [5]) (g := (gName 4)) (g1 := (gName 5)) rfl sc_claimed_there.nd (kk_pil K (pv 3)) (blkOk_by (own := [("pair", 4), ("piece", 5)]) (N := N_claimed_there) (sc := defScope s_claimed_there) (by decide +kernel)) (by decide) (fun _ _ _ _ _ => (pg_name (i := 4) sc_claimed_there.nd rfl (Or.inl rfl))) (fun _ _ _ _ _ => pts_nil) (fun _ _ _ _ _ => (kk_pit K (pv 4))) (fun _ _ _ _ _ => (pg_name (i := 5) sc_claimed_there.nd rfl (Or.inl rfl))) (fun _ _ _ _ _ => pts_nil) (fun _ _ _ _ _ => (pv 5))) pa_nil)))) pa_nil)) pa_nil))))), ?_⟩
    walk_at "go"
    refine ex_lc2E (ix_list tg_name ?_)
    walk_at "go"
    refine ⟨fun _ _ => trivial, rfl, ?_⟩
    walk_at "go"
    refine fun ms h1 h2 => ?_
    rw [rising_eq h1 .nil h2]
    exact ⟨trivial, hk⟩
def dIsClaims : DF := fun ss k => ∃ (p : Pl), ss = [.im p.enc, .im noClaims] ∧ PlOk p ∧ k (.im (.bl true))
theorem ok_is_claims {f : Addr} {fd : FuncData} (F : Fun K "is_claims" "is_claims" s_is_claims f fd) (T : Txt mg) (PC : PlanC K C) (D_are_pieces : DefOk P w K mg base "are_pieces" 3 P_are_pieces (SpD C dArePieces)) (D_is_pair : DefOk P w K mg base "is_pair" 1 P_is_pair (SpD C dNever)) (D_are_ascending : DefOk P w K mg base "are_ascending" 1 P_are_ascending (SpD C dAscends)) (D_claimed_there : DefOk P w K mg base "claimed_there" 1 P_claimed_there (SpD C dClaimed)) (D_led_to : DefOk P w K mg base "led_to" 1 P_led_to (SpD C dNever)) : FnOk P w K mg base CX0 4 f fd P_is_claims (SpD C dIsClaims) := by
  refine fn_pure F sc_is_claims (fun ss k h => ?_) (by decide) fun cdv A outer s H E ss kk hr h => ?_
  · obtain ⟨_, e, _⟩ := h
    rw [e]; rfl
  · obtain ⟨p, e, hp, hk⟩ := h
    subst e
    refine ⟨_, (pss_cons (ps_if (PW.pt (pw_or (pt_not (pt_val (pe_callB (kk_isi K) (by rfl) T.b_isinstance (by decide +kernel) (pa_cons (pv 1) (pa_cons (pe_bltn (v := .ty "tuple") (by rfl) T.b_tuple (by decide +kernel) rfl) pa_nil))))) (pw_or1 (pt_cmpR op_ne (pe_callB (kk_len K) (by rfl) T.b_len (by decide +kernel) (pa_cons (pv 1) pa_nil)) pe_int (nomark _))))) (pss_one (ps_ret pe_bl)) pss_nil)
      (pss_cons (ps_if (PW.pt (pw_or (pt_not (pt_val (pe_callD D_are_pieces (hr.mono (by decide)) (by rfl) (pa_cons (pv 0) (pa_cons (pe_ix (kk_ixT K) (pv 1) pe_int (fun _ _ => rfl)) pa_nil))))) (pw_or1 (pt_not (pt_val (pe_callD D_are_pieces (hr.mono (by decide)) (by rfl) (pa_cons (pv 0) (pa_cons (pe_ix (kk_ixT K) (pv 1) pe_int (fun _ _ => rfl)) pa_nil)))))))) (pss_one (ps_ret pe_bl)) pss_nil)
      (pss_cons (ps_if (PW.pt (pw_or (pt_not (pt_val (pe_callB (kk_isi K) (by rfl) T.b_isinstance (by decide +kernel) (pa_cons (pe_ix (kk_ixT K) (pv 1) pe_int (fun _ _ => rfl)) (pa_cons (pe_bltn (v := .ty "list") (by rfl) T.b_list (by decide +kernel) rfl) pa_nil))))) (pw_or1 (pt_not (pt_val (pe_callB (kk_all K rfl) (by rfl) T.b_all (by decide +kernel) (pa_cons (pe_lc (own := [("pair", 5)]) (g := (gName 5)) rfl sc_is_claims.nd (kk_pil K (pe_ix (kk_ixT K) (pv 1) pe_int (fun _ _ => rfl))) (blkOk_by (own := [("pair", 5)]) (N := N_is_claims) (sc := defScope s_is_claims) (by decide +kernel)) (fun _ _ _ _ _ => (pg_name (i := 5) sc_is_claims.nd rfl (Or.inl rfl))) (fun _ _ _ _ _ => pts_nil) (fun _ _ _ _ _ => (pe_callD D_is_pair (hr.mono (by decide)) (by rfl) (pa_cons (pv 0) (pa_cons (pv 5) pa_nil))))) pa_nil))))))) (pss_one (ps_ret pe_bl)) pss_nil)
      (pss_cons (ps_if (pt_not (pt_val (pe_callB (kk_all K rfl) (by rfl) T.b_all (by decide +kernel) (pa_cons (pe_lc (own := [("part", 4)]) (g := (gName 4)) rfl sc_is_claims.nd (kk_pit K (pv 1)) (blkOk_by (own := [("part", 4)]) (N := N_is_claims) (sc := defScope s_is_claims) (by decide +kernel)) (fun _ _ _ _ _ => (pg_name (i := 4) sc_is_claims.nd rfl (Or.inl rfl))) (fun _ _ _ _ _ => pts_nil) (fun _ _ _ _ _ => (pe_callD D_are_ascending (hr.mono (by decide)) (by rfl) (pa_cons (pv 4) pa_nil)))) pa_nil)))) (pss_one (ps_ret pe_bl)) pss_nil)
      (pss_cons (ps_if (pt_val (pe_callB (kk_any K rfl) (by rfl) T.b_any (by decide +kernel) (pa_cons (pe_lc (own := [("piece", 2)]) (g := (gName 2)) rfl sc_is_claims.nd (kk_pil K (pe_fz (pe_callD D_claimed_there (hr.mono (by decide)) (by rfl) (pa_cons (pv 1) pa_nil)))) (blkOk_by (own := [("piece", 2)]) (N := N_is_claims) (sc := defScope s_is_claims) (by decide +kernel)) (fun _ _ _ _ _ => (pg_name (i := 2) sc_is_claims.nd rfl (Or.inl rfl))) (fun _ _ _ _ _ => pts_nil) (fun _ _ _ _ _ => (pe_cmpR (kk_in K) (pv 2) (pe_ix (kk_ixT K) (pv 1) pe_int (fun _ _ => rfl)) rfl))) pa_nil))) (pss_one (ps_ret pe_bl)) pss_nil)
      (pss_cons (ps_if (pt_val (pe_callB (kk_any K rfl) (by rfl) T.b_any (by decide +kernel) (pa_cons (pe_lc (own := [("piece", 2), ("other", 3)]) (g := (gTup _ 2 (gNames [2, 3]))) rfl sc_is_claims.nd (kk_pil K (pe_ix (kk_ixT K) (pv 1) pe_int (fun _ _ => rfl))) (blkOk_by (own := [("piece", 2), ("other", 3)]) (N := N_is_claims) (sc := defScope s_is_claims) (by decide +kernel)) (fun _ _ _ _ _ => (pg_tup rfl (t := gNames [2, 3]) (pgs_cons (pg_name (i := 2) sc_is_claims.nd rfl (Or.inl rfl)) (pgs_cons (pg_name (i := 3) sc_is_claims.nd rfl (Or.inl rfl)) pgs_nil)))) (fun _ _ _ _ _ => pts_nil) (fun _ _ _ _ _ => (pe_cmpR op_gt (pe_ix (kk_ixL K) (kk_fld K (pv 0) rfl) (pv 2) (fun _ _ => rfl)) (pe_ix (kk_ixL K) (kk_fld K (pv 0) rfl) (pv 3) (fun _ _ => rfl)) (nomark _)))) pa_nil))) (pss_one (ps_ret pe_bl)) pss_nil)
      (pss_one (ps_ret (pe_not (pe_callB (kk_any K rfl) (by rfl) T.b_any (by decide +kernel) (pa_cons (pe_lc (own := [("piece", 2), ("other", 3)]) (g := (gTup _ 2 (gNames [2, 3]))) rfl sc_is_claims.nd (kk_pil K (pe_ix (kk_ixT K) (pv 1) pe_int (fun _ _ => rfl))) (blkOk_by (own := [("piece", 2), ("other", 3)]) (N := N_is_claims) (sc := defScope s_is_claims) (by decide +kernel)) (fun _ _ _ _ _ => (pg_tup rfl (t := gNames [2, 3]) (pgs_cons (pg_name (i := 2) sc_is_claims.nd rfl (Or.inl rfl)) (pgs_cons (pg_name (i := 3) sc_is_claims.nd rfl (Or.inl rfl)) pgs_nil)))) (fun _ _ _ _ _ => pts_nil) (fun _ _ _ _ _ => (pe_cmp (pc_din (hu_of hr) (pv 2) (pe_callD D_led_to (hr.mono (by decide)) (by rfl) (pa_cons (pe_ix (kk_ixT K) (pv 1) pe_int (fun _ _ => rfl)) (pa_cons (pv 2) pa_nil)))) rfl))) pa_nil))))))))))), ?_⟩
    have h0 : arePcs p [] = true := by simp [arePcs]
    walk_at "go"
    walk_at "F"
    refine ⟨p, [], rfl, Nat.zero_le _, .nil, ?_⟩
    rw [h0]
    walk_at "go"
    refine ⟨p, [], rfl, Nat.zero_le _, .nil, ?_⟩
    rw [h0]
    walk_at "go"
    refine ex_lcY (by decide) (ix_list tg_name ?_)
    walk_at "go"
    refine ⟨fun _ _ => trivial, Nat.zero_le _, ⟨trivial, trivial⟩, Int, [], Dat.int, (fun _ => .bl true), rfl, fun x hx => (nomatch hx), ?_⟩
    walk_at "go"
    refine iteE (c := false) (by rfl) ?_
    walk_at "go"
    refine ex_lcY (by decide) (ix_tup tg_name ?_)
    walk_at "go"
    refine ⟨fun _ _ => trivial, by simp, ⟨trivial, trivial⟩, Unit, [(), (), ()], (fun _ => .lst []), (fun _ => .bl true), rfl, fun x hx => ?_, ?_⟩
    · walk_at "go"
      exact ⟨rfl, trivial, rfl, rfl⟩
    walk_at "go"
    refine iteE (c := false) (by rfl) ?_
    walk_at "go"
    refine ex_lcY (by decide) (ix_list tg_name ?_)
    walk_at "go"
    refine ⟨rfl, ?_⟩
    walk_at "go"
    refine ⟨fun _ _ => trivial, Nat.zero_le _, ⟨trivial, trivial⟩, Int, [], Dat.int, (fun _ => .bl true), rfl, fun x hx => (nomatch hx), ?_⟩
    walk_at "go"
    refine iteE (c := false) (by rfl) ?_
    walk_at "go"
    refine ex_lcY (by decide) (ix_list (tg_tup rfl) ?_)
    walk_at "go"
    refine ⟨fun _ hd => (nomatch hd), Nat.zero_le _, ⟨trivial, trivial, trivial⟩, Int, [], Dat.int, (fun _ => .bl true), rfl, fun x hx => (nomatch hx), ?_⟩
    walk_at "go"
    refine iteE (c := false) (by rfl) ?_
    walk_at "go"
    refine ex_lcY (by decide) (ix_list (tg_tup rfl) ?_)
    walk_at "go"
    refine ⟨fun _ hd => (nomatch hd), Nat.zero_le _, ⟨trivial, trivial, trivial⟩, Int, [], Dat.int, (fun _ => .bl true), rfl, fun x hx => (nomatch hx), ?_⟩
    walk_at "go"
    exact hk
def dCheckClaims : DF := fun ss k => ∃ (p : Pl), ss = [.im p.enc, .im noClaims] ∧ PlOk p ∧ k (.im .non)
theorem ok_check_claims {f : Addr} {fd : FuncData} (F : Fun K "check_claims" "check_claims" s_check_claims f fd) (T : Txt mg) (D_is_claims : DefOk P w K mg base "is_claims" 4 P_is_claims (SpD C dIsClaims)) : FnOk P w K mg base CX0 5 f fd P_check_claims (SpD C dCheckClaims) := by
  refine fn_pure F sc_check_claims (fun ss k h => ?_) (by decide) fun cdv A outer s H E ss kk hr h => ?_
  · obtain ⟨_, e, _⟩ := h
    rw [e]; rfl
  · obtain ⟨p, e, hp, hk⟩ := h
    subst e
    refine ⟨_, (pss_one (ps_if (pt_not (pt_val (pe_callD D_is_claims (hr.mono (by decide)) (by rfl) (pa_cons (pv 0) (pa_cons (pv 1) pa_nil))))) pss_never pss_nil)), ?_⟩
    walk_at "go"
    refine ⟨hp, ?_⟩
    walk_at "go"
    exact hk
def dRefusal : DF := fun ss k => ∃ (p : Pl) (z : Int), ss = [.im p.enc, .im noClaims, .im (.int z)] ∧ PlOk p ∧ k (.im .non)
theorem ok_refusal {f : Addr} {fd : FuncData} (F : Fun K "refusal" "refusal" s_refusal f fd) (T : Txt mg) (PC : PlanC K C) (D_claimed_there : DefOk P w K mg base "claimed_there" 1 P_claimed_there (SpD C dClaimed)) : FnOk P w K mg base CX0 2 f fd P_refusal (SpD C dRefusal) := by
  refine fn_pure F sc_refusal (fun ss k h => ?_) (by decide) fun cdv A outer s H E ss kk hr h => ?_
  · obtain ⟨_, _, e, _⟩ := h
    rw [e]; rfl
  · obtain ⟨p, z, e, hp, hk⟩ := h
    subst e
    refine ⟨_, (pss_cons (ps_setLc (i := 3) (own := [("piece", 5)]) (g := (gName 5)) rfl sc_refusal.nd rfl rfl (sw_true rfl rfl rfl (by decide +kernel)) (kk_pil K (pe_fz (pe_callD D_claimed_there (hr.mono (by decide)) (by rfl) (pa_cons (pv 1) pa_nil)))) (blkOk_by (own := [("piece", 5)]) (N := N_refusal) (sc := defScope s_refusal) (by decide +kernel)) (fun _ _ _ _ _ => (pg_name (i := 5) sc_refusal.nd rfl (Or.inl rfl))) (fun _ _ _ _ _ => (pts_one (pt_cmpR op_gt (pe_ix (kk_ixL K) (kk_fld K (pv 0) rfl) (pv 5) (fun _ _ => rfl)) (pv 2) (nomark _)))) (fun _ _ _ _ _ => (pv 5)))
      (pss_cons (ps_if (pt_cmpR (kk_neD K hr.units) (pv 3) (pe_lst pa_nil) (nomark _)) (pss_one (ps_ret (pe_tup (pa_cons pe_str (pa_cons (pe_ix (kk_ixL K) (pv 3) pe_int (fun _ _ => rfl)) pa_nil))))) pss_nil)
      (pss_cons (ps_setLc (i := 4) (own := [("piece", 5)]) (g := (gName 5)) rfl sc_refusal.nd rfl rfl (sw_true rfl rfl rfl (by decide +kernel)) (kk_pil K (pe_ix (kk_ixT K) (pv 1) pe_int (fun _ _ => rfl))) (blkOk_by (own := [("piece", 5)]) (N := N_refusal) (sc := defScope s_refusal) (by decide +kernel)) (fun _ _ _ _ _ => (pg_name (i := 5) sc_refusal.nd rfl (Or.inl rfl))) (fun _ _ _ _ _ => (pts_one (pt_cmpR op_lt (pe_ix (kk_ixL K) (kk_fld K (pv 0) rfl) (pv 5) (fun _ _ => rfl)) (pv 2) (nomark _)))) (fun _ _ _ _ _ => (pv 5)))
      (pss_one (ps_ret (pe_ifExp (pt_cmpR (kk_neD K hr.units) (pv 4) (pe_lst pa_nil) (nomark _)) (pe_tup (pa_cons pe_str (pa_cons (pe_ix (kk_ixL K) (pv 4) pe_int (fun _ _ => rfl)) pa_nil))) pe_non)))))), ?_⟩
    walk_at "go"
    refine ex_lcT (by decide) (ix_list tg_name ?_)
    walk_at "go"
    refine ⟨rfl, ?_⟩
    walk_at "go"
    refine ⟨fun _ _ => trivial, Nat.zero_le _, ⟨trivial, trivial⟩, Int, [], Dat.int, (fun _ => true), Dat.int, rfl, fun x hx => (nomatch hx), fun x hx => (nomatch hx), ?_⟩
    walk_at "go"
    walk_at "F"
    refine ex_lcT (by decide) (ix_list tg_name ?_)
    walk_at "go"
    refine ⟨fun _ _ => trivial, Nat.zero_le _, ⟨trivial, trivial⟩, Int, [], Dat.int, (fun _ => true), Dat.int, rfl, fun x hx => (nomatch hx), fun x hx => (nomatch hx), ?_⟩
    walk_at "go"
    walk_at "F"
    exact hk
theorem lower_rises {p : Pl} {r : Int} : (p.lower r).Pairwise (· < ·) := by
  unfold Pl.lower
  rw [List.pairwise_map]
  exact (List.Pairwise.filter _ (List.pairwise_lt_range)).imp fun h => by omega
theorem lower_le {p : Pl} {r : Int} : (p.lower r).length ≤ p.parts.length := by
  unfold Pl.lower
  rw [List.length_map]
  exact Nat.le_trans (List.length_filter_le _ _) (by rw [List.length_range]; exact Nat.le_refl _)
def dSureIn : DF := fun ss k => ∃ (p : Pl) (z : Int), ss = [.im p.enc, .im noClaims, .im (.int z)] ∧ PlOk p ∧ 0 ≤ z ∧ z < (p.epochs : Nat) ∧ k (.ow ((p.lower z).map Dat.int))
theorem ok_sure_in {f : Addr} {fd : FuncData} (F : Fun K "sure_in" "sure_in" s_sure_in f fd) (T : Txt mg) (PC : PlanC K C) (D_is_below : DefOk P w K mg base "is_below" 2 P_is_below (SpD C dIsBelow)) (D_check_claims : DefOk P w K mg base "check_claims" 5 P_check_claims (SpD C dCheckClaims)) (D_Plan_epochs : PrpOk P w K mg base C "epochs" 1 (SpD C dPlEpochs)) (D_refusal : DefOk P w K mg base "refusal" 2 P_refusal (SpD C dRefusal)) (D_lower_pieces : DefOk P w K mg base "lower_pieces" 1 P_lower_pieces (SpD C dLower)) (D_claimed_there : DefOk P w K mg base "claimed_there" 1 P_claimed_there (SpD C dClaimed)) : FnOk P w K mg base CX0 6 f fd P_sure_in (SpD C dSureIn) := by
  refine fn_pure F sc_sure_in (fun ss k h => ?_) (by decide) fun cdv A outer s H E ss kk hr h => ?_
  · obtain ⟨_, _, e, _⟩ := h
    rw [e]; rfl
  · obtain ⟨p, z, e, hp, h0, h1, hk⟩ := h
    subst e
    refine ⟨_, (pss_cons (ps_expr (pe_callD D_check_claims (hr.mono (by decide)) (by rfl) (pa_cons (pv 0) (pa_cons (pv 1) pa_nil))))
      (pss_cons (ps_if (pt_not (pt_val (pe_callD D_is_below (hr.mono (by decide)) (by rfl) (pa_cons (pv 2) (pa_cons (pe_propD D_Plan_epochs (pv 0) (hr.mono (by decide)) rfl) pa_nil))))) pss_never pss_nil)
      (pss_cons (ps_if (pt_cmpR op_notN (pe_callD D_refusal (hr.mono (by decide)) (by rfl) (pa_cons (pv 0) (pa_cons (pv 1) (pa_cons (pv 2) pa_nil)))) pe_non (nomark _)) (pss_one (ps_ret pe_non)) pss_nil)
      (pss_one (ps_ret (pe_callB (cr_sortedSet rfl) (by rfl) T.b_sorted (by decide +kernel) (pa_cons (pe_callTy (cr_setI rfl) (by rfl) T.b_set (by decide +kernel) (pa_cons (pe_fz (pe_lst (kk_star K (pe_callD D_lower_pieces (hr.mono (by decide)) (by rfl) (pa_cons (pv 0) (pa_cons (pv 2) pa_nil))) (kk_star K (pe_callD D_claimed_there (hr.mono (by decide)) (by rfl) (pa_cons (pv 1) pa_nil)) pa_nil)))) pa_nil)) pa_nil))))))), ?_⟩
    have hf := hp.few
    have hll := lower_le (p := p) (r := z)
    walk_at "go"
    refine ⟨hp, ?_⟩
    walk_at "go"
    rw [isBelow_iff.mpr ⟨h0, h1⟩]
    walk_at "go"
    refine ⟨hp, ?_⟩
    walk_at "go"
    refine iteE (c := false) (by rfl) ?_
    walk_at "go"
    refine ⟨hp, ?_⟩
    walk_at "go"
    refine ⟨rfl, ?_⟩
    walk_at "go"
    refine ⟨(p.lower z).map Dat.int, by simp, by rw [List.length_map]; exact Nat.le_trans (Nat.le_trans hll hf) (by decide), .inl ⟨_, rfl, p.lower z, rfl, by omega, fun ms h1 h2 => ?_⟩⟩
    rw [rising_eq h1 lower_rises h2]
    exact ⟨trivial, hk⟩
end
end Af
end

section
set_option maxHeartbeats 4000000
namespace Af
open PySem L2
local macro_rules | `(tactic| walk_at "sc") => `(tactic| first | exact ScD.int _ | exact ScD.bl _ | exact ScD.non | exact ScD.str _ | exact ScD.ty _ | exact ScD.cls _)
local macro_rules | `(tactic| walk_at "rx") => `(tactic| first
  | ((with_reducible refine' rx_ixT ?h ?_); (case h => exact rfl))
  | ((with_reducible refine' rx_ixL ?h1 ?h2 ?_); (case h1 => exact rfl); (case h2 => exact rfl))
  | with_reducible refine rx_I0i ?_
  | with_reducible refine rx_I0b ?_
  | ((with_reducible refine' rx_Ii ?h ?_); (case h => first | decide | (show (0 : Int) < _; omega)))
  | with_reducible refine rx_eqI ?_
  | with_reducible refine rx_neI ?_
  | with_reducible refine rx_neB ?_
  | with_reducible refine rx_isN ?_
  | with_reducible refine rx_notN ?_
  | with_reducible refine rx_neT ?_
  | ((with_reducible refine' rx_neN ?h1 ?h2 ?_); (case h1 => exact rfl); (case h2 => exact rfl))
  | ((with_reducible refine' rx_eqN ?h1 ?h2 ?_); (case h1 => exact rfl); (case h2 => exact rfl)))
local macro_rules | `(tactic| walk_at "go1") => `(tactic| first
  | with_reducible refine sx_seq ?_
  | ((with_reducible refine' sx_retO ?h ?_); (case h => exact rfl))
  | ((with_reducible refine' sx_retD ?h ?_); (case h => exact rfl))
  | with_reducible refine sx_ret ?_
  | ((with_reducible refine' sx_fldM ?z ?a ?b ?c ?d ?_); (case z => exact rfl); (case a => assumption); (case b => assumption); (case c => assumption); (case d => exact Nat.le_of_ble_eq_true rfl))
  | ((with_reducible refine' sx_append ?h ?_); (case h => exact rfl))
  | ((with_reducible refine' sx_extend ?h ?_); (case h => exact rfl))
  | with_reducible refine sx_drop ?_
  | with_reducible refine sx_retN ?_
  | with_reducible refine sx_next ?_
  | with_reducible refine sx_if ?_
  | with_reducible refine sx_asg ?_
  | with_reducible refine sx_asgT ?_
  | ((with_reducible refine' ex_im ?h ?_); (case h => exact rfl))
  | ((with_reducible refine' ex_ow ?h ?_); (case h => exact rfl))
  | ((with_reducible refine' ex_ro ?h ?_); (case h => exact rfl))
  | ((with_reducible refine' ex_od ?h ?_); (case h => exact rfl))
  | ((with_reducible refine' ex_pn ?h ?_); (case h => exact rfl))
  | ((with_reducible refine' ex_mk ?h ?_); (case h => exact rfl))
  | ((with_reducible refine' ex_ri ?h ?_); (case h => exact rfl))
  | ((with_reducible refine' ex_qi ?h ?_); (case h => exact rfl))
  | ((with_reducible refine' ex_bl ?h ?_); (case h => exact rfl))
  | ((with_reducible refine' ex_c ?h ?_); (case h => walk_at "sc"))
  | with_reducible refine ex_op ?_
  | with_reducible refine ex_andV ?_
  | with_reducible refine ex_orV ?_
  | with_reducible refine ex_notV ?_
  | with_reducible refine ex_if ?_
  | with_reducible refine ex_chain ?_
  | with_reducible refine ex_tup ?_
  | with_reducible refine ex_lst ?_
  | with_reducible refine ex_sortedSet ?_
  | with_reducible refine ex_countN ?_
  | with_reducible refine ex_revL ?_
  | with_reducible refine ex_cb ?_
  | with_reducible refine ex_call ?_
  | with_reducible refine ex_callB ?_
  | with_reducible refine exa_nil ?_
  | with_reducible refine exa_cons ?_
  | with_reducible refine et_test ?_
  | with_reducible refine et_B ?_
  | with_reducible refine et_and ?_
  | with_reducible refine et_or ?_
  | with_reducible refine et_not ?_
  | walk_at "rx"
  | ((with_reducible refine' cx_isi (b := true) ?h ?k ?_); (case h => exact rfl); (case k => decide +kernel))
  | ((with_reducible refine' cx_isi (b := false) ?h ?k ?_); (case h => exact rfl); (case k => decide +kernel))
  | ((with_reducible refine' cx_len ?h ?_); (case h => exact rfl))
  | ((with_reducible refine' cx_list ?h ?_); (case h => exact rfl))
  | ((with_reducible refine' cx_tuple ?h ?_); (case h => exact rfl))
  | ((with_reducible refine' cx_allF ?h ?_); (case h => exact rfl))
  | ((with_reducible refine' cx_anyF ?h ?_); (case h => exact rfl))
  | with_reducible refine cx_intI ?_
  | with_reducible refine cx_intB ?_
  | with_reducible refine ex_fz ?_
  | refine .inl ⟨_, rfl, ?_⟩
  | refine .inr ⟨_, rfl, ?_⟩
  | ((with_reducible refine' sx_par ?_))
  | ((with_reducible refine' sx_dput ?h); (case h => skip))
  | with_reducible refine cx_max2 ?_
  | with_reducible refine cx_min2 ?_
  | ((with_reducible refine' cx_dict ?h ?_); (case h => exact rfl))
  | with_reducible refine ex_make ?_
  | ((with_reducible refine' ex_fzV ?h ?_); (case h => exact rfl))
  | ((with_reducible refine' ex_fzVD ?h ?_); (case h => exact rfl))
  | ((with_reducible refine' ex_start ?pc ?_); (case pc => assumption))
  | ((with_reducible refine' ex_span ?pc ?_); (case pc => assumption))
  | ((with_reducible refine' ex_deeds ?pc ?_); (case pc => assumption))
  | ((with_reducible refine' ex_parts ?pc ?_); (case pc => assumption))
  | ((with_reducible refine' ex_ranks ?pc ?_); (case pc => assumption))
  | with_reducible refine ex_fld ?_
  | with_reducible refine ex_prop ?_
  | with_reducible refine ex_lenSet ?_
  | with_reducible refine ex_dictEnum ?_
  | with_reducible refine ex_dget2 ?_
  | with_reducible refine ex_disp1 ?_
  | with_reducible refine ex_listRg1 ?_
  | with_reducible refine cx_isC ?_
  | with_reducible refine ex_meth ?_
  | with_reducible refine ex_slT ?_
  | with_reducible refine ex_slL ?_
  | with_reducible refine exo_none ?_
  | with_reducible refine exo_some ?_
  | with_reducible refine ex_dget ?_
  | with_reducible refine ex_din ?_
  | with_reducible refine ex_dnotin ?_
  | with_reducible refine ex_dnew ?_
  | with_reducible refine exa_star ?_
  | with_reducible refine iteT ?_
  | with_reducible refine iteF ?_
  | with_reducible refine iteNF ?_
  | with_reducible refine iteNT ?_
  | refine ⟨(trivial : RetOk (Sl.im _)), ?_⟩
  | refine ⟨(trivial : RetOk (Sl.ow _)), ?_⟩
  | refine ⟨[], rfl, Nat.le_of_ble_eq_true rfl, ?_⟩
  | refine ⟨[_], rfl, Nat.le_of_ble_eq_true rfl, ?_⟩
  | refine ⟨[_, _], rfl, Nat.le_of_ble_eq_true rfl, ?_⟩
  | refine ⟨[_, _, _], rfl, Nat.le_of_ble_eq_true rfl, ?_⟩
  | refine ⟨[_, _, _, _, _], rfl, Nat.le_of_ble_eq_true rfl, ?_⟩
  | refine ⟨rfl, rfl, ?_⟩
  | refine ⟨_, _, _, rfl, by assumption, by assumption, rfl, ?_⟩
  | refine ⟨npI, ?_⟩
  | refine ⟨npO, ?_⟩
  | refine ⟨npD, ?_⟩
  | refine ⟨npQ, ?_⟩
  | refine ⟨_, rfl, ?_⟩
  | refine ⟨_, _, rfl, ?_⟩
  | refine ⟨_, _, _, rfl, ?_⟩
  | refine ⟨_, _, _, _, rfl, ?_⟩
  | ((with_reducible refine' andGet ?h ?_); (case h => exact rfl)))
local macro_rules | `(tactic| walk_at "go") => `(tactic| repeat walk_at "go1")
local macro_rules | `(tactic| walk_at "T") => `(tactic| (refine iteE (c := true) rfl ?_; walk_at "go"))
local macro_rules | `(tactic| walk_at "F") => `(tactic| (refine iteE (c := false) rfl ?_; walk_at "go"))
/-! The peel: its state, told by data. -/
structure PeA where
  p : Addr
  a1 : Addr
  a2 : Addr
  a3 : Addr
  a4 : Addr
structure PeA.Ok (A : PeA) : Prop where
  h01 : A.p ≠ A.a1
  h02 : A.p ≠ A.a2
  h03 : A.p ≠ A.a3
  h04 : A.p ≠ A.a4
  h12 : A.a1 ≠ A.a2
  h13 : A.a1 ≠ A.a3
  h14 : A.a1 ≠ A.a4
  h23 : A.a2 ≠ A.a3
  h24 : A.a2 ≠ A.a4
  h34 : A.a3 ≠ A.a4
structure PeS where
  pl : Pl
  e : Int
  bot : List (Int × Int)
  sure : List Int
  S : PS
  sp : List (Int × Int)
  fin : Bool
abbrev encNeed (n : Pat) : List (Int × Dat) := n.map fun q => (q.1, tupI q.2)
@[reducible] def PeS.fs (A : PeA) (z : PeS) : List (Str × Dat) := [("given", z.pl.enc), ("epoch", .int z.e), ("needed", .cls A.a1), ("bottom", .dct (encCells z.bot)), ("chains", .dct []), ("sure", lstI z.sure), ("left", .cls A.a2), ("taken", .cls A.a3), ("spoils", .cls A.a4), ("ended", .bl z.fin)]
@[reducible] def PeS.st (A : PeA) (c : Addr) (z : PeS) : List Sl := [.mk A.p c (z.fs A), .bd A.a1 (encNeed z.S.need), .bl A.a2 (z.S.left.map Dat.int), .bl A.a3 (z.S.taken.map Dat.int), .bd A.a4 (encCells z.sp)]
/-- what a piece, or the base, writes -/
def PeS.wr (z : PeS) (i : Int) : List (Int × Int) := if i = -1 then z.bot else z.pl.cells i
def bad (o : Option Int) (ch : List Int) : Bool := match o with
  | some w => decide (w ∉ ch)
  | none => false
def spL (need : Pat) (w : List (Int × Int)) : List Int := (need.filter fun q => bad (lkp w q.1) q.2).map (·.1)
structure NeedOk (n : Pat) : Prop where
  nd : (n.map (·.1)).Nodup
  few : n.length ≤ 100
structure PeelC (K : PySem.W.Frag) (c : Addr) : Prop where
  cls : Cls K c
  n_given : NoAttr K c "given"
  n_epoch : NoAttr K c "epoch"
  n_needed : NoAttr K c "needed"
  n_bottom : NoAttr K c "bottom"
  n_chains : NoAttr K c "chains"
  n_sure : NoAttr K c "sure"
  n_left : NoAttr K c "left"
  n_taken : NoAttr K c "taken"
  n_spoils : NoAttr K c "spoils"
  n_ended : NoAttr K c "ended"
theorem look_cells (l : List (Int × Int)) (c : Int) : lookK (encCells l) c = (lkp l c).map Dat.int := by
  unfold lookK lkp encCells
  induction l with
  | nil => rfl
  | cons q l ih =>
    rw [List.map_cons, List.find?_cons, List.find?_cons]
    by_cases e : q.1 = c
    · simp [e]
    · simp only [e, decide_false]
      exact ih
theorem look_need {n : Pat} {q : Int × List Int} (hq : q ∈ n) (hn : (n.map (·.1)).Nodup) : lookK (encNeed n) q.1 = some (tupI q.2) := by
  unfold lookK encNeed
  induction n with
  | nil => cases hq
  | cons r n ih =>
    rw [List.map_cons, List.nodup_cons] at hn
    rw [List.map_cons, List.find?_cons]
    by_cases e : r.1 = q.1
    · rcases List.mem_cons.mp hq with z | z
      · subst z; simp
      · exact absurd (List.mem_map.mpr ⟨q, z, e.symm⟩) hn.1
    · rcases List.mem_cons.mp hq with z | z
      · subst z; exact absurd rfl e
      · simp only [e, decide_false]
        exact ih z hn.2
theorem lock_fs (A : PeA) (h : A.Ok) (z : PeS) (ks : List (Int × Dat)) : (z.fs A).map (fun q => (q.1, lockD A.a1 ks q.2)) = ([("given", z.pl.enc), ("epoch", .int z.e), ("needed", .dct ks), ("bottom", .dct (encCells z.bot)), ("chains", .dct []), ("sure", lstI z.sure), ("left", .cls A.a2), ("taken", .cls A.a3), ("spoils", .cls A.a4), ("ended", .bl z.fin)] : List (Str × Dat)) := by
  simp [PeS.fs, lockD, h.h12.symm, h.h13.symm, h.h14.symm]
theorem lock_env (A : PeA) (h : A.Ok) (z : PeS) (c : Addr) (i : Int) (W : List (Int × Dat)) : ([.mk A.p c (z.fs A), .im (.int i), .im (.dct W), .un, .bd A.a1 (encNeed z.S.need), .bl A.a2 (z.S.left.map Dat.int), .bl A.a3 (z.S.taken.map Dat.int), .bd A.a4 (encCells z.sp)] : Sls).map (lockS A.a1 (encNeed z.S.need)) =
    [.ri c [("given", z.pl.enc), ("epoch", .int z.e), ("needed", .dct (encNeed z.S.need)), ("bottom", .dct (encCells z.bot)), ("chains", .dct []), ("sure", lstI z.sure), ("left", .cls A.a2), ("taken", .cls A.a3), ("spoils", .cls A.a4), ("ended", .bl z.fin)], .im (.int i), .im (.dct W), .un, .im (.dct (encNeed z.S.need)), .un, .un, .un] := by
  have e := lock_fs A h z (encNeed z.S.need)
  simp only [List.map_cons, List.map_nil, lockS, e, h.h14.symm, if_true, if_false]
section
variable {P : Program} {w : World} {K : PySem.W.Frag} {mg : Str → Option Value} {base : Heap} {C c : Addr}
abbrev bSpoilt (c : Addr) : DB := fun ds st k => ∃ (A : PeA) (z : PeS) (i : Int), ds = [.int i] ∧ st = z.st A c ∧ A.Ok ∧ PlOk z.pl ∧ (i = -1 ∨ z.pl.sys.isP i) ∧ NeedOk z.S.need ∧ k (.ow ((spL z.S.need (z.wr i)).map Dat.int)) (z.st A c)
theorem ok_Peel_spoilt {f : Addr} {fd : FuncData} (F : Fun K "spoilt" "Peel.spoilt" s_Peel_spoilt f fd) (T : Txt mg) (PC : PlanC K C) (PE : PeelC K c) (D_cells_in : DefOk P w K mg base "cells_in" 1 P_cells_in (SpD C dCellsIn)) : FnOk P w K mg base CX0 2 f fd P_Peel_spoilt (SpB C (bSpoilt c)) := by
  refine fn_bor (g := 4) F sc_Peel_spoilt (fun ds st k h => ?_) (by decide) (by decide) fun cdv A outer s H E ds s0 st kk hr h => ?_
  · obtain ⟨_, _, _, e1, e2, _⟩ := h
    rw [e1, e2]; exact ⟨rfl, rfl⟩
  · obtain ⟨A, z, i, e1, e2, hA, hp, hi, hn, hk⟩ := h
    subst e1
    simp only [PeS.st, List.cons.injEq] at e2
    obtain ⟨rfl, rfl⟩ := e2
    refine ⟨_, (pss_cons (ps_set (i := 2) sc_Peel_spoilt.nd rfl (Or.inr rfl) (pe_ifExp (pt_cmpR op_eq (pv 1) (pe_cI (by rfl) T.c_BASE) (nomark _)) (kk_fld K (pv 0) rfl) (pe_fz (pe_callD D_cells_in (hr.mono (by decide)) (by rfl) (pa_cons (kk_fld K (pv 0) rfl) (pa_cons (pv 1) pa_nil))))))
      (pss_one (ps_ret (pe_lock (pe_lc (own := [("cell", 3)]) (g := (gName 3)) rfl sc_Peel_spoilt.nd (pi_keys (kk_fld K (pv 0) rfl)) (blkOk_by (own := [("cell", 3)]) (N := N_Peel_spoilt) (sc := defScope s_Peel_spoilt) (by decide +kernel)) (fun _ _ _ _ _ => (pg_name (i := 3) sc_Peel_spoilt.nd rfl (Or.inl rfl))) (fun _ _ _ _ _ => (pts_one (PW.pt (pw_and (pt_cmp (pc_din (hu_of hr) (pv 3) (pv 2)) rfl) (pw_and1 (pt_cmpR (kk_notIn K) (pe_dget (hu_of hr) (pv 2) (pv 3) (fun _ _ => rfl)) (pe_dget (hu_of hr) (kk_fld K (pv 0) rfl) (pv 3) (fun _ _ => rfl)) rfl)))))) (fun _ _ _ _ _ => (pv 3))))))), ?_⟩
    obtain ⟨g0, g1, g2, g3, g4, g5, g6, g7, g8, g9, g10⟩ := PE
    refine sx_seq (sx_asg (EX.fix (s0 := .im (.dct (encCells (z.wr i)))) ?_ ⟨npI, ?_⟩))
    · walk_at "go"
      unfold PeS.wr
      by_cases h1 : i = -1
      · rw [decide_eq_true h1, if_pos h1]
        walk_at "go"
        exact ⟨rfl, rfl⟩
      · rw [decide_eq_false h1, if_neg h1]
        walk_at "go"
        refine ⟨hp, hi.resolve_left h1, ?_⟩
        walk_at "go"
        exact ⟨rfl, rfl⟩
    · refine sx_ret (ex_lockB (j := 4) rfl ?_)
      have hl := lock_env A hA z c i (encCells (z.wr i))
      refine (?_ : EX C _ (List.map (lockS A.a1 (encNeed z.S.need)) [.mk A.p c (z.fs A), .im (.int i), .im (.dct (encCells (z.wr i))), .un, .bd A.a1 (encNeed z.S.need), .bl A.a2 (z.S.left.map Dat.int), .bl A.a3 (z.S.taken.map Dat.int), .bd A.a4 (encCells z.sp)]) _)
      rw [hl]
      refine ex_lcT (by decide) (ix_keys tg_name ?_)
      walk_at "go"
      refine ⟨by simp; exact Nat.le_trans hn.few (by decide), ⟨trivial, trivial⟩, Int × List Int, z.S.need, (fun q => .int q.1), (fun q => bad (lkp (z.wr i) q.1) q.2), (fun q => .int q.1), by simp, fun q hq => ?_, fun q hq _ => ?_, ?_⟩
      · walk_at "go"
        rw [look_cells]
        cases hw : lkp (z.wr i) q.1 with
        | none =>
          walk_at "F"
          exact ⟨by show false = bad (lkp (z.wr i) q.1) q.2; rw [hw]; rfl, rfl⟩
        | some x =>
          walk_at "T"
          refine ⟨_, _, .int x, rfl, rfl, by rw [look_cells, hw]; rfl, ?_⟩
          walk_at "go"
          refine ⟨_, _, _, rfl, rfl, look_need hq hn.nd, ?_⟩
          refine rx_inT (neg := true) rfl ?_
          refine ⟨_, rfl, ?_, rfl⟩
          show _ = bad (lkp (z.wr i) q.1) q.2
          rw [hw]
          simp [bad]
      · walk_at "go"
        exact ⟨rfl, rfl⟩
      · refine ⟨spL z.S.need (z.wr i), ?_, trivial, rfl, hk⟩
        unfold spL
        rw [List.map_map]
        rfl
end
end Af
end

section
set_option maxHeartbeats 4000000
namespace Af
open PySem L2
local macro_rules | `(tactic| walk_at "sc") => `(tactic| first | exact ScD.int _ | exact ScD.bl _ | exact ScD.non | exact ScD.str _ | exact ScD.ty _ | exact ScD.cls _)
local macro_rules | `(tactic| walk_at "rx") => `(tactic| first
  | ((with_reducible refine' rx_ixT ?h ?_); (case h => exact rfl))
  | ((with_reducible refine' rx_ixL ?h1 ?h2 ?_); (case h1 => exact rfl); (case h2 => exact rfl))
  | with_reducible refine rx_I0i ?_
  | with_reducible refine rx_I0b ?_
  | ((with_reducible refine' rx_Ii ?h ?_); (case h => first | decide | (show (0 : Int) < _; omega)))
  | with_reducible refine rx_eqI ?_
  | with_reducible refine rx_neI ?_
  | with_reducible refine rx_neB ?_
  | with_reducible refine rx_isN ?_
  | with_reducible refine rx_notN ?_
  | with_reducible refine rx_neT ?_
  | ((with_reducible refine' rx_neN ?h1 ?h2 ?_); (case h1 => exact rfl); (case h2 => exact rfl))
  | ((with_reducible refine' rx_eqN ?h1 ?h2 ?_); (case h1 => exact rfl); (case h2 => exact rfl)))
local macro_rules | `(tactic| walk_at "go1") => `(tactic| first
  | with_reducible refine sx_seq ?_
  | ((with_reducible refine' sx_retO ?h ?_); (case h => exact rfl))
  | ((with_reducible refine' sx_retD ?h ?_); (case h => exact rfl))
  | with_reducible refine sx_ret ?_
  | ((with_reducible refine' sx_fldM ?z ?a ?b ?c ?d ?_); (case z => exact rfl); (case a => assumption); (case b => assumption); (case c => assumption); (case d => exact Nat.le_of_ble_eq_true rfl))
  | ((with_reducible refine' sx_append ?h ?_); (case h => exact rfl))
  | ((with_reducible refine' sx_extend ?h ?_); (case h => exact rfl))
  | with_reducible refine sx_drop ?_
  | with_reducible refine sx_retN ?_
  | with_reducible refine sx_next ?_
  | with_reducible refine sx_if ?_
  | with_reducible refine sx_asg ?_
  | with_reducible refine sx_asgT ?_
  | ((with_reducible refine' ex_im ?h ?_); (case h => exact rfl))
  | ((with_reducible refine' ex_ow ?h ?_); (case h => exact rfl))
  | ((with_reducible refine' ex_ro ?h ?_); (case h => exact rfl))
  | ((with_reducible refine' ex_od ?h ?_); (case h => exact rfl))
  | ((with_reducible refine' ex_pn ?h ?_); (case h => exact rfl))
  | ((with_reducible refine' ex_mk ?h ?_); (case h => exact rfl))
  | ((with_reducible refine' ex_ri ?h ?_); (case h => exact rfl))
  | ((with_reducible refine' ex_qi ?h ?_); (case h => exact rfl))
  | ((with_reducible refine' ex_bl ?h ?_); (case h => exact rfl))
  | ((with_reducible refine' ex_c ?h ?_); (case h => walk_at "sc"))
  | with_reducible refine ex_op ?_
  | with_reducible refine ex_andV ?_
  | with_reducible refine ex_orV ?_
  | with_reducible refine ex_notV ?_
  | with_reducible refine ex_if ?_
  | with_reducible refine ex_chain ?_
  | with_reducible refine ex_tup ?_
  | with_reducible refine ex_lst ?_
  | with_reducible refine ex_sortedSet ?_
  | with_reducible refine ex_countN ?_
  | with_reducible refine ex_revL ?_
  | with_reducible refine ex_cb ?_
  | with_reducible refine ex_call ?_
  | with_reducible refine ex_callB ?_
  | with_reducible refine exa_nil ?_
  | with_reducible refine exa_cons ?_
  | with_reducible refine et_test ?_
  | with_reducible refine et_B ?_
  | with_reducible refine et_and ?_
  | with_reducible refine et_or ?_
  | with_reducible refine et_not ?_
  | walk_at "rx"
  | ((with_reducible refine' cx_isi (b := true) ?h ?k ?_); (case h => exact rfl); (case k => decide +kernel))
  | ((with_reducible refine' cx_isi (b := false) ?h ?k ?_); (case h => exact rfl); (case k => decide +kernel))
  | ((with_reducible refine' cx_len ?h ?_); (case h => exact rfl))
  | ((with_reducible refine' cx_list ?h ?_); (case h => exact rfl))
  | ((with_reducible refine' cx_tuple ?h ?_); (case h => exact rfl))
  | ((with_reducible refine' cx_allF ?h ?_); (case h => exact rfl))
  | ((with_reducible refine' cx_anyF ?h ?_); (case h => exact rfl))
  | with_reducible refine cx_intI ?_
  | with_reducible refine cx_intB ?_
  | with_reducible refine ex_fz ?_
  | refine .inl ⟨_, rfl, ?_⟩
  | refine .inr ⟨_, rfl, ?_⟩
  | ((with_reducible refine' sx_par ?_))
  | ((with_reducible refine' sx_dput ?h); (case h => skip))
  | with_reducible refine cx_max2 ?_
  | with_reducible refine cx_min2 ?_
  | ((with_reducible refine' cx_dict ?h ?_); (case h => exact rfl))
  | with_reducible refine ex_make ?_
  | ((with_reducible refine' ex_fzV ?h ?_); (case h => exact rfl))
  | ((with_reducible refine' ex_fzVD ?h ?_); (case h => exact rfl))
  | ((with_reducible refine' ex_start ?pc ?_); (case pc => assumption))
  | ((with_reducible refine' ex_span ?pc ?_); (case pc => assumption))
  | ((with_reducible refine' ex_deeds ?pc ?_); (case pc => assumption))
  | ((with_reducible refine' ex_parts ?pc ?_); (case pc => assumption))
  | ((with_reducible refine' ex_ranks ?pc ?_); (case pc => assumption))
  | with_reducible refine ex_fld ?_
  | with_reducible refine ex_prop ?_
  | with_reducible refine ex_lenSet ?_
  | with_reducible refine ex_neg ?_
  | with_reducible refine ex_dictEnum ?_
  | with_reducible refine ex_dget2 ?_
  | with_reducible refine ex_disp1 ?_
  | with_reducible refine ex_listRg1 ?_
  | with_reducible refine cx_isC ?_
  | with_reducible refine ex_meth ?_
  | with_reducible refine ex_slT ?_
  | with_reducible refine ex_slL ?_
  | with_reducible refine exo_none ?_
  | with_reducible refine exo_some ?_
  | with_reducible refine ex_dget ?_
  | with_reducible refine ex_din ?_
  | with_reducible refine ex_dnotin ?_
  | with_reducible refine ex_dnew ?_
  | with_reducible refine exa_star ?_
  | with_reducible refine iteT ?_
  | with_reducible refine iteF ?_
  | with_reducible refine iteNF ?_
  | with_reducible refine iteNT ?_
  | refine ⟨(trivial : RetOk (Sl.im _)), ?_⟩
  | refine ⟨(trivial : RetOk (Sl.ow _)), ?_⟩
  | refine ⟨[], rfl, Nat.le_of_ble_eq_true rfl, ?_⟩
  | refine ⟨[_], rfl, Nat.le_of_ble_eq_true rfl, ?_⟩
  | refine ⟨[_, _], rfl, Nat.le_of_ble_eq_true rfl, ?_⟩
  | refine ⟨[_, _, _], rfl, Nat.le_of_ble_eq_true rfl, ?_⟩
  | refine ⟨[_, _, _, _, _], rfl, Nat.le_of_ble_eq_true rfl, ?_⟩
  | refine ⟨rfl, rfl, ?_⟩
  | refine ⟨_, _, _, rfl, by assumption, by assumption, rfl, ?_⟩
  | refine ⟨npI, ?_⟩
  | refine ⟨npO, ?_⟩
  | refine ⟨npD, ?_⟩
  | refine ⟨npQ, ?_⟩
  | refine ⟨_, rfl, ?_⟩
  | refine ⟨_, _, rfl, ?_⟩
  | refine ⟨_, _, _, rfl, ?_⟩
  | refine ⟨_, _, _, _, rfl, ?_⟩
  | ((with_reducible refine' andGet ?h ?_); (case h => exact rfl)))
local macro_rules | `(tactic| walk_at "go") => `(tactic| repeat walk_at "go1")
local macro_rules | `(tactic| walk_at "T") => `(tactic| (refine iteE (c := true) rfl ?_; walk_at "go"))
local macro_rules | `(tactic| walk_at "F") => `(tactic| (refine iteE (c := false) rfl ?_; walk_at "go"))
theorem wr_pc {z : PeS} {i : Int} (h : z.pl.sys.isP i) : z.wr i = z.pl.cells i := by
  unfold PeS.wr
  rw [if_neg]
  intro e
  have := h.1
  omega
theorem drop_need (n : Pat) (k : Int) : dropKD (encNeed n) k = encNeed (n.filter fun q => decide (q.1 ≠ k)) := by
  unfold dropKD encNeed
  rw [List.filter_map]
  rfl
theorem need_all (l : List (Int × Int)) (c : Int) : (l.all fun x => decide (x.1 ≠ c)) = (lkp l c).isNone := by
  induction l with
  | nil => rfl
  | cons x l ih =>
    rw [List.all_cons, lkp_cons]
    by_cases e : x.1 = c
    · simp [e]
    · rw [decide_eq_true e, Bool.true_and, if_neg e]
      exact ih
section
variable {P : Program} {w : World} {K : PySem.W.Frag} {mg : Str → Option Value} {base : Heap} {C c : Addr}
abbrev bCan (c : Addr) : DB := fun ds st k => ∃ (A : PeA) (z : PeS) (i : Int), ds = [.int i] ∧ st = z.st A c ∧ A.Ok ∧ PlOk z.pl ∧ z.pl.sys.isP i ∧ NeedOk z.S.need ∧ k (.im (.bl (spL z.S.need (z.pl.cells i)).isEmpty)) (z.st A c)
theorem ok_Peel_can_be_last {f : Addr} {fd : FuncData} (F : Fun K "can_be_last" "Peel.can_be_last" s_Peel_can_be_last f fd) (T : Txt mg) (PC : PlanC K C) (PE : PeelC K c) (D_Peel_spoilt : MetOk P w K mg base c "spoilt" 2 P_Peel_spoilt (SpB C (bSpoilt c))) : FnOk P w K mg base CX0 3 f fd P_Peel_can_be_last (SpB C (bCan c)) := by
  refine fn_bor (g := 4) F sc_Peel_can_be_last (fun ds st k h => ?_) (by decide) (by decide) fun cdv A outer s H E ds s0 st kk hr h => ?_
  · obtain ⟨_, _, _, e1, e2, _⟩ := h
    rw [e1, e2]; exact ⟨rfl, rfl⟩
  · obtain ⟨A, z, i, e1, e2, hA, hp, hi, hn, hk⟩ := h
    subst e1
    simp only [PeS.st, List.cons.injEq] at e2
    obtain ⟨rfl, rfl⟩ := e2
    obtain ⟨g0, g1, g2, g3, g4, g5, g6, g7, g8, g9, g10⟩ := PE
    have n01 := hA.h01
    have n02 := hA.h02
    have n03 := hA.h03
    have n04 := hA.h04
    have n12 := hA.h12
    have n13 := hA.h13
    have n14 := hA.h14
    have n23 := hA.h23
    have n24 := hA.h24
    have n34 := hA.h34
    have m12 := n12.symm
    have m13 := n13.symm
    have m14 := n14.symm
    have m23 := n23.symm
    have m24 := n24.symm
    have m34 := n34.symm
    refine ⟨_, (pss_cons (ps_if (pt_val (pe_callB (kk_any K rfl) (by rfl) T.b_any (by decide +kernel) (pa_cons (pe_lc (own := [("other", 2)]) (g := (gName 2)) rfl sc_Peel_can_be_last.nd (pi_keys (pe_dget2 (hu_of hr) (kk_fld K (pv 0) rfl) (pv 1) (pe_fz pe_dnewK) ⟨rfl, rfl, rfl, rfl⟩)) (blkOk_by (own := [("other", 2)]) (N := N_Peel_can_be_last) (sc := defScope s_Peel_can_be_last) (by decide +kernel)) (fun _ _ _ _ _ => (pg_name (i := 2) sc_Peel_can_be_last.nd rfl (Or.inl rfl))) (fun _ _ _ _ _ => pts_nil) (fun _ _ _ _ _ => (pe_cmpR (kk_in K) (pv 2) (kk_fld K (pv 0) rfl) rfl))) pa_nil))) (pss_one (ps_ret pe_bl)) pss_nil)
      (pss_one (ps_ret (pe_cmpR (kk_eqD K hr.units) (pe_methD D_Peel_spoilt (pv 0) (hr.mono (by decide)) (pa_cons (pv 1) pa_nil)) (pe_lst pa_nil) (nomark _))))), ?_⟩
    walk_at "go"
    refine ex_lcY (by decide) (ix_keys tg_name ?_)
    walk_at "go"
    refine ⟨⟨trivial, trivial⟩, Int, [], Dat.int, (fun _ => .bl true), rfl, fun x hx => (nomatch hx), ?_⟩
    walk_at "go"
    refine iteE (c := false) (by rfl) ?_
    walk_at "go"
    refine ex_methB (i := 0) rfl rfl ?_
    walk_at "go"
    refine ⟨[.int i], rfl, rfl, rfl, A, z, i, rfl, rfl, hA, hp, .inr hi, hn, trivial, ?_⟩
    walk_at "go"
    rw [wr_pc hi]
    exact ⟨rfl, hk⟩
abbrev bTake (c : Addr) : DB := fun ds st k => ∃ (A : PeA) (z : PeS) (i : Int), ds = [.int i] ∧ st = z.st A c ∧ A.Ok ∧ PlOk z.pl ∧ z.pl.sys.isP i ∧ i ∈ z.S.left ∧ z.S.taken.length ≤ 1000 ∧ k (.im .non) ({ z with S := z.pl.sys.tk z.S i }.st A c)
theorem ok_Peel_take {f : Addr} {fd : FuncData} (F : Fun K "take" "Peel.take" s_Peel_take f fd) (T : Txt mg) (PC : PlanC K C) (PE : PeelC K c) (D_cells_in : DefOk P w K mg base "cells_in" 1 P_cells_in (SpD C dCellsIn)) : FnOk P w K mg base CX0 2 f fd P_Peel_take (SpB C (bTake c)) := by
  refine fn_bor (g := 4) F sc_Peel_take (fun ds st k h => ?_) (by decide) (by decide) fun cdv A outer s H E ds s0 st kk hr h => ?_
  · obtain ⟨_, _, _, e1, e2, _⟩ := h
    rw [e1, e2]; exact ⟨rfl, rfl⟩
  · obtain ⟨A, z, i, e1, e2, hA, hp, hi, hl, ht, hk⟩ := h
    subst e1
    simp only [PeS.st, List.cons.injEq] at e2
    obtain ⟨rfl, rfl⟩ := e2
    obtain ⟨g0, g1, g2, g3, g4, g5, g6, g7, g8, g9, g10⟩ := PE
    have n01 := hA.h01
    have n02 := hA.h02
    have n03 := hA.h03
    have n04 := hA.h04
    have n12 := hA.h12
    have n13 := hA.h13
    have n14 := hA.h14
    have n23 := hA.h23
    have n24 := hA.h24
    have n34 := hA.h34
    have m12 := n12.symm
    have m13 := n13.symm
    have m14 := n14.symm
    have m23 := n23.symm
    have m24 := n24.symm
    have m34 := n34.symm
    refine ⟨_, (pss_cons (ps_expr (kk_bm K PySem.F.plainAttrs_list PySem.F.slot_list_append PySem.F.type_list_append mt_append (kk_fld K (pv 0) rfl) (pa_cons (pv 1) pa_nil)))
      (pss_cons (ps_expr (kk_bm K PySem.F.plainAttrs_list PySem.F.slot_list_remove PySem.F.type_list_remove mt_remove (kk_fld K (pv 0) rfl) (pa_cons (pv 1) pa_nil)))
      (pss_one (ps_for (g := (gName 2)) PassesOwn.never rfl (pi_keys (pe_fz (pe_callD D_cells_in (hr.mono (by decide)) (by rfl) (pa_cons (kk_fld K (pv 0) rfl) (pa_cons (pv 1) pa_nil))))) (pg_name (i := 2) sc_Peel_take.nd rfl (Or.inl rfl)) (pss_one (ps_expr (pe_dpop2 (kk_fld K (pv 0) rfl) (pv 2) pe_non ⟨rfl, rfl, rfl, rfl⟩))))))), ?_⟩
    refine sx_seq (sx_appendB (j := 5) (a := A.a3) ?_)
    walk_at "go"
    refine ⟨.inr rfl, ?_⟩
    walk_at "go"
    refine ⟨⟨n03, n13, n23, m34, trivial⟩, by rw [List.length_map]; omega, ?_⟩
    refine sx_seq (sx_removeB (j := 4) (a := A.a2) ?_)
    walk_at "go"
    refine ⟨.inr rfl, ?_⟩
    walk_at "go"
    refine ⟨⟨n02, n12, m23, m24, trivial⟩, hl, ?_⟩
    refine sx_for (ix_keys tg_name ?_)
    walk_at "go"
    refine ⟨hp, hi, ?_⟩
    walk_at "go"
    refine ⟨fun pre e => ∃ s, (s = .un ∨ ∃ d, s = .im d) ∧ e = [.mk A.p c (z.fs A), .im (.int i), s, .bd A.a1 (encNeed (z.S.need.filter fun q => ((z.pl.cells i).take pre.length).all fun x => decide (x.1 ≠ q.1))), .bl A.a2 ((z.S.left.erase i).map Dat.int), .bl A.a3 ((z.S.taken ++ [i]).map Dat.int), .bd A.a4 (encCells z.sp)], ?_, ?_, ?_⟩
    · refine ⟨.un, .inl rfl, ?_⟩
      rw [show (z.S.need.filter fun q => ((z.pl.cells i).take ([] : List Dat).length).all fun x => decide (x.1 ≠ q.1)) = z.S.need from List.filter_eq_self.mpr (fun _ _ => rfl), List.map_append]
      rfl
    · rintro pre d post e hd ⟨s, hs, rfl⟩
      rw [List.map_map] at hd
      obtain ⟨q, hq, rfl⟩ := map_at hd
      refine sx_dpopB (j := 3) (a := A.a1) ?_
      walk_at "go"
      refine ⟨.inr rfl, ⟨_, rfl⟩, ?_⟩
      walk_at "go"
      refine ⟨⟨n01, m12, m13, m14, trivial⟩, ?_⟩
      dsimp only
      rw [drop_need, List.filter_filter, show (pre ++ [((fun p : Int × Dat => Dat.int p.1) ∘ fun q : Int × Int => (q.1, Dat.int q.2)) q]).length = pre.length + 1 by simp]
      refine ⟨.im (.int q.1), .inr ⟨_, rfl⟩, ?_⟩
      rw [show (z.S.need.filter fun r => ((z.pl.cells i).take (pre.length + 1)).all fun x => decide (x.1 ≠ r.1)) = z.S.need.filter (fun r => decide (r.1 ≠ q.1) && ((z.pl.cells i).take pre.length).all fun x => decide (x.1 ≠ r.1)) from ?_]
      · rfl
      · congr 1
        funext r
        rw [take_snoc hq, List.all_append, Bool.and_comm]
        congr 1
        simp [eq_comm]
    · rintro e ⟨s, hs, rfl⟩
      rw [List.length_map, List.length_map, List.take_length]
      rw [show (z.S.need.filter fun q => (z.pl.cells i).all fun x => decide (x.1 ≠ q.1)) = z.S.need.filter (fun q => (z.pl.sys.lk i q.1).isNone) by congr 1; funext q; exact need_all _ _]
      rcases hs with rfl | ⟨d, rfl⟩
      · exact ⟨rfl, hk⟩
      · exact ⟨rfl, hk⟩
end
end Af
end

section
set_option maxHeartbeats 4000000
namespace Af
open PySem L2
local macro_rules | `(tactic| walk_at "sc") => `(tactic| first | exact ScD.int _ | exact ScD.bl _ | exact ScD.non | exact ScD.str _ | exact ScD.ty _ | exact ScD.cls _)
local macro_rules | `(tactic| walk_at "rx") => `(tactic| first
  | ((with_reducible refine' rx_ixT ?h ?_); (case h => exact rfl))
  | ((with_reducible refine' rx_ixL ?h1 ?h2 ?_); (case h1 => exact rfl); (case h2 => exact rfl))
  | with_reducible refine rx_I0i ?_
  | with_reducible refine rx_I0b ?_
  | ((with_reducible refine' rx_Ii ?h ?_); (case h => first | decide | (show (0 : Int) < _; omega)))
  | with_reducible refine rx_eqI ?_
  | with_reducible refine rx_neI ?_
  | with_reducible refine rx_neB ?_
  | with_reducible refine rx_isN ?_
  | with_reducible refine rx_notN ?_
  | with_reducible refine rx_neT ?_
  | ((with_reducible refine' rx_neN ?h1 ?h2 ?_); (case h1 => exact rfl); (case h2 => exact rfl))
  | ((with_reducible refine' rx_eqN ?h1 ?h2 ?_); (case h1 => exact rfl); (case h2 => exact rfl)))
local macro_rules | `(tactic| walk_at "go1") => `(tactic| first
  | with_reducible refine sx_seq ?_
  | ((with_reducible refine' sx_retO ?h ?_); (case h => exact rfl))
  | ((with_reducible refine' sx_retD ?h ?_); (case h => exact rfl))
  | with_reducible refine sx_ret ?_
  | ((with_reducible refine' sx_fldM ?z ?a ?b ?c ?d ?_); (case z => exact rfl); (case a => assumption); (case b => assumption); (case c => assumption); (case d => exact Nat.le_of_ble_eq_true rfl))
  | ((with_reducible refine' sx_append ?h ?_); (case h => exact rfl))
  | ((with_reducible refine' sx_extend ?h ?_); (case h => exact rfl))
  | with_reducible refine sx_drop ?_
  | with_reducible refine sx_retN ?_
  | with_reducible refine sx_next ?_
  | with_reducible refine sx_if ?_
  | with_reducible refine sx_asg ?_
  | with_reducible refine sx_asgT ?_
  | ((with_reducible refine' ex_im ?h ?_); (case h => exact rfl))
  | ((with_reducible refine' ex_ow ?h ?_); (case h => exact rfl))
  | ((with_reducible refine' ex_ro ?h ?_); (case h => exact rfl))
  | ((with_reducible refine' ex_od ?h ?_); (case h => exact rfl))
  | ((with_reducible refine' ex_pn ?h ?_); (case h => exact rfl))
  | ((with_reducible refine' ex_mk ?h ?_); (case h => exact rfl))
  | ((with_reducible refine' ex_ri ?h ?_); (case h => exact rfl))
  | ((with_reducible refine' ex_qi ?h ?_); (case h => exact rfl))
  | ((with_reducible refine' ex_bl ?h ?_); (case h => exact rfl))
  | ((with_reducible refine' ex_c ?h ?_); (case h => walk_at "sc"))
  | with_reducible refine ex_op ?_
  | with_reducible refine ex_andV ?_
  | with_reducible refine ex_orV ?_
  | with_reducible refine ex_notV ?_
  | with_reducible refine ex_if ?_
  | with_reducible refine ex_chain ?_
  | with_reducible refine ex_tup ?_
  | with_reducible refine ex_lst ?_
  | with_reducible refine ex_sortedSet ?_
  | with_reducible refine ex_countN ?_
  | with_reducible refine ex_revL ?_
  | with_reducible refine ex_cb ?_
  | with_reducible refine ex_call ?_
  | with_reducible refine ex_callB ?_
  | with_reducible refine exa_nil ?_
  | with_reducible refine exa_cons ?_
  | with_reducible refine et_test ?_
  | with_reducible refine et_B ?_
  | with_reducible refine et_and ?_
  | with_reducible refine et_or ?_
  | with_reducible refine et_not ?_
  | walk_at "rx"
  | ((with_reducible refine' cx_isi (b := true) ?h ?k ?_); (case h => exact rfl); (case k => decide +kernel))
  | ((with_reducible refine' cx_isi (b := false) ?h ?k ?_); (case h => exact rfl); (case k => decide +kernel))
  | ((with_reducible refine' cx_len ?h ?_); (case h => exact rfl))
  | ((with_reducible refine' cx_list ?h ?_); (case h => exact rfl))
  | ((with_reducible refine' cx_tuple ?h ?_); (case h => exact rfl))
  | ((with_reducible refine' cx_allF ?h ?_); (case h => exact rfl))
  | ((with_reducible refine' cx_anyF ?h ?_); (case h => exact rfl))
  | with_reducible refine cx_intI ?_
  | with_reducible refine cx_intB ?_
  | with_reducible refine ex_fz ?_
  | refine .inl ⟨_, rfl, ?_⟩
  | refine .inr ⟨_, rfl, ?_⟩
  | ((with_reducible refine' sx_par ?_))
  | ((with_reducible refine' sx_dput ?h); (case h => skip))
  | with_reducible refine cx_max2 ?_
  | with_reducible refine cx_min2 ?_
  | ((with_reducible refine' cx_dict ?h ?_); (case h => exact rfl))
  | with_reducible refine ex_make ?_
  | ((with_reducible refine' ex_fzV ?h ?_); (case h => exact rfl))
  | ((with_reducible refine' ex_fzVD ?h ?_); (case h => exact rfl))
  | ((with_reducible refine' ex_start ?pc ?_); (case pc => assumption))
  | ((with_reducible refine' ex_span ?pc ?_); (case pc => assumption))
  | ((with_reducible refine' ex_deeds ?pc ?_); (case pc => assumption))
  | ((with_reducible refine' ex_parts ?pc ?_); (case pc => assumption))
  | ((with_reducible refine' ex_ranks ?pc ?_); (case pc => assumption))
  | with_reducible refine ex_fld ?_
  | with_reducible refine ex_prop ?_
  | with_reducible refine ex_lenSet ?_
  | with_reducible refine ex_neg ?_
  | with_reducible refine ex_dictEnum ?_
  | with_reducible refine ex_dget2 ?_
  | with_reducible refine ex_disp1 ?_
  | with_reducible refine ex_listRg1 ?_
  | with_reducible refine cx_isC ?_
  | with_reducible refine ex_meth ?_
  | with_reducible refine ex_slT ?_
  | with_reducible refine ex_slL ?_
  | with_reducible refine exo_none ?_
  | with_reducible refine exo_some ?_
  | with_reducible refine ex_dget ?_
  | with_reducible refine ex_din ?_
  | with_reducible refine ex_dnotin ?_
  | with_reducible refine ex_dnew ?_
  | with_reducible refine exa_star ?_
  | with_reducible refine iteT ?_
  | with_reducible refine iteF ?_
  | with_reducible refine iteNF ?_
  | with_reducible refine iteNT ?_
  | refine ⟨(trivial : RetOk (Sl.im _)), ?_⟩
  | refine ⟨(trivial : RetOk (Sl.ow _)), ?_⟩
  | refine ⟨[], rfl, Nat.le_of_ble_eq_true rfl, ?_⟩
  | refine ⟨[_], rfl, Nat.le_of_ble_eq_true rfl, ?_⟩
  | refine ⟨[_, _], rfl, Nat.le_of_ble_eq_true rfl, ?_⟩
  | refine ⟨[_, _, _], rfl, Nat.le_of_ble_eq_true rfl, ?_⟩
  | refine ⟨[_, _, _, _, _], rfl, Nat.le_of_ble_eq_true rfl, ?_⟩
  | refine ⟨rfl, rfl, ?_⟩
  | refine ⟨_, _, _, rfl, by assumption, by assumption, rfl, ?_⟩
  | refine ⟨npI, ?_⟩
  | refine ⟨npO, ?_⟩
  | refine ⟨npD, ?_⟩
  | refine ⟨npQ, ?_⟩
  | refine ⟨_, rfl, ?_⟩
  | refine ⟨_, _, rfl, ?_⟩
  | refine ⟨_, _, _, rfl, ?_⟩
  | refine ⟨_, _, _, _, rfl, ?_⟩
  | ((with_reducible refine' andGet ?h ?_); (case h => exact rfl)))
local macro_rules | `(tactic| walk_at "go") => `(tactic| repeat walk_at "go1")
local macro_rules | `(tactic| walk_at "T") => `(tactic| (refine iteE (c := true) rfl ?_; walk_at "go"))
local macro_rules | `(tactic| walk_at "F") => `(tactic| (refine iteE (c := false) rfl ?_; walk_at "go"))
theorem spo_eq {p : Pl} {n : Pat} {i : Int} : (spL n (p.cells i)).isEmpty = !p.sys.spo n i := by
  unfold spL Sys.spo
  have e : (fun q : Int × List Int => bad (lkp (p.cells i) q.1) q.2) = p.sys.spo1 i := by
    funext q
    rfl
  rw [e]
  induction n with
  | nil => rfl
  | cons q n ih =>
    rw [List.filter_cons, List.any_cons]
    cases h : p.sys.spo1 i q with
    | true => rfl
    | false => simpa using ih
theorem NeedOk.filter {n : Pat} (h : NeedOk n) (g : Int × List Int → Bool) : NeedOk (n.filter g) :=
  ⟨h.nd.sublist ((List.filter_sublist).map _), Nat.le_trans (List.length_filter_le _ _) h.few⟩
structure TksOk (y : Sys) (s s' : PS) : Prop where
  need : NeedOk s.need → NeedOk s'.need
  len : s'.taken.length + s'.left.length = s.taken.length + s.left.length
  mem : ∀ i, i ∈ s'.left → i ∈ s.left
  sub : ∀ q, q ∈ s'.need → q ∈ s.need
theorem tks_ok {y : Sys} {ps : List Int} {s s' : PS} (h : y.Tks ps s s') : TksOk y s s' := by
  induction h with
  | refl => exact ⟨id, rfl, fun _ h => h, fun _ h => h⟩
  | @step s1 i _ hi hl hs ih =>
    refine ⟨fun n => (ih.need n).filter _, ?_, fun j hj => ih.mem j (List.mem_of_mem_erase hj), fun q hq => ih.sub q (List.mem_filter.mp hq).1⟩
    show (s1.taken ++ [i]).length + (s1.left.erase i).length = _
    rw [List.length_append, List.length_erase_of_mem hl, List.length_singleton]
    have : 0 < s1.left.length := List.length_pos_of_mem hl
    have := ih.len
    omega
def lastL (l : List Int) : List Int := l.drop (l.length - 1)
theorem cut_last (l : List Int) : cutD (l.map Dat.int) (some (-1)) none = (lastL l).map Dat.int := by
  unfold cutD lastL
  have e : HT.sIx (l.map Dat.int).length 0 (some (-1)) = l.length - 1 := by
    show (if (-1 : Int) < 0 then ((-1 : Int) + ((l.map Dat.int).length : Int)).toNat else min (-1 : Int).toNat (l.map Dat.int).length) = l.length - 1
    rw [if_pos (by decide), List.length_map]
    omega
  rw [e, HT.sIx_none, List.length_map, ← List.map_drop, ← List.map_take, List.take_of_length_le (by rw [List.length_drop]; exact Nat.le_refl _)]
theorem last_cases (l : List Int) : (l = [] ∧ lastL l = []) ∨ ∃ x, x ∈ l ∧ lastL l = [x] := by
  unfold lastL
  rcases List.eq_nil_or_concat l with h | ⟨r, x, h⟩
  · subst h; exact .inl ⟨rfl, rfl⟩
  · subst h
    exact .inr ⟨x, by simp, by simp⟩
section
variable {P : Program} {w : World} {K : PySem.W.Frag} {mg : Str → Option Value} {base : Heap} {C c : Addr}
abbrev bTakeAll (c : Addr) : DB := fun ds st k => ∃ (A : PeA) (z : PeS) (ps : List Int), ds = [lstI ps] ∧ st = z.st A c ∧ A.Ok ∧ PlOk z.pl ∧ (∀ i ∈ ps, z.pl.sys.isP i) ∧ ps.length ≤ 40 ∧ NeedOk z.S.need ∧ z.S.taken.length + z.S.left.length ≤ 1000 ∧ ∀ S', z.pl.sys.All ps z.S S' → k (.ow ((ps.filter fun i => decide (i ∈ S'.left)).map Dat.int)) ({ z with S := S' }.st A c)
theorem ok_Peel_take_all {f : Addr} {fd : FuncData} (F : Fun K "take_all" "Peel.take_all" s_Peel_take_all f fd) (T : Txt mg) (PC : PlanC K C) (PE : PeelC K c) (D_Peel_can_be_last : MetOk P w K mg base c "can_be_last" 3 P_Peel_can_be_last (SpB C (bCan c))) (D_Peel_take : MetOk P w K mg base c "take" 2 P_Peel_take (SpB C (bTake c))) : FnOk P w K mg base CX0 4 f fd P_Peel_take_all (SpB C (bTakeAll c)) := by
  refine fn_bor (g := 4) F sc_Peel_take_all (fun ds st k h => ?_) (by decide) (by decide) fun cdv A outer s H E ds s0 st kk hr h => ?_
  · obtain ⟨_, _, _, e1, e2, _⟩ := h
    rw [e1, e2]; exact ⟨rfl, rfl⟩
  · obtain ⟨A, z, ps, e1, e2, hA, hp, hps, hl, hn, hs, hk⟩ := h
    subst e1
    simp only [PeS.st, List.cons.injEq] at e2
    obtain ⟨rfl, rfl⟩ := e2
    obtain ⟨g0, g1, g2, g3, g4, g5, g6, g7, g8, g9, g10⟩ := PE
    have n01 := hA.h01
    have n02 := hA.h02
    have n03 := hA.h03
    have n04 := hA.h04
    have n12 := hA.h12
    have n13 := hA.h13
    have n14 := hA.h14
    have n23 := hA.h23
    have n24 := hA.h24
    have n34 := hA.h34
    have m12 := n12.symm
    have m13 := n13.symm
    have m14 := n14.symm
    have m23 := n23.symm
    have m24 := n24.symm
    have m34 := n34.symm
    refine ⟨_, (pss_cons (ps_set (i := 2) sc_Peel_take_all.nd rfl (Or.inl rfl) (pv 1))
      (pss_cons (ps_while PassesOwn.never (pt_cmpR (kk_neD K hr.units) (pv 2) (pe_lst pa_nil) (nomark _)) (pss_cons (ps_set (i := 2) sc_Peel_take_all.nd rfl (Or.inl rfl) (pe_fz (pe_slice (kk_slL K) (pe_lc (own := [("piece", 3)]) (g := (gName 3)) rfl sc_Peel_take_all.nd (kk_pil K (pv 1)) (blkOk_by (own := [("piece", 3)]) (N := N_Peel_take_all) (sc := defScope s_Peel_take_all) (by decide +kernel)) (fun _ _ _ _ _ => (pg_name (i := 3) sc_Peel_take_all.nd rfl (Or.inl rfl))) (fun _ _ _ _ _ => (pts_one (PW.pt (pw_and (pt_cmpR (kk_in K) (pv 3) (kk_fld K (pv 0) rfl) rfl) (pw_and1 (pt_val (pe_methD D_Peel_can_be_last (pv 0) (hr.mono (by decide)) (pa_cons (pv 3) pa_nil)))))))) (fun _ _ _ _ _ => (pv 3))) (po_some (pe_un un_neg pe_int)) po_none)))
      (pss_one (ps_if (pt_cmpR (kk_neD K hr.units) (pv 2) (pe_lst pa_nil) (nomark _)) (pss_one (ps_expr (pe_methD D_Peel_take (pv 0) (hr.mono (by decide)) (pa_cons (pe_ix (kk_ixL K) (pv 2) pe_int (fun _ _ => rfl)) pa_nil)))) pss_nil))))
      (pss_one (ps_ret (pe_lc (own := [("piece", 3)]) (g := (gName 3)) rfl sc_Peel_take_all.nd (kk_pil K (pv 1)) (blkOk_by (own := [("piece", 3)]) (N := N_Peel_take_all) (sc := defScope s_Peel_take_all) (by decide +kernel)) (fun _ _ _ _ _ => (pg_name (i := 3) sc_Peel_take_all.nd rfl (Or.inl rfl))) (fun _ _ _ _ _ => (pts_one (pt_cmpR (kk_in K) (pv 3) (kk_fld K (pv 0) rfl) rfl))) (fun _ _ _ _ _ => (pv 3))))))), ?_⟩
    walk_at "go"
    refine sx_while (fun m e => ∃ S' rs s3, (s3 = .un ∨ ∃ d, s3 = .im d) ∧ z.pl.sys.Tks ps z.S S' ∧ e = [.mk A.p c (z.fs A), .im (lstI ps), .im (lstI rs), s3, .bd A.a1 (encNeed S'.need), .bl A.a2 (S'.left.map Dat.int), .bl A.a3 (S'.taken.map Dat.int), .bd A.a4 (encCells z.sp)] ∧ (rs = [] → ∀ i ∈ ps, i ∈ S'.left → z.pl.sys.spo S'.need i = true) ∧ m = if rs = [] then 0 else 1 + S'.left.length) (if ps = [] then 0 else 1 + z.S.left.length) ⟨z.S, ps, .un, .inl rfl, .refl, rfl, fun h i hi => (by rw [h] at hi; cases hi), rfl⟩ ?_
    rintro m e ⟨S', rs, s3, hs3, tk, rfl, hst, hm⟩
    have tok := tks_ok tk
    have fre : ∀ e : Sls, e[3]? = some s3 → FreAll e [3] := fun e he => ⟨by rw [he]; rcases hs3 with h | ⟨d, h⟩ <;> (rw [h]; exact trivial), trivial⟩
    walk_at "go"
    cases rs with
    | nil =>
      walk_at "F"
      refine ex_lcT (by decide) (ix_list tg_name ?_)
      walk_at "go"
      refine ⟨fun _ _ => trivial, by rw [List.length_map]; omega, fre _ rfl, Int, ps, Dat.int, (fun i => decide (i ∈ S'.left)), Dat.int, rfl, fun i hi => ?_, fun i hi _ => ?_, ?_⟩
      · walk_at "go"
        refine rx_inL (neg := false) (ns := S'.left) (by simp [rdl, wipeE, findL]) ?_
        exact ⟨_, rfl, rfl, rfl⟩
      · walk_at "go"
        exact ⟨rfl, rfl⟩
      · have hkk := hk S' ⟨tk, hst rfl⟩
        rcases hs3 with rfl | ⟨d, rfl⟩
        · exact ⟨trivial, rfl, hkk⟩
        · exact ⟨trivial, rfl, hkk⟩
    | cons r rs =>
      rw [if_neg (by simp)] at hm
      walk_at "T"
      refine ex_lcT (by decide) (ix_list tg_name ?_)
      walk_at "go"
      refine ⟨fun _ _ => trivial, by rw [List.length_map]; omega, fre _ rfl, Int, ps, Dat.int, (fun i => decide (i ∈ S'.left) && !z.pl.sys.spo S'.need i), Dat.int, rfl, fun i hi => ?_, fun i hi _ => ?_, ?_⟩
      · walk_at "go"
        refine rx_inL (neg := false) (ns := S'.left) (by simp [rdl, wipeE, findL]) ?_
        refine ⟨_, rfl, ?_⟩
        by_cases hil : i ∈ S'.left
        · refine iteE (c := true) (by simp [hil]) ?_
          walk_at "go"
          refine ex_methB (i := 0) rfl rfl ?_
          walk_at "go"
          refine ⟨[.int i], rfl, rfl, rfl, A, { z with S := S' }, i, rfl, rfl, hA, hp, hps i hi, tok.need hn, trivial, _, rfl, ?_, rfl⟩
          show (spL S'.need (z.pl.cells i)).isEmpty = (decide (i ∈ S'.left) && !z.pl.sys.spo S'.need i)
          rw [decide_eq_true hil, Bool.true_and, spo_eq]
        · refine iteE (c := false) (by simp [hil]) ?_
          exact ⟨by simp [hil], rfl⟩
      · walk_at "go"
        exact ⟨rfl, rfl⟩
      · walk_at "go"
        rw [cut_last]
        have hmemP : ∀ x, x ∈ (ps.filter fun i => decide (i ∈ S'.left) && !z.pl.sys.spo S'.need i) → x ∈ ps ∧ x ∈ S'.left ∧ z.pl.sys.spo S'.need x = false := fun x hx => by simpa using hx
        rcases last_cases (ps.filter fun i => decide (i ∈ S'.left) && !z.pl.sys.spo S'.need i) with ⟨hL, hl0⟩ | ⟨x, hx, hl1⟩
        · rw [hl0]
          refine rx_neN (ns := []) rfl rfl ?_
          walk_at "go"
          walk_at "F"
          refine ⟨0, by omega, S', [], s3, hs3, tk, rfl, fun _ i hi hil => ?_, rfl⟩
          rw [List.filter_eq_nil_iff] at hL
          have := hL i hi
          simpa [hil] using this
        · rw [hl1]
          obtain ⟨hx1, hx2, hx3⟩ := hmemP x hx
          have hlen : 0 < S'.left.length := List.length_pos_of_mem hx2
          have htl := tok.len
          rcases hs3 with rfl | ⟨d3, rfl⟩
          all_goals
            refine rx_neN (ns := [x]) rfl rfl ?_
            walk_at "go"
            walk_at "T"
            refine ex_methB (i := 0) rfl rfl ?_
            walk_at "go"
            refine ⟨[.int x], rfl, rfl, rfl, A, { z with S := S' }, x, rfl, rfl, hA, hp, hps x hx1, hx2, by show S'.taken.length ≤ 1000; omega, trivial, ?_⟩
            refine ⟨1 + (S'.left.erase x).length, by rw [List.length_erase_of_mem hx2]; omega, z.pl.sys.tk S' x, [x], _, (by first | exact .inl rfl | exact .inr ⟨_, rfl⟩), .step tk hx1 hx2 hx3, rfl, (fun h => by cases h), ?_⟩
            rw [if_neg (by simp)]
            rfl
end
end Af
end

section
set_option maxHeartbeats 4000000
namespace Af
open PySem L2
local macro_rules | `(tactic| walk_at "sc") => `(tactic| first | exact ScD.int _ | exact ScD.bl _ | exact ScD.non | exact ScD.str _ | exact ScD.ty _ | exact ScD.cls _)
local macro_rules | `(tactic| walk_at "rx") => `(tactic| first
  | ((with_reducible refine' rx_ixT ?h ?_); (case h => exact rfl))
  | ((with_reducible refine' rx_ixL ?h1 ?h2 ?_); (case h1 => exact rfl); (case h2 => exact rfl))
  | with_reducible refine rx_I0i ?_
  | with_reducible refine rx_I0b ?_
  | ((with_reducible refine' rx_Ii ?h ?_); (case h => first | decide | (show (0 : Int) < _; omega)))
  | with_reducible refine rx_eqI ?_
  | with_reducible refine rx_neI ?_
  | with_reducible refine rx_neB ?_
  | with_reducible refine rx_isN ?_
  | with_reducible refine rx_notN ?_
  | with_reducible refine rx_neT ?_
  | ((with_reducible refine' rx_neN ?h1 ?h2 ?_); (case h1 => exact rfl); (case h2 => exact rfl))
  | ((with_reducible refine' rx_eqN ?h1 ?h2 ?_); (case h1 => exact rfl); (case h2 => exact rfl)))
local macro_rules | `(tactic| walk_at "go1") => `(tactic| first
  | with_reducible refine sx_seq ?_
  | ((with_reducible refine' sx_retO ?h ?_); (case h => exact rfl))
  | ((with_reducible refine' sx_retD ?h ?_); (case h => exact rfl))
  | with_reducible refine sx_ret ?_
  | ((with_reducible refine' sx_fldM ?z ?a ?b ?c ?d ?_); (case z => exact rfl); (case a => assumption); (case b => assumption); (case c => assumption); (case d => exact Nat.le_of_ble_eq_true rfl))
  | ((with_reducible refine' sx_append ?h ?_); (case h => exact rfl))
  | ((with_reducible refine' sx_extend ?h ?_); (case h => exact rfl))
  | with_reducible refine sx_drop ?_
  | with_reducible refine sx_retN ?_
  | with_reducible refine sx_next ?_
  | with_reducible refine sx_if ?_
  | with_reducible refine sx_asg ?_
  | with_reducible refine sx_asgT ?_
  | ((with_reducible refine' ex_im ?h ?_); (case h => exact rfl))
  | ((with_reducible refine' ex_ow ?h ?_); (case h => exact rfl))
  | ((with_reducible refine' ex_ro ?h ?_); (case h => exact rfl))
  | ((with_reducible refine' ex_od ?h ?_); (case h => exact rfl))
  | ((with_reducible refine' ex_pn ?h ?_); (case h => exact rfl))
  | ((with_reducible refine' ex_mk ?h ?_); (case h => exact rfl))
  | ((with_reducible refine' ex_ri ?h ?_); (case h => exact rfl))
  | ((with_reducible refine' ex_qi ?h ?_); (case h => exact rfl))
  | ((with_reducible refine' ex_bl ?h ?_); (case h => exact rfl))
  | ((with_reducible refine' ex_c ?h ?_); (case h => walk_at "sc"))
  | with_reducible refine ex_op ?_
  | with_reducible refine ex_andV ?_
  | with_reducible refine ex_orV ?_
  | with_reducible refine ex_notV ?_
  | with_reducible refine ex_if ?_
  | with_reducible refine ex_chain ?_
  | with_reducible refine ex_tup ?_
  | with_reducible refine ex_lst ?_
  | with_reducible refine ex_sortedSet ?_
  | with_reducible refine ex_countN ?_
  | with_reducible refine ex_revL ?_
  | with_reducible refine ex_cb ?_
  | with_reducible refine ex_call ?_
  | with_reducible refine ex_callB ?_
  | with_reducible refine exa_nil ?_
  | with_reducible refine exa_cons ?_
  | with_reducible refine et_test ?_
  | with_reducible refine et_B ?_
  | with_reducible refine et_and ?_
  | with_reducible refine et_or ?_
  | with_reducible refine et_not ?_
  | walk_at "rx"
  | ((with_reducible refine' cx_isi (b := true) ?h ?k ?_); (case h => exact rfl); (case k => decide +kernel))
  | ((with_reducible refine' cx_isi (b := false) ?h ?k ?_); (case h => exact rfl); (case k => decide +kernel))
  | ((with_reducible refine' cx_len ?h ?_); (case h => exact rfl))
  | ((with_reducible refine' cx_list ?h ?_); (case h => exact rfl))
  | ((with_reducible refine' cx_tuple ?h ?_); (case h => exact rfl))
  | ((with_reducible refine' cx_allF ?h ?_); (case h => exact rfl))
  | ((with_reducible refine' cx_anyF ?h ?_); (case h => exact rfl))
  | with_reducible refine cx_intI ?_
  | with_reducible refine cx_intB ?_
  | with_reducible refine ex_fz ?_
  | refine .inl ⟨_, rfl, ?_⟩
  | refine .inr ⟨_, rfl, ?_⟩
  | ((with_reducible refine' sx_par ?_))
  | ((with_reducible refine' sx_dput ?h); (case h => skip))
  | with_reducible refine cx_max2 ?_
  | with_reducible refine cx_min2 ?_
  | ((with_reducible refine' cx_dict ?h ?_); (case h => exact rfl))
  | with_reducible refine ex_make ?_
  | ((with_reducible refine' ex_fzV ?h ?_); (case h => exact rfl))
  | ((with_reducible refine' ex_fzVD ?h ?_); (case h => exact rfl))
  | ((with_reducible refine' ex_start ?pc ?_); (case pc => assumption))
  | ((with_reducible refine' ex_span ?pc ?_); (case pc => assumption))
  | ((with_reducible refine' ex_deeds ?pc ?_); (case pc => assumption))
  | ((with_reducible refine' ex_parts ?pc ?_); (case pc => assumption))
  | ((with_reducible refine' ex_ranks ?pc ?_); (case pc => assumption))
  | with_reducible refine ex_fld ?_
  | with_reducible refine ex_prop ?_
  | with_reducible refine ex_lenSet ?_
  | with_reducible refine ex_neg ?_
  | with_reducible refine ex_dictEnum ?_
  | with_reducible refine ex_dget2 ?_
  | with_reducible refine ex_disp1 ?_
  | with_reducible refine ex_listRg1 ?_
  | with_reducible refine cx_isC ?_
  | with_reducible refine ex_meth ?_
  | with_reducible refine ex_slT ?_
  | with_reducible refine ex_slL ?_
  | with_reducible refine exo_none ?_
  | with_reducible refine exo_some ?_
  | with_reducible refine ex_dget ?_
  | with_reducible refine ex_din ?_
  | with_reducible refine ex_dnotin ?_
  | with_reducible refine ex_dnew ?_
  | with_reducible refine exa_star ?_
  | with_reducible refine iteT ?_
  | with_reducible refine iteF ?_
  | with_reducible refine iteNF ?_
  | with_reducible refine iteNT ?_
  | refine ⟨(trivial : RetOk (Sl.im _)), ?_⟩
  | refine ⟨(trivial : RetOk (Sl.ow _)), ?_⟩
  | refine ⟨[], rfl, Nat.le_of_ble_eq_true rfl, ?_⟩
  | refine ⟨[_], rfl, Nat.le_of_ble_eq_true rfl, ?_⟩
  | refine ⟨[_, _], rfl, Nat.le_of_ble_eq_true rfl, ?_⟩
  | refine ⟨[_, _, _], rfl, Nat.le_of_ble_eq_true rfl, ?_⟩
  | refine ⟨[_, _, _, _, _], rfl, Nat.le_of_ble_eq_true rfl, ?_⟩
  | refine ⟨rfl, rfl, ?_⟩
  | refine ⟨_, _, _, rfl, by assumption, by assumption, rfl, ?_⟩
  | refine ⟨npI, ?_⟩
  | refine ⟨npO, ?_⟩
  | refine ⟨npD, ?_⟩
  | refine ⟨npQ, ?_⟩
  | refine ⟨_, rfl, ?_⟩
  | refine ⟨_, _, rfl, ?_⟩
  | refine ⟨_, _, _, rfl, ?_⟩
  | refine ⟨_, _, _, _, rfl, ?_⟩
  | ((with_reducible refine' andGet ?h ?_); (case h => exact rfl)))
local macro_rules | `(tactic| walk_at "go") => `(tactic| repeat walk_at "go1")
local macro_rules | `(tactic| walk_at "T") => `(tactic| (refine iteE (c := true) rfl ?_; walk_at "go"))
local macro_rules | `(tactic| walk_at "F") => `(tactic| (refine iteE (c := false) rfl ?_; walk_at "go"))
def putI (sp : List (Int × Int)) (k x : Int) : List (Int × Int) := if sp.any fun p => decide (p.1 = k) then sp.map fun p => if p.1 = k then (k, x) else p else sp ++ [(k, x)]
theorem put_cells (sp : List (Int × Int)) (k x : Int) : putKD (encCells sp) k (.int x) = encCells (putI sp k x) := by
  unfold putKD putI encCells
  rw [List.any_map, show sp.any ((fun p : Int × Dat => decide (p.1 = k)) ∘ fun q : Int × Int => (q.1, Dat.int q.2)) = sp.any (fun p => decide (p.1 = k)) from rfl]
  by_cases h : (sp.any fun p => decide (p.1 = k)) = true
  · rw [if_pos h, if_pos h, List.map_map, List.map_map]
    apply List.map_congr_left
    intro p _
    by_cases e : p.1 = k
    · simp [e]
    · simp [e]
  · rw [if_neg h, if_neg h, List.map_append]
    rfl
theorem putI_mem {sp : List (Int × Int)} {k x : Int} {q : Int × Int} (h : q ∈ putI sp k x) : q ∈ sp ∨ q.1 = k := by
  unfold putI at h
  split at h
  · obtain ⟨p, hp, e⟩ := List.mem_map.mp h
    split at e
    · subst e; exact .inr rfl
    · subst e; exact .inl hp
  · rcases List.mem_append.mp h with z | z
    · exact .inl z
    · rw [List.mem_singleton.mp z]; exact .inr rfl
theorem putI_len {sp : List (Int × Int)} {k x : Int} : (putI sp k x).length ≤ sp.length + 1 := by
  unfold putI
  split
  · rw [List.length_map]; omega
  · simp
theorem lkp_some {l : List (Int × Int)} {k : Int} (h : ∃ q ∈ l, q.1 = k) : (lkp l k).isSome = true := by
  induction l with
  | nil => obtain ⟨q, hq, _⟩ := h; cases hq
  | cons p l ih =>
    rw [lkp_cons]
    by_cases e : p.1 = k
    · simp [e]
    · rw [if_neg e]
      obtain ⟨q, hq, e2⟩ := h
      rcases List.mem_cons.mp hq with z | z
      · subst z; exact absurd e2 e
      · exact ih ⟨q, z, e2⟩
theorem lkp_none {l : List (Int × Int)} {k : Int} (h : ∀ q ∈ l, q.1 ≠ k) : lkp l k = none := by
  induction l with
  | nil => rfl
  | cons p l ih =>
    rw [lkp_cons, if_neg (h p List.mem_cons_self)]
    exact ih fun q hq => h q (List.mem_cons_of_mem _ hq)
theorem putI_look {sp : List (Int × Int)} {k x : Int} : (lkp (putI sp k x) k).isSome = true := by
  refine lkp_some ?_
  unfold putI
  split
  · rename_i h
    obtain ⟨p, hp, e⟩ := List.any_eq_true.mp h
    have e : p.1 = k := by simpa using e
    exact ⟨(k, x), List.mem_map.mpr ⟨p, hp, by rw [if_pos e]⟩, rfl⟩
  · exact ⟨(k, x), by simp, rfl⟩
/-- the base's cells -/
def botOf (cs : List Int) : List (Int × Int) := cs.zipIdx.map fun q => ((q.2 : Int), q.1)
theorem bot_look {cs : List Int} {c : Int} (h0 : 0 ≤ c) (h1 : c < cs.length) : lkp (botOf cs) c = some (cs.getD c.toNat 0) := by
  have key : ∀ (l : List Int) (n : Nat) (c : Int), (n : Int) ≤ c → c < n + l.length → lkp ((l.zipIdx n).map fun q => ((q.2 : Int), q.1)) c = some (l.getD (c - n).toNat 0) := by
    intro l
    induction l with
    | nil => intro n c a b; simp at b; omega
    | cons x l ih =>
      intro n c a b
      rw [List.zipIdx_cons, List.map_cons, lkp_cons]
      by_cases e : (n : Int) = c
      · subst e
        simp
      · rw [if_neg e, ih (n + 1) c (by omega) (by simp at b; omega)]
        have e2 : (c - (n : Int)).toNat = (c - ((n + 1 : Nat) : Int)).toNat + 1 := by omega
        rw [e2]
        simp
  have := key cs 0 c (by omega) (by omega)
  simpa [botOf] using this
theorem bot_spo {p : Pl} {n : Pat} (h : ∀ q ∈ n, 0 ≤ q.1 ∧ q.1 < (p.base.length : Int)) : (spL n (botOf p.base)).isEmpty = !p.sys.spoB n := by
  unfold spL Sys.spoB
  induction n with
  | nil => rfl
  | cons q n ih =>
    have hq := h q List.mem_cons_self
    have e : bad (lkp (botOf p.base) q.1) q.2 = decide (p.sys.bs q.1 ∉ q.2) := by
      rw [bot_look hq.1 hq.2]
      rfl
    rw [List.filter_cons, List.any_cons, e]
    cases hd : decide (p.sys.bs q.1 ∉ q.2) with
    | true => rfl
    | false => simpa using ih fun q hq => h q (List.mem_cons_of_mem _ hq)
def Nb : Sl → Prop
  | .un => True
  | .im _ => True
  | _ => False
theorem Nb.cases {s : Sl} (h : Nb s) : s = .un ∨ ∃ d, s = .im d := by
  cases s <;> first | exact .inl rfl | exact .inr ⟨_, rfl⟩ | exact h.elim
structure GoPre (z : PeS) (E : Nat) : Prop where
  e : z.e = (E : Int)
  sure : z.sure = z.pl.lower E
  bot : z.bot = botOf z.pl.base
  pcs : ∀ i ∈ z.S.left, z.pl.sys.isP i
  need : NeedOk z.S.need
  cell : ∀ q ∈ z.S.need, 0 ≤ q.1 ∧ q.1 < (z.pl.base.length : Int)
  few : z.S.left.length ≤ 40
  len : z.S.taken.length + z.S.left.length ≤ 100
  sp : z.sp = []
  fin : z.fin = false
  small : E ≤ 40
/-- what the loops keep -/
structure GoIn (z : PeS) (S : PS) : Prop where
  pcs : ∀ i ∈ S.left, z.pl.sys.isP i
  need : NeedOk S.need
  cell : ∀ q ∈ S.need, 0 ≤ q.1 ∧ q.1 < (z.pl.base.length : Int)
  few : S.left.length ≤ 40
  len : S.taken.length + S.left.length ≤ 100
theorem GoPre.inn {z : PeS} {E : Nat} (h : GoPre z E) : GoIn z z.S := ⟨h.pcs, h.need, h.cell, h.few, h.len⟩
theorem GoIn.step {z : PeS} {S S2 : PS} {ps : List Int} (h : GoIn z S) (A : z.pl.sys.All ps S S2) (hs : S2.left.length ≤ S.left.length) : GoIn z S2 := by
  have t := tks_ok A.1
  exact ⟨fun i hi => h.pcs i (t.mem i hi), t.need h.need, fun q hq => h.cell q (t.sub q hq), Nat.le_trans hs h.few, by rw [t.len]; exact h.len⟩
theorem tks_left {y : Sys} {ps : List Int} {s s' : PS} (h : y.Tks ps s s') : s'.left.length ≤ s.left.length := by
  induction h with
  | refl => exact Nat.le_refl _
  | step _ _ _ _ ih => exact Nat.le_trans (List.length_erase_le ..) ih
section
variable {P : Program} {w : World} {K : PySem.W.Frag} {mg : Str → Option Value} {base : Heap} {C c : Addr}
abbrev bGo (c : Addr) : DB := fun ds st k => ∃ (A : PeA) (z : PeS) (EN : Nat), ds = [] ∧ st = z.st A c ∧ A.Ok ∧ PlOk z.pl ∧ GoPre z EN ∧ ∀ S' b sp, z.pl.sys.Go EN (EN + 1) z.S S' b → k (.im .non) ({ z with S := S', sp := sp, fin := b }.st A c)
theorem ok_Peel_go_through {f : Addr} {fd : FuncData} (F : Fun K "go_through" "Peel.go_through" s_Peel_go_through f fd) (T : Txt mg) (PC : PlanC K C) (PE : PeelC K c) (hcC : c ≠ C) (D_Peel_take_all : MetOk P w K mg base c "take_all" 4 P_Peel_take_all (SpB C (bTakeAll c))) (D_Peel_spoilt : MetOk P w K mg base c "spoilt" 2 P_Peel_spoilt (SpB C (bSpoilt c))) : FnOk P w K mg base CX0 5 f fd P_Peel_go_through (SpB C (bGo c)) := by
  refine fn_bor (g := 4) F sc_Peel_go_through (fun ds st k h => ?_) (by decide) (by decide) fun cdv A outer s H E ds s0 st kk hr h => ?_
  · obtain ⟨_, _, _, e1, e2, _⟩ := h
    rw [e1, e2]; exact ⟨rfl, rfl⟩
  · obtain ⟨A, z, EN, e1, e2, hA, hp, gp, hk⟩ := h
    subst e1
    simp only [PeS.st, List.cons.injEq] at e2
    obtain ⟨rfl, rfl⟩ := e2
    obtain ⟨g0, g1, g2, g3, g4, g5, g6, g7, g8, g9, g10⟩ := PE
    have n01 := hA.h01
    have n02 := hA.h02
    have n03 := hA.h03
    have n04 := hA.h04
    have n12 := hA.h12
    have n13 := hA.h13
    have n14 := hA.h14
    have n23 := hA.h23
    have n24 := hA.h24
    have n34 := hA.h34
    have m12 := n12.symm
    have m13 := n13.symm
    have m14 := n14.symm
    have m23 := n23.symm
    have m24 := n24.symm
    have m34 := n34.symm
    refine ⟨_, (pss_cons (ps_for (g := (gName 1)) PassesOwn.never rfl (pi_range3 (by rfl) T.b_range (pa_cons (kk_fld K (pv 0) rfl) (pa_cons (pe_un un_neg pe_int) (pa_cons (pe_un un_neg pe_int) pa_nil)))) (pg_name (i := 1) sc_Peel_go_through.nd rfl (Or.inr rfl)) (pss_cons (ps_set (i := 3) sc_Peel_go_through.nd rfl (Or.inl rfl) (pe_fz (pe_methD D_Peel_take_all (pv 0) (hr.mono (by decide)) (pa_cons (pe_fz (pe_lc (own := [("piece", 2)]) (g := (gName 2)) rfl sc_Peel_go_through.nd (kk_pil K (kk_fld K (pv 0) rfl)) (blkOk_by (own := [("piece", 2)]) (N := N_Peel_go_through) (sc := defScope s_Peel_go_through) (by decide +kernel)) (fun _ _ _ _ _ => (pg_name (i := 2) sc_Peel_go_through.nd rfl (Or.inl rfl))) (fun _ _ _ _ _ => (pts_one (pt_cmpR op_eq (pe_ix (kk_ixL K) (kk_fld K (kk_fld K (pv 0) rfl) rfl) (pv 2) (fun _ _ => rfl)) (pv 1) (nomark _)))) (fun _ _ _ _ _ => (pv 2)))) pa_nil))))
      (pss_cons (ps_for (g := (gName 2)) PassesOwn.never rfl (kk_pil K (pv 3)) (pg_name (i := 2) sc_Peel_go_through.nd rfl (Or.inl rfl)) (pss_one (ps_if (pt_cmpR (kk_neD K hr.units) (pe_methD D_Peel_spoilt (pv 0) (hr.mono (by decide)) (pa_cons (pv 2) pa_nil)) (pe_lst pa_nil) (nomark _)) (pss_one (ps_dput (hu_of hr) (kk_fld K (pv 0) rfl) (pv 2) (pe_ix (kk_ixL K) (pe_methD D_Peel_spoilt (pv 0) (hr.mono (by decide)) (pa_cons (pv 2) pa_nil)) pe_int (fun _ _ => rfl)) rfl)) pss_nil)))
      (pss_one (ps_if (pt_val (pe_callB (kk_any K rfl) (by rfl) T.b_any (by decide +kernel) (pa_cons (pe_lc (own := [("piece", 2)]) (g := (gName 2)) rfl sc_Peel_go_through.nd (kk_pil K (pv 3)) (blkOk_by (own := [("piece", 2)]) (N := N_Peel_go_through) (sc := defScope s_Peel_go_through) (by decide +kernel)) (fun _ _ _ _ _ => (pg_name (i := 2) sc_Peel_go_through.nd rfl (Or.inl rfl))) (fun _ _ _ _ _ => pts_nil) (fun _ _ _ _ _ => (pe_cmpR (kk_in K) (pv 2) (kk_fld K (pv 0) rfl) rfl))) pa_nil))) (pss_one ps_retN) pss_nil)))))
      (pss_cons (ps_if (pt_cmpR (kk_neD K hr.units) (pe_methD D_Peel_spoilt (pv 0) (hr.mono (by decide)) (pa_cons (pe_cI (by rfl) T.c_BASE) pa_nil)) (pe_lst pa_nil) (nomark _)) (pss_one (ps_dput (hu_of hr) (kk_fld K (pv 0) rfl) (pe_cI (by rfl) T.c_BASE) (pe_ix (kk_ixL K) (pe_methD D_Peel_spoilt (pv 0) (hr.mono (by decide)) (pa_cons (pe_cI (by rfl) T.c_BASE) pa_nil)) pe_int (fun _ _ => rfl)) rfl)) pss_nil)
      (pss_one (kk_sfld K (pv 0) (pe_cmp (pc_dnotin (hu_of hr) (pe_cI (by rfl) T.c_BASE) (kk_fld K (pv 0) rfl)) rfl) rfl)))), ?_⟩
    have hbl := base_le hp
    refine sx_seq (sx_for (ix_range3 tg_name ?_))
    walk_at "go"
    refine ⟨z.e, -1, -1, EN + 1, rfl, ?_, ?_⟩
    · have := RgC.neg (i := z.e) (j := -1) (by rw [gp.e]; omega) (by rw [gp.e]; have := gp.small; omega) (by decide) (by decide)
      rw [show (z.e - -1).toNat = EN + 1 by rw [gp.e]; omega] at this
      exact this
    refine ⟨fun pre e => ∃ S' sp s1 s2 s3, (∀ S'' b, z.pl.sys.Go EN (EN + 1 - pre.length) S' S'' b → z.pl.sys.Go EN (EN + 1) z.S S'' b) ∧ GoIn z S' ∧ (∀ q ∈ sp, (0 : Int) ≤ q.1) ∧ sp.length ≤ pre.length * 1000 ∧ e = [.mk A.p c (z.fs A), s1, s2, s3, .bd A.a1 (encNeed S'.need), .bl A.a2 (S'.left.map Dat.int), .bl A.a3 (S'.taken.map Dat.int), .bd A.a4 (encCells sp)], ?_, ?_, ?_⟩
    · refine ⟨z.S, [], .un, .un, .un, fun _ _ h => h, gp.inn, fun q hq => (nomatch hq), Nat.zero_le _, ?_⟩
      rw [gp.sp]
      rfl
    · rintro pre d post e hd ⟨S', sp, s1, s2, s3, hgo, gi, hsp, hspl, rfl⟩
      obtain ⟨hpl, rfl⟩ := rgD_at hd
      have hr1 : z.e + (pre.length : Int) * (-1) = ((EN - pre.length : Nat) : Int) := by rw [gp.e]; omega
      have hr2 : EN + 1 - pre.length = (EN - pre.length) + 1 := by omega
      rw [hr2] at hgo
      rw [hr1]
      generalize hR : EN - pre.length = R at hgo
      have hRE : R ≤ EN := by omega
      have hRn : ∀ d' : Dat, EN + 1 - (pre ++ [d']).length = R := fun d' => by simp; omega
      refine sx_forget 2 (sx_forget 3 ?_)
      refine (?_ : SX C _ [.mk A.p c (z.fs A), .im (.int R), .un, .un, .bd A.a1 (encNeed S'.need), .bl A.a2 (S'.left.map Dat.int), .bl A.a3 (S'.taken.map Dat.int), .bd A.a4 (encCells sp)] _)
      walk_at "go"
      refine ex_methB (i := 0) rfl rfl ?_
      walk_at "go"
      refine ex_lcTG (by decide) (ix_bl (j := 5) (a := A.a2) (ds := S'.left.map Dat.int) tg_name ?_)
      walk_at "go"
      refine ⟨.inr rfl, rfl, fun _ _ => trivial, by rw [List.length_map]; have := gi.few; omega, rfl, ⟨trivial, trivial⟩, Int, S'.left, Dat.int, (fun i => decide (z.pl.sys.rk i = (R : Int))), Dat.int, rfl, fun i hi => ?_, fun i hi _ => ?_, ?_⟩
      · walk_at "go"
        refine rx_ixL rfl (rank_at' (gi.pcs i hi)) ?_
        walk_at "go"
        exact ⟨rfl, rfl⟩
      · walk_at "go"
        exact ⟨rfl, rfl⟩
      · walk_at "go"
        have hps : ∀ i ∈ z.pl.sys.at' R S', z.pl.sys.isP i := fun i hi => gi.pcs i (Sys.at_mem.mp hi).1
        have hpl40 : (z.pl.sys.at' R S').length ≤ 40 := Nat.le_trans (List.length_filter_le _ _) gi.few
        refine ⟨[lstI (z.pl.sys.at' R S')], rfl, rfl, rfl, A, { z with S := S', sp := sp }, z.pl.sys.at' R S', rfl, rfl, hA, hp, hps, hpl40, gi.need, Nat.le_trans gi.len (by decide), fun S2 hall => ⟨trivial, ?_⟩⟩
        have gi2 := gi.step hall (tks_left hall.1)
        walk_at "go"
        have hlf : ∀ i, i ∈ ((z.pl.sys.at' R S').filter fun i => decide (i ∈ S2.left)) ↔ i ∈ z.pl.sys.at' R S' ∧ i ∈ S2.left := fun i => by simp
        have hlfl : ((z.pl.sys.at' R S').filter fun i => decide (i ∈ S2.left)).length ≤ 40 := Nat.le_trans (List.length_filter_le _ _) hpl40
        generalize ((z.pl.sys.at' R S').filter fun i => decide (i ∈ S2.left)) = lf at hlf hlfl ⊢
        refine (?_ : SX C _ [.mk A.p c (z.fs A), .im (.int R), .un, .im (lstI lf), .bd A.a1 (encNeed S2.need), .bl A.a2 (S2.left.map Dat.int), .bl A.a3 (S2.taken.map Dat.int), .bd A.a4 (encCells sp)] _)
        refine sx_for (ix_list tg_name ?_)
        walk_at "go"
        refine ⟨fun _ _ => trivial, fun pre2 e => ∃ sp2 s2, (∀ q ∈ sp2, (0 : Int) ≤ q.1) ∧ sp2.length ≤ sp.length + pre2.length ∧ e = [.mk A.p c (z.fs A), .im (.int R), s2, .im (lstI lf), .bd A.a1 (encNeed S2.need), .bl A.a2 (S2.left.map Dat.int), .bl A.a3 (S2.taken.map Dat.int), .bd A.a4 (encCells sp2)], ⟨sp, .un, hsp, by simp, rfl⟩, ?_, ?_⟩
        · rintro pre2 d2 post2 e hd2 ⟨sp2, s2, hsp2, hl2, rfl⟩
          obtain ⟨i, hi, rfl⟩ := map_at hd2
          have hpre2 := map_len hd2
          have him := (hlf i).mp (List.mem_of_getElem? hi)
          have hip := hps i him.1
          walk_at "go"
          refine ex_methB (i := 0) rfl rfl ?_
          walk_at "go"
          refine ⟨[.int i], rfl, rfl, rfl, A, { z with S := S2, sp := sp2 }, i, rfl, rfl, hA, hp, .inr hip, gi2.need, trivial, ?_⟩
          walk_at "go"
          have hbe : (!(spL S2.need (({ z with S := S2, sp := sp2 } : PeS).wr i)).isEmpty) = !(spL S2.need (z.pl.cells i)).isEmpty := by rw [wr_pc (z := { z with S := S2, sp := sp2 }) hip]
          cases hb : (spL S2.need (z.pl.cells i)).isEmpty with
          | true =>
            refine iteE (c := false) (hbe.trans (by rw [hb]; rfl)) ?_
            walk_at "go"
            exact ⟨sp2, .im (.int i), hsp2, by simp; omega, rfl⟩
          | false =>
            refine iteE (c := true) (hbe.trans (by rw [hb]; rfl)) ?_
            obtain ⟨x, hx⟩ : ∃ x, (spL S2.need (({ z with S := S2, sp := sp2 } : PeS).wr i))[0]? = some x := by
              rw [wr_pc (z := { z with S := S2, sp := sp2 }) hip]
              cases hs : spL S2.need (z.pl.cells i) with
              | nil => rw [hs] at hb; cases hb
              | cons y r => exact ⟨y, rfl⟩
            refine sx_dputB (j := 7) (a := A.a4) ?_
            walk_at "go"
            refine ex_methB (i := 0) rfl rfl ?_
            walk_at "go"
            refine ⟨[.int i], rfl, rfl, rfl, A, { z with S := S2, sp := sp2 }, i, rfl, rfl, hA, hp, .inr hip, gi2.need, trivial, ?_⟩
            walk_at "go"
            refine rx_ixL rfl (d := .int x) (atI_of (by decide) (by rw [List.getElem?_map]; exact congrArg (Option.map Dat.int) hx)) ?_
            walk_at "go"
            refine ⟨.inr rfl, ⟨_, rfl⟩, ?_⟩
            walk_at "go"
            have hsm := gp.small
            refine ⟨_, _, rfl, rfl, ⟨n04, n14, n24, n34, trivial⟩, by show (encCells sp2).length < 1000000; rw [List.length_map]; omega, ?_⟩
            refine ⟨putI sp2 i x, .im (.int i), fun q hq => ?_, ?_, ?_⟩
            · rcases putI_mem hq with h | h
              · exact hsp2 q h
              · rw [h]; exact hip.1
            · have := putI_len (sp := sp2) (k := i) (x := x)
              simp
              omega
            · rw [← put_cells]
              rfl
        · rintro e ⟨sp2, s2, hsp2, hl2, rfl⟩
          refine sx_forget 2 ?_
          refine (?_ : SX C _ [.mk A.p c (z.fs A), .im (.int R), .un, .im (lstI lf), .bd A.a1 (encNeed S2.need), .bl A.a2 (S2.left.map Dat.int), .bl A.a3 (S2.taken.map Dat.int), .bd A.a4 (encCells sp2)] _)
          walk_at "go"
          refine ex_lcY (by decide) (ix_list tg_name ?_)
          walk_at "go"
          refine ⟨fun _ _ => trivial, by rw [List.length_map]; omega, ⟨trivial, trivial⟩, Int, lf, Dat.int, (fun i => .bl (decide (i ∈ z.sure))), rfl, fun i hi => ?_, ?_⟩
          · walk_at "go"
            refine rx_inL (neg := false) (ns := z.sure) rfl ?_
            exact ⟨rfl, rfl⟩
          · walk_at "go"
            rw [List.length_map] at hl2
            cases hb : lf.any fun i => decide (i ∈ z.sure) with
            | true =>
              walk_at "go"
              obtain ⟨i, hi, hs⟩ := List.any_eq_true.mp hb
              have him := (hlf i).mp hi
              have hs : i ∈ z.sure := by simpa using hs
              rw [gp.sure] at hs
              have g := hk S2 false sp2 (hgo S2 false (.stop hall ⟨i, him.1, him.2, (lower_mem.mp hs).2⟩))
              rw [show ({ z with S := S2, sp := sp2, fin := false } : PeS) = { z with S := S2, sp := sp2, fin := z.fin } by rw [gp.fin]] at g
              exact ⟨rfl, g⟩
            | false =>
              walk_at "go"
              refine ⟨S2, sp2, _, _, _, fun S'' b g => hgo S'' b (.next hall (fun ⟨i, h1, h2, h3⟩ => ?_) (by rw [hRn] at g; exact g)), gi2, hsp2, by simp; omega, rfl⟩
              rw [List.any_eq_false] at hb
              have := hb i ((hlf i).mpr ⟨h1, h2⟩)
              rw [gp.sure] at this
              exact this (by simpa using lower_mem.mpr ⟨hps i h1, h3⟩)
    · rintro e ⟨S', sp, s1, s2, s3, hgo, gi, hsp, hspl, rfl⟩
      rw [rgD_len] at hgo hspl
      rw [show EN + 1 - (EN + 1) = 0 by omega] at hgo
      refine sx_forget 1 (sx_forget 2 (sx_forget 3 ?_))
      refine (?_ : SX C _ [.mk A.p c (z.fs A), .un, .un, .un, .bd A.a1 (encNeed S'.need), .bl A.a2 (S'.left.map Dat.int), .bl A.a3 (S'.taken.map Dat.int), .bd A.a4 (encCells sp)] _)
      walk_at "go"
      refine ex_methB (i := 0) rfl rfl ?_
      walk_at "go"
      refine ⟨[.int (-1)], rfl, rfl, rfl, A, { z with S := S', sp := sp }, -1, rfl, rfl, hA, hp, .inl rfl, gi.need, trivial, ?_⟩
      walk_at "go"
      have hw : (({ z with S := S', sp := sp } : PeS).wr (-1)) = botOf z.pl.base := by
        unfold PeS.wr
        rw [if_pos rfl]
        exact gp.bot
      have hbe : (!(spL S'.need (({ z with S := S', sp := sp } : PeS).wr (-1))).isEmpty) = z.pl.sys.spoB S'.need := by rw [hw, bot_spo gi.cell, Bool.not_not]
      have fin : ∀ sp2 b, (lkp sp2 (-1)).isSome = !b → b = (!z.pl.sys.spoB S'.need) → SX C (sFld K (tVar 0) (tDNotIn (tC (V.int (-1))) (tFld K (tVar 0) "spoils")) "ended") [.mk A.p c (z.fs A), .un, .un, .un, .bd A.a1 (encNeed S'.need), .bl A.a2 (S'.left.map Dat.int), .bl A.a3 (S'.taken.map Dat.int), .bd A.a4 (encCells sp2)] { nx := fun e => (getB e).map adr = ([.mk A.p c (z.fs A), .bd A.a1 (encNeed z.S.need), .bl A.a2 (z.S.left.map Dat.int), .bl A.a3 (z.S.taken.map Dat.int), .bd A.a4 (encCells z.sp)] : List Sl).map adr ∧ kk (.im .non) (getB e), rt := fun s e => RetOk s ∧ (getB e).map adr = ([.mk A.p c (z.fs A), .bd A.a1 (encNeed z.S.need), .bl A.a2 (z.S.left.map Dat.int), .bl A.a3 (z.S.taken.map Dat.int), .bd A.a4 (encCells z.sp)] : List Sl).map adr ∧ kk s (getB e) } := fun sp2 b hs hb => by
        walk_at "go"
        refine ⟨encCells sp2, by show findD A.a4 [.mk A.p c (z.fs A), .un, .un, .un, .bd A.a1 (encNeed S'.need), .bl A.a2 (S'.left.map Dat.int), .bl A.a3 (S'.taken.map Dat.int), .bd A.a4 (encCells sp2)] = _; simp [findD, n14], ?_⟩
        rw [look_cells, Option.isSome_map, hs, Bool.not_not]
        refine ⟨_, rfl, rfl, ⟨n01.symm, n02.symm, n03.symm, n04.symm, trivial⟩, rfl, ?_⟩
        rw [hb]
        exact hk S' _ sp2 (hgo _ _ .done)
      cases hb : z.pl.sys.spoB S'.need with
      | false =>
        refine iteE (c := false) (hbe.trans hb) (sx_next ?_)
        exact fin sp true (by rw [lkp_none fun q hq h => by have := hsp q hq; omega]; rfl) (by rw [hb]; rfl)
      | true =>
        refine iteE (c := true) (hbe.trans hb) ?_
        obtain ⟨x, hx⟩ : ∃ x, (spL S'.need (({ z with S := S', sp := sp } : PeS).wr (-1)))[0]? = some x := by
          rw [hb] at hbe
          cases hs : spL S'.need (({ z with S := S', sp := sp } : PeS).wr (-1)) with
          | nil => rw [hs] at hbe; cases hbe
          | cons y r => exact ⟨y, rfl⟩
        refine sx_dputB (j := 7) (a := A.a4) ?_
        walk_at "go"
        refine ex_methB (i := 0) rfl rfl ?_
        walk_at "go"
        refine ⟨[.int (-1)], rfl, rfl, rfl, A, { z with S := S', sp := sp }, -1, rfl, rfl, hA, hp, .inl rfl, gi.need, trivial, ?_⟩
        walk_at "go"
        refine rx_ixL rfl (d := .int x) (atI_of (by decide) (by rw [List.getElem?_map]; exact congrArg (Option.map Dat.int) hx)) ?_
        walk_at "go"
        refine ⟨.inr rfl, ⟨_, rfl⟩, ?_⟩
        walk_at "go"
        have hsm := gp.small
        refine ⟨_, _, rfl, rfl, ⟨n04, n14, n24, n34, trivial⟩, by show (encCells sp).length < 1000000; rw [List.length_map]; omega, ?_⟩
        have := fin (putI sp (-1) x) false (by rw [putI_look]; rfl) (by rw [hb]; rfl)
        rw [← put_cells] at this
        exact this
end
end Af
end

section
set_option maxHeartbeats 4000000
namespace Af
open PySem L2
local macro_rules | `(tactic| walk_at "sc") => `(tactic| first | exact ScD.int _ | exact ScD.bl _ | exact ScD.non | exact ScD.str _ | exact ScD.ty _ | exact ScD.cls _)
local macro_rules | `(tactic| walk_at "rx") => `(tactic| first
  | ((with_reducible refine' rx_ixT ?h ?_); (case h => exact rfl))
  | ((with_reducible refine' rx_ixL ?h1 ?h2 ?_); (case h1 => exact rfl); (case h2 => exact rfl))
  | with_reducible refine rx_I0i ?_
  | with_reducible refine rx_I0b ?_
  | ((with_reducible refine' rx_Ii ?h ?_); (case h => first | decide | (show (0 : Int) < _; omega)))
  | with_reducible refine rx_eqI ?_
  | with_reducible refine rx_neI ?_
  | with_reducible refine rx_neB ?_
  | with_reducible refine rx_isN ?_
  | with_reducible refine rx_notN ?_
  | with_reducible refine rx_neT ?_
  | ((with_reducible refine' rx_neN ?h1 ?h2 ?_); (case h1 => exact rfl); (case h2 => exact rfl))
  | ((with_reducible refine' rx_eqN ?h1 ?h2 ?_); (case h1 => exact rfl); (case h2 => exact rfl)))
local macro_rules | `(tactic| walk_at "go1") => `(tactic| first
  | with_reducible refine sx_seq ?_
  | ((with_reducible refine' sx_retO ?h ?_); (case h => exact rfl))
  | ((with_reducible refine' sx_retD ?h ?_); (case h => exact rfl))
  | with_reducible refine sx_ret ?_
  | ((with_reducible refine' sx_fldM ?z ?a ?b ?c ?d ?_); (case z => exact rfl); (case a => assumption); (case b => assumption); (case c => assumption); (case d => exact Nat.le_of_ble_eq_true rfl))
  | ((with_reducible refine' sx_append ?h ?_); (case h => exact rfl))
  | ((with_reducible refine' sx_extend ?h ?_); (case h => exact rfl))
  | with_reducible refine sx_drop ?_
  | with_reducible refine sx_retN ?_
  | with_reducible refine sx_next ?_
  | with_reducible refine sx_if ?_
  | with_reducible refine sx_asg ?_
  | with_reducible refine sx_asgT ?_
  | ((with_reducible refine' ex_im ?h ?_); (case h => exact rfl))
  | ((with_reducible refine' ex_ow ?h ?_); (case h => exact rfl))
  | ((with_reducible refine' ex_ro ?h ?_); (case h => exact rfl))
  | ((with_reducible refine' ex_od ?h ?_); (case h => exact rfl))
  | ((with_reducible refine' ex_pn ?h ?_); (case h => exact rfl))
  | ((with_reducible refine' ex_mk ?h ?_); (case h => exact rfl))
  | ((with_reducible refine' ex_ri ?h ?_); (case h => exact rfl))
  | ((with_reducible refine' ex_qi ?h ?_); (case h => exact rfl))
  | ((with_reducible refine' ex_bl ?h ?_); (case h => exact rfl))
  | ((with_reducible refine' ex_c ?h ?_); (case h => walk_at "sc"))
  | with_reducible refine ex_op ?_
  | with_reducible refine ex_andV ?_
  | with_reducible refine ex_orV ?_
  | with_reducible refine ex_notV ?_
  | with_reducible refine ex_if ?_
  | with_reducible refine ex_chain ?_
  | with_reducible refine ex_tup ?_
  | with_reducible refine ex_lst ?_
  | with_reducible refine ex_sortedSet ?_
  | with_reducible refine ex_countN ?_
  | with_reducible refine ex_revL ?_
  | with_reducible refine ex_cb ?_
  | with_reducible refine ex_call ?_
  | with_reducible refine ex_callB ?_
  | with_reducible refine exa_nil ?_
  | with_reducible refine exa_cons ?_
  | with_reducible refine et_test ?_
  | with_reducible refine et_B ?_
  | with_reducible refine et_and ?_
  | with_reducible refine et_or ?_
  | with_reducible refine et_not ?_
  | walk_at "rx"
  | ((with_reducible refine' cx_isi (b := true) ?h ?k ?_); (case h => exact rfl); (case k => decide +kernel))
  | ((with_reducible refine' cx_isi (b := false) ?h ?k ?_); (case h => exact rfl); (case k => decide +kernel))
  | ((with_reducible refine' cx_len ?h ?_); (case h => exact rfl))
  | ((with_reducible refine' cx_list ?h ?_); (case h => exact rfl))
  | ((with_reducible refine' cx_tuple ?h ?_); (case h => exact rfl))
  | ((with_reducible refine' cx_allF ?h ?_); (case h => exact rfl))
  | ((with_reducible refine' cx_anyF ?h ?_); (case h => exact rfl))
  | with_reducible refine cx_intI ?_
  | with_reducible refine cx_intB ?_
  | with_reducible refine ex_fz ?_
  | refine .inl ⟨_, rfl, ?_⟩
  | refine .inr ⟨_, rfl, ?_⟩
  | ((with_reducible refine' sx_par ?_))
  | ((with_reducible refine' sx_dput ?h); (case h => skip))
  | with_reducible refine cx_max2 ?_
  | with_reducible refine cx_min2 ?_
  | ((with_reducible refine' cx_dict ?h ?_); (case h => exact rfl))
  | with_reducible refine ex_make ?_
  | ((with_reducible refine' ex_fzV ?h ?_); (case h => exact rfl))
  | ((with_reducible refine' ex_fzVD ?h ?_); (case h => exact rfl))
  | ((with_reducible refine' ex_start ?pc ?_); (case pc => assumption))
  | ((with_reducible refine' ex_span ?pc ?_); (case pc => assumption))
  | ((with_reducible refine' ex_deeds ?pc ?_); (case pc => assumption))
  | ((with_reducible refine' ex_parts ?pc ?_); (case pc => assumption))
  | ((with_reducible refine' ex_ranks ?pc ?_); (case pc => assumption))
  | with_reducible refine ex_fld ?_
  | with_reducible refine ex_prop ?_
  | with_reducible refine ex_lenSet ?_
  | with_reducible refine ex_neg ?_
  | with_reducible refine ex_dictEnum ?_
  | with_reducible refine ex_dget2 ?_
  | with_reducible refine ex_disp1 ?_
  | with_reducible refine ex_listRg1 ?_
  | with_reducible refine cx_isC ?_
  | with_reducible refine ex_meth ?_
  | with_reducible refine ex_slT ?_
  | with_reducible refine ex_slL ?_
  | with_reducible refine exo_none ?_
  | with_reducible refine exo_some ?_
  | with_reducible refine ex_dget ?_
  | with_reducible refine ex_din ?_
  | with_reducible refine ex_dnotin ?_
  | with_reducible refine ex_dnew ?_
  | with_reducible refine exa_star ?_
  | with_reducible refine iteT ?_
  | with_reducible refine iteF ?_
  | with_reducible refine iteNF ?_
  | with_reducible refine iteNT ?_
  | refine ⟨(trivial : RetOk (Sl.im _)), ?_⟩
  | refine ⟨(trivial : RetOk (Sl.ow _)), ?_⟩
  | refine ⟨[], rfl, Nat.le_of_ble_eq_true rfl, ?_⟩
  | refine ⟨[_], rfl, Nat.le_of_ble_eq_true rfl, ?_⟩
  | refine ⟨[_, _], rfl, Nat.le_of_ble_eq_true rfl, ?_⟩
  | refine ⟨[_, _, _], rfl, Nat.le_of_ble_eq_true rfl, ?_⟩
  | refine ⟨[_, _, _, _, _], rfl, Nat.le_of_ble_eq_true rfl, ?_⟩
  | refine ⟨rfl, rfl, ?_⟩
  | refine ⟨_, _, _, rfl, by assumption, by assumption, rfl, ?_⟩
  | refine ⟨npI, ?_⟩
  | refine ⟨npO, ?_⟩
  | refine ⟨npD, ?_⟩
  | refine ⟨npQ, ?_⟩
  | refine ⟨_, rfl, ?_⟩
  | refine ⟨_, _, rfl, ?_⟩
  | refine ⟨_, _, _, rfl, ?_⟩
  | refine ⟨_, _, _, _, rfl, ?_⟩
  | ((with_reducible refine' andGet ?h ?_); (case h => exact rfl)))
local macro_rules | `(tactic| walk_at "go") => `(tactic| repeat walk_at "go1")
local macro_rules | `(tactic| walk_at "T") => `(tactic| (refine iteE (c := true) rfl ?_; walk_at "go"))
local macro_rules | `(tactic| walk_at "F") => `(tactic| (refine iteE (c := false) rfl ?_; walk_at "go"))
section
variable {P : Program} {w : World} {K : PySem.W.Frag} {mg : Str → Option Value} {base : Heap} {C c : Addr}
theorem bot_enc (cs : List Int) : ((cs.map Dat.int).zipIdx.map fun q => ((q.2 : Int), q.1)) = encCells (botOf cs) := by
  unfold botOf encCells
  rw [List.zipIdx_map, List.map_map, List.map_map]
  rfl
theorem below_eq {p : Pl} {r : Int} : (p.ranks.zipIdx.filter fun q => decide (q.1 ≤ r)).map (fun q => Dat.int (q.2 : Nat)) = (p.sys.below r).map Dat.int := by
  rw [zipIdx_range, List.filter_map, List.map_map, ranks_len]
  unfold Sys.below
  rw [List.filter_map, List.map_map]
  rfl
theorem below_len {p : Pl} {e : Int} : (p.sys.below e).length ≤ p.parts.length := by
  unfold Sys.below
  refine Nat.le_trans (List.length_filter_le _ _) ?_
  rw [List.length_map, List.length_range]
  exact Nat.le_refl _
/-- a new peel -/
def newPeel (p : Pl) (pat : Pat) (E : Nat) : PeS := ⟨p, E, botOf p.base, p.lower E, p.sys.init pat E, [], false⟩
abbrev dPeel (c : Addr) : DO := fun x ds k => ∃ (p : Pl) (pat : Pat) (E : Nat), ds = [p.enc, encPat pat, noClaims, .int (E : Nat), .lst []] ∧ PlOk p ∧ PatOk p.base.length pat ∧ E < p.epochs ∧ ∀ A : PeA, A.p = x → A.Ok → k ((newPeel p pat E).st A c)
theorem ok_PeelX_initX {f : Addr} {fd : FuncData} (F : Fun K "__init__" "Peel.__init__" s_PeelX_initX f fd) (T : Txt mg) (PC : PlanC K C) (PE : PeelC K c) (hcC : c ≠ C) (D_overwritten : DefOk P w K mg base "overwritten" 2 P_overwritten (SpD C dOver)) (D_Plan_base : PrpOk P w K mg base C "base" 1 (SpD C dPlBase)) (D_led_to : DefOk P w K mg base "led_to" 1 P_led_to (SpD C dNever)) (D_sure_in : DefOk P w K mg base "sure_in" 6 P_sure_in (SpD C dSureIn)) : FnOk P w K mg base CX0 7 f fd P_PeelX_initX (SpO C c (dPeel c)) := by
  refine fn_initB F sc_PeelX_initX hcC (fun x ds k h => ?_) (by decide) fun cdv A outer s H E ds x kk hr h => ?_
  · obtain ⟨_, _, _, e, _⟩ := h
    rw [e]; rfl
  · obtain ⟨p, pat, EN, e, hp, ht, hE, hk⟩ := h
    subst e
    refine ⟨_, (pss_cons (kk_sfld K (pv 0) (pv 1) rfl)
      (pss_cons (kk_sfld K (pv 0) (pv 4) rfl)
      (pss_cons (ps_gh 10 rfl rfl (kk_sfld K (pv 0) (pe_callTy call_dictD (by rfl) T.b_dict (by decide +kernel) (pa_cons (pv 2) pa_nil)) rfl))
      (pss_cons (kk_sfld K (pv 0) (pe_fz (kk_dictEnum K (by rfl) T.b_dict (by rfl) T.b_enumerate (pe_callD D_overwritten (hr.mono (by decide)) (by rfl) (pa_cons (pv 1) (pa_cons (pe_propD D_Plan_base (pv 1) (hr.mono (by decide)) rfl) (pa_cons (pv 5) pa_nil)))))) rfl)
      (pss_cons (kk_sfld K (pv 0) (pe_fz (pe_dc (own := [("piece", 7), ("other", 8)]) (g := (gTup _ 2 (gNames [7, 8]))) rfl sc_PeelX_initX.nd (kk_pil K (pe_ix (kk_ixT K) (pv 3) pe_int (fun _ _ => rfl))) (blkOk_by (own := [("piece", 7), ("other", 8)]) (N := N_PeelX_initX) (sc := defScope s_PeelX_initX) (by decide +kernel)) (fun _ _ _ _ _ => (pg_tup rfl (t := gNames [7, 8]) (pgs_cons (pg_name (i := 7) sc_PeelX_initX.nd rfl (Or.inl rfl)) (pgs_cons (pg_name (i := 8) sc_PeelX_initX.nd rfl (Or.inl rfl)) pgs_nil)))) (fun _ _ _ _ _ => pts_nil) (fun _ _ _ _ _ => (pv 7)) (fun _ _ _ _ _ => (pe_callD D_led_to (hr.mono (by decide)) (by rfl) (pa_cons (pe_ix (kk_ixT K) (pv 3) pe_int (fun _ _ => rfl)) (pa_cons (pv 7) pa_nil)))))) rfl)
      (pss_cons (kk_sfld K (pv 0) (pe_fz (pe_callD D_sure_in (hr.mono (by decide)) (by rfl) (pa_cons (pv 1) (pa_cons (pv 3) (pa_cons (pv 4) pa_nil))))) rfl)
      (pss_cons (ps_fz 6 (ps_setLc (i := 6) (own := [("piece", 7), ("rank", 9)]) (g := (gTup _ 2 (gNames [7, 9]))) rfl sc_PeelX_initX.nd rfl rfl (sw_true rfl rfl rfl (by decide +kernel)) (pi_enum (by rfl) T.b_enumerate (pa_cons (kk_fld K (pv 1) rfl) pa_nil)) (blkOk_by (own := [("piece", 7), ("rank", 9)]) (N := N_PeelX_initX) (sc := defScope s_PeelX_initX) (by decide +kernel)) (fun _ _ _ _ _ => (pg_tup rfl (t := gNames [7, 9]) (pgs_cons (pg_name (i := 7) sc_PeelX_initX.nd rfl (Or.inl rfl)) (pgs_cons (pg_name (i := 9) sc_PeelX_initX.nd rfl (Or.inl rfl)) pgs_nil)))) (fun _ _ _ _ _ => (pts_one (pt_cmpR op_le (pv 9) (pv 4) (nomark _)))) (fun _ _ _ _ _ => (pv 7))))
      (pss_cons (ps_gh 11 rfl rfl (kk_sfld K (pv 0) (pe_lc (own := [("piece", 7)]) (g := (gName 7)) rfl sc_PeelX_initX.nd (kk_pil K (pv 6)) (blkOk_by (own := [("piece", 7)]) (N := N_PeelX_initX) (sc := defScope s_PeelX_initX) (by decide +kernel)) (fun _ _ _ _ _ => (pg_name (i := 7) sc_PeelX_initX.nd rfl (Or.inl rfl))) (fun _ _ _ _ _ => (pts_one (PW.pt (pw_and (pt_cmpR (kk_notIn K) (pv 7) (pe_ix (kk_ixT K) (pv 3) pe_int (fun _ _ => rfl)) rfl) (pw_and1 (pt_cmpR (kk_notIn K) (pv 7) (pv 5) rfl)))))) (fun _ _ _ _ _ => (pv 7))) rfl))
      (pss_cons (ps_gh 12 rfl rfl (kk_sfld K (pv 0) (pe_lst pa_nil) rfl))
      (pss_cons (ps_gh 13 rfl rfl (kk_sfld K (pv 0) pe_dnewK rfl))
      (pss_one (kk_sfld K (pv 0) pe_bl rfl)))))))))))), ?_⟩
    obtain ⟨g0, g1, g2, g3, g4, g5, g6, g7, g8, g9, g10⟩ := PE
    refine sxb_seq (sxb_of ?_)
    walk_at "go"
    refine (?_ : SXB C _ _ [.mk x c [("given", p.enc)], .im p.enc, .im (encPat pat), .im noClaims, .im (.int EN), .im (.lst []), .un, .un, .un, .un, .un, .un, .un, .un] _)
    refine sxb_seq (sxb_of ?_)
    walk_at "go"
    refine sxb_seq (sxb_own (i := 0) (j := 10) rfl g0 g3 hcC (Nat.le_of_ble_eq_true rfl) trivial ?_)
    walk_at "go"
    refine ⟨rfl, .inr ⟨_, rfl, fun a1 no1 => ?_⟩⟩
    refine (?_ : SXB C _ _ [.mk x c [("given", p.enc), ("epoch", .int EN), ("needed", .cls a1)], .im p.enc, .im (encPat pat), .im noClaims, .im (.int EN), .im (.lst []), .un, .un, .un, .un, .bd a1 (encNeed pat), .un, .un, .un] _)
    have q1 : x ≠ a1 := no1.1
    refine sxb_seq (sxb_of ?_)
    walk_at "go"
    refine ⟨p, p.base, [], rfl, hp, rfl, fun _ z => (nomatch z), trivial, _, rfl, .inr ⟨_, rfl, _, rfl, rfl, ⟨q1.symm, trivial⟩, ?_⟩⟩
    rw [bot_enc]
    refine (?_ : SXB C _ _ [.mk x c [("given", p.enc), ("epoch", .int EN), ("needed", .cls a1), ("bottom", .dct (encCells (botOf p.base)))], .im p.enc, .im (encPat pat), .im noClaims, .im (.int EN), .im (.lst []), .un, .un, .un, .un, .bd a1 (encNeed pat), .un, .un, .un] _)
    refine sxb_seq (sxb_of ?_)
    refine sx_fldM rfl g0 g5 hcC (Nat.le_of_ble_eq_true rfl) ?_
    refine ex_fz ?_
    refine ex_dcY (by decide) (ix_list (tg_tup rfl) ?_)
    walk_at "go"
    refine ⟨fun _ hd => (nomatch hd), Nat.zero_le _, ⟨trivial, trivial, trivial⟩, Int, [], Dat.int, (fun _ => 0), (fun _ => .non), rfl, .nil, fun x hx => (nomatch hx), fun x hx => (nomatch hx), ?_⟩
    refine .inr ⟨_, rfl, _, rfl, rfl, ⟨q1.symm, trivial⟩, ?_⟩
    refine (?_ : SXB C _ _ [.mk x c [("given", p.enc), ("epoch", .int EN), ("needed", .cls a1), ("bottom", .dct (encCells (botOf p.base))), ("chains", .dct [])], .im p.enc, .im (encPat pat), .im noClaims, .im (.int EN), .im (.lst []), .un, .un, .un, .un, .bd a1 (encNeed pat), .un, .un, .un] _)
    refine sxb_seq (sxb_of ?_)
    walk_at "go"
    refine ⟨hp, by omega, by omega, trivial, .inl ⟨_, rfl, _, rfl, rfl, ⟨q1.symm, trivial⟩, ?_⟩⟩
    refine (?_ : SXB C _ _ [.mk x c [("given", p.enc), ("epoch", .int EN), ("needed", .cls a1), ("bottom", .dct (encCells (botOf p.base))), ("chains", .dct []), ("sure", lstI (p.lower EN))], .im p.enc, .im (encPat pat), .im noClaims, .im (.int EN), .im (.lst []), .un, .un, .un, .un, .bd a1 (encNeed pat), .un, .un, .un] _)
    refine sxb_seq (sxb_of (sx_fz ?_))
    walk_at "go"
    refine ex_lcT (by decide) (ix_enum (tg_tup rfl) ?_)
    walk_at "go"
    have hf := hp.few
    refine ⟨fun d hd => ?_, by rw [enD_len, List.length_map, ranks_len]; omega, ⟨trivial, trivial, trivial⟩, Int × Nat, p.ranks.zipIdx, (fun q => .tup [.int (q.2 : Nat), .int q.1]), (fun q => decide (q.1 ≤ EN)), (fun q => .int (q.2 : Nat)), enD_ints _, fun q hq => ?_, fun q hq _ => ?_, ?_⟩
    · obtain ⟨j, hj⟩ := List.getElem?_of_mem hd
      obtain ⟨y, _, e⟩ := enD_get hj
      exact ⟨_, e, rfl⟩
    · walk_at "go"
      exact ⟨rfl, rfl⟩
    · walk_at "go"
      exact ⟨rfl, rfl⟩
    rw [below_eq]
    refine ⟨npO, .inl ⟨_, rfl, ?_⟩⟩
    refine (?_ : SXB C _ _ [.mk x c [("given", p.enc), ("epoch", .int EN), ("needed", .cls a1), ("bottom", .dct (encCells (botOf p.base))), ("chains", .dct []), ("sure", lstI (p.lower EN))], .im p.enc, .im (encPat pat), .im noClaims, .im (.int EN), .im (.lst []), .im (lstI (p.sys.below EN)), .un, .un, .un, .bd a1 (encNeed pat), .un, .un, .un] _)
    refine sxb_seq (sxb_own (i := 0) (j := 11) rfl g0 g7 hcC (Nat.le_of_ble_eq_true rfl) ⟨q1.symm, trivial⟩ ?_)
    refine ex_lcT (by decide) (ix_list tg_name ?_)
    walk_at "go"
    have hbl := below_len (p := p) (e := EN)
    refine ⟨fun _ _ => trivial, by rw [List.length_map]; omega, ⟨trivial, trivial⟩, Int, p.sys.below EN, Dat.int, (fun _ => true), Dat.int, rfl, fun i hi => ?_, fun i hi _ => ?_, ?_⟩
    · walk_at "go"
      refine rx_inL (neg := true) (ns := []) rfl ?_
      refine ⟨_, rfl, ?_⟩
      refine iteE (c := true) (by simp) ?_
      walk_at "go"
      refine rx_inL (neg := true) (ns := []) rfl ?_
      exact ⟨_, rfl, by simp, rfl⟩
    · walk_at "go"
      exact ⟨rfl, rfl⟩
    rw [List.filter_eq_self.mpr (fun _ _ => rfl)]
    refine ⟨rfl, .inl ⟨_, rfl, fun a2 no2 => ?_⟩⟩
    have q2 : x ≠ a2 := no2.1
    have q12 : a1 ≠ a2 := no2.2.1
    refine (?_ : SXB C _ _ [.mk x c [("given", p.enc), ("epoch", .int EN), ("needed", .cls a1), ("bottom", .dct (encCells (botOf p.base))), ("chains", .dct []), ("sure", lstI (p.lower EN)), ("left", .cls a2)], .im p.enc, .im (encPat pat), .im noClaims, .im (.int EN), .im (.lst []), .im (lstI (p.sys.below EN)), .un, .un, .un, .bd a1 (encNeed pat), .bl a2 ((p.sys.below EN).map Dat.int), .un, .un] _)
    refine sxb_seq (sxb_own (i := 0) (j := 12) rfl g0 g8 hcC (Nat.le_of_ble_eq_true rfl) ⟨q1.symm, q2.symm, trivial⟩ ?_)
    walk_at "go"
    refine ⟨rfl, .inl ⟨_, rfl, fun a3 no3 => ?_⟩⟩
    have q3 : x ≠ a3 := no3.1
    have q13 : a1 ≠ a3 := no3.2.1
    have q23 : a2 ≠ a3 := no3.2.2.1
    refine (?_ : SXB C _ _ [.mk x c [("given", p.enc), ("epoch", .int EN), ("needed", .cls a1), ("bottom", .dct (encCells (botOf p.base))), ("chains", .dct []), ("sure", lstI (p.lower EN)), ("left", .cls a2), ("taken", .cls a3)], .im p.enc, .im (encPat pat), .im noClaims, .im (.int EN), .im (.lst []), .im (lstI (p.sys.below EN)), .un, .un, .un, .bd a1 (encNeed pat), .bl a2 ((p.sys.below EN).map Dat.int), .bl a3 [], .un] _)
    refine sxb_seq (sxb_own (i := 0) (j := 13) rfl g0 g9 hcC (Nat.le_of_ble_eq_true rfl) ⟨q1.symm, q2.symm, q3.symm, trivial⟩ ?_)
    walk_at "go"
    refine ⟨rfl, .inr ⟨_, rfl, fun a4 no4 => ?_⟩⟩
    refine (?_ : SXB C _ _ [.mk x c [("given", p.enc), ("epoch", .int EN), ("needed", .cls a1), ("bottom", .dct (encCells (botOf p.base))), ("chains", .dct []), ("sure", lstI (p.lower EN)), ("left", .cls a2), ("taken", .cls a3), ("spoils", .cls a4)], .im p.enc, .im (encPat pat), .im noClaims, .im (.int EN), .im (.lst []), .im (lstI (p.sys.below EN)), .un, .un, .un, .bd a1 (encNeed pat), .bl a2 ((p.sys.below EN).map Dat.int), .bl a3 [], .bd a4 []] _)
    refine sxb_of ?_
    walk_at "go"
    exact ⟨⟨q1.symm, q2.symm, q3.symm, (no4.1).symm, trivial⟩, hk ⟨x, a1, a2, a3, a4⟩ rfl ⟨q1, q2, q3, no4.1, q12, q13, no4.2.1, q23, no4.2.2.1, no4.2.2.2.1⟩⟩
end
end Af
end

section
set_option maxHeartbeats 4000000
namespace Af
open PySem L2
local macro_rules | `(tactic| walk_at "sc") => `(tactic| first | exact ScD.int _ | exact ScD.bl _ | exact ScD.non | exact ScD.str _ | exact ScD.ty _ | exact ScD.cls _)
local macro_rules | `(tactic| walk_at "rx") => `(tactic| first
  | ((with_reducible refine' rx_ixT ?h ?_); (case h => exact rfl))
  | ((with_reducible refine' rx_ixL ?h1 ?h2 ?_); (case h1 => exact rfl); (case h2 => exact rfl))
  | with_reducible refine rx_I0i ?_
  | with_reducible refine rx_I0b ?_
  | ((with_reducible refine' rx_Ii ?h ?_); (case h => first | decide | (show (0 : Int) < _; omega)))
  | with_reducible refine rx_eqI ?_
  | with_reducible refine rx_neI ?_
  | with_reducible refine rx_neB ?_
  | with_reducible refine rx_isN ?_
  | with_reducible refine rx_notN ?_
  | with_reducible refine rx_neT ?_
  | ((with_reducible refine' rx_neN ?h1 ?h2 ?_); (case h1 => exact rfl); (case h2 => exact rfl))
  | ((with_reducible refine' rx_eqN ?h1 ?h2 ?_); (case h1 => exact rfl); (case h2 => exact rfl)))
local macro_rules | `(tactic| walk_at "go1") => `(tactic| first
  | with_reducible refine sx_seq ?_
  | ((with_reducible refine' sx_retO ?h ?_); (case h => exact rfl))
  | ((with_reducible refine' sx_retD ?h ?_); (case h => exact rfl))
  | with_reducible refine sx_ret ?_
  | ((with_reducible refine' sx_fldM ?z ?a ?b ?c ?d ?_); (case z => exact rfl); (case a => assumption); (case b => assumption); (case c => assumption); (case d => exact Nat.le_of_ble_eq_true rfl))
  | ((with_reducible refine' sx_append ?h ?_); (case h => exact rfl))
  | ((with_reducible refine' sx_extend ?h ?_); (case h => exact rfl))
  | with_reducible refine sx_drop ?_
  | with_reducible refine sx_retN ?_
  | with_reducible refine sx_next ?_
  | with_reducible refine sx_if ?_
  | with_reducible refine sx_asg ?_
  | with_reducible refine sx_asgT ?_
  | ((with_reducible refine' ex_im ?h ?_); (case h => exact rfl))
  | ((with_reducible refine' ex_ow ?h ?_); (case h => exact rfl))
  | ((with_reducible refine' ex_ro ?h ?_); (case h => exact rfl))
  | ((with_reducible refine' ex_od ?h ?_); (case h => exact rfl))
  | ((with_reducible refine' ex_pn ?h ?_); (case h => exact rfl))
  | ((with_reducible refine' ex_mk ?h ?_); (case h => exact rfl))
  | ((with_reducible refine' ex_ri ?h ?_); (case h => exact rfl))
  | ((with_reducible refine' ex_qi ?h ?_); (case h => exact rfl))
  | ((with_reducible refine' ex_bl ?h ?_); (case h => exact rfl))
  | ((with_reducible refine' ex_c ?h ?_); (case h => walk_at "sc"))
  | with_reducible refine ex_op ?_
  | with_reducible refine ex_andV ?_
  | with_reducible refine ex_orV ?_
  | with_reducible refine ex_notV ?_
  | with_reducible refine ex_if ?_
  | with_reducible refine ex_chain ?_
  | with_reducible refine ex_tup ?_
  | with_reducible refine ex_lst ?_
  | with_reducible refine ex_sortedSet ?_
  | with_reducible refine ex_countN ?_
  | with_reducible refine ex_revL ?_
  | with_reducible refine ex_cb ?_
  | with_reducible refine ex_call ?_
  | with_reducible refine ex_callB ?_
  | with_reducible refine exa_nil ?_
  | with_reducible refine exa_cons ?_
  | with_reducible refine et_test ?_
  | with_reducible refine et_B ?_
  | with_reducible refine et_and ?_
  | with_reducible refine et_or ?_
  | with_reducible refine et_not ?_
  | walk_at "rx"
  | ((with_reducible refine' cx_isi (b := true) ?h ?k ?_); (case h => exact rfl); (case k => decide +kernel))
  | ((with_reducible refine' cx_isi (b := false) ?h ?k ?_); (case h => exact rfl); (case k => decide +kernel))
  | ((with_reducible refine' cx_len ?h ?_); (case h => exact rfl))
  | ((with_reducible refine' cx_list ?h ?_); (case h => exact rfl))
  | ((with_reducible refine' cx_tuple ?h ?_); (case h => exact rfl))
  | ((with_reducible refine' cx_allF ?h ?_); (case h => exact rfl))
  | ((with_reducible refine' cx_anyF ?h ?_); (case h => exact rfl))
  | with_reducible refine cx_intI ?_
  | with_reducible refine cx_intB ?_
  | with_reducible refine ex_fz ?_
  | refine .inl ⟨_, rfl, ?_⟩
  | refine .inr ⟨_, rfl, ?_⟩
  | ((with_reducible refine' sx_par ?_))
  | ((with_reducible refine' sx_dput ?h); (case h => skip))
  | with_reducible refine cx_max2 ?_
  | with_reducible refine cx_min2 ?_
  | ((with_reducible refine' cx_dict ?h ?_); (case h => exact rfl))
  | with_reducible refine ex_make ?_
  | ((with_reducible refine' ex_fzV ?h ?_); (case h => exact rfl))
  | ((with_reducible refine' ex_fzVD ?h ?_); (case h => exact rfl))
  | ((with_reducible refine' ex_start ?pc ?_); (case pc => assumption))
  | ((with_reducible refine' ex_span ?pc ?_); (case pc => assumption))
  | ((with_reducible refine' ex_deeds ?pc ?_); (case pc => assumption))
  | ((with_reducible refine' ex_parts ?pc ?_); (case pc => assumption))
  | ((with_reducible refine' ex_ranks ?pc ?_); (case pc => assumption))
  | with_reducible refine ex_fld ?_
  | with_reducible refine ex_prop ?_
  | with_reducible refine ex_lenSet ?_
  | with_reducible refine ex_neg ?_
  | with_reducible refine ex_dictEnum ?_
  | with_reducible refine ex_dget2 ?_
  | with_reducible refine ex_disp1 ?_
  | with_reducible refine ex_listRg1 ?_
  | with_reducible refine cx_isC ?_
  | with_reducible refine ex_meth ?_
  | with_reducible refine ex_slT ?_
  | with_reducible refine ex_slL ?_
  | with_reducible refine exo_none ?_
  | with_reducible refine exo_some ?_
  | with_reducible refine ex_dget ?_
  | with_reducible refine ex_din ?_
  | with_reducible refine ex_dnotin ?_
  | with_reducible refine ex_dnew ?_
  | with_reducible refine exa_star ?_
  | with_reducible refine iteT ?_
  | with_reducible refine iteF ?_
  | with_reducible refine iteNF ?_
  | with_reducible refine iteNT ?_
  | refine ⟨(trivial : RetOk (Sl.im _)), ?_⟩
  | refine ⟨(trivial : RetOk (Sl.ow _)), ?_⟩
  | refine ⟨[], rfl, Nat.le_of_ble_eq_true rfl, ?_⟩
  | refine ⟨[_], rfl, Nat.le_of_ble_eq_true rfl, ?_⟩
  | refine ⟨[_, _], rfl, Nat.le_of_ble_eq_true rfl, ?_⟩
  | refine ⟨[_, _, _], rfl, Nat.le_of_ble_eq_true rfl, ?_⟩
  | refine ⟨[_, _, _, _, _], rfl, Nat.le_of_ble_eq_true rfl, ?_⟩
  | refine ⟨rfl, rfl, ?_⟩
  | refine ⟨_, _, _, rfl, by assumption, by assumption, rfl, ?_⟩
  | refine ⟨npI, ?_⟩
  | refine ⟨npO, ?_⟩
  | refine ⟨npD, ?_⟩
  | refine ⟨npQ, ?_⟩
  | refine ⟨_, rfl, ?_⟩
  | refine ⟨_, _, rfl, ?_⟩
  | refine ⟨_, _, _, rfl, ?_⟩
  | refine ⟨_, _, _, _, rfl, ?_⟩
  | ((with_reducible refine' andGet ?h ?_); (case h => exact rfl)))
local macro_rules | `(tactic| walk_at "go") => `(tactic| repeat walk_at "go1")
local macro_rules | `(tactic| walk_at "T") => `(tactic| (refine iteE (c := true) rfl ?_; walk_at "go"))
local macro_rules | `(tactic| walk_at "F") => `(tactic| (refine iteE (c := false) rfl ?_; walk_at "go"))
theorem pre_new {p : Pl} {pat : Pat} {E : Nat} (hp : PlOk p) (ht : PatOk p.base.length pat) (hE : E < p.epochs) : GoPre (newPeel p pat E) E := by
  have hf := hp.few
  have hbl := below_len (p := p) (e := E)
  refine ⟨rfl, rfl, rfl, fun i hi => (Sys.below_mem.mp hi).1, ⟨ht.nd, ht.few⟩, fun q hq => isBelow_iff.mp (ht.keys q hq), ?_, ?_, rfl, rfl, ?_⟩
  · show (p.sys.below E).length ≤ 40
    omega
  · show 0 + (p.sys.below E).length ≤ 100
    omega
  · unfold Pl.epochs at hE
    have := List.countP_le_length (p := Option.isNone) (l := p.steps)
    have := hp.len
    omega
section
variable {P : Program} {w : World} {K : PySem.W.Frag} {mg : Str → Option Value} {base : Heap} {C c : Addr}
/-- a peel that was handed back -/
def PeS.fd (z : PeS) : List (Str × Dat) := [("given", z.pl.enc), ("epoch", .int z.e), ("needed", .dct (encNeed z.S.need)), ("bottom", .dct (encCells z.bot)), ("chains", .dct []), ("sure", lstI z.sure), ("left", lstI z.S.left), ("taken", lstI z.S.taken), ("spoils", .dct (encCells z.sp)), ("ended", .bl z.fin)]
def dPeeled (c : Addr) : DF := fun ss k => ∃ (p : Pl) (pat : Pat) (E : Nat), ss = [.im p.enc, .im (encPat pat), .im noClaims, .im (.int (E : Nat)), .im (.lst [])] ∧ PlOk p ∧ PatOk p.base.length pat ∧ E < p.epochs ∧ ∀ S' b sp, p.sys.Go E (E + 1) (p.sys.init pat E) S' b → k (.qi c ({ newPeel p pat E with S := S', sp := sp, fin := b }.fd))
theorem ok_peeled {f : Addr} {fd : FuncData} (F : Fun K "peeled" "peeled" s_peeled f fd) (T : Txt mg) (PE : PeelC K c) (hcC : c ≠ C) (D_Peel : MakOk P w K mg base "Peel" c 7 P_PeelX_initX (SpO C c (dPeel c))) (D_Peel_go_through : MetOk P w K mg base c "go_through" 5 P_Peel_go_through (SpB C (bGo c))) : FnOk P w K mg base CX0 10 f fd P_peeled (SpD C (dPeeled c)) := by
  refine fn_pureB F sc_peeled (fun ss k h => ?_) (by decide) fun cdv A outer s H E ss kk hr h => ?_
  · obtain ⟨_, _, _, e, _⟩ := h
    rw [e]; rfl
  · obtain ⟨p, pat, EN, e, hp, ht, hE, hk⟩ := h
    subst e
    refine ⟨_, (pss_cons (ps_gh 9 rfl rfl (ps_gh 8 rfl rfl (ps_gh 7 rfl rfl (ps_gh 6 rfl rfl (ps_set (i := 5) sc_peeled.nd rfl (Or.inl rfl) (pe_makeD D_Peel (pa_cons (pv 0) (pa_cons (pv 1) (pa_cons (pv 2) (pa_cons (pv 3) (pa_cons (pv 4) pa_nil))))) (hr.mono (by decide))))))))
      (pss_cons (ps_fz 9 (ps_fz 8 (ps_fz 7 (ps_fz 6 (ps_expr (pe_methD0 D_Peel_go_through (pv 5) (hr.mono (by decide))))))))
      (pss_one (ps_ret (pv 5))))), ?_⟩
    refine sxb_seq (sxb_make ?_)
    walk_at "go"
    refine ⟨_, rfl, fun x => ⟨p, pat, EN, rfl, hp, ht, hE, fun A hA hok => ?_⟩⟩
    subst hA
    refine ⟨_, _, _, _, _, rfl, ?_⟩
    refine (?_ : SXB C _ _ ([.im p.enc, .im (encPat pat), .im noClaims, .im (.int EN), .im (.lst [])] ++ (newPeel p pat EN).st A c) _)
    obtain ⟨n01, n02, n03, n04, n12, n13, n14, n23, n24, n34⟩ := hok
    refine sxb_seq (sxb_fzD (j := 9) (sxb_fzL (j := 8) (sxb_fzL (j := 7) (sxb_fzD (j := 6) (sxb_of ?_)))))
    refine sx_drop (ex_methB (i := 5) rfl rfl ?_)
    walk_at "go"
    refine ⟨[], rfl, rfl, rfl, A, newPeel p pat EN, EN, rfl, rfl, ⟨n01, n02, n03, n04, n12, n13, n14, n23, n24, n34⟩, hp, pre_new hp ht hE, fun S' b sp hgo => ⟨trivial, ?_⟩⟩
    have kk' := hk S' b sp hgo
    refine ⟨_, _, rfl, ?_, ?_⟩
    · exact ⟨n01, n12.symm, n13.symm, n14.symm, trivial⟩
    refine ⟨A.a2, _, rfl, ⟨n02, n23.symm, n24.symm, trivial⟩, ?_⟩
    refine ⟨A.a3, _, rfl, ⟨n03, n34.symm, trivial⟩, ?_⟩
    refine ⟨A.a4, _, rfl, ⟨n04, trivial⟩, ?_⟩
    refine sxb_retM (i := 5) rfl fun e => ⟨trivial, ?_⟩
    refine Eq.mp (congrArg (fun fs => kk (.qi c fs)) ?_) kk'
    have m12 := n12.symm
    have m13 := n13.symm
    have m14 := n14.symm
    have m23 := n23.symm
    have m24 := n24.symm
    have m34 := n34.symm
    simp [PeS.fd, PeS.fs, subD, n12, n13, n14, n23, n24, n34, m12, m13, m14, m23, m24, m34]
end
end Af
end

section
set_option maxHeartbeats 4000000
namespace Af
open PySem L2
local macro_rules | `(tactic| walk_at "sc") => `(tactic| first | exact ScD.int _ | exact ScD.bl _ | exact ScD.non | exact ScD.str _ | exact ScD.ty _ | exact ScD.cls _)
local macro_rules | `(tactic| walk_at "rx") => `(tactic| first
  | ((with_reducible refine' rx_ixT ?h ?_); (case h => exact rfl))
  | ((with_reducible refine' rx_ixL ?h1 ?h2 ?_); (case h1 => exact rfl); (case h2 => exact rfl))
  | with_reducible refine rx_I0i ?_
  | with_reducible refine rx_I0b ?_
  | ((with_reducible refine' rx_Ii ?h ?_); (case h => first | decide | (show (0 : Int) < _; omega)))
  | with_reducible refine rx_eqI ?_
  | with_reducible refine rx_neI ?_
  | with_reducible refine rx_neB ?_
  | with_reducible refine rx_isN ?_
  | with_reducible refine rx_notN ?_
  | with_reducible refine rx_neT ?_
  | ((with_reducible refine' rx_neN ?h1 ?h2 ?_); (case h1 => exact rfl); (case h2 => exact rfl))
  | ((with_reducible refine' rx_eqN ?h1 ?h2 ?_); (case h1 => exact rfl); (case h2 => exact rfl)))
local macro_rules | `(tactic| walk_at "go1") => `(tactic| first
  | with_reducible refine sx_seq ?_
  | ((with_reducible refine' sx_retO ?h ?_); (case h => exact rfl))
  | ((with_reducible refine' sx_retD ?h ?_); (case h => exact rfl))
  | with_reducible refine sx_ret ?_
  | ((with_reducible refine' sx_fldM ?z ?a ?b ?c ?d ?_); (case z => exact rfl); (case a => assumption); (case b => assumption); (case c => assumption); (case d => exact Nat.le_of_ble_eq_true rfl))
  | ((with_reducible refine' sx_append ?h ?_); (case h => exact rfl))
  | ((with_reducible refine' sx_extend ?h ?_); (case h => exact rfl))
  | with_reducible refine sx_drop ?_
  | with_reducible refine sx_retN ?_
  | with_reducible refine sx_next ?_
  | with_reducible refine sx_if ?_
  | with_reducible refine sx_asg ?_
  | with_reducible refine sx_asgT ?_
  | ((with_reducible refine' ex_im ?h ?_); (case h => exact rfl))
  | ((with_reducible refine' ex_ow ?h ?_); (case h => exact rfl))
  | ((with_reducible refine' ex_ro ?h ?_); (case h => exact rfl))
  | ((with_reducible refine' ex_od ?h ?_); (case h => exact rfl))
  | ((with_reducible refine' ex_pn ?h ?_); (case h => exact rfl))
  | ((with_reducible refine' ex_mk ?h ?_); (case h => exact rfl))
  | ((with_reducible refine' ex_ri ?h ?_); (case h => exact rfl))
  | ((with_reducible refine' ex_qi ?h ?_); (case h => exact rfl))
  | ((with_reducible refine' ex_bl ?h ?_); (case h => exact rfl))
  | ((with_reducible refine' ex_c ?h ?_); (case h => walk_at "sc"))
  | with_reducible refine ex_op ?_
  | with_reducible refine ex_andV ?_
  | with_reducible refine ex_orV ?_
  | with_reducible refine ex_notV ?_
  | with_reducible refine ex_if ?_
  | with_reducible refine ex_chain ?_
  | with_reducible refine ex_tup ?_
  | with_reducible refine ex_lst ?_
  | with_reducible refine ex_sortedSet ?_
  | with_reducible refine ex_countN ?_
  | with_reducible refine ex_revL ?_
  | with_reducible refine ex_cb ?_
  | with_reducible refine ex_call ?_
  | with_reducible refine ex_callB ?_
  | with_reducible refine exa_nil ?_
  | with_reducible refine exa_cons ?_
  | with_reducible refine et_test ?_
  | with_reducible refine et_B ?_
  | with_reducible refine et_and ?_
  | with_reducible refine et_or ?_
  | with_reducible refine et_not ?_
  | walk_at "rx"
  | ((with_reducible refine' cx_isi (b := true) ?h ?k ?_); (case h => exact rfl); (case k => decide +kernel))
  | ((with_reducible refine' cx_isi (b := false) ?h ?k ?_); (case h => exact rfl); (case k => decide +kernel))
  | ((with_reducible refine' cx_len ?h ?_); (case h => exact rfl))
  | ((with_reducible refine' cx_list ?h ?_); (case h => exact rfl))
  | ((with_reducible refine' cx_tuple ?h ?_); (case h => exact rfl))
  | ((with_reducible refine' cx_allF ?h ?_); (case h => exact rfl))
  | ((with_reducible refine' cx_anyF ?h ?_); (case h => exact rfl))
  | with_reducible refine cx_intI ?_
  | with_reducible refine cx_intB ?_
  | with_reducible refine ex_fz ?_
  | refine .inl ⟨_, rfl, ?_⟩
  | refine .inr ⟨_, rfl, ?_⟩
  | ((with_reducible refine' sx_par ?_))
  | ((with_reducible refine' sx_dput ?h); (case h => skip))
  | with_reducible refine cx_max2 ?_
  | with_reducible refine cx_min2 ?_
  | ((with_reducible refine' cx_dict ?h ?_); (case h => exact rfl))
  | with_reducible refine ex_make ?_
  | ((with_reducible refine' ex_fzV ?h ?_); (case h => exact rfl))
  | ((with_reducible refine' ex_fzVD ?h ?_); (case h => exact rfl))
  | ((with_reducible refine' ex_start ?pc ?_); (case pc => assumption))
  | ((with_reducible refine' ex_span ?pc ?_); (case pc => assumption))
  | ((with_reducible refine' ex_deeds ?pc ?_); (case pc => assumption))
  | ((with_reducible refine' ex_parts ?pc ?_); (case pc => assumption))
  | ((with_reducible refine' ex_ranks ?pc ?_); (case pc => assumption))
  | with_reducible refine ex_fld ?_
  | with_reducible refine ex_prop ?_
  | with_reducible refine ex_lenSet ?_
  | with_reducible refine ex_neg ?_
  | with_reducible refine ex_dictEnum ?_
  | with_reducible refine ex_dget2 ?_
  | with_reducible refine ex_disp1 ?_
  | with_reducible refine ex_listRg1 ?_
  | with_reducible refine cx_isC ?_
  | with_reducible refine ex_meth ?_
  | with_reducible refine ex_slT ?_
  | with_reducible refine ex_slL ?_
  | with_reducible refine exo_none ?_
  | with_reducible refine exo_some ?_
  | with_reducible refine ex_dget ?_
  | with_reducible refine ex_din ?_
  | with_reducible refine ex_dnotin ?_
  | with_reducible refine ex_dnew ?_
  | with_reducible refine exa_star ?_
  | with_reducible refine iteT ?_
  | with_reducible refine iteF ?_
  | with_reducible refine iteNF ?_
  | with_reducible refine iteNT ?_
  | refine ⟨(trivial : RetOk (Sl.im _)), ?_⟩
  | refine ⟨(trivial : RetOk (Sl.ow _)), ?_⟩
  | refine ⟨[], rfl, Nat.le_of_ble_eq_true rfl, ?_⟩
  | refine ⟨[_], rfl, Nat.le_of_ble_eq_true rfl, ?_⟩
  | refine ⟨[_, _], rfl, Nat.le_of_ble_eq_true rfl, ?_⟩
  | refine ⟨[_, _, _], rfl, Nat.le_of_ble_eq_true rfl, ?_⟩
  | refine ⟨[_, _, _, _, _], rfl, Nat.le_of_ble_eq_true rfl, ?_⟩
  | refine ⟨rfl, rfl, ?_⟩
  | refine ⟨_, _, _, rfl, by assumption, by assumption, rfl, ?_⟩
  | refine ⟨npI, ?_⟩
  | refine ⟨npO, ?_⟩
  | refine ⟨npD, ?_⟩
  | refine ⟨npQ, ?_⟩
  | refine ⟨_, rfl, ?_⟩
  | refine ⟨_, _, rfl, ?_⟩
  | refine ⟨_, _, _, rfl, ?_⟩
  | refine ⟨_, _, _, _, rfl, ?_⟩
  | ((with_reducible refine' andGet ?h ?_); (case h => exact rfl)))
local macro_rules | `(tactic| walk_at "go") => `(tactic| repeat walk_at "go1")
local macro_rules | `(tactic| walk_at "T") => `(tactic| (refine iteE (c := true) rfl ?_; walk_at "go"))
local macro_rules | `(tactic| walk_at "F") => `(tactic| (refine iteE (c := false) rfl ?_; walk_at "go"))
theorem epochs_le {p : Pl} (hp : PlOk p) : p.epochs ≤ 41 := by
  unfold Pl.epochs
  have := List.countP_le_length (p := Option.isNone) (l := p.steps)
  have := hp.len
  omega
theorem go_len {y : Sys} {e : Int} {r : Nat} {s s' : PS} {b : Bool} (h : y.Go e r s s' b) : s'.taken.length + s'.left.length = s.taken.length + s.left.length := by
  induction h with
  | done => rfl
  | stop a _ => exact (tks_ok a.1).len
  | next a _ _ ih => rw [ih]; exact (tks_ok a.1).len
section
variable {P : Program} {w : World} {K : PySem.W.Frag} {mg : Str → Option Value} {base : Heap} {C c : Addr}
def dCanBegin : DF := fun ss k => ss = [.im noClaims, .im (.lst [])] ∧ k (.im (.bl true))
theorem ok_can_begin {f : Addr} {fd : FuncData} (F : Fun K "can_begin" "can_begin" s_can_begin f fd) (T : Txt mg) : FnOk P w K mg base CX0 1 f fd P_can_begin (SpD C dCanBegin) := by
  refine fn_pure F sc_can_begin (fun ss k h => ?_) (by decide) fun cdv A outer s H E ss kk hr h => ?_
  · obtain ⟨e, _⟩ := h
    rw [e]; rfl
  · obtain ⟨e, hk⟩ := h
    subst e
    refine ⟨_, (pss_cons (ps_if (pt_val (pe_callB (kk_any K rfl) (by rfl) T.b_any (by decide +kernel) (pa_cons (pe_lc (own := [("piece", 2)]) (g := (gName 2)) rfl sc_can_begin.nd (kk_pil K (pe_ix (kk_ixT K) (pv 0) pe_int (fun _ _ => rfl))) (blkOk_by (own := [("piece", 2)]) (N := N_can_begin) (sc := defScope s_can_begin) (by decide +kernel)) (fun _ _ _ _ _ => (pg_name (i := 2) sc_can_begin.nd rfl (Or.inl rfl))) (fun _ _ _ _ _ => pts_nil) (fun _ _ _ _ _ => (pe_cmpR (kk_in K) (pv 2) (pv 1) rfl))) pa_nil))) (pss_one (ps_ret pe_bl)) pss_nil)
      (pss_cons (ps_for (g := (gTup _ 2 (gNames [2, 3]))) PassesOwn.never rfl (kk_pil K (pe_ix (kk_ixT K) (pv 0) pe_int (fun _ _ => rfl))) (pg_tup rfl (t := gNames [2, 3]) (pgs_cons (pg_name (i := 2) sc_can_begin.nd rfl (Or.inl rfl)) (pgs_cons (pg_name (i := 3) sc_can_begin.nd rfl (Or.inl rfl)) pgs_nil))) (pss_one ps_never))
      (pss_one (ps_ret pe_bl)))), ?_⟩
    walk_at "go"
    refine ex_lcY (by decide) (ix_list tg_name ?_)
    walk_at "go"
    refine ⟨fun _ _ => trivial, Nat.zero_le _, ⟨trivial, trivial⟩, Int, [], Dat.int, (fun _ => .bl true), rfl, fun x hx => (nomatch hx), ?_⟩
    walk_at "go"
    refine iteE (c := false) (by rfl) ?_
    walk_at "go"
    refine sx_for (ix_list (tg_tup rfl) ?_)
    walk_at "go"
    refine ⟨fun _ hd => (nomatch hd), fun pre e => e = [.im noClaims, .im (.lst []), .un, .un], rfl, fun pre d post e hd => absurd hd (by simp), ?_⟩
    rintro e rfl
    walk_at "go"
    exact hk
/-- what a search answers -/
def encFd : Option (List Int) → Dat
  | none => .non
  | some f => lstI f
def dSoughtB : DF := fun ss k => ∃ (p : Pl) (pat : Pat), ss = [.im p.enc, .im (encPat pat), .im noClaims, .im (.lst [])] ∧ PlOk p ∧ PatOk p.base.length pat ∧ ∀ r, Fd p pat r → k (.im (encFd r))
theorem ok_sought_behind {f : Addr} {fd : FuncData} (F : Fun K "sought_behind" "sought_behind" s_sought_behind f fd) (T : Txt mg) (PC : PlanC K C) (PE : PeelC K c) (D_can_begin : DefOk P w K mg base "can_begin" 1 P_can_begin (SpD C dCanBegin)) (D_refusal : DefOk P w K mg base "refusal" 2 P_refusal (SpD C dRefusal)) (D_peeled : DefOk P w K mg base "peeled" 10 P_peeled (SpD C (dPeeled c))) (D_Plan_epochs : PrpOk P w K mg base C "epochs" 1 (SpD C dPlEpochs)) : FnOk P w K mg base CX0 11 f fd P_sought_behind (SpD C dSoughtB) := by
  refine fn_pure F sc_sought_behind (fun ss k h => ?_) (by decide) fun cdv A outer s H E ss kk hr h => ?_
  · obtain ⟨_, _, e, _⟩ := h
    rw [e]; rfl
  · obtain ⟨p, pat, e, hp, ht, hk⟩ := h
    subst e
    refine ⟨_, (pss_cons (ps_if (pt_not (pt_val (pe_callD D_can_begin (hr.mono (by decide)) (by rfl) (pa_cons (pv 2) (pa_cons (pv 3) pa_nil))))) (pss_one (ps_ret pe_non)) pss_nil)
      (pss_cons (ps_for (g := (gName 4)) PassesOwn.never rfl (pi_range2 (by rfl) T.b_range (pa_cons (pe_callB (kk_max K rfl) (by rfl) T.b_max (by decide +kernel) (pa_cons (pe_lst (pa_cons pe_int (kk_star K (pe_lc (own := [("piece", 6)]) (g := (gName 6)) rfl sc_sought_behind.nd (kk_pil K (pv 3)) (blkOk_by (own := [("piece", 6)]) (N := N_sought_behind) (sc := defScope s_sought_behind) (by decide +kernel)) (fun _ _ _ _ _ => (pg_name (i := 6) sc_sought_behind.nd rfl (Or.inl rfl))) (fun _ _ _ _ _ => pts_nil) (fun _ _ _ _ _ => (pe_ix (kk_ixL K) (kk_fld K (pv 0) rfl) (pv 6) (fun _ _ => rfl)))) pa_nil))) pa_nil)) (pa_cons (pe_propD D_Plan_epochs (pv 0) (hr.mono (by decide)) rfl) pa_nil))) (pg_name (i := 4) sc_sought_behind.nd rfl (Or.inl rfl)) (pss_one (ps_if (pt_cmpR op_isN (pe_callD D_refusal (hr.mono (by decide)) (by rfl) (pa_cons (pv 0) (pa_cons (pv 2) (pa_cons (pv 4) pa_nil)))) pe_non (nomark _)) (pss_cons (ps_set (i := 5) sc_sought_behind.nd rfl (Or.inl rfl) (pe_callD D_peeled (hr.mono (by decide)) (by rfl) (pa_cons (pv 0) (pa_cons (pv 1) (pa_cons (pv 2) (pa_cons (pv 4) (pa_cons (pv 3) pa_nil)))))))
      (pss_one (ps_if (pt_val (kk_fld K (pv 5) rfl)) (pss_one (ps_ret (pe_fz (pe_lst (kk_star K (pv 3) (kk_star K (kk_revL K (kk_fld K (pv 5) rfl)) pa_nil)))))) pss_nil))) pss_nil)))
      (pss_one (ps_ret pe_non)))), ?_⟩
    obtain ⟨g0, g1, g2, g3, g4, g5, g6, g7, g8, g9, g10⟩ := PE
    walk_at "go"
    refine ⟨rfl, ?_⟩
    walk_at "go"
    refine sx_for (ix_range2 tg_name ?_)
    walk_at "go"
    refine ex_lcT (by decide) (ix_list tg_name ?_)
    walk_at "go"
    refine ⟨fun _ _ => trivial, Nat.zero_le _, ⟨trivial, trivial⟩, Int, [], Dat.int, (fun _ => true), Dat.int, rfl, fun x hx => (nomatch hx), fun x hx => (nomatch hx), ?_⟩
    walk_at "go"
    refine cx_max (ns := [0]) rfl (by decide) fun m hm _ => ?_
    have hm0 : m = 0 := by simpa using hm
    subst hm0
    have hle := epochs_le hp
    walk_at "go"
    refine ⟨⟨by decide, by decide, by omega, by omega⟩, fun pre e => ∃ s1 s2, (∀ E' : Nat, E' < pre.length → ∃ S', p.sys.Go E' (E' + 1) (p.sys.init pat E') S' false) ∧ e = [.im p.enc, .im (encPat pat), .im noClaims, .im (.lst []), s1, s2, .un], ⟨.un, .un, fun _ h => absurd h (Nat.not_lt_zero _), rfl⟩, ?_, ?_⟩
    · rintro pre d post e hd ⟨s1, s2, hno, rfl⟩
      obtain ⟨hpl, rfl⟩ := rgD_at hd
      have hr1 : (0 : Int) + (pre.length : Int) * 1 = ((pre.length : Nat) : Int) := by omega
      rw [hr1]
      have hE : pre.length < p.epochs := by omega
      refine sx_forget 5 ?_
      refine (?_ : SX C _ [.im p.enc, .im (encPat pat), .im noClaims, .im (.lst []), .im (.int (pre.length : Nat)), .un, .un] _)
      walk_at "go"
      refine ⟨hp, ?_⟩
      walk_at "go"
      refine iteE (c := true) (by rfl) ?_
      walk_at "go"
      refine ⟨hp, ht, hE, fun S' b sp hgo => ⟨trivial, (fun _ z => nomatch z), ?_⟩⟩
      refine (?_ : SX C _ [.im p.enc, .im (encPat pat), .im noClaims, .im (.lst []), .im (.int (pre.length : Nat)), .qi c ({ newPeel p pat pre.length with S := S', sp := sp, fin := b }.fd), .un] _)
      walk_at "go"
      cases b with
      | true =>
        walk_at "T"
        have hl : S'.taken.length ≤ 40 := by
          have h1 := go_len hgo
          have h2 := below_len (p := p) (e := (pre.length : Int))
          have h3 := hp.few
          have h4 : (p.sys.init pat (pre.length : Int)).taken.length + (p.sys.init pat (pre.length : Int)).left.length = 0 + (p.sys.below (pre.length : Int)).length := rfl
          omega
        refine ⟨S'.taken.reverse.map Dat.int, ?_, ?_, ?_⟩
        · show [] ++ (((S'.taken.map Dat.int).reverse).map Sl.im ++ []) = _
          simp [List.map_reverse]
        · rw [List.length_map, List.length_reverse]
          exact Nat.le_trans hl (by decide)
        refine .inl ⟨_, rfl, trivial, ?_⟩
        exact hk (some S'.taken.reverse) (fd_yes hgo)
      | false =>
        walk_at "F"
        refine ⟨_, _, fun E' h => ?_, rfl⟩
        rcases Nat.lt_or_ge E' pre.length with g | g
        · exact hno E' g
        · have : E' = pre.length := by simp at h; omega
          subst this
          exact ⟨S', hgo⟩
    · rintro e ⟨s1, s2, hno, rfl⟩
      walk_at "go"
      refine hk none (fd_no fun E' h => hno E' ?_)
      rw [rgD_len]
      omega
def dSought : DF := fun ss k => ∃ (p : Pl) (pat : Pat), ss = [.im p.enc, .im (encPat pat), .im noClaims] ∧ PlOk p ∧ PatOk p.base.length pat ∧ ∀ r, Fd p pat r → k (.im (encFd r))
theorem ok_sought {f : Addr} {fd : FuncData} (F : Fun K "sought" "sought" s_sought f fd) (T : Txt mg) (D_sought_behind : DefOk P w K mg base "sought_behind" 11 P_sought_behind (SpD C dSoughtB)) : FnOk P w K mg base CX0 12 f fd P_sought (SpD C dSought) := by
  refine fn_pure F sc_sought (fun ss k h => ?_) (by decide) fun cdv A outer s H E ss kk hr h => ?_
  · obtain ⟨_, _, e, _⟩ := h
    rw [e]; rfl
  · obtain ⟨p, pat, e, hp, ht, hk⟩ := h
    subst e
    refine ⟨_, (pss_one (ps_ret (pe_callD D_sought_behind (hr.mono (by decide)) (by rfl) (pa_cons (pv 0) (pa_cons (pv 1) (pa_cons (pv 2) (pa_cons (pe_fz (pe_lst pa_nil)) pa_nil))))))), ?_⟩
    walk_at "go"
    exact ⟨hp, ht, fun r hr => ⟨trivial, trivial, hk r hr⟩⟩
def dFind : DF := fun ss k => ∃ (p : Pl) (pat : Pat), ss = [.im p.enc, .im (encPat pat), .im noClaims] ∧ PlOk p ∧ PatOk p.base.length pat ∧ ∀ r, Fd p pat r → k (.im (encFd r))
theorem ok_find {f : Addr} {fd : FuncData} (F : Fun K "find" "find" s_find f fd) (T : Txt mg) (D_Plan_base : PrpOk P w K mg base C "base" 1 (SpD C dPlBase)) (D_check_pattern : DefOk P w K mg base "check_pattern" 6 P_check_pattern (SpD C dCheckPattern)) (D_check_claims : DefOk P w K mg base "check_claims" 5 P_check_claims (SpD C dCheckClaims)) (D_sought : DefOk P w K mg base "sought" 12 P_sought (SpD C dSought)) : FnOk P w K mg base CX0 13 f fd P_find (SpD C dFind) := by
  refine fn_pure F sc_find (fun ss k h => ?_) (by decide) fun cdv A outer s H E ss kk hr h => ?_
  · obtain ⟨_, _, e, _⟩ := h
    rw [e]; rfl
  · obtain ⟨p, pat, e, hp, ht, hk⟩ := h
    subst e
    refine ⟨_, (pss_cons (ps_expr (pe_callD D_check_pattern (hr.mono (by decide)) (by rfl) (pa_cons (pe_callB (kk_len K) (by rfl) T.b_len (by decide +kernel) (pa_cons (pe_propD D_Plan_base (pv 0) (hr.mono (by decide)) rfl) pa_nil)) (pa_cons (pv 1) pa_nil))))
      (pss_cons (ps_expr (pe_callD D_check_claims (hr.mono (by decide)) (by rfl) (pa_cons (pv 0) (pa_cons (pv 2) pa_nil))))
      (pss_one (ps_ret (pe_callD D_sought (hr.mono (by decide)) (by rfl) (pa_cons (pv 0) (pa_cons (pv 1) (pa_cons (pv 2) pa_nil)))))))), ?_⟩
    walk_at "go"
    refine ⟨by rw [List.length_map]; exact ht, trivial, ?_⟩
    walk_at "go"
    refine ⟨hp, ?_⟩
    walk_at "go"
    exact ⟨hp, ht, fun r hr => ⟨trivial, trivial, hk r hr⟩⟩
def dEntry : DF := fun ss k => ∃ (p : Pl) (pat : Pat) (E : Nat), ss = [.im p.enc, .im (encPat pat), .im noClaims, .im (.int (E : Nat))] ∧ PlOk p ∧ PatOk p.base.length pat ∧ E < p.epochs ∧ ∀ d, k (.im d)
theorem ok_entry {f : Addr} {fd : FuncData} (F : Fun K "entry" "entry" s_entry f fd) (T : Txt mg) (PE : PeelC K c) (D_refusal : DefOk P w K mg base "refusal" 2 P_refusal (SpD C dRefusal)) (D_peeled : DefOk P w K mg base "peeled" 10 P_peeled (SpD C (dPeeled c))) : FnOk P w K mg base CX0 11 f fd P_entry (SpD C dEntry) := by
  refine fn_pure F sc_entry (fun ss k h => ?_) (by decide) fun cdv A outer s H E ss kk hr h => ?_
  · obtain ⟨_, _, _, e, _⟩ := h
    rw [e]; rfl
  · obtain ⟨p, pat, EN, e, hp, ht, hE, hk⟩ := h
    subst e
    refine ⟨_, (pss_cons (ps_set (i := 4) sc_entry.nd rfl (Or.inl rfl) (pe_callD D_refusal (hr.mono (by decide)) (by rfl) (pa_cons (pv 0) (pa_cons (pv 2) (pa_cons (pv 3) pa_nil)))))
      (pss_cons (ps_if (pt_cmpR op_notN (pv 4) pe_non (nomark _)) (pss_one (ps_ret (pv 4))) pss_nil)
      (pss_one (ps_ret (pe_tup (pa_cons pe_str (pa_cons (pe_fz (pe_dictSrt (by rfl) T.b_dict (by rfl) T.b_sorted (kk_fld K (pe_callD D_peeled (hr.mono (by decide)) (by rfl) (pa_cons (pv 0) (pa_cons (pv 1) (pa_cons (pv 2) (pa_cons (pv 3) (pa_cons (pe_fz (pe_lst pa_nil)) pa_nil)))))) rfl))) pa_nil))))))), ?_⟩
    obtain ⟨g0, g1, g2, g3, g4, g5, g6, g7, g8, g9, g10⟩ := PE
    walk_at "go"
    refine ⟨hp, ?_⟩
    walk_at "go"
    refine iteE (c := false) (by rfl) ?_
    walk_at "go"
    refine ex_dictSrt ?_
    walk_at "go"
    refine ⟨hp, ht, hE, fun S' b sp hgo => ?_⟩
    walk_at "go"
    refine fun ms => .inr ⟨_, rfl, ?_⟩
    walk_at "go"
    exact hk _
def dShut : DF := fun ss k => ∃ (p : Pl) (pat : Pat), ss = [.im p.enc, .im (encPat pat), .im noClaims] ∧ PlOk p ∧ PatOk p.base.length pat ∧ (∀ f, Fd p pat (some f) → k (.im .non)) ∧ (Fd p pat none → ∀ ds, k (.ow ds))
theorem ok_shut {f : Addr} {fd : FuncData} (F : Fun K "shut" "shut" s_shut f fd) (T : Txt mg) (D_find : DefOk P w K mg base "find" 13 P_find (SpD C dFind)) (D_entry : DefOk P w K mg base "entry" 11 P_entry (SpD C dEntry)) (D_Plan_epochs : PrpOk P w K mg base C "epochs" 1 (SpD C dPlEpochs)) : FnOk P w K mg base CX0 14 f fd P_shut (SpD C dShut) := by
  refine fn_pure F sc_shut (fun ss k h => ?_) (by decide) fun cdv A outer s H E ss kk hr h => ?_
  · obtain ⟨_, _, e, _⟩ := h
    rw [e]; rfl
  · obtain ⟨p, pat, e, hp, ht, hs, hn⟩ := h
    subst e
    refine ⟨_, (pss_cons (ps_if (pt_cmpR op_notN (pe_callD D_find (hr.mono (by decide)) (by rfl) (pa_cons (pv 0) (pa_cons (pv 1) (pa_cons (pv 2) pa_nil)))) pe_non (nomark _)) (pss_one (ps_ret pe_non)) pss_nil)
      (pss_one (ps_ret (pe_lc (own := [("epoch", 3)]) (g := (gName 3)) rfl sc_shut.nd (pi_range1 (by rfl) T.b_range (pa_cons (pe_propD D_Plan_epochs (pv 0) (hr.mono (by decide)) rfl) pa_nil)) (blkOk_by (own := [("epoch", 3)]) (N := N_shut) (sc := defScope s_shut) (by decide +kernel)) (fun _ _ _ _ _ => (pg_name (i := 3) sc_shut.nd rfl (Or.inl rfl))) (fun _ _ _ _ _ => pts_nil) (fun _ _ _ _ _ => (pe_callD D_entry (hr.mono (by decide)) (by rfl) (pa_cons (pv 0) (pa_cons (pv 1) (pa_cons (pv 2) (pa_cons (pv 3) pa_nil)))))))))), ?_⟩
    walk_at "go"
    have hle := epochs_le hp
    refine ⟨hp, ht, fun r hr => ?_⟩
    cases r with
    | some f =>
      walk_at "go"
      refine iteE (c := true) (by rfl) ?_
      walk_at "go"
      exact hs f hr
    | none =>
      walk_at "go"
      refine iteE (c := false) (by rfl) ?_
      walk_at "go"
      refine ex_lc (by decide) (ix_range1 tg_name ?_)
      walk_at "go"
      refine ⟨by omega, by omega, by rw [rgD_len]; omega, ⟨trivial, trivial⟩, fun pre acc e => e = [.im p.enc, .im (encPat pat), .im noClaims, .un], rfl, ?_, ?_⟩
      · rintro pre d post acc e hd rfl
        obtain ⟨hpl, rfl⟩ := rgD_at hd
        have hr1 : (0 : Int) + (pre.length : Int) * 1 = ((pre.length : Nat) : Int) := by omega
        rw [hr1]
        have hE : pre.length < p.epochs := by omega
        refine ⟨⟨trivial, trivial⟩, et_yes ?_⟩
        rw [if_pos rfl]
        refine (?_ : EX C _ [.im p.enc, .im (encPat pat), .im noClaims, .im (.int (pre.length : Nat))] _)
        walk_at "go"
        exact ⟨hp, ht, hE, fun d => ⟨trivial, d, rfl, ⟨trivial, trivial⟩, rfl⟩⟩
      · rintro acc e rfl
        exact ⟨trivial, hn hr acc⟩
end
end Af
end

section
set_option maxHeartbeats 4000000
namespace Af
open PySem L2
local macro_rules | `(tactic| walk_at "sc") => `(tactic| first | exact ScD.int _ | exact ScD.bl _ | exact ScD.non | exact ScD.str _ | exact ScD.ty _ | exact ScD.cls _)
local macro_rules | `(tactic| walk_at "rx") => `(tactic| first
  | ((with_reducible refine' rx_ixT ?h ?_); (case h => exact rfl))
  | ((with_reducible refine' rx_ixL ?h1 ?h2 ?_); (case h1 => exact rfl); (case h2 => exact rfl))
  | with_reducible refine rx_I0i ?_
  | with_reducible refine rx_I0b ?_
  | ((with_reducible refine' rx_Ii ?h ?_); (case h => first | decide | (show (0 : Int) < _; omega) | exact Or.inr ⟨by decide, by decide⟩ | exact ⟨by decide, by decide, by decide⟩ | exact Or.inl ⟨by omega, by omega⟩ | exact (⟨by omega, by omega⟩ : CDiv _ _)))
  | with_reducible refine rx_eqI ?_
  | with_reducible refine rx_neI ?_
  | with_reducible refine rx_neB ?_
  | with_reducible refine rx_isN ?_
  | with_reducible refine rx_notN ?_
  | with_reducible refine rx_neT ?_
  | ((with_reducible refine' rx_neN ?h1 ?h2 ?_); (case h1 => exact rfl); (case h2 => exact rfl))
  | ((with_reducible refine' rx_eqN ?h1 ?h2 ?_); (case h1 => exact rfl); (case h2 => exact rfl)))
local macro_rules | `(tactic| walk_at "go1") => `(tactic| first
  | with_reducible refine sx_seq ?_
  | ((with_reducible refine' sx_retO ?h ?_); (case h => exact rfl))
  | ((with_reducible refine' sx_retD ?h ?_); (case h => exact rfl))
  | with_reducible refine sx_ret ?_
  | ((with_reducible refine' sx_fldM ?z ?a ?b ?c ?d ?_); (case z => exact rfl); (case a => assumption); (case b => assumption); (case c => assumption); (case d => exact Nat.le_of_ble_eq_true rfl))
  | ((with_reducible refine' sx_append ?h ?_); (case h => exact rfl))
  | ((with_reducible refine' sx_extend ?h ?_); (case h => exact rfl))
  | with_reducible refine sx_drop ?_
  | with_reducible refine sx_retN ?_
  | with_reducible refine sx_next ?_
  | with_reducible refine sx_if ?_
  | with_reducible refine sx_asg ?_
  | with_reducible refine sx_asgT ?_
  | ((with_reducible refine' ex_im ?h ?_); (case h => exact rfl))
  | ((with_reducible refine' ex_ow ?h ?_); (case h => exact rfl))
  | ((with_reducible refine' ex_ro ?h ?_); (case h => exact rfl))
  | ((with_reducible refine' ex_od ?h ?_); (case h => exact rfl))
  | ((with_reducible refine' ex_pn ?h ?_); (case h => exact rfl))
  | ((with_reducible refine' ex_mk ?h ?_); (case h => exact rfl))
  | ((with_reducible refine' ex_ri ?h ?_); (case h => exact rfl))
  | ((with_reducible refine' ex_qi ?h ?_); (case h => exact rfl))
  | ((with_reducible refine' ex_bl ?h ?_); (case h => exact rfl))
  | ((with_reducible refine' ex_c ?h ?_); (case h => walk_at "sc"))
  | with_reducible refine ex_op ?_
  | with_reducible refine ex_andV ?_
  | with_reducible refine ex_orV ?_
  | with_reducible refine ex_notV ?_
  | with_reducible refine ex_if ?_
  | with_reducible refine ex_chain ?_
  | with_reducible refine ex_tup ?_
  | with_reducible refine ex_lst ?_
  | with_reducible refine ex_sortedSet ?_
  | with_reducible refine ex_countN ?_
  | with_reducible refine ex_revL ?_
  | with_reducible refine ex_cb ?_
  | with_reducible refine ex_call ?_
  | with_reducible refine ex_callB ?_
  | with_reducible refine exa_nil ?_
  | with_reducible refine exa_cons ?_
  | with_reducible refine et_test ?_
  | with_reducible refine et_B ?_
  | with_reducible refine et_and ?_
  | with_reducible refine et_or ?_
  | with_reducible refine et_not ?_
  | walk_at "rx"
  | ((with_reducible refine' cx_isi (b := true) ?h ?k ?_); (case h => exact rfl); (case k => decide +kernel))
  | ((with_reducible refine' cx_isi (b := false) ?h ?k ?_); (case h => exact rfl); (case k => decide +kernel))
  | ((with_reducible refine' cx_len ?h ?_); (case h => exact rfl))
  | ((with_reducible refine' cx_list ?h ?_); (case h => exact rfl))
  | ((with_reducible refine' cx_tuple ?h ?_); (case h => exact rfl))
  | ((with_reducible refine' cx_allF ?h ?_); (case h => exact rfl))
  | ((with_reducible refine' cx_anyF ?h ?_); (case h => exact rfl))
  | with_reducible refine cx_intI ?_
  | with_reducible refine cx_intB ?_
  | with_reducible refine ex_fz ?_
  | refine .inl ⟨_, rfl, ?_⟩
  | refine .inr ⟨_, rfl, ?_⟩
  | ((with_reducible refine' sx_par ?_))
  | ((with_reducible refine' sx_dput ?h); (case h => skip))
  | with_reducible refine cx_max2 ?_
  | with_reducible refine cx_min2 ?_
  | ((with_reducible refine' cx_dict ?h ?_); (case h => exact rfl))
  | with_reducible refine ex_make ?_
  | ((with_reducible refine' ex_fzV ?h ?_); (case h => exact rfl))
  | ((with_reducible refine' ex_fzVD ?h ?_); (case h => exact rfl))
  | ((with_reducible refine' ex_start ?pc ?_); (case pc => assumption))
  | ((with_reducible refine' ex_span ?pc ?_); (case pc => assumption))
  | ((with_reducible refine' ex_deeds ?pc ?_); (case pc => assumption))
  | ((with_reducible refine' ex_parts ?pc ?_); (case pc => assumption))
  | ((with_reducible refine' ex_ranks ?pc ?_); (case pc => assumption))
  | with_reducible refine ex_fld ?_
  | with_reducible refine ex_prop ?_
  | with_reducible refine ex_lenSet ?_
  | with_reducible refine ex_neg ?_
  | with_reducible refine ex_dictEnum ?_
  | with_reducible refine ex_dget2 ?_
  | with_reducible refine ex_disp1 ?_
  | with_reducible refine ex_listRg1 ?_
  | with_reducible refine cx_isC ?_
  | with_reducible refine ex_meth ?_
  | with_reducible refine ex_slT ?_
  | with_reducible refine ex_slL ?_
  | with_reducible refine exo_none ?_
  | with_reducible refine exo_some ?_
  | with_reducible refine ex_dget ?_
  | with_reducible refine ex_din ?_
  | with_reducible refine ex_dnotin ?_
  | with_reducible refine ex_dnew ?_
  | with_reducible refine exa_star ?_
  | with_reducible refine iteT ?_
  | with_reducible refine iteF ?_
  | with_reducible refine iteNF ?_
  | with_reducible refine iteNT ?_
  | refine ⟨(trivial : RetOk (Sl.im _)), ?_⟩
  | refine ⟨(trivial : RetOk (Sl.ow _)), ?_⟩
  | refine ⟨[], rfl, Nat.le_of_ble_eq_true rfl, ?_⟩
  | refine ⟨[_], rfl, Nat.le_of_ble_eq_true rfl, ?_⟩
  | refine ⟨[_, _], rfl, Nat.le_of_ble_eq_true rfl, ?_⟩
  | refine ⟨[_, _, _], rfl, Nat.le_of_ble_eq_true rfl, ?_⟩
  | refine ⟨[_, _, _, _, _], rfl, Nat.le_of_ble_eq_true rfl, ?_⟩
  | refine ⟨rfl, rfl, ?_⟩
  | refine ⟨_, _, _, rfl, by assumption, by assumption, rfl, ?_⟩
  | refine ⟨npI, ?_⟩
  | refine ⟨npO, ?_⟩
  | refine ⟨npD, ?_⟩
  | refine ⟨npQ, ?_⟩
  | refine ⟨_, rfl, ?_⟩
  | refine ⟨_, _, rfl, ?_⟩
  | refine ⟨_, _, _, rfl, ?_⟩
  | refine ⟨_, _, _, _, rfl, ?_⟩
  | ((with_reducible refine' andGet ?h ?_); (case h => exact rfl)))
local macro_rules | `(tactic| walk_at "go") => `(tactic| repeat walk_at "go1")
local macro_rules | `(tactic| walk_at "T") => `(tactic| (refine iteE (c := true) rfl ?_; walk_at "go"))
local macro_rules | `(tactic| walk_at "F") => `(tactic| (refine iteE (c := false) rfl ?_; walk_at "go"))
theorem SX.mid {C : Addr} {ts : TS} {env : Sls} {W : Wish} (P : Sls → Prop) (h : SX C ts env { W with nx := P }) (k : ∀ e, P e → W.nx e) : SX C ts env W := fun B H0 σ H R D n r b c =>
  h B H0 σ H R D (fun σ' e H' p => n σ' e H' (k _ p)) r b c
theorem ints_at {ns : List Int} {z : Int} (h0 : 0 ≤ z) (h1 : z < ns.length) : ∃ w, L2.atI (ns.map Dat.int) z = some (.int w) :=
  ⟨ns[z.toNat]'(by omega), atI_of h0 (by rw [List.getElem?_map, List.getElem?_eq_getElem (by omega)]; rfl)⟩
theorem iteB {b : Bool} {P Q : Prop} (h1 : P) (h2 : Q) : if b = true then P else Q := by cases b <;> assumption
/-- the pen -/
abbrev encPen (ns : List Int) (i v : Int) : List Dat := [lstI ns, .int i, .int v]
section
variable {P : Program} {w : World} {K : PySem.W.Frag} {mg : Str → Option Value} {base : Heap} {C : Addr}
abbrev bNext : DB := fun ds st k => ∃ (a : Addr) (ns : List Int) (i v : Int), ds = [] ∧ st = [.bl a (encPen ns i v)] ∧ 0 ≤ i ∧ i ≤ 2 ^ 62 ∧ ∀ w, k (.im (.int w)) [.bl a (encPen ns (i + 1) v)]
theorem ok__law_next {f : Addr} {fd : FuncData} (F : Fun K "_law_next" "_law_next" s__law_next f fd) (T : Txt mg) : FnOk P w K mg base CX0 1 f fd P__law_next (SpB C bNext) := by
  refine fn_bor (g := 0) F sc__law_next (fun ds st k h => ?_) (by decide) (by decide) fun cdv A outer s H E ds s0 st kk hr h => ?_
  · obtain ⟨_, _, _, _, e1, e2, _⟩ := h
    rw [e1, e2]; exact ⟨rfl, rfl⟩
  · obtain ⟨a, ns, i, v, e1, e2, hi0, hi1, hk⟩ := h
    subst e1
    simp only [List.cons.injEq] at e2
    obtain ⟨rfl, rfl⟩ := e2
    refine ⟨_, (pss_cons (ps_set (i := 1) sc__law_next.nd rfl (Or.inl rfl) (pe_ix (kk_ixL K) (pv 0) pe_int (fun _ _ => rfl)))
      (pss_cons (ps_asg (pe_op op_add (pv 1) pe_int) (pg_sub (pv 0) pe_int set_list))
      (pss_cons (ps_set (i := 2) sc__law_next.nd rfl (Or.inl rfl) (pe_op op_add (pe_op op_mul (pv 1) pe_int) pe_int))
      (pss_cons (ps_if (pt_cmpR (kk_neD K hr.units) (pe_ix (kk_ixL K) (pv 0) pe_int (fun _ _ => rfl)) (pe_lst pa_nil) (nomark _)) (pss_one (ps_set (i := 2) sc__law_next.nd rfl (Or.inl rfl) (pe_ix (kk_ixL K) (pe_ix (kk_ixL K) (pv 0) pe_int (fun _ _ => rfl)) (pe_op op_mod (pe_callTy call_int1 (by rfl) T.b_int (by decide +kernel) (pa_cons (pv 1) pa_nil)) (pe_callB (kk_len K) (by rfl) T.b_len (by decide +kernel) (pa_cons (pe_ix (kk_ixL K) (pv 0) pe_int (fun _ _ => rfl)) pa_nil))) (fun _ _ => rfl)))) pss_nil)
      (pss_cons (ps_if (PW.pt (pw_and (pt_cmpR op_lt (pv 1) (pe_callB (kk_len K) (by rfl) T.b_len (by decide +kernel) (pa_cons (pe_ix (kk_ixL K) (pv 0) pe_int (fun _ _ => rfl)) pa_nil)) (nomark _)) (pw_and1 (pt_cmpR op_ge (pv 2) (pe_op op_pow pe_int pe_int) (nomark _))))) (pss_one (ps_ret (pv 2))) pss_nil)
      (pss_cons (ps_set (i := 3) sc__law_next.nd rfl (Or.inl rfl) (pe_op op_mod (pe_callTy call_int1 (by rfl) T.b_int (by decide +kernel) (pa_cons (pe_op op_add (pe_op op_add (pe_op op_mod (pe_callTy call_int1 (by rfl) T.b_int (by decide +kernel) (pa_cons (pv 2) pa_nil)) pe_int) (pe_op op_mul (pv 1) pe_int)) pe_int) pa_nil)) pe_int))
      (pss_cons (ps_set (i := 4) sc__law_next.nd rfl (Or.inl rfl) (pe_op op_mod (pe_callTy call_int1 (by rfl) T.b_int (by decide +kernel) (pa_cons (pe_op op_add (pe_op op_add (pe_op op_mul (pv 3) (pv 3)) (pe_op op_mul (pv 1) pe_int)) pe_int) pa_nil)) pe_int))
      (pss_cons (ps_set (i := 5) sc__law_next.nd rfl (Or.inl rfl) (pe_op op_mod (pe_callTy call_int1 (by rfl) T.b_int (by decide +kernel) (pa_cons (pe_op op_add (pe_op op_add (pe_op op_mul (pv 4) (pv 4)) (pv 3)) (pe_op op_mul (pe_op op_mul (pv 1) (pv 1)) pe_int)) pa_nil)) pe_int))
      (pss_one (ps_ret (pe_op op_add (pe_op op_mul (pe_op op_add (pe_op op_mul (pv 5) pe_int) (pv 4)) pe_int) (pv 3)))))))))))), ?_⟩
    walk_at "go"
    refine sx_setLB (i := 0) (a := a) ?_
    walk_at "go"
    refine ⟨_, _, rfl, rfl, ?_⟩
    walk_at "go"
    refine ⟨1, 1, rfl, rfl, rfl, trivial, ?_⟩
    refine (?_ : SX C _ [.bl a (encPen ns (i + 1) v), .im (.int i), .un, .un, .un, .un] _)
    refine sx_seq (SX.mid (fun e => e = [.bl a (encPen ns (i + 1) v), .im (.int i), .im (.int (i * 1069 + 61)), .un, .un, .un]) ?_ ?_)
    · walk_at "go"
      exact rfl
    rintro e rfl
    refine sx_seq (SX.mid (fun e => ∃ z : Int, e = [.bl a (encPen ns (i + 1) v), .im (.int i), .im (.int z), .un, .un, .un]) ?_ ?_)
    · walk_at "go"
      cases hn : ns with
      | nil =>
        walk_at "F"
        exact ⟨_, rfl⟩
      | cons x xs =>
        have hlen : 0 < (((x :: xs).map Dat.int).length : Int) := by simp
        walk_at "T"
        obtain ⟨z, hz⟩ := ints_at (ns := x :: xs) (z := i % (((x :: xs).map Dat.int).length : Nat)) (Int.emod_nonneg _ (by simp; try omega)) (by rw [List.length_map]; exact Int.emod_lt_of_pos _ (by simp; try omega))
        refine rx_ixL rfl (d := .int z) hz ?_
        walk_at "go"
        exact ⟨_, rfl⟩
    rintro e ⟨z, rfl⟩
    refine sx_seq (SX.mid (fun e => e = [.bl a (encPen ns (i + 1) v), .im (.int i), .im (.int z), .un, .un, .un]) ?_ ?_)
    · walk_at "go"
      refine iteB ?_ ?_
      · walk_at "go"
        refine iteB ?_ (sx_next rfl)
        walk_at "go"
        exact ⟨rfl, hk _⟩
      · walk_at "F"
        exact rfl
    rintro e rfl
    refine sx_seq (SX.mid (fun e => ∃ x : Int, 0 ≤ x ∧ x < 2147483587 ∧ e = [.bl a (encPen ns (i + 1) v), .im (.int i), .im (.int z), .im (.int x), .un, .un]) ?_ ?_)
    · walk_at "go"
      exact ⟨_, Int.emod_nonneg _ (by decide), Int.emod_lt_of_pos _ (by decide), rfl⟩
    rintro e ⟨x, hx0, hx1, rfl⟩
    refine sx_seq (SX.mid (fun e => ∃ y : Int, 0 ≤ y ∧ y < 2147483563 ∧ e = [.bl a (encPen ns (i + 1) v), .im (.int i), .im (.int z), .im (.int x), .im (.int y), .un]) ?_ ?_)
    · walk_at "go"
      exact ⟨_, Int.emod_nonneg _ (by decide), Int.emod_lt_of_pos _ (by decide), rfl⟩
    rintro e ⟨y, hy0, hy1, rfl⟩
    refine sx_seq (SX.mid (fun e => ∃ u : Int, 0 ≤ u ∧ u < 2147483549 ∧ e = [.bl a (encPen ns (i + 1) v), .im (.int i), .im (.int z), .im (.int x), .im (.int y), .im (.int u)]) ?_ ?_)
    · walk_at "go"
      exact ⟨_, Int.emod_nonneg _ (by decide), Int.emod_lt_of_pos _ (by decide), rfl⟩
    rintro e ⟨u, hu0, hu1, rfl⟩
    walk_at "go"
    exact ⟨rfl, hk _⟩
abbrev bDraw : DB := fun ds st k => ∃ (a : Addr) (ns : List Int) (i v u : Int), ds = [.int u] ∧ st = [.bl a (encPen ns i v)] ∧ 0 ≤ i ∧ i ≤ 2 ^ 62 ∧ 0 < u ∧ u ≤ 100000 ∧ ∀ d i' v', 0 ≤ d → d < u → i ≤ i' → i' ≤ i + 1 → k (.im (.int d)) [.bl a (encPen ns i' v')]
theorem ok__law_draw {f : Addr} {fd : FuncData} (F : Fun K "_law_draw" "_law_draw" s__law_draw f fd) (T : Txt mg) (D__law_next : DefOk P w K mg base "_law_next" 1 P__law_next (SpB C bNext)) : FnOk P w K mg base CX0 2 f fd P__law_draw (SpB C bDraw) := by
  refine fn_bor (g := 0) F sc__law_draw (fun ds st k h => ?_) (by decide) (by decide) fun cdv A outer s H E ds s0 st kk hr h => ?_
  · obtain ⟨_, _, _, _, _, e1, e2, _⟩ := h
    rw [e1, e2]; exact ⟨rfl, rfl⟩
  · obtain ⟨a, ns, i, v, u, e1, e2, hi0, hi1, hu, hu2, hk⟩ := h
    subst e1
    simp only [List.cons.injEq] at e2
    obtain ⟨rfl, rfl⟩ := e2
    refine ⟨_, (pss_cons (ps_if (pt_cmpR op_lt (pe_ix (kk_ixL K) (pv 0) pe_int (fun _ _ => rfl)) (pv 1) (nomark _)) (pss_one (ps_asg (pe_callD D__law_next (hr.mono (by decide)) (by rfl) (pa_cons (pv 0) pa_nil)) (pg_sub (pv 0) pe_int set_list))) pss_nil)
      (pss_cons (ps_set (i := 2) sc__law_draw.nd rfl (Or.inl rfl) (pe_op op_mod (pe_callTy call_int1 (by rfl) T.b_int (by decide +kernel) (pa_cons (pe_ix (kk_ixL K) (pv 0) pe_int (fun _ _ => rfl)) pa_nil)) (pv 1)))
      (pss_cons (ps_asg (pe_op op_fdiv (pe_ix (kk_ixL K) (pv 0) pe_int (fun _ _ => rfl)) (pv 1)) (pg_sub (pv 0) pe_int set_list))
      (pss_one (ps_ret (pv 2)))))), ?_⟩
    refine sx_seq (SX.mid (fun e => ∃ i' v' : Int, i ≤ i' ∧ i' ≤ i + 1 ∧ e = [.bl a (encPen ns i' v'), .im (.int u), .un]) ?_ ?_)
    · walk_at "go"
      refine iteB ?_ ?_
      · refine sx_setLB (i := 0) (a := a) (ex_callB ?_)
        walk_at "go"
        refine ⟨0, [], rfl, rfl, a, ns, i, v, rfl, rfl, hi0, hi1, fun w => ⟨trivial, ?_⟩⟩
        refine ⟨_, _, rfl, rfl, ?_⟩
        walk_at "go"
        exact ⟨2, 2, rfl, rfl, rfl, trivial, i + 1, w, by omega, by omega, rfl⟩
      · walk_at "go"
        exact ⟨i, v, by omega, by omega, rfl⟩
    rintro e ⟨i', v', h1, h2, rfl⟩
    walk_at "go"
    refine sx_setLB (i := 0) (a := a) ?_
    walk_at "go"
    refine ⟨_, _, rfl, rfl, ?_⟩
    walk_at "go"
    refine ⟨2, 2, rfl, rfl, rfl, trivial, ?_⟩
    walk_at "go"
    exact ⟨rfl, hk _ _ _ (Int.emod_nonneg _ (by omega)) (Int.emod_lt_of_pos _ hu) h1 h2⟩
end
end Af
end

section
set_option maxHeartbeats 4000000
namespace Af
open PySem L2
local macro_rules | `(tactic| walk_at "sc") => `(tactic| first | exact ScD.int _ | exact ScD.bl _ | exact ScD.non | exact ScD.str _ | exact ScD.ty _ | exact ScD.cls _)
local macro_rules | `(tactic| walk_at "rx") => `(tactic| first
  | ((with_reducible refine' rx_ixT ?h ?_); (case h => exact rfl))
  | ((with_reducible refine' rx_ixL ?h1 ?h2 ?_); (case h1 => exact rfl); (case h2 => exact rfl))
  | with_reducible refine rx_I0i ?_
  | with_reducible refine rx_I0b ?_
  | ((with_reducible refine' rx_Ii ?h ?_); (case h => first | decide | (show (0 : Int) < _; omega) | exact Or.inr ⟨by decide, by decide⟩ | exact ⟨by decide, by decide, by decide⟩ | exact Or.inl ⟨by omega, by omega⟩ | exact (⟨by omega, by omega⟩ : CDiv _ _)))
  | with_reducible refine rx_eqI ?_
  | with_reducible refine rx_neI ?_
  | with_reducible refine rx_neB ?_
  | with_reducible refine rx_isN ?_
  | with_reducible refine rx_notN ?_
  | with_reducible refine rx_neT ?_
  | ((with_reducible refine' rx_neN ?h1 ?h2 ?_); (case h1 => exact rfl); (case h2 => exact rfl))
  | ((with_reducible refine' rx_eqN ?h1 ?h2 ?_); (case h1 => exact rfl); (case h2 => exact rfl)))
local macro_rules | `(tactic| walk_at "go1") => `(tactic| first
  | with_reducible refine sx_seq ?_
  | ((with_reducible refine' sx_retO ?h ?_); (case h => exact rfl))
  | ((with_reducible refine' sx_retD ?h ?_); (case h => exact rfl))
  | with_reducible refine sx_ret ?_
  | ((with_reducible refine' sx_fldM ?z ?a ?b ?c ?d ?_); (case z => exact rfl); (case a => assumption); (case b => assumption); (case c => assumption); (case d => exact Nat.le_of_ble_eq_true rfl))
  | ((with_reducible refine' sx_append ?h ?_); (case h => exact rfl))
  | ((with_reducible refine' sx_extend ?h ?_); (case h => exact rfl))
  | with_reducible refine sx_drop ?_
  | with_reducible refine sx_retN ?_
  | with_reducible refine sx_next ?_
  | with_reducible refine sx_if ?_
  | with_reducible refine sx_asg ?_
  | with_reducible refine sx_asgT ?_
  | ((with_reducible refine' ex_im ?h ?_); (case h => exact rfl))
  | ((with_reducible refine' ex_ow ?h ?_); (case h => exact rfl))
  | ((with_reducible refine' ex_ro ?h ?_); (case h => exact rfl))
  | ((with_reducible refine' ex_od ?h ?_); (case h => exact rfl))
  | ((with_reducible refine' ex_pn ?h ?_); (case h => exact rfl))
  | ((with_reducible refine' ex_mk ?h ?_); (case h => exact rfl))
  | ((with_reducible refine' ex_ri ?h ?_); (case h => exact rfl))
  | ((with_reducible refine' ex_qi ?h ?_); (case h => exact rfl))
  | ((with_reducible refine' ex_bl ?h ?_); (case h => exact rfl))
  | ((with_reducible refine' ex_c ?h ?_); (case h => walk_at "sc"))
  | with_reducible refine ex_op ?_
  | with_reducible refine ex_andV ?_
  | with_reducible refine ex_orV ?_
  | with_reducible refine ex_notV ?_
  | with_reducible refine ex_if ?_
  | with_reducible refine ex_chain ?_
  | with_reducible refine ex_tup ?_
  | with_reducible refine ex_lst ?_
  | with_reducible refine ex_sortedSet ?_
  | with_reducible refine ex_countN ?_
  | with_reducible refine ex_revL ?_
  | with_reducible refine ex_cb ?_
  | with_reducible refine ex_call ?_
  | with_reducible refine ex_callB ?_
  | with_reducible refine exa_nil ?_
  | with_reducible refine exa_cons ?_
  | with_reducible refine et_test ?_
  | with_reducible refine et_B ?_
  | with_reducible refine et_and ?_
  | with_reducible refine et_or ?_
  | with_reducible refine et_not ?_
  | walk_at "rx"
  | ((with_reducible refine' cx_isi (b := true) ?h ?k ?_); (case h => exact rfl); (case k => decide +kernel))
  | ((with_reducible refine' cx_isi (b := false) ?h ?k ?_); (case h => exact rfl); (case k => decide +kernel))
  | ((with_reducible refine' cx_len ?h ?_); (case h => exact rfl))
  | ((with_reducible refine' cx_list ?h ?_); (case h => exact rfl))
  | ((with_reducible refine' cx_tuple ?h ?_); (case h => exact rfl))
  | ((with_reducible refine' cx_allF ?h ?_); (case h => exact rfl))
  | ((with_reducible refine' cx_anyF ?h ?_); (case h => exact rfl))
  | with_reducible refine cx_intI ?_
  | with_reducible refine cx_intB ?_
  | with_reducible refine ex_fz ?_
  | refine .inl ⟨_, rfl, ?_⟩
  | refine .inr ⟨_, rfl, ?_⟩
  | ((with_reducible refine' sx_par ?_))
  | ((with_reducible refine' sx_dput ?h); (case h => skip))
  | with_reducible refine cx_max2 ?_
  | with_reducible refine cx_min2 ?_
  | ((with_reducible refine' cx_dict ?h ?_); (case h => exact rfl))
  | with_reducible refine ex_make ?_
  | ((with_reducible refine' ex_fzV ?h ?_); (case h => exact rfl))
  | ((with_reducible refine' ex_fzVD ?h ?_); (case h => exact rfl))
  | ((with_reducible refine' ex_start ?pc ?_); (case pc => assumption))
  | ((with_reducible refine' ex_span ?pc ?_); (case pc => assumption))
  | ((with_reducible refine' ex_deeds ?pc ?_); (case pc => assumption))
  | ((with_reducible refine' ex_parts ?pc ?_); (case pc => assumption))
  | ((with_reducible refine' ex_ranks ?pc ?_); (case pc => assumption))
  | with_reducible refine ex_fld ?_
  | with_reducible refine ex_prop ?_
  | with_reducible refine ex_lenSet ?_
  | with_reducible refine ex_neg ?_
  | with_reducible refine ex_dictEnum ?_
  | with_reducible refine ex_dget2 ?_
  | with_reducible refine ex_disp1 ?_
  | with_reducible refine ex_listRg1 ?_
  | with_reducible refine cx_isC ?_
  | with_reducible refine ex_meth ?_
  | with_reducible refine ex_slT ?_
  | with_reducible refine ex_slL ?_
  | with_reducible refine exo_none ?_
  | with_reducible refine exo_some ?_
  | with_reducible refine ex_dget ?_
  | with_reducible refine ex_din ?_
  | with_reducible refine ex_dnotin ?_
  | with_reducible refine ex_dnew ?_
  | with_reducible refine exa_star ?_
  | with_reducible refine iteT ?_
  | with_reducible refine iteF ?_
  | with_reducible refine iteNF ?_
  | with_reducible refine iteNT ?_
  | refine ⟨(trivial : RetOk (Sl.im _)), ?_⟩
  | refine ⟨(trivial : RetOk (Sl.ow _)), ?_⟩
  | refine ⟨[], rfl, Nat.le_of_ble_eq_true rfl, ?_⟩
  | refine ⟨[_], rfl, Nat.le_of_ble_eq_true rfl, ?_⟩
  | refine ⟨[_, _], rfl, Nat.le_of_ble_eq_true rfl, ?_⟩
  | refine ⟨[_, _, _], rfl, Nat.le_of_ble_eq_true rfl, ?_⟩
  | refine ⟨[_, _, _, _, _], rfl, Nat.le_of_ble_eq_true rfl, ?_⟩
  | refine ⟨rfl, rfl, ?_⟩
  | refine ⟨_, _, _, rfl, by assumption, by assumption, rfl, ?_⟩
  | refine ⟨npI, ?_⟩
  | refine ⟨npO, ?_⟩
  | refine ⟨npD, ?_⟩
  | refine ⟨npQ, ?_⟩
  | refine ⟨_, rfl, ?_⟩
  | refine ⟨_, _, rfl, ?_⟩
  | refine ⟨_, _, _, rfl, ?_⟩
  | refine ⟨_, _, _, _, rfl, ?_⟩
  | ((with_reducible refine' andGet ?h ?_); (case h => exact rfl)))
local macro_rules | `(tactic| walk_at "go") => `(tactic| repeat walk_at "go1")
local macro_rules | `(tactic| walk_at "T") => `(tactic| (refine iteE (c := true) rfl ?_; walk_at "go"))
local macro_rules | `(tactic| walk_at "F") => `(tactic| (refine iteE (c := false) rfl ?_; walk_at "go"))
local macro_rules | `(tactic| walk_at "draw") => `(tactic| refine ⟨0, [_], rfl, rfl, _, _, _, _, _, rfl, rfl, by omega, by omega, by omega, by omega, ?_⟩)
theorem nodup_erase {l : List Int} (h : l.Nodup) {i : Nat} (hi : i < l.length) : l[i] ∉ l.eraseIdx i := by
  rw [List.mem_eraseIdx_iff_getElem]
  rintro ⟨j, hj, hne, e⟩
  have p := List.pairwise_iff_getElem.mp h
  rcases Nat.lt_or_gt_of_ne hne with g | g
  · exact p j i hj hi g e
  · exact p i j hi hj g e.symm
theorem map_erase {α β : Type} (f : α → β) : ∀ (l : List α) (n : Nat), (l.eraseIdx n).map f = (l.map f).eraseIdx n
  | [], _ => rfl
  | _ :: _, 0 => rfl
  | x :: l, n + 1 => by
    show f x :: (l.eraseIdx n).map f = f x :: (l.map f).eraseIdx n
    rw [map_erase f l n]
section
variable {P : Program} {w : World} {K : PySem.W.Frag} {mg : Str → Option Value} {base : Heap} {C : Addr}
abbrev bSome : DB := fun ds st k => ∃ (a : Addr) (ns : List Int) (i v : Int) (pool : List Int) (m : Int), ds = [lstI pool, .int m] ∧ st = [.bl a (encPen ns i v)] ∧ 0 ≤ i ∧ i ≤ 2 ^ 61 ∧ pool.length ≤ 1000 ∧ pool.Nodup ∧ 0 ≤ m ∧ m ≤ 100 ∧ ∀ (L : List Int) i' v', (∀ x ∈ L, x ∈ pool) → L.Nodup → (L.length : Int) ≤ m → i ≤ i' → i' ≤ i + 1 + m → k (.ow (L.map Dat.int)) [.bl a (encPen ns i' v')]
theorem ok__law_some {f : Addr} {fd : FuncData} (F : Fun K "_law_some" "_law_some" s__law_some f fd) (T : Txt mg) (D__law_draw : DefOk P w K mg base "_law_draw" 2 P__law_draw (SpB C bDraw)) : FnOk P w K mg base CX0 3 f fd P__law_some (SpB C bSome) := by
  refine fn_bor (g := 0) F sc__law_some (fun ds st k h => ?_) (by decide) (by decide) fun cdv A outer s H E ds s0 st kk hr h => ?_
  · obtain ⟨_, _, _, _, _, _, e1, e2, _⟩ := h
    rw [e1, e2]; exact ⟨rfl, rfl⟩
  · obtain ⟨a, ns, i, v, pool, m, e1, e2, hi0, hi1, hp, hnd, hm0, hm1, hk⟩ := h
    subst e1
    simp only [List.cons.injEq] at e2
    obtain ⟨rfl, rfl⟩ := e2
    refine ⟨_, (pss_cons (ps_set (i := 3) sc__law_some.nd rfl (Or.inr rfl) (pe_callTy (kk_list K) (by rfl) T.b_list (by decide +kernel) (pa_cons (pv 1) pa_nil)))
      (pss_one (ps_ret (pe_lc (own := [("_law_turn", 4)]) (g := (gName 4)) rfl sc__law_some.nd (pi_range1 (by rfl) T.b_range (pa_cons (pe_callD D__law_draw (hr.mono (by decide)) (by rfl) (pa_cons (pv 0) (pa_cons (pe_op op_add (pe_callB (call_min2 rfl) (by rfl) T.b_min (by decide +kernel) (pa_cons (pv 2) (pa_cons (pe_callB (kk_len K) (by rfl) T.b_len (by decide +kernel) (pa_cons (pv 3) pa_nil)) pa_nil))) pe_int) pa_nil))) pa_nil)) (blkOk_by (own := [("_law_turn", 4)]) (N := N__law_some) (sc := defScope s__law_some) (by decide +kernel)) (fun _ _ _ _ _ => (pg_name (i := 4) sc__law_some.nd rfl (Or.inl rfl))) (fun _ _ _ _ _ => pts_nil) (fun _ _ _ _ _ => (kk_bm K PySem.F.plainAttrs_list PySem.F.slot_list_pop PySem.F.type_list_pop mt_popAt (pv 3) (pa_cons (pe_callD D__law_draw (hr.mono (by decide)) (by rfl) (pa_cons (pv 0) (pa_cons (pe_callB (kk_len K) (by rfl) T.b_len (by decide +kernel) (pa_cons (pv 3) pa_nil)) pa_nil))) pa_nil))))))), ?_⟩
    walk_at "go"
    refine ex_lc (by decide) (ix_range1 tg_name ?_)
    walk_at "go"
    walk_at "draw"
    rintro d i1 v1 hd0 hd1 hi2 hi3
    refine ⟨trivial, ?_⟩
    rw [List.length_map] at hd1
    refine (?_ : EXA C _ [.bl a (encPen ns i1 v1), .im (lstI pool), .im (.int m), .ow (pool.map Dat.int), .un] _)
    walk_at "go"
    have hdm : d ≤ m ∧ d ≤ pool.length := by split at hd1 <;> omega
    refine ⟨by omega, by omega, by rw [rgD_len]; omega, ⟨trivial, trivial⟩, fun pre acc e => ∃ (L rest : List Int) (i' v' : Int), acc = L.map Dat.int ∧ e = [.bl a (encPen ns i' v'), .im (lstI pool), .im (.int m), .ow (rest.map Dat.int), .un] ∧ (∀ x ∈ L, x ∈ pool) ∧ (∀ x ∈ rest, x ∈ pool) ∧ L.Nodup ∧ rest.Nodup ∧ (∀ x ∈ rest, x ∉ L) ∧ L.length = pre.length ∧ rest.length + pre.length = pool.length ∧ i1 ≤ i' ∧ i' ≤ i1 + pre.length, ⟨[], pool, i1, v1, rfl, rfl, fun _ h => (nomatch h), fun _ h => h, .nil, hnd, fun _ _ h => (nomatch h), rfl, by simp, by omega, by simp⟩, ?_, ?_⟩
    · rintro pre q post acc e hd ⟨L, rest, i', v', rfl, rfl, hL, hR, nL, nR, hLR, lL, lR, hi4, hi5⟩
      obtain ⟨hpl, rfl⟩ := rgD_at hd
      have hrl : 0 < rest.length := by omega
      refine ⟨⟨trivial, trivial⟩, et_yes ?_⟩
      rw [if_pos rfl]
      refine ex_pop (i := 3) rfl (ex_callB ?_)
      walk_at "go"
      have hml : (rest.map Dat.int).length = rest.length := List.length_map ..
      walk_at "draw"
      rintro z i6 v6 hz0 hz1 hi6 hi7
      rw [hml] at hz1
      have hz : z.toNat < rest.length := by omega
      refine ⟨trivial, z.toNat, .int rest[z.toNat], _, by rw [Int.toNat_of_nonneg hz0], rfl, by rw [List.getElem?_map, List.getElem?_eq_getElem hz]; rfl, by rw [hml]; omega, _, rfl, ⟨trivial, trivial⟩, ?_⟩
      have hmem := List.getElem_mem hz
      refine ⟨L ++ [rest[z.toNat]], rest.eraseIdx z.toNat, i6, v6, by simp, ?_, ?_, ?_, ?_, ?_, ?_, ?_, ?_, by omega, by simp; omega⟩
      · rw [map_erase]
        rfl
      · intro x hx
        rcases List.mem_append.mp hx with h | h
        · exact hL x h
        · rw [List.mem_singleton.mp h]; exact hR _ hmem
      · intro x hx
        exact hR x (List.mem_of_mem_eraseIdx hx)
      · rw [List.nodup_append]
        refine ⟨nL, (by simp), fun x hx y hy e => ?_⟩
        rw [List.mem_singleton.mp hy] at e
        exact hLR _ hmem (e ▸ hx)
      · exact nR.sublist (List.eraseIdx_sublist ..)
      · intro x hx h
        rcases List.mem_append.mp h with h | h
        · exact hLR x (List.mem_of_mem_eraseIdx hx) h
        · rw [List.mem_singleton.mp h] at hx
          exact nodup_erase nR hz hx
      · simp; omega
      · rw [List.length_eraseIdx, if_pos hz]
        simp
        omega
    · rintro acc e ⟨L, rest, i', v', rfl, rfl, hL, hR, nL, nR, hLR, lL, lR, hi4, hi5⟩
      rw [rgD_len] at lL hi5
      exact ⟨trivial, rfl, hk L i' v' hL nL (by omega) (by omega) (by omega)⟩
/-- one place of a step, as the law breaks it -/
def lstep (i f w : Int) (ws : List Int) (st : List Pc × List Int) (k : Nat) : List Pc × List Int :=
  if (!st.2.isEmpty && decide ((f + (k : Int)) % w = 0)) = true then (st.1 ++ [(i, f + (k : Int) - (st.2.length : Int), st.2)], [ws.getD k 0]) else (st.1, st.2 ++ [ws.getD k 0])
def lsp (i f w : Int) (ws : List Int) (n : Nat) : List Pc × List Int := (List.range n).foldl (lstep i f w ws) ([], [])
def lsplit (i f w : Int) (ws : List Int) : List Pc := (lsp i f w ws ws.length).1 ++ [(i, f + (ws.length : Int) - ((lsp i f w ws ws.length).2.length : Int), (lsp i f w ws ws.length).2)]
theorem lsp_s {i f w : Int} {ws : List Int} {n : Nat} : lsp i f w ws (n + 1) = lstep i f w ws (lsp i f w ws n) n := by
  unfold lsp
  rw [List.range_succ, List.foldl_append]
  rfl
theorem lsp_len {i f w : Int} {ws : List Int} {n : Nat} : (lsp i f w ws n).1.length ≤ n ∧ (lsp i f w ws n).2.length ≤ n := by
  induction n with
  | zero => exact ⟨Nat.le_refl _, Nat.le_refl _⟩
  | succ n ih =>
    rw [lsp_s]
    unfold lstep
    split
    · simp; omega
    · simp; omega
abbrev spE (i f w : Int) (ws : List Int) (s : Sl) (g : List Pc × List Int) : Sls := [.im (.int i), .im (.tup [.int f, tupI ws]), .im (.int w), .im (.int f), .im (tupI ws), .ow (g.1.map encPc), .ow (g.2.map Dat.int), s]
def dSplit : DF := fun ss k => ∃ (i f : Int) (ws : List Int) (w : Int), ss = [.im (.int i), .im (.tup [.int f, tupI ws]), .im (.int w)] ∧ 0 < w ∧ ws.length ≤ 1000 ∧ k (.ow ((lsplit i f w ws).map encPc))
theorem ok__law_split {f : Addr} {fd : FuncData} (F : Fun K "_law_split" "_law_split" s__law_split f fd) (T : Txt mg) : FnOk P w K mg base CX0 1 f fd P__law_split (SpD C dSplit) := by
  refine fn_pure F sc__law_split (fun ss k h => ?_) (by decide) fun cdv A outer s H E ss kk hr h => ?_
  · obtain ⟨_, _, _, _, e, _⟩ := h
    rw [e]; rfl
  · obtain ⟨i, f, ws, w, e, hw, hl, hk⟩ := h
    subst e
    refine ⟨_, (pss_cons (ps_asg (pv 1) (pg_tup rfl (t := gNames [3, 4]) (pgs_cons (pg_name (i := 3) sc__law_split.nd rfl (Or.inl rfl)) (pgs_cons (pg_name (i := 4) sc__law_split.nd rfl (Or.inl rfl)) pgs_nil))))
      (pss_cons (ps_par (i := 5) (j := 6) (by rfl) sc__law_split.nd rfl rfl (by decide) rfl rfl (pa_cons (pe_lst pa_nil) (pa_cons (pe_lst pa_nil) pa_nil)) (by rfl))
      (pss_cons (ps_for (g := (gName 7)) PassesOwn.never rfl (pi_range1 (by rfl) T.b_range (pa_cons (pe_callB (kk_len K) (by rfl) T.b_len (by decide +kernel) (pa_cons (pv 4) pa_nil)) pa_nil)) (pg_name (i := 7) sc__law_split.nd rfl (Or.inl rfl)) (pss_cons (ps_if (PW.pt (pw_and (pt_cmpR (kk_neD K hr.units) (pv 6) (pe_lst pa_nil) (nomark _)) (pw_and1 (pt_cmpR op_eq (pe_op op_mod (pe_callTy call_int1 (by rfl) T.b_int (by decide +kernel) (pa_cons (pe_op op_add (pv 3) (pv 7)) pa_nil)) (pv 2)) pe_int (nomark _))))) (pss_cons (ps_expr (kk_bm K PySem.F.plainAttrs_list PySem.F.slot_list_append PySem.F.type_list_append mt_append (pv 5) (pa_cons (pe_tup (pa_cons (pv 0) (pa_cons (pe_op op_sub (pe_op op_add (pv 3) (pv 7)) (pe_callB (kk_len K) (by rfl) T.b_len (by decide +kernel) (pa_cons (pv 6) pa_nil))) (pa_cons (pe_callTy (kk_tuple K) (by rfl) T.b_tuple (by decide +kernel) (pa_cons (pv 6) pa_nil)) pa_nil)))) pa_nil)))
      (pss_one (ps_set (i := 6) sc__law_split.nd rfl (Or.inl rfl) (pe_lst pa_nil)))) pss_nil)
      (pss_one (ps_expr (kk_bm K PySem.F.plainAttrs_list PySem.F.slot_list_append PySem.F.type_list_append mt_append (pv 6) (pa_cons (pe_ix (kk_ixT K) (pv 4) (pv 7) (fun _ _ => rfl)) pa_nil))))))
      (pss_one (ps_ret (pe_op op_catS (pv 5) (pe_lst (pa_cons (pe_tup (pa_cons (pv 0) (pa_cons (pe_op op_sub (pe_op op_add (pv 3) (pe_callB (kk_len K) (by rfl) T.b_len (by decide +kernel) (pa_cons (pv 4) pa_nil))) (pe_callB (kk_len K) (by rfl) T.b_len (by decide +kernel) (pa_cons (pv 6) pa_nil))) (pa_cons (pe_callTy (kk_tuple K) (by rfl) T.b_tuple (by decide +kernel) (pa_cons (pv 6) pa_nil)) pa_nil)))) pa_nil)))))))), ?_⟩
    walk_at "go"
    refine sx_for (ix_range1 tg_name ?_)
    walk_at "go"
    have hwl : (ws.map Dat.int).length = ws.length := List.length_map ..
    refine ⟨by omega, by omega, fun pre e => ∃ s, e = spE i f w ws s (lsp i f w ws pre.length), ⟨.un, rfl⟩, ?_, ?_⟩
    · rintro pre d post e hd ⟨s, rfl⟩
      obtain ⟨hpl, rfl⟩ := rgD_at hd
      have hr1 : (0 : Int) + (pre.length : Int) * 1 = ((pre.length : Nat) : Int) := by omega
      rw [hr1]
      have hk1 : pre.length < ws.length := by omega
      have hg := lsp_len (i := i) (f := f) (w := w) (ws := ws) (n := pre.length)
      have hs := lsp_s (i := i) (f := f) (w := w) (ws := ws) (n := pre.length)
      have hat : L2.atI (ws.map Dat.int) ((pre.length : Nat) : Int) = some (.int (ws.getD pre.length 0)) := atI_of (by omega) (by rw [Int.toNat_natCast, List.getElem?_map, List.getElem?_eq_getElem hk1, List.getD_eq_getElem?_getD, List.getElem?_eq_getElem hk1]; rfl)
      refine (?_ : SX C _ (spE i f w ws (.im (.int (pre.length : Nat))) (lsp i f w ws pre.length)) _)
      generalize lsp i f w ws pre.length = g at hg hs ⊢
      refine sx_seq (SX.mid (fun e => e = spE i f w ws (.im (.int (pre.length : Nat))) (if (!g.2.isEmpty && decide ((f + (pre.length : Int)) % w = 0)) = true then (g.1 ++ [(i, f + (pre.length : Int) - (g.2.length : Int), g.2)], []) else g)) ?_ ?_)
      · walk_at "go"
        cases hn : g.2.isEmpty with
        | true =>
          walk_at "F"
          rfl
        | false =>
          walk_at "T"
          cases hm : decide ((f + (pre.length : Int)) % w = 0) with
          | false =>
            walk_at "F"
            rfl
          | true =>
            walk_at "T"
            refine ⟨by rw [List.length_map]; omega, ?_⟩
            walk_at "go"
            rw [List.length_map]
            refine Eq.trans ?_ (congrArg (spE i f w ws (.im (.int (pre.length : Nat)))) (if_pos (by rfl)).symm)
            unfold spE
            rw [List.map_append]
            rfl
      · have hs2 : lsp i f w ws (pre.length + 1) = ((if (!g.2.isEmpty && decide ((f + (pre.length : Int)) % w = 0)) = true then (g.1 ++ [(i, f + (pre.length : Int) - (g.2.length : Int), g.2)], []) else g).1, (if (!g.2.isEmpty && decide ((f + (pre.length : Int)) % w = 0)) = true then (g.1 ++ [(i, f + (pre.length : Int) - (g.2.length : Int), g.2)], []) else g).2 ++ [ws.getD pre.length 0]) := by
          rw [hs]
          unfold lstep
          split <;> rfl
        have hg2 : (if (!g.2.isEmpty && decide ((f + (pre.length : Int)) % w = 0)) = true then (g.1 ++ [(i, f + (pre.length : Int) - (g.2.length : Int), g.2)], []) else g).2.length ≤ pre.length := by
          split
          · exact Nat.zero_le _
          · exact hg.2
        generalize (if (!g.2.isEmpty && decide ((f + (pre.length : Int)) % w = 0)) = true then (g.1 ++ [(i, f + (pre.length : Int) - (g.2.length : Int), g.2)], []) else g) = g' at hs2 hg2 ⊢
        rintro e rfl
        walk_at "go"
        refine rx_ixT (d := .int (ws.getD pre.length 0)) ?_ ?_
        · exact hat
        walk_at "go"
        refine ⟨by rw [List.length_map]; omega, .im (.int (pre.length : Nat)), ?_⟩
        rw [show (pre ++ [Dat.int ((pre.length : Nat) : Int)]).length = pre.length + 1 by simp, hs2]
        unfold spE
        rw [List.map_append]
        rfl
    · rintro e ⟨s, rfl⟩
      rw [rgD_len, hwl, Int.toNat_natCast]
      walk_at "go"
      have hg := lsp_len (i := i) (f := f) (w := w) (ws := ws) (n := ws.length)
      refine rx_cat rfl rfl (by rw [List.length_map]; exact Nat.le_trans (Nat.add_le_add_right (Nat.le_trans hg.1 hl) 1) (by decide)) ?_
      refine ⟨trivial, ?_⟩
      rw [hwl, List.length_map]
      unfold lsplit at hk
      rw [List.map_append] at hk
      exact hk
abbrev encLP (p : Pl) : Dat := .tup [tupI p.base, .int p.width, .lst (p.steps.map encStp)]
def stL (p : Pl) (i : Nat) : List Pc := match p.steps[i]? with
  | some (some q) => lsplit i q.1 p.width q.2
  | _ => []
def lpN (p : Pl) (n : Nat) : List Pc := (List.range n).flatMap (stL p)
def lparts (p : Pl) : List Pc := lpN p p.steps.length
theorem lpN_s {p : Pl} {n : Nat} : lpN p (n + 1) = lpN p n ++ stL p n := by
  unfold lpN
  rw [List.range_succ, List.flatMap_append]
  simp
theorem lsplit_len {i f w : Int} {ws : List Int} : (lsplit i f w ws).length ≤ ws.length + 1 := by
  unfold lsplit
  have := lsp_len (i := i) (f := f) (w := w) (ws := ws) (n := ws.length)
  simp
  omega
theorem lpN_len {p : Pl} (h : ∀ f ws, some (f, ws) ∈ p.steps → ws.length ≤ 1000) {n : Nat} : (lpN p n).length ≤ n * 1001 := by
  induction n with
  | zero => exact Nat.le_refl _
  | succ n ih =>
    rw [lpN_s, List.length_append]
    have : (stL p n).length ≤ 1001 := by
      unfold stL
      cases hg : p.steps[n]? with
      | none => simp
      | some s =>
        cases s with
        | none => simp
        | some q =>
          have h1 := lsplit_len (i := (n : Int)) (f := q.1) (w := p.width) (ws := q.2)
          have h2 := h q.1 q.2 (List.mem_of_getElem? hg)
          simp only
          omega
    omega
def dParts : DF := fun ss k => ∃ (p : Pl), ss = [.im (encLP p)] ∧ 0 < p.width ∧ p.steps.length ≤ 40 ∧ (∀ f ws, some (f, ws) ∈ p.steps → ws.length ≤ 1000) ∧ k (.ow ((lparts p).map encPc))
theorem ok__law_parts {f : Addr} {fd : FuncData} (F : Fun K "_law_parts" "_law_parts" s__law_parts f fd) (T : Txt mg) (D__law_split : DefOk P w K mg base "_law_split" 1 P__law_split (SpD C dSplit)) : FnOk P w K mg base CX0 2 f fd P__law_parts (SpD C dParts) := by
  refine fn_pure F sc__law_parts (fun ss k h => ?_) (by decide) fun cdv A outer s H E ss kk hr h => ?_
  · obtain ⟨_, e, _⟩ := h
    rw [e]; rfl
  · obtain ⟨p, e, hw, hl, hs, hk⟩ := h
    subst e
    refine ⟨_, (pss_cons (ps_set (i := 1) sc__law_parts.nd rfl (Or.inl rfl) (pe_lst pa_nil))
      (pss_cons (ps_for (g := (gName 2)) PassesOwn.never rfl (pi_range1 (by rfl) T.b_range (pa_cons (pe_callB (kk_len K) (by rfl) T.b_len (by decide +kernel) (pa_cons (pe_ix (kk_ixT K) (pv 0) pe_int (fun _ _ => rfl)) pa_nil)) pa_nil)) (pg_name (i := 2) sc__law_parts.nd rfl (Or.inl rfl)) (pss_one (ps_if (pt_cmpR op_notN (pe_ix (kk_ixL K) (pe_ix (kk_ixT K) (pv 0) pe_int (fun _ _ => rfl)) (pv 2) (fun _ _ => rfl)) pe_non (nomark _)) (pss_one (ps_set (i := 1) sc__law_parts.nd rfl (Or.inl rfl) (pe_op op_catS (pv 1) (pe_callD D__law_split (hr.mono (by decide)) (by rfl) (pa_cons (pv 2) (pa_cons (pe_ix (kk_ixL K) (pe_ix (kk_ixT K) (pv 0) pe_int (fun _ _ => rfl)) (pv 2) (fun _ _ => rfl)) (pa_cons (pe_ix (kk_ixT K) (pv 0) pe_int (fun _ _ => rfl)) pa_nil))))))) pss_nil)))
      (pss_one (ps_ret (pv 1))))), ?_⟩
    walk_at "go"
    refine sx_for (ix_range1 tg_name ?_)
    walk_at "go"
    have hsl : (p.steps.map encStp).length = p.steps.length := List.length_map ..
    refine ⟨by omega, by omega, fun pre e => ∃ s, e = [.im (encLP p), .ow ((lpN p pre.length).map encPc), s], ⟨.un, rfl⟩, ?_, ?_⟩
    · rintro pre d post e hd ⟨s, rfl⟩
      obtain ⟨hpl, rfl⟩ := rgD_at hd
      have hr1 : (0 : Int) + (pre.length : Int) * 1 = ((pre.length : Nat) : Int) := by omega
      rw [hr1]
      have hk1 : pre.length < p.steps.length := by omega
      have hget : p.steps[pre.length]? = some p.steps[pre.length] := List.getElem?_eq_getElem hk1
      have hat : L2.atI (p.steps.map encStp) ((pre.length : Nat) : Int) = some (encStp p.steps[pre.length]) := atI_of (by omega) (by rw [Int.toNat_natCast, List.getElem?_map, hget]; rfl)
      have hmem := List.getElem_mem hk1
      have hz : (lpN p pre.length).length ≤ pre.length * 1001 := lpN_len hs
      have hss := lpN_s (p := p) (n := pre.length)
      unfold stL at hss
      rw [hget] at hss
      generalize p.steps[pre.length] = st at hat hmem hss
      walk_at "go"
      refine rx_ixL rfl hat ?_
      walk_at "go"
      cases st with
      | none =>
        walk_at "F"
        refine ⟨.im (.int (pre.length : Nat)), ?_⟩
        rw [show (pre ++ [Dat.int ((pre.length : Nat) : Int)]).length = pre.length + 1 by simp, hss, List.append_nil]
        rfl
      | some q =>
        obtain ⟨f, ws⟩ := q
        walk_at "T"
        refine rx_ixL rfl hat ?_
        walk_at "go"
        have hq := lsplit_len (i := ((pre.length : Nat) : Int)) (f := f) (w := p.width) (ws := ws)
        have := hs _ _ hmem
        refine ⟨hw, hs _ _ hmem, trivial, rx_cat rfl rfl (by rw [List.length_map, List.length_map]; omega) ?_⟩
        walk_at "go"
        refine ⟨.im (.int (pre.length : Nat)), ?_⟩
        rw [show (pre ++ [Dat.int ((pre.length : Nat) : Int)]).length = pre.length + 1 by simp, hss, List.map_append]
        rfl
    · rintro e ⟨s, rfl⟩
      rw [rgD_len, hsl, Int.toNat_natCast]
      walk_at "go"
      exact hk
def lrk (p : Pl) (x : Pc) : Int := ((cutD (p.steps.map encStp) none (some x.1)).countP isNonD : Nat)
def lranks (p : Pl) : List Int := (lparts p).map (lrk p)
def dRanks : DF := fun ss k => ∃ (p : Pl), ss = [.im (encLP p)] ∧ 0 < p.width ∧ p.steps.length ≤ 40 ∧ (∀ f ws, some (f, ws) ∈ p.steps → ws.length ≤ 1000) ∧ k (.ow ((lranks p).map Dat.int))
theorem ok__law_ranks {f : Addr} {fd : FuncData} (F : Fun K "_law_ranks" "_law_ranks" s__law_ranks f fd) (T : Txt mg) (D__law_parts : DefOk P w K mg base "_law_parts" 2 P__law_parts (SpD C dParts)) : FnOk P w K mg base CX0 3 f fd P__law_ranks (SpD C dRanks) := by
  refine fn_pure F sc__law_ranks (fun ss k h => ?_) (by decide) fun cdv A outer s H E ss kk hr h => ?_
  · obtain ⟨_, e, _⟩ := h
    rw [e]; rfl
  · obtain ⟨p, e, hw, hl, hs, hk⟩ := h
    subst e
    refine ⟨_, (pss_one (ps_ret (pe_lc (own := [("_law_part", 1)]) (g := (gName 1)) rfl sc__law_ranks.nd (kk_pil K (pe_fz (pe_callD D__law_parts (hr.mono (by decide)) (by rfl) (pa_cons (pv 0) pa_nil)))) (blkOk_by (own := [("_law_part", 1)]) (N := N__law_ranks) (sc := defScope s__law_ranks) (by decide +kernel)) (fun _ _ _ _ _ => (pg_name (i := 1) sc__law_ranks.nd rfl (Or.inl rfl))) (fun _ _ _ _ _ => pts_nil) (fun _ _ _ _ _ => (kk_bm K PySem.F.plainAttrs_list PySem.F.slot_list_count PySem.F.type_list_count (kk_count K (hu_of hr)) (pe_slice (kk_slL K) (pe_ix (kk_ixT K) (pv 0) pe_int (fun _ _ => rfl)) po_none (po_some (pe_ix (kk_ixT K) (pv 1) pe_int (fun _ _ => rfl)))) (pa_cons pe_non pa_nil)))))), ?_⟩
    have hz : (lparts p).length ≤ p.steps.length * 1001 := lpN_len hs
    walk_at "go"
    refine ex_lcY (by decide) (ix_list tg_name ?_)
    walk_at "go"
    refine ⟨hw, hl, hs, trivial, ?_⟩
    walk_at "go"
    refine ⟨fun _ _ => trivial, by rw [List.length_map]; omega, ⟨trivial, trivial⟩, Pc, lparts p, encPc, (fun x => .int (lrk p x)), rfl, fun x hx => ?_, ?_⟩
    · walk_at "go"
      exact ⟨_, 2, rfl, fun d hd => pln_stps d (List.mem_of_mem_drop (List.mem_of_mem_take hd)), rfl, rfl⟩
    · refine ⟨trivial, ?_⟩
      unfold lranks at hk
      rw [List.map_map] at hk
      exact hk
end
end Af
end

section
set_option maxHeartbeats 4000000
namespace Af
open PySem L2
local macro_rules | `(tactic| walk_at "sc") => `(tactic| first | exact ScD.int _ | exact ScD.bl _ | exact ScD.non | exact ScD.str _ | exact ScD.ty _ | exact ScD.cls _)
local macro_rules | `(tactic| walk_at "rx") => `(tactic| first
  | ((with_reducible refine' rx_ixT ?h ?_); (case h => exact rfl))
  | ((with_reducible refine' rx_ixL ?h1 ?h2 ?_); (case h1 => exact rfl); (case h2 => exact rfl))
  | with_reducible refine rx_I0i ?_
  | with_reducible refine rx_I0b ?_
  | ((with_reducible refine' rx_Ii ?h ?_); (case h => first | decide | (show (0 : Int) < _; omega) | exact Or.inr ⟨by decide, by decide⟩ | exact ⟨by decide, by decide, by decide⟩ | exact Or.inl ⟨by omega, by omega⟩ | exact (⟨by omega, by omega⟩ : CDiv _ _)))
  | with_reducible refine rx_eqI ?_
  | with_reducible refine rx_neI ?_
  | with_reducible refine rx_neB ?_
  | with_reducible refine rx_isN ?_
  | with_reducible refine rx_notN ?_
  | with_reducible refine rx_neT ?_
  | ((with_reducible refine' rx_neN ?h1 ?h2 ?_); (case h1 => exact rfl); (case h2 => exact rfl))
  | ((with_reducible refine' rx_eqN ?h1 ?h2 ?_); (case h1 => exact rfl); (case h2 => exact rfl)))
local macro_rules | `(tactic| walk_at "go1") => `(tactic| first
  | with_reducible refine sx_seq ?_
  | ((with_reducible refine' sx_retO ?h ?_); (case h => exact rfl))
  | ((with_reducible refine' sx_retD ?h ?_); (case h => exact rfl))
  | with_reducible refine sx_ret ?_
  | ((with_reducible refine' sx_fldM ?z ?a ?b ?c ?d ?_); (case z => exact rfl); (case a => assumption); (case b => assumption); (case c => assumption); (case d => exact Nat.le_of_ble_eq_true rfl))
  | ((with_reducible refine' sx_append ?h ?_); (case h => exact rfl))
  | ((with_reducible refine' sx_extend ?h ?_); (case h => exact rfl))
  | with_reducible refine sx_drop ?_
  | with_reducible refine sx_retN ?_
  | with_reducible refine sx_next ?_
  | with_reducible refine sx_if ?_
  | with_reducible refine sx_asg ?_
  | with_reducible refine sx_asgT ?_
  | ((with_reducible refine' ex_im ?h ?_); (case h => exact rfl))
  | ((with_reducible refine' ex_ow ?h ?_); (case h => exact rfl))
  | ((with_reducible refine' ex_ro ?h ?_); (case h => exact rfl))
  | ((with_reducible refine' ex_od ?h ?_); (case h => exact rfl))
  | ((with_reducible refine' ex_pn ?h ?_); (case h => exact rfl))
  | ((with_reducible refine' ex_mk ?h ?_); (case h => exact rfl))
  | ((with_reducible refine' ex_ri ?h ?_); (case h => exact rfl))
  | ((with_reducible refine' ex_qi ?h ?_); (case h => exact rfl))
  | ((with_reducible refine' ex_bl ?h ?_); (case h => exact rfl))
  | ((with_reducible refine' ex_c ?h ?_); (case h => walk_at "sc"))
  | with_reducible refine ex_op ?_
  | with_reducible refine ex_andV ?_
  | with_reducible refine ex_orV ?_
  | with_reducible refine ex_notV ?_
  | with_reducible refine ex_if ?_
  | with_reducible refine ex_chain ?_
  | with_reducible refine ex_tup ?_
  | with_reducible refine ex_lst ?_
  | with_reducible refine ex_sortedSet ?_
  | with_reducible refine ex_countN ?_
  | with_reducible refine ex_revL ?_
  | with_reducible refine ex_cb ?_
  | with_reducible refine ex_call ?_
  | with_reducible refine ex_callB ?_
  | with_reducible refine exa_nil ?_
  | with_reducible refine exa_cons ?_
  | with_reducible refine et_test ?_
  | with_reducible refine et_B ?_
  | with_reducible refine et_and ?_
  | with_reducible refine et_or ?_
  | with_reducible refine et_not ?_
  | walk_at "rx"
  | ((with_reducible refine' cx_isi (b := true) ?h ?k ?_); (case h => exact rfl); (case k => decide +kernel))
  | ((with_reducible refine' cx_isi (b := false) ?h ?k ?_); (case h => exact rfl); (case k => decide +kernel))
  | ((with_reducible refine' cx_len ?h ?_); (case h => exact rfl))
  | ((with_reducible refine' cx_list ?h ?_); (case h => exact rfl))
  | ((with_reducible refine' cx_tuple ?h ?_); (case h => exact rfl))
  | ((with_reducible refine' cx_allF ?h ?_); (case h => exact rfl))
  | ((with_reducible refine' cx_anyF ?h ?_); (case h => exact rfl))
  | with_reducible refine cx_intI ?_
  | with_reducible refine cx_intB ?_
  | with_reducible refine ex_fz ?_
  | refine .inl ⟨_, rfl, ?_⟩
  | refine .inr ⟨_, rfl, ?_⟩
  | ((with_reducible refine' sx_par ?_))
  | ((with_reducible refine' sx_dput ?h); (case h => skip))
  | with_reducible refine cx_max2 ?_
  | with_reducible refine cx_min2 ?_
  | ((with_reducible refine' cx_dict ?h ?_); (case h => exact rfl))
  | with_reducible refine ex_make ?_
  | ((with_reducible refine' ex_fzV ?h ?_); (case h => exact rfl))
  | ((with_reducible refine' ex_fzVD ?h ?_); (case h => exact rfl))
  | ((with_reducible refine' ex_start ?pc ?_); (case pc => assumption))
  | ((with_reducible refine' ex_span ?pc ?_); (case pc => assumption))
  | ((with_reducible refine' ex_deeds ?pc ?_); (case pc => assumption))
  | ((with_reducible refine' ex_parts ?pc ?_); (case pc => assumption))
  | ((with_reducible refine' ex_ranks ?pc ?_); (case pc => assumption))
  | with_reducible refine ex_fld ?_
  | with_reducible refine ex_prop ?_
  | with_reducible refine ex_lenSet ?_
  | with_reducible refine ex_neg ?_
  | with_reducible refine ex_dictEnum ?_
  | with_reducible refine ex_dget2 ?_
  | with_reducible refine ex_disp1 ?_
  | with_reducible refine ex_listRg1 ?_
  | with_reducible refine cx_isC ?_
  | with_reducible refine ex_meth ?_
  | with_reducible refine ex_slT ?_
  | with_reducible refine ex_slL ?_
  | with_reducible refine exo_none ?_
  | with_reducible refine exo_some ?_
  | with_reducible refine ex_dget ?_
  | with_reducible refine ex_din ?_
  | with_reducible refine ex_dnotin ?_
  | with_reducible refine ex_dnew ?_
  | with_reducible refine exa_star ?_
  | with_reducible refine iteT ?_
  | with_reducible refine iteF ?_
  | with_reducible refine iteNF ?_
  | with_reducible refine iteNT ?_
  | refine ⟨(trivial : RetOk (Sl.im _)), ?_⟩
  | refine ⟨(trivial : RetOk (Sl.ow _)), ?_⟩
  | refine ⟨[], rfl, Nat.le_of_ble_eq_true rfl, ?_⟩
  | refine ⟨[_], rfl, Nat.le_of_ble_eq_true rfl, ?_⟩
  | refine ⟨[_, _], rfl, Nat.le_of_ble_eq_true rfl, ?_⟩
  | refine ⟨[_, _, _], rfl, Nat.le_of_ble_eq_true rfl, ?_⟩
  | refine ⟨[_, _, _, _, _], rfl, Nat.le_of_ble_eq_true rfl, ?_⟩
  | refine ⟨rfl, rfl, ?_⟩
  | refine ⟨_, _, _, rfl, by assumption, by assumption, rfl, ?_⟩
  | refine ⟨npI, ?_⟩
  | refine ⟨npO, ?_⟩
  | refine ⟨npD, ?_⟩
  | refine ⟨npQ, ?_⟩
  | refine ⟨_, rfl, ?_⟩
  | refine ⟨_, _, rfl, ?_⟩
  | refine ⟨_, _, _, rfl, ?_⟩
  | refine ⟨_, _, _, _, rfl, ?_⟩
  | ((with_reducible refine' andGet ?h ?_); (case h => exact rfl)))
local macro_rules | `(tactic| walk_at "go") => `(tactic| repeat walk_at "go1")
local macro_rules | `(tactic| walk_at "T") => `(tactic| (refine iteE (c := true) rfl ?_; walk_at "go"))
local macro_rules | `(tactic| walk_at "F") => `(tactic| (refine iteE (c := false) rfl ?_; walk_at "go"))
local macro_rules | `(tactic| walk_at "draw") => `(tactic| refine ⟨0, [_], rfl, rfl, _, _, _, _, _, rfl, rfl, by omega, by omega, by omega, by omega, ?_⟩)
theorem worths_of {l : List Int} (h : 0 < l.length) (hx : ∀ x ∈ l, 0 ≤ x ∧ x < 8) : areWorths l = true := by
  unfold areWorths
  rw [Bool.and_eq_true]
  refine ⟨?_, List.all_eq_true.mpr fun x h => isBelow_iff.mpr (hx x h)⟩
  cases l with
  | nil => simp at h
  | cons _ _ => rfl
section
variable {P : Program} {w : World} {K : PySem.W.Frag} {mg : Str → Option Value} {base : Heap} {C : Addr}
abbrev bWrite : DB := fun ds st k => ∃ (a : Addr) (ns : List Int) (i v : Int) (m q : Int), ds = [.int m, .int q, .int 3] ∧ st = [.bl a (encPen ns i v)] ∧ 0 ≤ i ∧ i ≤ 2 ^ 61 ∧ 0 < m ∧ m ≤ 5 ∧ 0 < q ∧ q ≤ 8 ∧ ∀ (f : Int) (ws : List Int) i' v', stepOk m (some (f, ws)) = true → ws.length ≤ 3 → i ≤ i' → i' ≤ i + 6 → k (.im (encStp (some (f, ws)))) [.bl a (encPen ns i' v')]
theorem ok__law_write {f : Addr} {fd : FuncData} (F : Fun K "_law_write" "_law_write" s__law_write f fd) (T : Txt mg) (D__law_draw : DefOk P w K mg base "_law_draw" 2 P__law_draw (SpB C bDraw)) : FnOk P w K mg base CX0 3 f fd P__law_write (SpB C bWrite) := by
  refine fn_bor (g := 0) F sc__law_write (fun ds st k h => ?_) (by decide) (by decide) fun cdv A outer s H E ds s0 st kk hr h => ?_
  · obtain ⟨_, _, _, _, _, _, e1, e2, _⟩ := h
    rw [e1, e2]; exact ⟨rfl, rfl⟩
  · obtain ⟨a, ns, i, v, m, q, e1, e2, hi0, hi1, hm0, hm1, hq0, hq1, hk⟩ := h
    subst e1
    simp only [List.cons.injEq] at e2
    obtain ⟨rfl, rfl⟩ := e2
    refine ⟨_, (pss_cons (ps_set (i := 4) sc__law_write.nd rfl (Or.inl rfl) (pe_callD D__law_draw (hr.mono (by decide)) (by rfl) (pa_cons (pv 0) (pa_cons (pv 1) pa_nil))))
      (pss_cons (ps_set (i := 5) sc__law_write.nd rfl (Or.inl rfl) (pe_callB (call_min2 rfl) (by rfl) T.b_min (by decide +kernel) (pa_cons (pv 3) (pa_cons (pe_op op_sub (pv 1) (pv 4)) pa_nil))))
      (pss_one (ps_ret (pe_tup (pa_cons (pv 4) (pa_cons (pe_callTy (kk_tuple K) (by rfl) T.b_tuple (by decide +kernel) (pa_cons (pe_lc (own := [("_law_k", 6)]) (g := (gName 6)) rfl sc__law_write.nd (pi_range1 (by rfl) T.b_range (pa_cons (pe_op op_add pe_int (pe_callD D__law_draw (hr.mono (by decide)) (by rfl) (pa_cons (pv 0) (pa_cons (pv 5) pa_nil)))) pa_nil)) (blkOk_by (own := [("_law_k", 6)]) (N := N__law_write) (sc := defScope s__law_write) (by decide +kernel)) (fun _ _ _ _ _ => (pg_name (i := 6) sc__law_write.nd rfl (Or.inl rfl))) (fun _ _ _ _ _ => pts_nil) (fun _ _ _ _ _ => (pe_callD D__law_draw (hr.mono (by decide)) (by rfl) (pa_cons (pv 0) (pa_cons (pv 2) pa_nil))))) pa_nil)) pa_nil))))))), ?_⟩
    walk_at "go"
    walk_at "draw"
    rintro f i1 v1 hf0 hf1 hi2 hi3
    refine ⟨trivial, npI, ?_⟩
    refine (?_ : SX C _ [.bl a (encPen ns i1 v1), .im (.int m), .im (.int q), .im (.int 3), .im (.int f), .un, .un] _)
    refine sx_seq (SX.mid (fun e => ∃ mn : Int, 1 ≤ mn ∧ mn ≤ 3 ∧ mn ≤ m - f ∧ e = [.bl a (encPen ns i1 v1), .im (.int m), .im (.int q), .im (.int 3), .im (.int f), .im (.int mn), .un]) ?_ ?_)
    · walk_at "go"
      refine ⟨_, ?_, ?_, ?_, rfl⟩ <;> split <;> omega
    rintro e ⟨mn, hn0, hn1, hn2, rfl⟩
    walk_at "go"
    refine ex_lc (by decide) (ix_range1 tg_name ?_)
    walk_at "go"
    walk_at "draw"
    rintro d i2 v2 hd0 hd1 hi4 hi5
    refine ⟨trivial, ?_⟩
    walk_at "go"
    refine ⟨by omega, by omega, by rw [rgD_len]; omega, ⟨trivial, trivial⟩, fun pre acc e => ∃ (L : List Int) (i' v' : Int), acc = L.map Dat.int ∧ e = [.bl a (encPen ns i' v'), .im (.int m), .im (.int q), .im (.int 3), .im (.int f), .im (.int mn), .un] ∧ L.length = pre.length ∧ (∀ x ∈ L, 0 ≤ x ∧ x < q) ∧ i2 ≤ i' ∧ i' ≤ i2 + pre.length, ⟨[], i2, v2, rfl, rfl, rfl, fun _ h => (nomatch h), by omega, by simp⟩, ?_, ?_⟩
    · rintro pre x post acc e hd ⟨L, i', v', rfl, rfl, lL, hL, hi6, hi7⟩
      obtain ⟨hpl, rfl⟩ := rgD_at hd
      refine ⟨⟨trivial, trivial⟩, et_yes ?_⟩
      rw [if_pos rfl]
      walk_at "go"
      walk_at "draw"
      rintro z i8 v8 hz0 hz1 hi8 hi9
      refine ⟨trivial, .int z, rfl, ⟨trivial, trivial⟩, L ++ [z], i8, v8, by simp, rfl, by simp; omega, fun y hy => ?_, by omega, by simp; omega⟩
      rcases List.mem_append.mp hy with h | h
      · exact hL y h
      · rw [List.mem_singleton.mp h]; exact ⟨hz0, hz1⟩
    · rintro acc e ⟨L, i', v', rfl, rfl, lL, hL, hi6, hi7⟩
      rw [rgD_len] at lL hi7
      walk_at "go"
      refine ⟨rfl, hk f L i' v' ?_ (by omega) (by omega) (by omega)⟩
      exact stepOk_iff.mpr ⟨⟨hf0, hf1⟩, worths_of (by omega) fun x hx => ⟨(hL x hx).1, by have := (hL x hx).2; omega⟩, by omega⟩
structure LpI (cs : List Int) (w : Int) (n t : Nat) (p : Pl) : Prop where
  base : p.base = cs
  wid : p.width = w
  len : p.steps.length ≤ n
  steps : ∀ s ∈ p.steps, stepOk cs.length s = true
  small : ∀ f ws, some (f, ws) ∈ p.steps → ws.length ≤ 3
  few : p.steps.countP Option.isSome ≤ t
theorem LpI.add {cs : List Int} {w : Int} {n t : Nat} {p : Pl} (h : LpI cs w n t p) {s : Stp} (hs : stepOk cs.length s = true) (h3 : ∀ f ws, s = some (f, ws) → ws.length ≤ 3) : LpI cs w (n + 1) (t + (if s.isSome then 1 else 0)) ⟨cs, w, p.steps ++ [s]⟩ := by
  refine ⟨rfl, rfl, by simp; have := h.len; omega, fun x hx => ?_, fun f ws hx => ?_, ?_⟩
  · rcases List.mem_append.mp hx with g | g
    · exact h.steps x g
    · rw [List.mem_singleton.mp g]; exact hs
  · rcases List.mem_append.mp hx with g | g
    · exact h.small f ws g
    · exact h3 f ws (List.mem_singleton.mp g).symm
  · have := h.few
    show (p.steps ++ [s]).countP _ ≤ _
    rw [List.countP_append]
    cases s <;> simp <;> omega
theorem LpI.mono {cs : List Int} {w : Int} {n t n' t' : Nat} {p : Pl} (h : LpI cs w n t p) (hn : n ≤ n') (ht : t ≤ t') : LpI cs w n' t' p := ⟨h.base, h.wid, Nat.le_trans h.len hn, h.steps, h.small, Nat.le_trans h.few ht⟩
structure LpOk (p : Pl) : Prop where
  base : isContent p.base = true
  b5 : p.base.length ≤ 5
  w1 : 1 ≤ p.width
  w3 : p.width ≤ 3
  len : p.steps.length ≤ 20
  steps : ∀ s ∈ p.steps, stepOk p.base.length s = true
  small : ∀ f ws, some (f, ws) ∈ p.steps → ws.length ≤ 3
  few : p.steps.countP Option.isSome ≤ 7
theorem lpok_of {cs : List Int} {w : Int} {n t : Nat} {p : Pl} (h : LpI cs w n t p) (c0 : 0 < cs.length) (c5 : cs.length ≤ 5) (w1 : 1 ≤ w) (w3 : w ≤ 3) (hn : n ≤ 20) (ht : t ≤ 7) (hx : ∀ x ∈ cs, 0 ≤ x ∧ x < 8) : LpOk p := by
  refine ⟨?_, by rw [h.base]; exact c5, by rw [h.wid]; exact w1, by rw [h.wid]; exact w3, Nat.le_trans h.len hn, by rw [h.base]; exact h.steps, h.small, Nat.le_trans h.few ht⟩
  rw [h.base]
  unfold isContent
  rw [worths_of c0 hx, Bool.true_and]
  exact decide_eq_true (by omega)
abbrev bDrawn : DB := fun ds st k => ∃ (a : Addr) (ns : List Int) (i v : Int) (m q : Int), ds = [.int m, .int 7, .int q] ∧ st = [.bl a (encPen ns i v)] ∧ 0 ≤ i ∧ i ≤ 2 ^ 60 ∧ 0 < m ∧ m ≤ 5 ∧ 0 < q ∧ q ≤ 8 ∧ ∀ (p : Pl) i' v', LpOk p → i ≤ i' → i' ≤ i + 80 → k (.im (encLP p)) [.bl a (encPen ns i' v')]
theorem ok__law_drawn {f : Addr} {fd : FuncData} (F : Fun K "_law_drawn" "_law_drawn" s__law_drawn f fd) (T : Txt mg) (D__law_draw : DefOk P w K mg base "_law_draw" 2 P__law_draw (SpB C bDraw)) (D__law_write : DefOk P w K mg base "_law_write" 3 P__law_write (SpB C bWrite)) (D__law_parts : DefOk P w K mg base "_law_parts" 2 P__law_parts (SpD C dParts)) : FnOk P w K mg base CX0 4 f fd P__law_drawn (SpB C bDrawn) := by
  refine fn_bor (g := 0) F sc__law_drawn (fun ds st k h => ?_) (by decide) (by decide) fun cdv A outer s H E ds s0 st kk hr h => ?_
  · obtain ⟨_, _, _, _, _, _, e1, e2, _⟩ := h
    rw [e1, e2]; exact ⟨rfl, rfl⟩
  · obtain ⟨a, ns, i, v, m, q, e1, e2, hi0, hi1, hm0, hm1, hq0, hq1, hk⟩ := h
    subst e1
    simp only [List.cons.injEq] at e2
    obtain ⟨rfl, rfl⟩ := e2
    refine ⟨_, (pss_cons (ps_set (i := 4) sc__law_drawn.nd rfl (Or.inl rfl) (pe_callTy (kk_tuple K) (by rfl) T.b_tuple (by decide +kernel) (pa_cons (pe_lc (own := [("_law_k", 8)]) (g := (gName 8)) rfl sc__law_drawn.nd (pi_range1 (by rfl) T.b_range (pa_cons (pv 1) pa_nil)) (blkOk_by (own := [("_law_k", 8)]) (N := N__law_drawn) (sc := defScope s__law_drawn) (by decide +kernel)) (fun _ _ _ _ _ => (pg_name (i := 8) sc__law_drawn.nd rfl (Or.inl rfl))) (fun _ _ _ _ _ => pts_nil) (fun _ _ _ _ _ => (pe_callD D__law_draw (hr.mono (by decide)) (by rfl) (pa_cons (pv 0) (pa_cons (pv 3) pa_nil))))) pa_nil)))
      (pss_cons (ps_set (i := 5) sc__law_drawn.nd rfl (Or.inl rfl) (pe_tup (pa_cons (pv 4) (pa_cons (pe_op op_add pe_int (pe_callD D__law_draw (hr.mono (by decide)) (by rfl) (pa_cons (pv 0) (pa_cons pe_int pa_nil)))) (pa_cons (pe_fz (pe_lst pa_nil)) pa_nil)))))
      (pss_cons (ps_for (g := (gName 6)) PassesOwn.never rfl (pi_range1 (by rfl) T.b_range (pa_cons (pe_callD D__law_draw (hr.mono (by decide)) (by rfl) (pa_cons (pv 0) (pa_cons (pe_op op_add (pv 2) pe_int) pa_nil))) pa_nil)) (pg_name (i := 6) sc__law_drawn.nd rfl (Or.inl rfl)) (pss_cons (ps_set (i := 7) sc__law_drawn.nd rfl (Or.inl rfl) (pe_fz (pe_op op_catS (pe_ix (kk_ixT K) (pv 5) pe_int (fun _ _ => rfl)) (pe_lst (pa_cons (pe_callD D__law_write (hr.mono (by decide)) (by rfl) (pa_cons (pv 0) (pa_cons (pv 1) (pa_cons (pv 3) (pa_cons pe_int pa_nil))))) pa_nil)))))
      (pss_cons (ps_if (pt_cmpR op_le (pe_callB (kk_len K) (by rfl) T.b_len (by decide +kernel) (pa_cons (pe_callD D__law_parts (hr.mono (by decide)) (by rfl) (pa_cons (pe_tup (pa_cons (pv 4) (pa_cons (pe_ix (kk_ixT K) (pv 5) pe_int (fun _ _ => rfl)) (pa_cons (pv 7) pa_nil)))) pa_nil)) pa_nil)) (pv 2) (nomark _)) (pss_one (ps_set (i := 5) sc__law_drawn.nd rfl (Or.inl rfl) (pe_tup (pa_cons (pv 4) (pa_cons (pe_ix (kk_ixT K) (pv 5) pe_int (fun _ _ => rfl)) (pa_cons (pv 7) pa_nil)))))) pss_nil)
      (pss_one (ps_if (pt_cmpR op_eq (pe_callD D__law_draw (hr.mono (by decide)) (by rfl) (pa_cons (pv 0) (pa_cons pe_int pa_nil))) pe_int (nomark _)) (pss_one (ps_set (i := 5) sc__law_drawn.nd rfl (Or.inl rfl) (pe_tup (pa_cons (pv 4) (pa_cons (pe_ix (kk_ixT K) (pv 5) pe_int (fun _ _ => rfl)) (pa_cons (pe_fz (pe_op op_catS (pe_ix (kk_ixT K) (pv 5) pe_int (fun _ _ => rfl)) (pe_lst (pa_cons pe_non pa_nil)))) pa_nil)))))) pss_nil)))))
      (pss_one (ps_ret (pv 5)))))), ?_⟩
    refine (?_ : SX C _ [.bl a (encPen ns i v), .im (.int m), .im (.int 7), .im (.int q), .un, .un, .un, .un, .un] _)
    refine sx_seq (SX.mid (fun e => ∃ (cs : List Int) (i' v' : Int), cs.length = m.toNat ∧ (∀ x ∈ cs, 0 ≤ x ∧ x < q) ∧ i ≤ i' ∧ i' ≤ i + m ∧ e = [.bl a (encPen ns i' v'), .im (.int m), .im (.int 7), .im (.int q), .im (tupI cs), .un, .un, .un, .un]) ?_ ?_)
    · walk_at "go"
      refine ex_lc (by decide) (ix_range1 tg_name ?_)
      walk_at "go"
      refine ⟨by omega, by omega, by rw [rgD_len]; omega, ⟨trivial, trivial⟩, fun pre acc e => ∃ (L : List Int) (i' v' : Int), acc = L.map Dat.int ∧ e = [.bl a (encPen ns i' v'), .im (.int m), .im (.int 7), .im (.int q), .un, .un, .un, .un, .un] ∧ L.length = pre.length ∧ (∀ x ∈ L, 0 ≤ x ∧ x < q) ∧ i ≤ i' ∧ i' ≤ i + pre.length, ⟨[], i, v, rfl, rfl, rfl, fun _ h => (nomatch h), by omega, by simp⟩, ?_, ?_⟩
      · rintro pre x post acc e hd ⟨L, i', v', rfl, rfl, lL, hL, hi6, hi7⟩
        obtain ⟨hpl, rfl⟩ := rgD_at hd
        refine ⟨⟨trivial, trivial⟩, et_yes ?_⟩
        rw [if_pos rfl]
        walk_at "go"
        walk_at "draw"
        rintro z i8 v8 hz0 hz1 hi8 hi9
        refine ⟨trivial, .int z, rfl, ⟨trivial, trivial⟩, L ++ [z], i8, v8, by simp, rfl, by simp; omega, fun y hy => ?_, by omega, by simp; omega⟩
        rcases List.mem_append.mp hy with h | h
        · exact hL y h
        · rw [List.mem_singleton.mp h]; exact ⟨hz0, hz1⟩
      · rintro acc e ⟨L, i', v', rfl, rfl, lL, hL, hi6, hi7⟩
        rw [rgD_len] at lL hi7
        walk_at "go"
        exact ⟨L, i', v', by omega, hL, by omega, by omega, rfl⟩
    rintro e ⟨cs, i1, v1, hcl, hcs, hi2, hi3, rfl⟩
    refine sx_seq (SX.mid (fun e => ∃ (w i' v' : Int), 1 ≤ w ∧ w ≤ 3 ∧ i1 ≤ i' ∧ i' ≤ i1 + 1 ∧ e = [.bl a (encPen ns i' v'), .im (.int m), .im (.int 7), .im (.int q), .im (tupI cs), .im (encLP ⟨cs, w, []⟩), .un, .un, .un]) ?_ ?_)
    · walk_at "go"
      walk_at "draw"
      rintro d i2 v2 hd0 hd1 hi4 hi5
      refine ⟨trivial, ?_⟩
      walk_at "go"
      exact ⟨1 + d, i2, v2, by omega, by omega, by omega, by omega, rfl⟩
    rintro e ⟨w, i2, v2, hw0, hw1, hi4, hi5, rfl⟩
    refine sx_seq (sx_for (ix_range1 tg_name ?_))
    walk_at "go"
    walk_at "draw"
    rintro d i3 v3 hd0 hd1 hi6 hi7
    refine ⟨trivial, ?_⟩
    walk_at "go"
    have hcm : (cs.length : Int) = m := by omega
    refine ⟨by omega, by omega, fun pre e => ∃ (p : Pl) (i' v' : Int) (s6 s7 : Sl), LpI cs w (2 * pre.length) pre.length p ∧ i3 ≤ i' ∧ i' ≤ i3 + 7 * pre.length ∧ e = [.bl a (encPen ns i' v'), .im (.int m), .im (.int 7), .im (.int q), .im (tupI cs), .im (encLP p), s6, s7, .un], ⟨⟨cs, w, []⟩, i3, v3, .un, .un, ⟨rfl, rfl, Nat.le_refl _, fun _ h => (nomatch h), fun _ _ h => (nomatch h), Nat.le_refl _⟩, by omega, by simp, rfl⟩, ?_, ?_⟩
    · rintro pre x post e hd ⟨p, i4, v4, s6, s7, hp, hi8, hi9, rfl⟩
      obtain ⟨hpl, rfl⟩ := rgD_at hd
      have hb := hp.base
      have hw := hp.wid
      have hpl2 := hp.len
      refine sx_forget 7 ?_
      refine (?_ : SX C _ [.bl a (encPen ns i4 v4), .im (.int m), .im (.int 7), .im (.int q), .im (tupI cs), .im (encLP p), .im (.int (0 + (pre.length : Int) * 1)), .un, .un] _)
      generalize Dat.int (0 + (pre.length : Int) * 1) = d6
      refine sx_seq (SX.mid (fun e => ∃ (f : Int) (ws : List Int) (i' v' : Int), stepOk m (some (f, ws)) = true ∧ ws.length ≤ 3 ∧ i4 ≤ i' ∧ i' ≤ i4 + 6 ∧ e = [.bl a (encPen ns i' v'), .im (.int m), .im (.int 7), .im (.int q), .im (tupI cs), .im (encLP p), .im d6, .im (.lst ((p.steps ++ [some (f, ws)]).map encStp)), .un]) ?_ ?_)
      · walk_at "go"
        refine ⟨0, [_, _, _], rfl, rfl, a, ns, i4, v4, m, q, rfl, rfl, by omega, by omega, hm0, hm1, hq0, hq1, fun f ws i5 v5 h1 h2 h3 h4 => ⟨trivial, ?_⟩⟩
        walk_at "go"
        refine rx_cat rfl rfl (by rw [List.length_map]; simp; omega) ?_
        walk_at "go"
        refine ⟨f, ws, i5, v5, h1, h2, h3, h4, ?_⟩
        rw [List.map_append]
        rfl
      rintro e ⟨f, ws, i5, v5, h1, h2, h3, h4, rfl⟩
      have hp2 := hp.add (s := some (f, ws)) (by rw [hcm]; exact h1) (fun f' ws' e => by cases e; exact h2)
      have hp3 : LpI cs w (2 * pre.length + 1) (pre.length + 1) ⟨cs, w, p.steps ++ [some (f, ws)]⟩ := hp2
      refine sx_seq (SX.mid (fun e => ∃ (p2 : Pl), LpI cs w (2 * pre.length + 1) (pre.length + 1) p2 ∧ e = [.bl a (encPen ns i5 v5), .im (.int m), .im (.int 7), .im (.int q), .im (tupI cs), .im (encLP p2), .im d6, .im (.lst ((p.steps ++ [some (f, ws)]).map encStp)), .un]) ?_ ?_)
      · walk_at "go"
        refine ⟨⟨cs, w, p.steps ++ [some (f, ws)]⟩, by rw [hw], by show (0 : Int) < w; omega, by show (p.steps ++ [some (f, ws)]).length ≤ 40; simp; omega, fun f' ws' h => Nat.le_trans (hp3.small f' ws' h) (by decide), ?_⟩
        walk_at "go"
        refine iteB ?_ ?_
        · walk_at "go"
          refine ⟨_, hp3, ?_⟩
          rw [hw]
          rfl
        · walk_at "go"
          exact ⟨p, hp.mono (by omega) (by omega), rfl⟩
      rintro e ⟨p2, hq2, rfl⟩
      have hb2 := hq2.base
      have hw2 := hq2.wid
      have hl2 := hq2.len
      walk_at "go"
      walk_at "draw"
      rintro z i6 v6 hz0 hz1 hi10 hi11
      refine ⟨trivial, ?_⟩
      walk_at "go"
      have hnone := hq2.add (s := none) rfl (fun f' ws' e => nomatch e)
      have hln : (pre ++ [d6]).length = pre.length + 1 := by simp
      refine iteB ?_ ?_
      · walk_at "go"
        refine rx_cat rfl rfl (by rw [List.length_map]; simp; omega) ?_
        walk_at "go"
        refine ⟨⟨cs, w, p2.steps ++ [none]⟩, i6, v6, .im d6, .im (.lst ((p.steps ++ [some (f, ws)]).map encStp)), hnone.mono (by rw [hln]; omega) (by rw [hln]; exact Nat.le_refl _), by omega, by rw [hln]; omega, ?_⟩
        rw [hw2, ← (show (p2.steps ++ [none]).map encStp = p2.steps.map encStp ++ [Dat.non] by rw [List.map_append]; rfl)]
        rfl
      · walk_at "go"
        exact ⟨p2, i6, v6, _, _, hq2.mono (by rw [hln]; omega) (by rw [hln]; exact Nat.le_refl _), by omega, by rw [hln]; omega, rfl⟩
    · rintro e ⟨p, i4, v4, s6, s7, hp, hi8, hi9, rfl⟩
      rw [rgD_len] at hi9 hp
      refine sx_forget 6 (sx_forget 7 ?_)
      refine (?_ : SX C _ [.bl a (encPen ns i4 v4), .im (.int m), .im (.int 7), .im (.int q), .im (tupI cs), .im (encLP p), .un, .un, .un] _)
      walk_at "go"
      refine ⟨rfl, hk p _ _ ?_ (by omega) (by omega)⟩
      exact lpok_of hp (by omega) (by omega) hw0 hw1 (by omega) (by omega) (fun x hx => ⟨(hcs x hx).1, by have := (hcs x hx).2; omega⟩)
theorem LpI.re {cs cs' : List Int} {w w' : Int} {n t : Nat} {p : Pl} (h : LpI cs w n t p) (e : cs'.length = cs.length) : LpI cs' w' n t ⟨cs', w', p.steps⟩ := ⟨rfl, rfl, h.len, by rw [e]; exact h.steps, h.small, h.few⟩
theorem LpI.none {cs : List Int} {w : Int} {n t : Nat} {p : Pl} (h : LpI cs w n t p) {b : Bool} : LpI cs w (n + 1) t ⟨cs, w, p.steps ++ (if b then [none] else [])⟩ := by
  cases b with
  | true => exact h.add (s := Option.none) rfl fun _ _ e => nomatch e
  | false => exact ⟨rfl, rfl, by simp; have := h.len; omega, by simpa using h.steps, by simpa using h.small, by simpa using h.few⟩
theorem rep_none (b : Bool) : (List.replicate (if b then (1 : Int) else 0).toNat [Dat.non]).flatten = (if b then [Dat.non] else []) := by cases b <;> rfl
theorem map_none (b : Bool) : (if b then [Option.none] else [] : List Stp).map encStp = (if b then [Dat.non] else []) := by cases b <;> rfl
theorem step5 {f : Int} {ws : List Int} (h0 : 0 ≤ f) (h1 : f < 5) (hl : 0 < ws.length) (hx : ∀ x ∈ ws, 0 ≤ x ∧ x < 8) (h : f + ws.length ≤ 5) : stepOk 5 (some (f, ws)) = true := stepOk_iff.mpr ⟨⟨h0, h1⟩, worths_of hl hx, h⟩
abbrev bLog : DB := fun ds st k => ∃ (a : Addr) (ns : List Int) (i v : Int), ds = [.int 3] ∧ st = [.bl a (encPen ns i v)] ∧ 0 ≤ i ∧ i ≤ 2 ^ 60 ∧ ∀ (p : Pl) i' v', LpOk p → i ≤ i' → i' ≤ i + 20 → k (.im (encLP p)) [.bl a (encPen ns i' v')]
theorem ok__law_log {f : Addr} {fd : FuncData} (F : Fun K "_law_log" "_law_log" s__law_log f fd) (T : Txt mg) (D__law_draw : DefOk P w K mg base "_law_draw" 2 P__law_draw (SpB C bDraw)) : FnOk P w K mg base CX0 3 f fd P__law_log (SpB C bLog) := by
  refine fn_bor (g := 0) F sc__law_log (fun ds st k h => ?_) (by decide) (by decide) fun cdv A outer s H E ds s0 st kk hr h => ?_
  · obtain ⟨_, _, _, _, e1, e2, _⟩ := h
    rw [e1, e2]; exact ⟨rfl, rfl⟩
  · obtain ⟨a, ns, i, v, e1, e2, hi0, hi1, hk⟩ := h
    subst e1
    simp only [List.cons.injEq] at e2
    obtain ⟨rfl, rfl⟩ := e2
    refine ⟨_, (pss_cons (ps_set (i := 2) sc__law_log.nd rfl (Or.inl rfl) (pe_tup (pa_cons (pe_callD D__law_draw (hr.mono (by decide)) (by rfl) (pa_cons (pv 0) (pa_cons (pv 1) pa_nil))) (pa_cons (pe_callD D__law_draw (hr.mono (by decide)) (by rfl) (pa_cons (pv 0) (pa_cons (pv 1) pa_nil))) pa_nil))))
      (pss_cons (ps_fz 3 (ps_set (i := 3) sc__law_log.nd rfl (Or.inl rfl) (pe_lst (pa_cons (pe_tup (pa_cons pe_int (pa_cons (pv 2) pa_nil))) pa_nil))))
      (pss_cons (ps_for (g := (gName 4)) PassesOwn.never rfl (kk_pit K (pe_tup (pa_cons (pe_tup (pa_cons pe_int (pa_cons (pe_tup (pa_cons pe_int pa_nil)) pa_nil))) (pa_cons (pe_tup (pa_cons pe_int (pa_cons (pv 2) pa_nil))) (pa_cons (pe_tup (pa_cons pe_int (pa_cons (pe_tup (pa_cons pe_int pa_nil)) pa_nil))) pa_nil))))) (pg_name (i := 4) sc__law_log.nd rfl (Or.inl rfl)) (pss_one (ps_fz 3 (ps_set (i := 3) sc__law_log.nd rfl (Or.inl rfl) (pe_op op_catS (pe_op op_catS (pv 3) (pe_op op_rep (pe_lst (pa_cons pe_non pa_nil)) (pe_callTy call_int1 (by rfl) T.b_int (by decide +kernel) (pa_cons (pe_cmpR op_gt (pe_callD D__law_draw (hr.mono (by decide)) (by rfl) (pa_cons (pv 0) (pa_cons pe_int pa_nil))) pe_int (nomark _)) pa_nil)))) (pe_lst (pa_cons (pv 4) pa_nil)))))))
      (pss_one (ps_ret (pe_tup (pa_cons (pe_tup (pa_cons pe_int (pa_cons pe_int (pa_cons pe_int (pa_cons (pe_callD D__law_draw (hr.mono (by decide)) (by rfl) (pa_cons (pv 0) (pa_cons (pv 1) pa_nil))) (pa_cons (pe_callD D__law_draw (hr.mono (by decide)) (by rfl) (pa_cons (pv 0) (pa_cons (pv 1) pa_nil))) pa_nil)))))) (pa_cons (pe_op op_add pe_int (pe_callD D__law_draw (hr.mono (by decide)) (by rfl) (pa_cons (pv 0) (pa_cons pe_int pa_nil)))) (pa_cons (pv 3) pa_nil))))))))), ?_⟩
    refine (?_ : SX C _ [.bl a (encPen ns i v), .im (.int 3), .un, .un, .un] _)
    refine sx_seq (SX.mid (fun e => ∃ (x y i' v' : Int), (0 ≤ x ∧ x < 3) ∧ (0 ≤ y ∧ y < 3) ∧ i ≤ i' ∧ i' ≤ i + 2 ∧ e = [.bl a (encPen ns i' v'), .im (.int 3), .im (tupI [x, y]), .un, .un]) ?_ ?_)
    · walk_at "go"
      walk_at "draw"
      rintro x i1 v1 h1 h2 h3 h4
      refine ⟨trivial, ?_⟩
      walk_at "go"
      walk_at "draw"
      rintro y i2 v2 h5 h6 h7 h8
      refine ⟨trivial, ?_⟩
      walk_at "go"
      exact ⟨x, y, i2, v2, ⟨h1, h2⟩, ⟨h5, h6⟩, by omega, by omega, rfl⟩
    rintro e ⟨x, y, i1, v1, hx, hy, hi2, hi3, rfl⟩
    have hxy : ∀ z ∈ [x, y], 0 ≤ z ∧ z < 8 := fun z hz => by
      rcases List.mem_cons.mp hz with h | h
      · omega
      · have := List.mem_singleton.mp h
        omega
    have L0 : LpI [0, 0, 0, 0, 0] 1 0 0 ⟨[0, 0, 0, 0, 0], 1, []⟩ := ⟨rfl, rfl, Nat.le_refl _, fun _ h => (nomatch h), fun _ _ h => (nomatch h), Nat.le_refl _⟩
    have L1 := L0.add (s := some (0, [x, y])) (step5 (by decide) (by decide) (by simp) hxy (by simp)) fun f ws e => by cases e; simp
    refine sx_seq (SX.mid (fun e => e = [.bl a (encPen ns i1 v1), .im (.int 3), .im (tupI [x, y]), .im (.lst (List.map encStp [some (0, [x, y])])), .un]) ?_ ?_)
    · walk_at "go"
      refine sx_fz ?_
      walk_at "go"
      exact rfl
    rintro e rfl
    refine sx_seq (sx_for (ix_tup tg_name ?_))
    walk_at "go"
    have hin : ∀ d ∈ ([.tup [.int 2, .tup [.int 1]], .tup [.int 3, tupI [x, y]], .tup [.int 2, .tup [.int 0]]] : List Dat), ∃ f ws, d = encStp (some (f, ws)) ∧ stepOk 5 (some (f, ws)) = true ∧ ws.length ≤ 3 := fun d hd => by
      rcases List.mem_cons.mp hd with h | h
      · exact ⟨2, [1], h, by decide, by decide⟩
      rcases List.mem_cons.mp h with h | h
      · exact ⟨3, [x, y], h, step5 (by decide) (by decide) (by simp) hxy (by simp), by simp⟩
      · exact ⟨2, [0], List.mem_singleton.mp h, by decide, by decide⟩
    refine ⟨fun _ _ => trivial, fun pre e => ∃ (st : List Stp) (i' v' : Int) (s4 : Sl), LpI [0, 0, 0, 0, 0] 1 (1 + 2 * pre.length) (1 + pre.length) ⟨[0, 0, 0, 0, 0], 1, st⟩ ∧ i1 ≤ i' ∧ i' ≤ i1 + pre.length ∧ e = [.bl a (encPen ns i' v'), .im (.int 3), .im (tupI [x, y]), .im (.lst (st.map encStp)), s4], ⟨_, i1, v1, .un, L1, by omega, by simp, rfl⟩, ?_, ?_⟩
    · rintro pre d post e hd ⟨st, i4, v4, s4, hp, hi8, hi9, rfl⟩
      obtain ⟨f, ws, rfl, hf1, hf2⟩ := hin d (by rw [hd]; simp)
      have hpl : pre.length < 3 := by
        have := congrArg List.length hd
        simp at this
        omega
      have hl := hp.len
      have hl : st.length ≤ 1 + 2 * pre.length := hl
      walk_at "go"
      refine sx_fz ?_
      walk_at "go"
      walk_at "draw"
      rintro z i6 v6 hz0 hz1 hi10 hi11
      refine ⟨trivial, ?_⟩
      walk_at "go"
      refine rx_rep (by split <;> omega) (by decide) ?_
      rw [rep_none, ← map_none]
      generalize decide (0 < z) = b
      refine rx_cat rfl rfl (by rw [List.length_map, List.length_map]; cases b <;> simp <;> omega) ?_
      walk_at "go"
      refine rx_cat rfl rfl (by rw [List.length_append, List.length_map, List.length_map]; cases b <;> simp <;> omega) ?_
      walk_at "go"
      have hn := (hp.none (b := b)).add (s := some (f, ws)) hf1 fun f' ws' e => by cases e; exact hf2
      refine ⟨st ++ (if b then [none] else []) ++ [some (f, ws)], i6, v6, .im (encStp (some (f, ws))), hn.mono (by simp; omega) (by simp; omega), by omega, by simp; omega, ?_⟩
      rw [List.map_append, List.map_append]
      rfl
    · rintro e ⟨st, i4, v4, s4, hp, hi8, hi9, rfl⟩
      refine sx_forget 4 ?_
      refine (?_ : SX C _ [.bl a (encPen ns i4 v4), .im (.int 3), .im (tupI [x, y]), .im (.lst (st.map encStp)), .un] _)
      have hl3 : ([.tup [.int 2, .tup [.int 1]], .tup [.int 3, tupI [x, y]], .tup [.int 2, .tup [.int 0]]] : List Dat).length = 3 := rfl
      rw [hl3] at hi9 hp
      walk_at "go"
      walk_at "draw"
      rintro c1 i5 v5 hc1 hc2 hc3 hc4
      refine ⟨trivial, ?_⟩
      walk_at "go"
      walk_at "draw"
      rintro c2 i6 v6 hd1 hd2 hd3 hd4
      refine ⟨trivial, ?_⟩
      walk_at "go"
      walk_at "draw"
      rintro c3 i7 v7 he1 he2 he3 he4
      refine ⟨trivial, ?_⟩
      walk_at "go"
      refine ⟨rfl, hk ⟨[0, 0, 0, c1, c2], 1 + c3, st⟩ i7 v7 ?_ (by omega) (by omega)⟩
      exact lpok_of (hp.re (cs' := [0, 0, 0, c1, c2]) (w' := 1 + c3) rfl) (by simp) (by simp) (by omega) (by omega) (by decide) (by decide) (fun z hz => by
        simp at hz
        omega)
abbrev bCopy : DB := fun ds st k => ∃ (a : Addr) (ns : List Int) (i v : Int), ds = [.int 3] ∧ st = [.bl a (encPen ns i v)] ∧ 0 ≤ i ∧ i ≤ 2 ^ 60 ∧ ∀ (p : Pl) i' v', LpOk p → i ≤ i' → i' ≤ i + 20 → k (.im (encLP p)) [.bl a (encPen ns i' v')]
theorem ok__law_copy {f : Addr} {fd : FuncData} (F : Fun K "_law_copy" "_law_copy" s__law_copy f fd) (T : Txt mg) (D__law_draw : DefOk P w K mg base "_law_draw" 2 P__law_draw (SpB C bDraw)) : FnOk P w K mg base CX0 3 f fd P__law_copy (SpB C bCopy) := by
  refine fn_bor (g := 0) F sc__law_copy (fun ds st k h => ?_) (by decide) (by decide) fun cdv A outer s H E ds s0 st kk hr h => ?_
  · obtain ⟨_, _, _, _, e1, e2, _⟩ := h
    rw [e1, e2]; exact ⟨rfl, rfl⟩
  · obtain ⟨a, ns, i, v, e1, e2, hi0, hi1, hk⟩ := h
    subst e1
    simp only [List.cons.injEq] at e2
    obtain ⟨rfl, rfl⟩ := e2
    refine ⟨_, (pss_cons (ps_set (i := 2) sc__law_copy.nd rfl (Or.inl rfl) (pe_tup (pa_cons (pe_callD D__law_draw (hr.mono (by decide)) (by rfl) (pa_cons (pv 0) (pa_cons (pv 1) pa_nil))) (pa_cons (pe_callD D__law_draw (hr.mono (by decide)) (by rfl) (pa_cons (pv 0) (pa_cons (pv 1) pa_nil))) pa_nil))))
      (pss_cons (ps_fz 3 (ps_set (i := 3) sc__law_copy.nd rfl (Or.inl rfl) (pe_op op_catS (pe_op op_catS (pe_lst (pa_cons (pe_tup (pa_cons pe_int (pa_cons (pv 2) pa_nil))) pa_nil)) (pe_op op_rep (pe_lst (pa_cons pe_non pa_nil)) (pe_callTy call_int1 (by rfl) T.b_int (by decide +kernel) (pa_cons (pe_cmpR op_gt (pe_callD D__law_draw (hr.mono (by decide)) (by rfl) (pa_cons (pv 0) (pa_cons pe_int pa_nil))) pe_int (nomark _)) pa_nil)))) (pe_lst (pa_cons (pe_tup (pa_cons pe_int (pa_cons (pe_tup (pa_cons pe_int pa_nil)) pa_nil))) pa_nil)))))
      (pss_one (ps_ret (pe_tup (pa_cons (pe_tup (pa_cons (pe_callD D__law_draw (hr.mono (by decide)) (by rfl) (pa_cons (pv 0) (pa_cons (pv 1) pa_nil))) (pa_cons (pe_callD D__law_draw (hr.mono (by decide)) (by rfl) (pa_cons (pv 0) (pa_cons (pv 1) pa_nil))) (pa_cons pe_int (pa_cons pe_int (pa_cons pe_int pa_nil)))))) (pa_cons (pe_op op_add pe_int (pe_callD D__law_draw (hr.mono (by decide)) (by rfl) (pa_cons (pv 0) (pa_cons pe_int pa_nil)))) (pa_cons (pv 3) pa_nil)))))))), ?_⟩
    refine (?_ : SX C _ [.bl a (encPen ns i v), .im (.int 3), .un, .un] _)
    refine sx_seq (SX.mid (fun e => ∃ (x y i' v' : Int), (0 ≤ x ∧ x < 3) ∧ (0 ≤ y ∧ y < 3) ∧ i ≤ i' ∧ i' ≤ i + 2 ∧ e = [.bl a (encPen ns i' v'), .im (.int 3), .im (tupI [x, y]), .un]) ?_ ?_)
    · walk_at "go"
      walk_at "draw"
      rintro x i1 v1 h1 h2 h3 h4
      refine ⟨trivial, ?_⟩
      walk_at "go"
      walk_at "draw"
      rintro y i2 v2 h5 h6 h7 h8
      refine ⟨trivial, ?_⟩
      walk_at "go"
      exact ⟨x, y, i2, v2, ⟨h1, h2⟩, ⟨h5, h6⟩, by omega, by omega, rfl⟩
    rintro e ⟨x, y, i1, v1, hx, hy, hi2, hi3, rfl⟩
    have hxy : ∀ z ∈ [x, y], 0 ≤ z ∧ z < 8 := fun z hz => by
      rcases List.mem_cons.mp hz with h | h
      · omega
      · have := List.mem_singleton.mp h
        omega
    have L0 : LpI [0, 0, 0, 0, 0] 1 0 0 ⟨[0, 0, 0, 0, 0], 1, []⟩ := ⟨rfl, rfl, Nat.le_refl _, fun _ h => (nomatch h), fun _ _ h => (nomatch h), Nat.le_refl _⟩
    have L1 := L0.add (s := some (2, [x, y])) (step5 (by decide) (by decide) (by simp) hxy (by simp)) fun f ws e => by cases e; simp
    refine sx_seq (SX.mid (fun e => ∃ (st : List Stp) (i' v' : Int), LpI [0, 0, 0, 0, 0] 1 3 2 ⟨[0, 0, 0, 0, 0], 1, st⟩ ∧ i1 ≤ i' ∧ i' ≤ i1 + 1 ∧ e = [.bl a (encPen ns i' v'), .im (.int 3), .im (tupI [x, y]), .im (.lst (st.map encStp))]) ?_ ?_)
    · refine sx_fz ?_
      walk_at "go"
      walk_at "draw"
      rintro z i6 v6 hz0 hz1 hi10 hi11
      refine ⟨trivial, ?_⟩
      walk_at "go"
      refine rx_rep (by split <;> omega) (by decide) ?_
      rw [rep_none, ← map_none]
      generalize decide (0 < z) = b
      refine rx_cat rfl rfl (by rw [List.length_map]; cases b <;> simp) ?_
      walk_at "go"
      refine rx_cat rfl rfl (by rw [List.length_append, List.length_map]; cases b <;> simp) ?_
      walk_at "go"
      have hn := (L1.none (b := b)).add (s := some (4, [1])) (by decide) fun f' ws' e => by cases e; decide
      refine ⟨[some (2, [x, y])] ++ (if b then [none] else []) ++ [some (4, [1])], i6, v6, hn, by omega, by omega, ?_⟩
      rw [List.map_append, List.map_append]
      rfl
    rintro e ⟨st, i4, v4, hp, hi8, hi9, rfl⟩
    walk_at "go"
    walk_at "draw"
    rintro c1 i5 v5 hc1 hc2 hc3 hc4
    refine ⟨trivial, ?_⟩
    walk_at "go"
    walk_at "draw"
    rintro c2 i6 v6 hd1 hd2 hd3 hd4
    refine ⟨trivial, ?_⟩
    walk_at "go"
    walk_at "draw"
    rintro c3 i7 v7 he1 he2 he3 he4
    refine ⟨trivial, ?_⟩
    walk_at "go"
    refine ⟨rfl, hk ⟨[c1, c2, 0, 0, 0], 1 + c3, st⟩ i7 v7 ?_ (by omega) (by omega)⟩
    exact lpok_of (hp.re (cs' := [c1, c2, 0, 0, 0]) (w' := 1 + c3) rfl) (by simp) (by simp) (by omega) (by omega) (by decide) (by decide) (fun z hz => by
      simp at hz
      omega)
abbrev bPlan : DB := fun ds st k => ∃ (a : Addr) (ns : List Int) (i v : Int), ds = [.int 7] ∧ st = [.bl a (encPen ns i v)] ∧ 0 ≤ i ∧ i ≤ 2 ^ 59 ∧ ∀ (p : Pl) i' v', LpOk p → i ≤ i' → i' ≤ i + 100 → k (.im (encLP p)) [.bl a (encPen ns i' v')]
theorem ok__law_plan {f : Addr} {fd : FuncData} (F : Fun K "_law_plan" "_law_plan" s__law_plan f fd) (T : Txt mg) (D__law_draw : DefOk P w K mg base "_law_draw" 2 P__law_draw (SpB C bDraw)) (D__law_log : DefOk P w K mg base "_law_log" 3 P__law_log (SpB C bLog)) (D__law_copy : DefOk P w K mg base "_law_copy" 3 P__law_copy (SpB C bCopy)) (D__law_drawn : DefOk P w K mg base "_law_drawn" 4 P__law_drawn (SpB C bDrawn)) : FnOk P w K mg base CX0 5 f fd P__law_plan (SpB C bPlan) := by
  refine fn_bor (g := 0) F sc__law_plan (fun ds st k h => ?_) (by decide) (by decide) fun cdv A outer s H E ds s0 st kk hr h => ?_
  · obtain ⟨_, _, _, _, e1, e2, _⟩ := h
    rw [e1, e2]; exact ⟨rfl, rfl⟩
  · obtain ⟨a, ns, i, v, e1, e2, hi0, hi1, hk⟩ := h
    subst e1
    simp only [List.cons.injEq] at e2
    obtain ⟨rfl, rfl⟩ := e2
    refine ⟨_, (pss_cons (ps_set (i := 2) sc__law_plan.nd rfl (Or.inl rfl) (pe_callD D__law_draw (hr.mono (by decide)) (by rfl) (pa_cons (pv 0) (pa_cons pe_int pa_nil))))
      (pss_cons (ps_if (PW.pt (pw_and (pt_cmpR op_eq (pv 2) pe_int (nomark _)) (pw_and1 (pt_cmpR op_gt (pv 1) pe_int (nomark _))))) (pss_one (ps_ret (pe_callD D__law_log (hr.mono (by decide)) (by rfl) (pa_cons (pv 0) (pa_cons pe_int pa_nil))))) pss_nil)
      (pss_cons (ps_if (PW.pt (pw_and (pt_cmpR op_eq (pv 2) pe_int (nomark _)) (pw_and1 (pt_cmpR op_gt (pv 1) pe_int (nomark _))))) (pss_one (ps_ret (pe_callD D__law_copy (hr.mono (by decide)) (by rfl) (pa_cons (pv 0) (pa_cons pe_int pa_nil))))) pss_nil)
      (pss_one (ps_ret (pe_callD D__law_drawn (hr.mono (by decide)) (by rfl) (pa_cons (pv 0) (pa_cons (pe_op op_add pe_int (pe_callD D__law_draw (hr.mono (by decide)) (by rfl) (pa_cons (pv 0) (pa_cons pe_int pa_nil)))) (pa_cons (pv 1) (pa_cons (pe_ix (kk_ixL K) (pe_lst (pa_cons pe_int (pa_cons pe_int (pa_cons pe_int pa_nil)))) (pe_callD D__law_draw (hr.mono (by decide)) (by rfl) (pa_cons (pv 0) (pa_cons pe_int pa_nil))) (fun _ _ => rfl)) pa_nil)))))))))), ?_⟩
    refine (?_ : SX C _ [.bl a (encPen ns i v), .im (.int 7), .un] _)
    refine sx_seq (SX.mid (fun e => ∃ (x i' v' : Int), i ≤ i' ∧ i' ≤ i + 1 ∧ e = [.bl a (encPen ns i' v'), .im (.int 7), .im (.int x)]) ?_ ?_)
    · walk_at "go"
      walk_at "draw"
      rintro x i1 v1 h1 h2 h3 h4
      exact ⟨trivial, npI, x, i1, v1, h3, h4, rfl⟩
    rintro e ⟨x, i1, v1, h3, h4, rfl⟩
    refine sx_seq (SX.mid (fun e => e = [.bl a (encPen ns i1 v1), .im (.int 7), .im (.int x)]) ?_ ?_)
    · walk_at "go"
      refine iteB ?_ ?_
      · walk_at "go"
        walk_at "T"
        refine ⟨0, [_], rfl, rfl, a, ns, i1, v1, rfl, rfl, by omega, by omega, fun p i' v' hp h1 h2 => ⟨trivial, ?_⟩⟩
        exact ⟨trivial, rfl, hk p i' v' hp (by omega) (by omega)⟩
      · walk_at "F"
        rfl
    rintro e rfl
    refine sx_seq (SX.mid (fun e => e = [.bl a (encPen ns i1 v1), .im (.int 7), .im (.int x)]) ?_ ?_)
    · walk_at "go"
      refine iteB ?_ ?_
      · walk_at "go"
        walk_at "T"
        refine ⟨0, [_], rfl, rfl, a, ns, i1, v1, rfl, rfl, by omega, by omega, fun p i' v' hp h1 h2 => ⟨trivial, ?_⟩⟩
        exact ⟨trivial, rfl, hk p i' v' hp (by omega) (by omega)⟩
      · walk_at "F"
        rfl
    rintro e rfl
    walk_at "go"
    walk_at "draw"
    rintro m i2 v2 hm1 hm2 hm3 hm4
    refine ⟨trivial, ?_⟩
    walk_at "go"
    walk_at "draw"
    rintro q i3 v3 hq1 hq2 hq3 hq4
    refine ⟨trivial, ?_⟩
    have hq : q = 0 ∨ q = 1 ∨ q = 2 := by omega
    have hqz : ∃ z : Int, L2.atI [Dat.int 2, Dat.int 3, Dat.int 8] q = some (.int z) ∧ 0 < z ∧ z ≤ 8 := by
      rcases hq with rfl | rfl | rfl
      · exact ⟨2, rfl, by decide, by decide⟩
      · exact ⟨3, rfl, by decide, by decide⟩
      · exact ⟨8, rfl, by decide, by decide⟩
    obtain ⟨z, hz, hz0, hz1⟩ := hqz
    refine rx_ixL rfl hz ?_
    walk_at "go"
    refine ⟨0, [_, _, _], rfl, rfl, a, ns, i3, v3, 1 + m, z, rfl, rfl, by omega, by omega, by omega, by omega, hz0, hz1, fun p i' v' hp h1 h2 => ⟨trivial, ?_⟩⟩
    exact ⟨trivial, rfl, hk p i' v' hp (by omega) (by omega)⟩
end
end Af
end

section
set_option maxHeartbeats 4000000
namespace Af
open PySem L2
local macro_rules | `(tactic| walk_at "sc") => `(tactic| first | exact ScD.int _ | exact ScD.bl _ | exact ScD.non | exact ScD.str _ | exact ScD.ty _ | exact ScD.cls _)
local macro_rules | `(tactic| walk_at "rx") => `(tactic| first
  | ((with_reducible refine' rx_ixT ?h ?_); (case h => exact rfl))
  | ((with_reducible refine' rx_ixL ?h1 ?h2 ?_); (case h1 => exact rfl); (case h2 => exact rfl))
  | with_reducible refine rx_I0i ?_
  | with_reducible refine rx_I0b ?_
  | ((with_reducible refine' rx_Ii ?h ?_); (case h => first | decide | (show (0 : Int) < _; omega) | exact Or.inr ⟨by decide, by decide⟩ | exact ⟨by decide, by decide, by decide⟩ | exact Or.inl ⟨by omega, by omega⟩ | exact (⟨by omega, by omega⟩ : CDiv _ _)))
  | with_reducible refine rx_eqI ?_
  | with_reducible refine rx_neI ?_
  | with_reducible refine rx_neB ?_
  | with_reducible refine rx_isN ?_
  | with_reducible refine rx_notN ?_
  | with_reducible refine rx_neT ?_
  | ((with_reducible refine' rx_neN ?h1 ?h2 ?_); (case h1 => exact rfl); (case h2 => exact rfl))
  | ((with_reducible refine' rx_eqN ?h1 ?h2 ?_); (case h1 => exact rfl); (case h2 => exact rfl)))
local macro_rules | `(tactic| walk_at "go1") => `(tactic| first
  | with_reducible refine sx_seq ?_
  | ((with_reducible refine' sx_retO ?h ?_); (case h => exact rfl))
  | ((with_reducible refine' sx_retD ?h ?_); (case h => exact rfl))
  | with_reducible refine sx_ret ?_
  | ((with_reducible refine' sx_fldM ?z ?a ?b ?c ?d ?_); (case z => exact rfl); (case a => assumption); (case b => assumption); (case c => assumption); (case d => exact Nat.le_of_ble_eq_true rfl))
  | ((with_reducible refine' sx_append ?h ?_); (case h => exact rfl))
  | ((with_reducible refine' sx_extend ?h ?_); (case h => exact rfl))
  | with_reducible refine sx_drop ?_
  | with_reducible refine sx_retN ?_
  | with_reducible refine sx_next ?_
  | with_reducible refine sx_if ?_
  | with_reducible refine sx_asg ?_
  | with_reducible refine sx_asgT ?_
  | ((with_reducible refine' ex_im ?h ?_); (case h => exact rfl))
  | ((with_reducible refine' ex_ow ?h ?_); (case h => exact rfl))
  | ((with_reducible refine' ex_ro ?h ?_); (case h => exact rfl))
  | ((with_reducible refine' ex_od ?h ?_); (case h => exact rfl))
  | ((with_reducible refine' ex_pn ?h ?_); (case h => exact rfl))
  | ((with_reducible refine' ex_mk ?h ?_); (case h => exact rfl))
  | ((with_reducible refine' ex_ri ?h ?_); (case h => exact rfl))
  | ((with_reducible refine' ex_qi ?h ?_); (case h => exact rfl))
  | ((with_reducible refine' ex_bl ?h ?_); (case h => exact rfl))
  | ((with_reducible refine' ex_c ?h ?_); (case h => walk_at "sc"))
  | with_reducible refine ex_op ?_
  | with_reducible refine ex_andV ?_
  | with_reducible refine ex_orV ?_
  | with_reducible refine ex_notV ?_
  | with_reducible refine ex_if ?_
  | with_reducible refine ex_chain ?_
  | with_reducible refine ex_tup ?_
  | with_reducible refine ex_lst ?_
  | with_reducible refine ex_sortedSet ?_
  | with_reducible refine ex_countN ?_
  | with_reducible refine ex_revL ?_
  | with_reducible refine ex_cb ?_
  | with_reducible refine ex_call ?_
  | with_reducible refine ex_callB ?_
  | with_reducible refine exa_nil ?_
  | with_reducible refine exa_cons ?_
  | with_reducible refine et_test ?_
  | with_reducible refine et_B ?_
  | with_reducible refine et_and ?_
  | with_reducible refine et_or ?_
  | with_reducible refine et_not ?_
  | walk_at "rx"
  | ((with_reducible refine' cx_isi (b := true) ?h ?k ?_); (case h => exact rfl); (case k => decide +kernel))
  | ((with_reducible refine' cx_isi (b := false) ?h ?k ?_); (case h => exact rfl); (case k => decide +kernel))
  | ((with_reducible refine' cx_len ?h ?_); (case h => exact rfl))
  | ((with_reducible refine' cx_list ?h ?_); (case h => exact rfl))
  | ((with_reducible refine' cx_tuple ?h ?_); (case h => exact rfl))
  | ((with_reducible refine' cx_allF ?h ?_); (case h => exact rfl))
  | ((with_reducible refine' cx_anyF ?h ?_); (case h => exact rfl))
  | with_reducible refine cx_intI ?_
  | with_reducible refine cx_intB ?_
  | with_reducible refine ex_fz ?_
  | refine .inl ⟨_, rfl, ?_⟩
  | refine .inr ⟨_, rfl, ?_⟩
  | ((with_reducible refine' sx_par ?_))
  | ((with_reducible refine' sx_dput ?h); (case h => skip))
  | with_reducible refine cx_max2 ?_
  | with_reducible refine cx_min2 ?_
  | ((with_reducible refine' cx_dict ?h ?_); (case h => exact rfl))
  | with_reducible refine ex_make ?_
  | ((with_reducible refine' ex_fzV ?h ?_); (case h => exact rfl))
  | ((with_reducible refine' ex_fzVD ?h ?_); (case h => exact rfl))
  | ((with_reducible refine' ex_start ?pc ?_); (case pc => assumption))
  | ((with_reducible refine' ex_span ?pc ?_); (case pc => assumption))
  | ((with_reducible refine' ex_deeds ?pc ?_); (case pc => assumption))
  | ((with_reducible refine' ex_parts ?pc ?_); (case pc => assumption))
  | ((with_reducible refine' ex_ranks ?pc ?_); (case pc => assumption))
  | with_reducible refine ex_fld ?_
  | with_reducible refine ex_prop ?_
  | with_reducible refine ex_lenSet ?_
  | with_reducible refine ex_neg ?_
  | with_reducible refine ex_dictEnum ?_
  | with_reducible refine ex_dget2 ?_
  | with_reducible refine ex_disp1 ?_
  | with_reducible refine ex_listRg1 ?_
  | with_reducible refine cx_isC ?_
  | with_reducible refine ex_meth ?_
  | with_reducible refine ex_slT ?_
  | with_reducible refine ex_slL ?_
  | with_reducible refine exo_none ?_
  | with_reducible refine exo_some ?_
  | with_reducible refine ex_dget ?_
  | with_reducible refine ex_din ?_
  | with_reducible refine ex_dnotin ?_
  | with_reducible refine ex_dnew ?_
  | with_reducible refine exa_star ?_
  | with_reducible refine iteT ?_
  | with_reducible refine iteF ?_
  | with_reducible refine iteNF ?_
  | with_reducible refine iteNT ?_
  | refine ⟨(trivial : RetOk (Sl.im _)), ?_⟩
  | refine ⟨(trivial : RetOk (Sl.ow _)), ?_⟩
  | refine ⟨[], rfl, Nat.le_of_ble_eq_true rfl, ?_⟩
  | refine ⟨[_], rfl, Nat.le_of_ble_eq_true rfl, ?_⟩
  | refine ⟨[_, _], rfl, Nat.le_of_ble_eq_true rfl, ?_⟩
  | refine ⟨[_, _, _], rfl, Nat.le_of_ble_eq_true rfl, ?_⟩
  | refine ⟨[_, _, _, _, _], rfl, Nat.le_of_ble_eq_true rfl, ?_⟩
  | refine ⟨rfl, rfl, ?_⟩
  | refine ⟨_, _, _, rfl, by assumption, by assumption, rfl, ?_⟩
  | refine ⟨npI, ?_⟩
  | refine ⟨npO, ?_⟩
  | refine ⟨npD, ?_⟩
  | refine ⟨npQ, ?_⟩
  | refine ⟨_, rfl, ?_⟩
  | refine ⟨_, _, rfl, ?_⟩
  | refine ⟨_, _, _, rfl, ?_⟩
  | refine ⟨_, _, _, _, rfl, ?_⟩
  | ((with_reducible refine' andGet ?h ?_); (case h => exact rfl)))
local macro_rules | `(tactic| walk_at "go") => `(tactic| repeat walk_at "go1")
local macro_rules | `(tactic| walk_at "T") => `(tactic| (refine iteE (c := true) rfl ?_; walk_at "go"))
local macro_rules | `(tactic| walk_at "F") => `(tactic| (refine iteE (c := false) rfl ?_; walk_at "go"))
local macro_rules | `(tactic| walk_at "draw") => `(tactic| refine ⟨0, [_], rfl, rfl, _, _, _, _, _, rfl, rfl, by omega, by omega, by omega, by omega, ?_⟩)
theorem brk_len {i f w : Int} {ws : List Int} : (brk i f w ws).length ≤ ws.length := (brkGo_le i f w ws ws.length).1
theorem parts_few {w : Int} {t : Nat} : ∀ (l : List Stp) (n : Nat), (∀ f ws, some (f, ws) ∈ l → ws.length ≤ t) → ((l.zipIdx n).flatMap (brkS w)).length ≤ t * l.countP Option.isSome
  | [], _, _ => by simp
  | s :: l, n, h => by
    have ih := parts_few (w := w) l (n + 1) fun f ws hx => h f ws (List.mem_cons_of_mem _ hx)
    rw [List.zipIdx_cons, List.flatMap_cons, List.length_append, List.countP_cons]
    cases s with
    | none => simpa [brkS] using ih
    | some q =>
      have h1 := brk_len (i := n) (f := q.1) (w := w) (ws := q.2)
      have h2 := h q.1 q.2 List.mem_cons_self
      have h3 : (brkS w (some q, n)).length = (brk n q.1 w q.2).length := rfl
      rw [h3]
      simp only [Option.isSome_some, if_true]
      rw [Nat.mul_add]
      omega
theorem LpOk.parts {p : Pl} (h : LpOk p) : p.parts.length ≤ 21 := by
  have := parts_few (w := p.width) p.steps 0 h.small
  have h2 := h.few
  show (partsOf p.steps p.width).length ≤ 21
  unfold partsOf
  omega
theorem LpOk.ok {p : Pl} (h : LpOk p) : PlOk p := ⟨h.base, h.w1, Int.le_trans h.w3 (by decide), Nat.le_trans h.len (by decide), h.steps, Nat.le_trans h.parts (by decide)⟩
/-! ### what the law breaks -/
structure LsI (f : Int) (ws : List Int) (n : Nat) (g : List Pc × List Int) : Prop where
  pcs : ∀ x ∈ g.1, f ≤ x.2.1 ∧ x.2.1 + (x.2.2.length : Int) ≤ f + (n : Int) ∧ ∀ z ∈ x.2.2, z ∈ ws
  len : g.2.length ≤ n
  mem : ∀ z ∈ g.2, z ∈ ws
theorem ls_in {i f w : Int} {ws : List Int} : ∀ n : Nat, n ≤ ws.length → LsI f ws n (lsp i f w ws n)
  | 0, _ => ⟨fun _ h => (nomatch h), Nat.le_refl _, fun _ h => (nomatch h)⟩
  | n + 1, h => by
    have ih := ls_in (i := i) (f := f) (w := w) (ws := ws) n (Nat.le_of_succ_le h)
    have hm : ws.getD n 0 ∈ ws := by
      rw [List.getD_eq_getElem?_getD, List.getElem?_eq_getElem (show n < ws.length by omega)]
      exact List.getElem_mem _
    rw [lsp_s]
    generalize lsp i f w ws n = g at ih
    unfold lstep
    split
    · refine ⟨fun x hx => ?_, by simp, fun z hz => by rw [List.mem_singleton.mp hz]; exact hm⟩
      rcases List.mem_append.mp hx with q | q
      · have := ih.pcs x q
        exact ⟨this.1, by omega, this.2.2⟩
      · rw [List.mem_singleton.mp q]
        have := ih.len
        exact ⟨by show f ≤ f + (n : Int) - (g.2.length : Int); omega, by show f + (n : Int) - (g.2.length : Int) + (g.2.length : Int) ≤ f + ((n + 1 : Nat) : Int); omega, ih.mem⟩
    · refine ⟨fun x hx => ?_, by simp; exact ih.len, fun z hz => ?_⟩
      · have := ih.pcs x hx
        exact ⟨this.1, by omega, this.2.2⟩
      · rcases List.mem_append.mp hz with q | q
        · exact ih.mem z q
        · rw [List.mem_singleton.mp q]; exact hm
theorem lsplit_in {i f w : Int} {ws : List Int} {x : Pc} (h : x ∈ lsplit i f w ws) : f ≤ x.2.1 ∧ x.2.1 + (x.2.2.length : Int) ≤ f + (ws.length : Int) ∧ ∀ z ∈ x.2.2, z ∈ ws := by
  have g := ls_in (i := i) (f := f) (w := w) (ws := ws) ws.length (Nat.le_refl _)
  unfold lsplit at h
  generalize lsp i f w ws ws.length = q at g h
  rcases List.mem_append.mp h with e | e
  · exact g.pcs x e
  · rw [List.mem_singleton.mp e]
    have := g.len
    exact ⟨by show f ≤ f + (ws.length : Int) - (q.2.length : Int); omega, by show f + (ws.length : Int) - (q.2.length : Int) + (q.2.length : Int) ≤ f + (ws.length : Int); omega, g.mem⟩
theorem lparts_in {p : Pl} (hp : LpOk p) {x : Pc} (h : x ∈ lparts p) : 0 ≤ x.2.1 ∧ x.2.1 + (x.2.2.length : Int) ≤ (p.base.length : Int) ∧ ∀ z ∈ x.2.2, 0 ≤ z ∧ z < 8 := by
  unfold lparts lpN at h
  obtain ⟨n, _, hx⟩ := List.mem_flatMap.mp h
  unfold stL at hx
  cases hg : p.steps[n]? with
  | none => rw [hg] at hx; cases hx
  | some s =>
    rw [hg] at hx
    cases s with
    | none => cases hx
    | some q =>
      have hi := lsplit_in hx
      have hs := stepOk_iff.mp (hp.steps _ (List.mem_of_getElem? hg))
      refine ⟨by omega, by omega, fun z hz => ?_⟩
      have ha := hs.2.1
      unfold areWorths at ha
      rw [Bool.and_eq_true] at ha
      exact isBelow_iff.mp (List.all_eq_true.mp ha.2 z (hi.2.2 z hz))
theorem lpN_few {p : Pl} {t : Nat} (h : ∀ f ws, some (f, ws) ∈ p.steps → ws.length ≤ t) {n : Nat} : (lpN p n).length ≤ n * (t + 1) := by
  induction n with
  | zero => exact Nat.zero_le _
  | succ n ih =>
    rw [lpN_s, List.length_append, Nat.succ_mul]
    have : (stL p n).length ≤ t + 1 := by
      unfold stL
      cases hg : p.steps[n]? with
      | none => simp
      | some s =>
        cases s with
        | none => simp
        | some q =>
          have h1 := lsplit_len (i := (n : Int)) (f := q.1) (w := p.width) (ws := q.2)
          have h2 := h q.1 q.2 (List.mem_of_getElem? hg)
          simp only
          omega
    omega
theorem LpOk.lparts {p : Pl} (h : LpOk p) : (lparts p).length ≤ 80 := by
  have h1 := lpN_few (p := p) h.small (n := p.steps.length)
  have h2 := h.len
  unfold Af.lparts
  omega
theorem LpOk.lrank {p : Pl} (h : LpOk p) : ∀ r ∈ lranks p, 0 ≤ r ∧ r ≤ 40 := fun r hr => by
  unfold lranks at hr
  obtain ⟨x, _, e⟩ := List.mem_map.mp hr
  subst e
  unfold lrk
  have h1 : (cutD (p.steps.map encStp) none (some x.1)).length ≤ p.steps.length := by
    unfold cutD
    rw [List.length_take, List.length_drop, List.length_map]
    omega
  have h2 := List.countP_le_length (p := isNonD) (l := cutD (p.steps.map encStp) none (some x.1))
  have h3 := h.len
  omega
section
variable {P : Program} {w : World} {K : PySem.W.Frag} {mg : Str → Option Value} {base : Heap} {C : Addr}
def dPlanOf : DF := fun ss k => ∃ (p : Pl), ss = [.im (encLP p)] ∧ PlOk p ∧ k (.im p.enc)
theorem ok__law_plan_of {f : Addr} {fd : FuncData} (F : Fun K "_law_plan_of" "_law_plan_of" s__law_plan_of f fd) (T : Txt mg) (D_Plan : MakOk P w K mg base "Plan" C 5 P_PlanX_initX (SpI C dPlan)) : FnOk P w K mg base CX0 8 f fd P__law_plan_of (SpD C dPlanOf) := by
  refine fn_pure F sc__law_plan_of (fun ss k h => ?_) (by decide) fun cdv A outer s H E ss kk hr h => ?_
  · obtain ⟨_, e, _⟩ := h
    rw [e]; rfl
  · obtain ⟨p, e, hp, hk⟩ := h
    subst e
    refine ⟨_, (pss_one (ps_ret (pe_makeD D_Plan (pa_cons (pe_ix (kk_ixT K) (pv 0) pe_int (fun _ _ => rfl)) (pa_cons (pe_ix (kk_ixT K) (pv 0) pe_int (fun _ _ => rfl)) (pa_cons (pe_ix (kk_ixT K) (pv 0) pe_int (fun _ _ => rfl)) pa_nil))) (hr.mono (by decide))))), ?_⟩
    walk_at "go"
    exact ⟨[_, _, _], rfl, by simp [noObjs, noObj, noObj_ints, noObjs_map noObj_stp], p, rfl, hp, rfl, trivial, hk⟩
def restOf (rk sm : List Int) : List Int := ((List.range rk.length).filter fun (j : Nat) => decide ((0 + (j : Int) * 1) ∉ sm)).map fun (j : Nat) => 0 + (j : Int) * 1
theorem rest_mem {rk sm : List Int} {x : Int} : x ∈ restOf rk sm ↔ (0 ≤ x ∧ x < (rk.length : Int)) ∧ x ∉ sm := by
  unfold restOf
  rw [List.mem_map]
  constructor
  · rintro ⟨j, hj, rfl⟩
    rw [List.mem_filter, List.mem_range] at hj
    exact ⟨by omega, by simpa using hj.2⟩
  · rintro ⟨h1, h2⟩
    refine ⟨x.toNat, ?_, by omega⟩
    rw [List.mem_filter, List.mem_range]
    have e : (0 + (x.toNat : Int) * 1) = x := by omega
    refine ⟨by omega, ?_⟩
    rw [e]
    simpa using h2
theorem rest_len {rk sm : List Int} : (restOf rk sm).length ≤ rk.length := by
  unfold restOf
  rw [List.length_map]
  exact Nat.le_trans (List.length_filter_le _ _) (by rw [List.length_range]; exact Nat.le_refl _)
def dNexts : DF := fun ss k => ∃ (rk sm : List Int), ss = [.im (lstI rk), .ro (sm.map Dat.int)] ∧ rk.length ≤ 1000 ∧ (∀ r ∈ rk, 0 ≤ r ∧ r ≤ 40) ∧ ∀ L : List Int, (∀ x ∈ L, (0 ≤ x ∧ x < (rk.length : Int)) ∧ x ∉ sm) → L.length ≤ rk.length → ((∃ n : Int, (0 ≤ n ∧ n < (rk.length : Int)) ∧ n ∉ sm) → L ≠ []) → k (.ow (L.map Dat.int))
theorem ok__law_nexts {f : Addr} {fd : FuncData} (F : Fun K "_law_nexts" "_law_nexts" s__law_nexts f fd) (T : Txt mg) : FnOk P w K mg base CX0 1 f fd P__law_nexts (SpD C dNexts) := by
  refine fn_pure F sc__law_nexts (fun ss k h => ?_) (by decide) fun cdv A outer s H E ss kk hr h => ?_
  · obtain ⟨_, _, e, _⟩ := h
    rw [e]; rfl
  · obtain ⟨rk, sm, e, hl, hr, hk⟩ := h
    subst e
    refine ⟨_, (pss_cons (ps_fz 2 (ps_setLc (i := 2) (own := [("_law_k", 4)]) (g := (gName 4)) rfl sc__law_nexts.nd rfl rfl (sw_true rfl rfl rfl (by decide +kernel)) (pi_range1 (by rfl) T.b_range (pa_cons (pe_callB (kk_len K) (by rfl) T.b_len (by decide +kernel) (pa_cons (pv 0) pa_nil)) pa_nil)) (blkOk_by (own := [("_law_k", 4)]) (N := N__law_nexts) (sc := defScope s__law_nexts) (by decide +kernel)) (fun _ _ _ _ _ => (pg_name (i := 4) sc__law_nexts.nd rfl (Or.inl rfl))) (fun _ _ _ _ _ => (pts_one (pt_cmpR (kk_notIn K) (pv 4) (pv 1) rfl))) (fun _ _ _ _ _ => (pv 4))))
      (pss_cons (ps_set (i := 3) sc__law_nexts.nd rfl (Or.inr rfl) (pe_callB (kk_min K rfl) (by rfl) T.b_min (by decide +kernel) (pa_cons (pe_op op_catS (pe_lc (own := [("_law_k", 4)]) (g := (gName 4)) rfl sc__law_nexts.nd (kk_pil K (pv 2)) (blkOk_by (own := [("_law_k", 4)]) (N := N__law_nexts) (sc := defScope s__law_nexts) (by decide +kernel)) (fun _ _ _ _ _ => (pg_name (i := 4) sc__law_nexts.nd rfl (Or.inl rfl))) (fun _ _ _ _ _ => pts_nil) (fun _ _ _ _ _ => (pe_ix (kk_ixL K) (pv 0) (pv 4) (fun _ _ => rfl)))) (pe_lst (pa_cons pe_int pa_nil))) pa_nil)))
      (pss_one (ps_ret (pe_lc (own := [("_law_k", 4)]) (g := (gName 4)) rfl sc__law_nexts.nd (kk_pil K (pv 2)) (blkOk_by (own := [("_law_k", 4)]) (N := N__law_nexts) (sc := defScope s__law_nexts) (by decide +kernel)) (fun _ _ _ _ _ => (pg_name (i := 4) sc__law_nexts.nd rfl (Or.inl rfl))) (fun _ _ _ _ _ => (pts_one (pt_cmpR op_eq (pe_ix (kk_ixL K) (pv 0) (pv 4) (fun _ _ => rfl)) (pv 3) (nomark _)))) (fun _ _ _ _ _ => (pv 4))))))), ?_⟩
    have hrl : (rk.map Dat.int).length = rk.length := List.length_map ..
    refine sx_seq (SX.mid (fun e => e = [.im (lstI rk), .ro (sm.map Dat.int), .im (lstI (restOf rk sm)), .un, .un]) ?_ ?_)
    · refine sx_fz ?_
      walk_at "go"
      refine ex_lcT (by decide) (ix_range1 tg_name ?_)
      walk_at "go"
      rw [hrl]
      refine ⟨by omega, by omega, by rw [rgD_len]; omega, ⟨trivial, trivial⟩, Nat, List.range rk.length, (fun j => .int (0 + (j : Int) * 1)), (fun j => decide ((0 + (j : Int) * 1) ∉ sm)), (fun j => .int (0 + (j : Int) * 1)), rfl, fun j hj => ?_, fun j hj _ => ?_, ?_⟩
      · walk_at "go"
        refine rx_inL (neg := true) (ns := sm) rfl ?_
        exact ⟨_, rfl, by simp, rfl⟩
      · walk_at "go"
        exact ⟨rfl, rfl⟩
      · rw [show (List.map (fun j : Nat => Dat.int (0 + (j : Int) * 1)) (List.filter (fun j : Nat => decide ((0 + (j : Int) * 1) ∉ sm)) (List.range rk.length))) = (restOf rk sm).map Dat.int by unfold restOf; rw [List.map_map]; rfl]
        exact ⟨npO, .inl ⟨_, rfl, rfl⟩⟩
    rintro e rfl
    have hrst : ∀ x, x ∈ restOf rk sm ↔ (0 ≤ x ∧ x < (rk.length : Int)) ∧ x ∉ sm := fun x => rest_mem
    have hrsl : (restOf rk sm).length ≤ rk.length := rest_len
    generalize restOf rk sm = rest at hrst hrsl ⊢
    have hat : ∀ x ∈ rest, L2.atI (rk.map Dat.int) x = some (.int (rk.getD x.toNat 0)) := fun x hx => by
      have := ((hrst x).mp hx).1
      exact atI_of this.1 (by rw [List.getElem?_map, List.getD_eq_getElem?_getD, List.getElem?_eq_getElem (show x.toNat < rk.length by omega)]; rfl)
    have hrk : ∀ x ∈ rest, rk.getD x.toNat 0 ∈ rk := fun x hx => by
      have := ((hrst x).mp hx).1
      rw [List.getD_eq_getElem?_getD, List.getElem?_eq_getElem (show x.toNat < rk.length by omega)]
      exact List.getElem_mem _
    refine sx_seq (SX.mid (fun e => ∃ m : Int, m ∈ rest.map (fun x => rk.getD x.toNat 0) ++ [99] ∧ (∀ y ∈ rest.map (fun x => rk.getD x.toNat 0) ++ [99], m ≤ y) ∧ e = [.im (lstI rk), .ro (sm.map Dat.int), .im (lstI rest), .im (.int m), .un]) ?_ ?_)
    · walk_at "go"
      refine ex_lcY (by decide) (ix_list tg_name ?_)
      walk_at "go"
      refine ⟨fun _ _ => trivial, by rw [List.length_map]; omega, ⟨trivial, trivial⟩, Int, rest, Dat.int, (fun x => .int (rk.getD x.toNat 0)), rfl, fun x hx => ?_, ?_⟩
      · walk_at "go"
        refine rx_ixL rfl (hat x hx) ?_
        exact ⟨rfl, rfl⟩
      · walk_at "go"
        refine rx_cat rfl rfl (by rw [List.length_map]; simp; omega) ?_
        walk_at "go"
        refine cx_min (ns := rest.map (fun x => rk.getD x.toNat 0) ++ [99]) (by rw [List.map_append, List.map_map]; rfl) (by simp) fun m hm hm2 => ?_
        exact ⟨npI, m, hm, hm2, rfl⟩
    rintro e ⟨m, hm, hm2, rfl⟩
    walk_at "go"
    refine ex_lcT (by decide) (ix_list tg_name ?_)
    walk_at "go"
    refine ⟨fun _ _ => trivial, by rw [List.length_map]; omega, ⟨trivial, trivial⟩, Int, rest, Dat.int, (fun x => decide (rk.getD x.toNat 0 = m)), Dat.int, rfl, fun x hx => ?_, fun x hx _ => ?_, ?_⟩
    · walk_at "go"
      refine rx_ixL rfl (hat x hx) ?_
      walk_at "go"
      exact ⟨rfl, rfl⟩
    · walk_at "go"
      exact ⟨rfl, rfl⟩
    refine ⟨trivial, hk _ (fun x hx => (hrst x).mp (List.mem_filter.mp hx).1) (Nat.le_trans (List.length_filter_le _ _) hrsl) fun ⟨n, h1, h2⟩ => ?_⟩
    have hn := (hrst n).mpr ⟨h1, h2⟩
    have h3 := hm2 _ (List.mem_append_left _ (List.mem_map.mpr ⟨n, hn, rfl⟩))
    have h4 := hr _ (hrk n hn)
    rcases List.mem_append.mp hm with q | q
    · obtain ⟨x, hx, ex⟩ := List.mem_map.mp q
      exact List.ne_nil_of_mem (List.mem_filter.mpr ⟨hx, decide_eq_true ex⟩)
    · have := List.mem_singleton.mp q
      omega
theorem base8 {p : Pl} (hp : LpOk p) : ∀ z ∈ p.base, 0 ≤ z ∧ z < 8 := fun z hz => by
  have h := hp.base
  unfold isContent areWorths at h
  rw [Bool.and_eq_true, Bool.and_eq_true] at h
  exact isBelow_iff.mp (List.all_eq_true.mp h.1.2 z hz)
def dLeft : DF := fun ss k => ∃ (p : Pl) (sm : List Int), ss = [.im (encLP p), .im (lstI sm)] ∧ LpOk p ∧ sm.length ≤ 1000 ∧ (∀ x ∈ sm, 0 ≤ x ∧ x < ((lparts p).length : Int)) ∧ ∀ cs : List Int, cs.length = p.base.length → (∀ z ∈ cs, 0 ≤ z ∧ z < 8) → k (.im (tupI cs))
theorem ok__law_left {f : Addr} {fd : FuncData} (F : Fun K "_law_left" "_law_left" s__law_left f fd) (T : Txt mg) (D__law_parts : DefOk P w K mg base "_law_parts" 2 P__law_parts (SpD C dParts)) : FnOk P w K mg base CX0 3 f fd P__law_left (SpD C dLeft) := by
  refine fn_pure F sc__law_left (fun ss k h => ?_) (by decide) fun cdv A outer s H E ss kk hr h => ?_
  · obtain ⟨_, _, e, _⟩ := h
    rw [e]; rfl
  · obtain ⟨p, sm, e, hp, hl, hs, hk⟩ := h
    subst e
    refine ⟨_, (pss_cons (ps_par (i := 2) (j := 3) (by rfl) sc__law_left.nd rfl rfl (by decide) rfl rfl (pa_cons (pe_callD D__law_parts (hr.mono (by decide)) (by rfl) (pa_cons (pv 0) pa_nil)) (pa_cons (pe_callTy (kk_list K) (by rfl) T.b_list (by decide +kernel) (pa_cons (pe_ix (kk_ixT K) (pv 0) pe_int (fun _ _ => rfl)) pa_nil)) pa_nil)) (by rfl))
      (pss_cons (ps_for (g := (gName 4)) PassesOwn.never rfl (kk_pil K (pv 1)) (pg_name (i := 4) sc__law_left.nd rfl (Or.inl rfl)) (pss_cons (ps_asg (pe_ix (kk_ixL K) (pv 2) (pv 4) (fun _ _ => rfl)) (pg_tup rfl (t := gNames [5, 6, 7]) (pgs_cons (pg_name (i := 5) sc__law_left.nd rfl (Or.inl rfl)) (pgs_cons (pg_name (i := 6) sc__law_left.nd rfl (Or.inl rfl)) (pgs_cons (pg_name (i := 7) sc__law_left.nd rfl (Or.inl rfl)) pgs_nil)))))
      (pss_one (ps_for (g := (gName 8)) PassesOwn.never rfl (pi_range1 (by rfl) T.b_range (pa_cons (pe_callB (kk_len K) (by rfl) T.b_len (by decide +kernel) (pa_cons (pv 7) pa_nil)) pa_nil)) (pg_name (i := 8) sc__law_left.nd rfl (Or.inl rfl)) (pss_one (ps_asg (pe_ix (kk_ixT K) (pv 7) (pv 8) (fun _ _ => rfl)) (pg_sub (pv 3) (pe_op op_add (pv 6) (pv 8)) set_list)))))))
      (pss_one (ps_ret (pe_callTy (kk_tuple K) (by rfl) T.b_tuple (by decide +kernel) (pa_cons (pv 3) pa_nil)))))), ?_⟩
    have hpl := hp.lparts
    have hb5 := hp.b5
    refine sx_seq (SX.mid (fun e => e = [.im (encLP p), .im (lstI sm), .ow ((lparts p).map encPc), .ow (p.base.map Dat.int), .un, .un, .un, .un, .un]) ?_ ?_)
    · walk_at "go"
      have hw := hp.w1
      refine ⟨by omega, Nat.le_trans hp.len (by decide), fun f ws h => Nat.le_trans (hp.small f ws h) (by decide), trivial, ?_⟩
      walk_at "go"
      exact rfl
    rintro e rfl
    refine sx_seq (sx_for (ix_list tg_name ?_))
    walk_at "go"
    refine ⟨fun _ _ => trivial, fun pre e => ∃ (cs : List Int) (s4 s5 s6 s7 s8 : Sl), cs.length = p.base.length ∧ (∀ z ∈ cs, 0 ≤ z ∧ z < 8) ∧ e = [.im (encLP p), .im (lstI sm), .ow ((lparts p).map encPc), .ow (cs.map Dat.int), s4, s5, s6, s7, s8], ⟨p.base, .un, .un, .un, .un, .un, rfl, base8 hp, rfl⟩, ?_, ?_⟩
    · rintro pre d post e hd ⟨cs, s4, s5, s6, s7, s8, hcl, hcs, rfl⟩
      obtain ⟨one, hone, rfl⟩ := map_at hd
      have h1 := hs one (List.mem_of_getElem? hone)
      obtain ⟨x, hx⟩ : ∃ x, (lparts p)[one.toNat]? = some x := ⟨_, List.getElem?_eq_getElem (by omega)⟩
      have hxi := lparts_in hp (List.mem_of_getElem? hx)
      walk_at "go"
      refine rx_ixL rfl (d := encPc x) (atI_of h1.1 (by rw [List.getElem?_map, hx]; rfl)) ?_
      refine ⟨[_, _, _], rfl, rfl, rfl, ?_⟩
      refine (?_ : SX C _ [.im (encLP p), .im (lstI sm), .ow ((lparts p).map encPc), .ow (cs.map Dat.int), .im (.int one), .im (.int x.1), .im (.int x.2.1), .im (tupI x.2.2), s8] _)
      have hwl : (x.2.2.map Dat.int).length = x.2.2.length := List.length_map ..
      refine sx_for (ix_range1 tg_name ?_)
      walk_at "go"
      rw [hwl]
      refine ⟨by omega, by omega, fun pre2 e => ∃ (cs2 : List Int) (s8 : Sl), cs2.length = p.base.length ∧ (∀ z ∈ cs2, 0 ≤ z ∧ z < 8) ∧ e = [.im (encLP p), .im (lstI sm), .ow ((lparts p).map encPc), .ow (cs2.map Dat.int), .im (.int one), .im (.int x.1), .im (.int x.2.1), .im (tupI x.2.2), s8], ⟨cs, s8, hcl, hcs, rfl⟩, ?_, ?_⟩
      · rintro pre2 d2 post2 e hd2 ⟨cs2, s9, hcl2, hcs2, rfl⟩
        obtain ⟨hpl2, rfl⟩ := rgD_at hd2
        have hr1 : (0 : Int) + (pre2.length : Int) * 1 = ((pre2.length : Nat) : Int) := by omega
        rw [hr1]
        have hk1 : pre2.length < x.2.2.length := by omega
        have hgz : x.2.2[pre2.length]? = some x.2.2[pre2.length] := List.getElem?_eq_getElem hk1
        refine sx_setL (i := 3) ?_
        walk_at "go"
        refine rx_ixT (d := .int x.2.2[pre2.length]) (atI_of (by omega) (by rw [Int.toNat_natCast, List.getElem?_map, hgz]; rfl)) ?_
        refine ⟨_, _, rfl, rfl, ?_⟩
        walk_at "go"
        refine ⟨_, (x.2.1 + (pre2.length : Int)).toNat, rfl, rfl, ?_, ?_⟩
        · rw [List.length_map]
          exact ixN_of (by omega) (by omega)
        · refine ⟨cs2.set (x.2.1 + (pre2.length : Int)).toNat x.2.2[pre2.length], .im (.int (pre2.length : Nat)), by rw [List.length_set]; exact hcl2, fun z hz => ?_, ?_⟩
          · rcases List.mem_or_eq_of_mem_set hz with q | q
            · exact hcs2 z q
            · rw [q]; exact hxi.2.2 _ (List.getElem_mem hk1)
          · rw [List.map_set]
            rfl
      · rintro e ⟨cs2, s9, hcl2, hcs2, rfl⟩
        exact ⟨cs2, _, _, _, _, _, hcl2, hcs2, rfl⟩
    · rintro e ⟨cs, s4, s5, s6, s7, s8, hcl, hcs, rfl⟩
      walk_at "go"
      exact hk cs hcl hcs
end
end Af
end

section
set_option maxHeartbeats 4000000
namespace Af
open PySem L2
local macro_rules | `(tactic| walk_at "sc") => `(tactic| first | exact ScD.int _ | exact ScD.bl _ | exact ScD.non | exact ScD.str _ | exact ScD.ty _ | exact ScD.cls _)
local macro_rules | `(tactic| walk_at "rx") => `(tactic| first
  | ((with_reducible refine' rx_ixT ?h ?_); (case h => exact rfl))
  | ((with_reducible refine' rx_ixL ?h1 ?h2 ?_); (case h1 => exact rfl); (case h2 => exact rfl))
  | with_reducible refine rx_I0i ?_
  | with_reducible refine rx_I0b ?_
  | ((with_reducible refine' rx_Ii ?h ?_); (case h => first | decide | (show (0 : Int) < _; omega) | exact Or.inr ⟨by decide, by decide⟩ | exact ⟨by decide, by decide, by decide⟩ | exact Or.inl ⟨by omega, by omega⟩ | exact (⟨by omega, by omega⟩ : CDiv _ _)))
  | with_reducible refine rx_eqI ?_
  | with_reducible refine rx_neI ?_
  | with_reducible refine rx_neB ?_
  | with_reducible refine rx_isN ?_
  | with_reducible refine rx_notN ?_
  | with_reducible refine rx_neT ?_
  | ((with_reducible refine' rx_neN ?h1 ?h2 ?_); (case h1 => exact rfl); (case h2 => exact rfl))
  | ((with_reducible refine' rx_eqN ?h1 ?h2 ?_); (case h1 => exact rfl); (case h2 => exact rfl)))
local macro_rules | `(tactic| walk_at "go1") => `(tactic| first
  | with_reducible refine sx_seq ?_
  | ((with_reducible refine' sx_retO ?h ?_); (case h => exact rfl))
  | ((with_reducible refine' sx_retD ?h ?_); (case h => exact rfl))
  | with_reducible refine sx_ret ?_
  | ((with_reducible refine' sx_fldM ?z ?a ?b ?c ?d ?_); (case z => exact rfl); (case a => assumption); (case b => assumption); (case c => assumption); (case d => exact Nat.le_of_ble_eq_true rfl))
  | ((with_reducible refine' sx_append ?h ?_); (case h => exact rfl))
  | ((with_reducible refine' sx_extend ?h ?_); (case h => exact rfl))
  | with_reducible refine sx_drop ?_
  | with_reducible refine sx_retN ?_
  | with_reducible refine sx_next ?_
  | with_reducible refine sx_if ?_
  | with_reducible refine sx_asg ?_
  | with_reducible refine sx_asgT ?_
  | ((with_reducible refine' ex_im ?h ?_); (case h => exact rfl))
  | ((with_reducible refine' ex_ow ?h ?_); (case h => exact rfl))
  | ((with_reducible refine' ex_ro ?h ?_); (case h => exact rfl))
  | ((with_reducible refine' ex_od ?h ?_); (case h => exact rfl))
  | ((with_reducible refine' ex_pn ?h ?_); (case h => exact rfl))
  | ((with_reducible refine' ex_mk ?h ?_); (case h => exact rfl))
  | ((with_reducible refine' ex_ri ?h ?_); (case h => exact rfl))
  | ((with_reducible refine' ex_qi ?h ?_); (case h => exact rfl))
  | ((with_reducible refine' ex_bl ?h ?_); (case h => exact rfl))
  | ((with_reducible refine' ex_c ?h ?_); (case h => walk_at "sc"))
  | with_reducible refine ex_op ?_
  | with_reducible refine ex_andV ?_
  | with_reducible refine ex_orV ?_
  | with_reducible refine ex_notV ?_
  | with_reducible refine ex_if ?_
  | with_reducible refine ex_chain ?_
  | with_reducible refine ex_tup ?_
  | with_reducible refine ex_lst ?_
  | with_reducible refine ex_sortedSet ?_
  | with_reducible refine ex_countN ?_
  | with_reducible refine ex_revL ?_
  | with_reducible refine ex_cb ?_
  | with_reducible refine ex_call ?_
  | with_reducible refine ex_callB ?_
  | with_reducible refine exa_nil ?_
  | with_reducible refine exa_cons ?_
  | with_reducible refine et_test ?_
  | with_reducible refine et_B ?_
  | with_reducible refine et_and ?_
  | with_reducible refine et_or ?_
  | with_reducible refine et_not ?_
  | walk_at "rx"
  | ((with_reducible refine' cx_isi (b := true) ?h ?k ?_); (case h => exact rfl); (case k => decide +kernel))
  | ((with_reducible refine' cx_isi (b := false) ?h ?k ?_); (case h => exact rfl); (case k => decide +kernel))
  | ((with_reducible refine' cx_len ?h ?_); (case h => exact rfl))
  | ((with_reducible refine' cx_list ?h ?_); (case h => exact rfl))
  | ((with_reducible refine' cx_tuple ?h ?_); (case h => exact rfl))
  | ((with_reducible refine' cx_allF ?h ?_); (case h => exact rfl))
  | ((with_reducible refine' cx_anyF ?h ?_); (case h => exact rfl))
  | with_reducible refine cx_intI ?_
  | with_reducible refine cx_intB ?_
  | with_reducible refine ex_fz ?_
  | refine .inl ⟨_, rfl, ?_⟩
  | refine .inr ⟨_, rfl, ?_⟩
  | ((with_reducible refine' sx_par ?_))
  | ((with_reducible refine' sx_dput ?h); (case h => skip))
  | with_reducible refine cx_max2 ?_
  | with_reducible refine cx_min2 ?_
  | ((with_reducible refine' cx_dict ?h ?_); (case h => exact rfl))
  | with_reducible refine ex_make ?_
  | ((with_reducible refine' ex_fzV ?h ?_); (case h => exact rfl))
  | ((with_reducible refine' ex_fzVD ?h ?_); (case h => exact rfl))
  | ((with_reducible refine' ex_start ?pc ?_); (case pc => assumption))
  | ((with_reducible refine' ex_span ?pc ?_); (case pc => assumption))
  | ((with_reducible refine' ex_deeds ?pc ?_); (case pc => assumption))
  | ((with_reducible refine' ex_parts ?pc ?_); (case pc => assumption))
  | ((with_reducible refine' ex_ranks ?pc ?_); (case pc => assumption))
  | with_reducible refine ex_fld ?_
  | with_reducible refine ex_prop ?_
  | with_reducible refine ex_lenSet ?_
  | with_reducible refine ex_neg ?_
  | with_reducible refine ex_dictEnum ?_
  | with_reducible refine ex_dget2 ?_
  | with_reducible refine ex_disp1 ?_
  | with_reducible refine ex_listRg1 ?_
  | with_reducible refine cx_isC ?_
  | with_reducible refine ex_meth ?_
  | with_reducible refine ex_slT ?_
  | with_reducible refine ex_slL ?_
  | with_reducible refine exo_none ?_
  | with_reducible refine exo_some ?_
  | with_reducible refine ex_dget ?_
  | with_reducible refine ex_din ?_
  | with_reducible refine ex_dnotin ?_
  | with_reducible refine ex_dnew ?_
  | with_reducible refine exa_star ?_
  | with_reducible refine iteT ?_
  | with_reducible refine iteF ?_
  | with_reducible refine iteNF ?_
  | with_reducible refine iteNT ?_
  | refine ⟨(trivial : RetOk (Sl.im _)), ?_⟩
  | refine ⟨(trivial : RetOk (Sl.ow _)), ?_⟩
  | refine ⟨[], rfl, Nat.le_of_ble_eq_true rfl, ?_⟩
  | refine ⟨[_], rfl, Nat.le_of_ble_eq_true rfl, ?_⟩
  | refine ⟨[_, _], rfl, Nat.le_of_ble_eq_true rfl, ?_⟩
  | refine ⟨[_, _, _], rfl, Nat.le_of_ble_eq_true rfl, ?_⟩
  | refine ⟨[_, _, _, _, _], rfl, Nat.le_of_ble_eq_true rfl, ?_⟩
  | refine ⟨rfl, rfl, ?_⟩
  | refine ⟨_, _, _, rfl, by assumption, by assumption, rfl, ?_⟩
  | refine ⟨npI, ?_⟩
  | refine ⟨npO, ?_⟩
  | refine ⟨npD, ?_⟩
  | refine ⟨npQ, ?_⟩
  | refine ⟨_, rfl, ?_⟩
  | refine ⟨_, _, rfl, ?_⟩
  | refine ⟨_, _, _, rfl, ?_⟩
  | refine ⟨_, _, _, _, rfl, ?_⟩
  | ((with_reducible refine' andGet ?h ?_); (case h => exact rfl)))
local macro_rules | `(tactic| walk_at "go") => `(tactic| repeat walk_at "go1")
local macro_rules | `(tactic| walk_at "T") => `(tactic| (refine iteE (c := true) rfl ?_; walk_at "go"))
local macro_rules | `(tactic| walk_at "F") => `(tactic| (refine iteE (c := false) rfl ?_; walk_at "go"))
local macro_rules | `(tactic| walk_at "draw") => `(tactic| refine ⟨0, [_], rfl, rfl, _, _, _, _, _, rfl, rfl, by omega, by omega, by omega, by omega, ?_⟩)
theorem nd_len : ∀ {A B : List Int}, A.Nodup → A ⊆ B → A.length ≤ B.length
  | [], _, _, _ => Nat.zero_le _
  | a :: A, B, h, s => by
    rw [List.nodup_cons] at h
    have ha : a ∈ B := s List.mem_cons_self
    have ih := nd_len (A := A) (B := B.erase a) h.2 fun x hx => (List.mem_erase_of_ne fun e => h.1 (by rw [← e]; exact hx)).mpr (s (List.mem_cons_of_mem _ hx))
    rw [List.length_erase_of_mem ha] at ih
    have := List.length_pos_of_mem ha
    rw [List.length_cons]
    omega
theorem pigeon {L : List Int} {n : Nat} (hn : L.Nodup) (hx : ∀ x ∈ L, 0 ≤ x ∧ x < (n : Int)) (hl : L.length < n) : ∃ k : Int, (0 ≤ k ∧ k < (n : Int)) ∧ k ∉ L := by
  refine Classical.byContradiction fun h => ?_
  have h2 : ∀ k : Nat, k < n → (k : Int) ∈ L := fun k hk => Classical.byContradiction fun g => h ⟨k, ⟨by omega, by omega⟩, g⟩
  have sub : ((List.range n).map fun (k : Nat) => (k : Int)) ⊆ L := fun x hx => by
    obtain ⟨k, hk, rfl⟩ := List.mem_map.mp hx
    exact h2 k (List.mem_range.mp hk)
  have nd : ((List.range n).map fun (k : Nat) => (k : Int)).Nodup := by
    unfold List.Nodup
    rw [List.pairwise_map]
    exact List.pairwise_lt_range.imp fun h => by omega
  have := nd_len nd sub
  rw [List.length_map, List.length_range] at this
  omega
section
variable {P : Program} {w : World} {K : PySem.W.Frag} {mg : Str → Option Value} {base : Heap} {C : Addr}
abbrev bFall : DB := fun ds st k => ∃ (a : Addr) (ns : List Int) (i v : Int) (p : Pl), ds = [encLP p] ∧ st = [.bl a (encPen ns i v)] ∧ 0 ≤ i ∧ i ≤ 2 ^ 61 ∧ LpOk p ∧ ∀ (f : List Int) i' v', f.Nodup → (∀ x ∈ f, 0 ≤ x ∧ x < ((lparts p).length : Int)) → f.length ≤ 80 → i ≤ i' → i' ≤ i + 100 → k (.ow (f.map Dat.int)) [.bl a (encPen ns i' v')]
theorem ok__law_fall {f : Addr} {fd : FuncData} (F : Fun K "_law_fall" "_law_fall" s__law_fall f fd) (T : Txt mg) (D__law_draw : DefOk P w K mg base "_law_draw" 2 P__law_draw (SpB C bDraw)) (D__law_ranks : DefOk P w K mg base "_law_ranks" 3 P__law_ranks (SpD C dRanks)) (D__law_nexts : DefOk P w K mg base "_law_nexts" 1 P__law_nexts (SpD C dNexts)) : FnOk P w K mg base CX0 4 f fd P__law_fall (SpB C bFall) := by
  refine fn_bor (g := 0) F sc__law_fall (fun ds st k h => ?_) (by decide) (by decide) fun cdv A outer s H E ds s0 st kk hr h => ?_
  · obtain ⟨_, _, _, _, _, e1, e2, _⟩ := h
    rw [e1, e2]; exact ⟨rfl, rfl⟩
  · obtain ⟨a, ns, i, v, p, e1, e2, hi0, hi1, hp, hk⟩ := h
    subst e1
    simp only [List.cons.injEq] at e2
    obtain ⟨rfl, rfl⟩ := e2
    refine ⟨_, (pss_cons (ps_par (i := 2) (j := 3) (by rfl) sc__law_fall.nd rfl rfl (by decide) rfl rfl (pa_cons (pe_fz (pe_callD D__law_ranks (hr.mono (by decide)) (by rfl) (pa_cons (pv 1) pa_nil))) (pa_cons (pe_lst pa_nil) pa_nil)) (by rfl))
      (pss_cons (ps_for (g := (gName 4)) PassesOwn.never rfl (pi_range1 (by rfl) T.b_range (pa_cons (pe_callD D__law_draw (hr.mono (by decide)) (by rfl) (pa_cons (pv 0) (pa_cons (pe_op op_add (pe_callB (kk_len K) (by rfl) T.b_len (by decide +kernel) (pa_cons (pv 2) pa_nil)) pe_int) pa_nil))) pa_nil)) (pg_name (i := 4) sc__law_fall.nd rfl (Or.inl rfl)) (pss_cons (ps_set (i := 5) sc__law_fall.nd rfl (Or.inl rfl) (pe_callD D__law_nexts (hr.mono (by decide)) (by rfl) (pa_cons (pv 2) (pa_cons (pv 3) pa_nil))))
      (pss_one (ps_expr (kk_bm K PySem.F.plainAttrs_list PySem.F.slot_list_append PySem.F.type_list_append mt_append (pv 3) (pa_cons (pe_ix (kk_ixL K) (pv 5) (pe_callD D__law_draw (hr.mono (by decide)) (by rfl) (pa_cons (pv 0) (pa_cons (pe_callB (kk_len K) (by rfl) T.b_len (by decide +kernel) (pa_cons (pv 5) pa_nil)) pa_nil))) (fun _ _ => rfl)) pa_nil))))))
      (pss_one (ps_ret (pv 3))))), ?_⟩
    have hpl := hp.lparts
    have hw := hp.w1
    have hrl : (lranks p).length = (lparts p).length := List.length_map ..
    refine sx_seq (SX.mid (fun e => e = [.bl a (encPen ns i v), .im (encLP p), .im (lstI (lranks p)), .ow [], .un, .un]) ?_ ?_)
    · walk_at "go"
      refine ⟨by omega, Nat.le_trans hp.len (by decide), fun f ws h => Nat.le_trans (hp.small f ws h) (by decide), trivial, ?_⟩
      walk_at "go"
      exact rfl
    rintro e rfl
    refine sx_seq (sx_for (ix_range1 tg_name ?_))
    walk_at "go"
    have hml : ((lranks p).map Dat.int).length = (lranks p).length := List.length_map ..
    walk_at "draw"
    rintro d i1 v1 hd0 hd1 hi2 hi3
    refine ⟨trivial, ?_⟩
    walk_at "go"
    rw [hml] at hd1
    refine ⟨by omega, by omega, fun pre e => ∃ (f : List Int) (i' v' : Int) (s4 s5 : Sl), f.Nodup ∧ (∀ x ∈ f, 0 ≤ x ∧ x < ((lparts p).length : Int)) ∧ f.length = pre.length ∧ i1 ≤ i' ∧ i' ≤ i1 + pre.length ∧ e = [.bl a (encPen ns i' v'), .im (encLP p), .im (lstI (lranks p)), .ow (f.map Dat.int), s4, s5], ⟨[], i1, v1, .un, .un, .nil, fun _ h => (nomatch h), rfl, by omega, by simp, rfl⟩, ?_, ?_⟩
    · rintro pre x post e hd ⟨f, i4, v4, s4, s5, nf, hf, lf, hi8, hi9, rfl⟩
      obtain ⟨hpl2, rfl⟩ := rgD_at hd
      refine sx_forget 5 ?_
      refine (?_ : SX C _ [.bl a (encPen ns i4 v4), .im (encLP p), .im (lstI (lranks p)), .ow (f.map Dat.int), .im (.int (0 + (pre.length : Int) * 1)), .un] _)
      generalize Dat.int (0 + (pre.length : Int) * 1) = d4
      refine sx_seq (SX.mid (fun e => ∃ L : List Int, L ≠ [] ∧ (∀ x ∈ L, (0 ≤ x ∧ x < ((lparts p).length : Int)) ∧ x ∉ f) ∧ L.length ≤ 80 ∧ e = [.bl a (encPen ns i4 v4), .im (encLP p), .im (lstI (lranks p)), .ow (f.map Dat.int), .im d4, .ow (L.map Dat.int)]) ?_ ?_)
      · walk_at "go"
        refine ⟨by omega, hp.lrank, fun L h1 h2 h3 => ?_⟩
        rw [hrl] at h1 h2 h3
        exact ⟨trivial, npO, L, h3 (pigeon nf hf (by omega)), h1, by omega, rfl⟩
      rintro e ⟨L, hL0, hL, hLl, rfl⟩
      have hLp : 0 < L.length := List.length_pos_iff.mpr hL0
      have hLm : (L.map Dat.int).length = L.length := List.length_map ..
      refine sx_append (i := 3) rfl ?_
      walk_at "go"
      walk_at "draw"
      rintro z i5 v5 hz0 hz1 hi10 hi11
      rw [hLm] at hz1
      obtain ⟨y, hy⟩ : ∃ y, L[z.toNat]? = some y := ⟨_, List.getElem?_eq_getElem (by omega)⟩
      have hym := List.mem_of_getElem? hy
      refine ⟨trivial, rx_ixL rfl (d := .int y) (atI_of hz0 (by rw [List.getElem?_map, hy]; rfl)) ?_⟩
      walk_at "go"
      refine ⟨by rw [List.length_map]; omega, f ++ [y], i5, v5, .im d4, .ow (L.map Dat.int), ?_, fun w hw => ?_, by simp; omega, by omega, by simp; omega, ?_⟩
      rotate_left 2
      · show _ = [Sl.bl a (encPen ns i5 v5), Sl.im (encLP p), Sl.im (lstI (lranks p)), Sl.ow ((f ++ [y]).map Dat.int), Sl.im d4, Sl.ow (L.map Dat.int)]
        rw [List.map_append]
        rfl
      · rw [List.nodup_append]
        refine ⟨nf, (by simp), fun u hu w hw e => ?_⟩
        rw [List.mem_singleton.mp hw] at e
        exact (hL y hym).2 (e ▸ hu)
      · rcases List.mem_append.mp hw with q | q
        · exact hf w q
        · rw [List.mem_singleton.mp q]; exact (hL y hym).1
    · rintro e ⟨f, i4, v4, s4, s5, nf, hf, lf, hi8, hi9, rfl⟩
      rw [rgD_len] at lf hi9
      refine sx_forget 4 (sx_forget 5 ?_)
      refine (?_ : SX C _ [.bl a (encPen ns i4 v4), .im (encLP p), .im (lstI (lranks p)), .ow (f.map Dat.int), .un, .un] _)
      walk_at "go"
      exact ⟨rfl, hk f i4 v4 nf hf (by omega) (by omega) (by omega)⟩
abbrev encPD (pat : Pat) : List (Int × Dat) := pat.map fun q => (q.1, tupI q.2)
def poolOf (n : Nat) : List Int := (List.range n).map fun (j : Nat) => 0 + (j : Int) * 1
theorem rgD_pool {n : Nat} : rgD 0 1 n = (poolOf n).map Dat.int := by
  unfold rgD poolOf
  rw [List.map_map]
  rfl
theorem pool_mem {n : Nat} {x : Int} : x ∈ poolOf n ↔ 0 ≤ x ∧ x < (n : Int) := by
  unfold poolOf
  rw [List.mem_map]
  constructor
  · rintro ⟨j, hj, rfl⟩
    rw [List.mem_range] at hj
    omega
  · rintro ⟨h1, h2⟩
    exact ⟨x.toNat, List.mem_range.mpr (by omega), by omega⟩
theorem pool_nd {n : Nat} : (poolOf n).Nodup := by
  unfold poolOf List.Nodup
  rw [List.pairwise_map]
  exact List.pairwise_lt_range.imp fun h => by omega
/-- a dict of worths -/
structure WD (n : Nat) (ks : List (Int × Dat)) : Prop where
  nd : (ks.map (·.1)).Nodup
  w8 : ∀ q ∈ ks, 0 ≤ q.1 ∧ q.1 < 8
  ne : ks ≠ []
  few : ks.length ≤ n
theorem WD.one {z : Int} {d : Dat} (h : 0 ≤ z ∧ z < 8) : WD 1 [(z, d)] := ⟨by simp, fun q hq => by rw [List.mem_singleton.mp hq]; exact h, by simp, Nat.le_refl _⟩
theorem WD.mono {n m : Nat} {ks : List (Int × Dat)} (h : WD n ks) (l : n ≤ m) : WD m ks := ⟨h.nd, h.w8, h.ne, Nat.le_trans h.few l⟩
theorem WD.put {n : Nat} {ks : List (Int × Dat)} (h : WD n ks) {z : Int} {d : Dat} (hz : 0 ≤ z ∧ z < 8) : WD (n + 1) (putKD ks z d) := by
  by_cases hm : ∀ q ∈ ks, q.1 ≠ z
  · rw [putKD_new hm]
    refine ⟨?_, fun q hq => ?_, by simp, by simp; exact h.few⟩
    · rw [List.map_append, List.nodup_append]
      refine ⟨h.nd, (by simp), fun x hx y hy e => ?_⟩
      obtain ⟨q, hq, e2⟩ := List.mem_map.mp hx
      have e3 : y = z := by simpa using hy
      exact hm q hq (by rw [e2, e, e3])
    · rcases List.mem_append.mp hq with g | g
      · exact h.w8 q g
      · rw [List.mem_singleton.mp g]; exact hz
  · have ha : (ks.any fun q => decide (q.1 = z)) = true := by
      rw [List.any_eq_true]
      refine Classical.byContradiction fun g => hm fun q hq e => g ⟨q, hq, decide_eq_true e⟩
    unfold putKD
    rw [if_pos ha]
    have hk : (ks.map fun p => if p.1 = z then (z, d) else p).map (·.1) = ks.map (·.1) := by
      rw [List.map_map]
      apply List.map_congr_left
      intro p _
      show (if p.1 = z then (z, d) else p).1 = p.1
      split
      · rename_i e; exact e.symm
      · rfl
    refine ⟨by rw [hk]; exact h.nd, fun q hq => ?_, by simpa using h.ne, by rw [List.length_map]; exact Nat.le_succ_of_le h.few⟩
    have : q.1 ∈ ks.map (·.1) := hk ▸ List.mem_map.mpr ⟨q, hq, rfl⟩
    obtain ⟨r, hr, e⟩ := List.mem_map.mp this
    rw [← e]
    exact h.w8 r hr
theorem WD.ch {n : Nat} {ks : List (Int × Dat)} (h : WD n ks) (h8 : n ≤ 8) {ys : List Int} (hp : ys.Perm (ks.map (·.1))) (ho : ys.Pairwise (· ≤ ·)) : ChOk ys := by
  have nd : ys.Nodup := hp.nodup_iff.mpr h.nd
  have hl : ys.length = ks.length := by rw [hp.length_eq, List.length_map]
  refine ⟨worths_of (by rw [hl]; exact List.length_pos_iff.mpr h.ne) fun x hx => ?_, ?_, by have := h.few; omega⟩
  · obtain ⟨q, hq, e⟩ := List.mem_map.mp (hp.mem_iff.mp hx)
    rw [← e]
    exact h.w8 q hq
  · exact (List.Pairwise.and ho nd).imp fun g => by have := g.1; have := g.2; omega
abbrev bPattern : DB := fun ds st k => ∃ (a : Addr) (ns : List Int) (i v : Int) (p : Pl), ds = [encLP p] ∧ st = [.bl a (encPen ns i v)] ∧ 0 ≤ i ∧ i ≤ 2 ^ 60 ∧ LpOk p ∧ ∀ (pat : Pat) i' v', PatOk p.base.length pat → i ≤ i' → i' ≤ i + 200 → k (.od (pat.map fun q => (q.1, tupI q.2))) [.bl a (encPen ns i' v')]
theorem ok__law_pattern {f : Addr} {fd : FuncData} (F : Fun K "_law_pattern" "_law_pattern" s__law_pattern f fd) (T : Txt mg) (D__law_draw : DefOk P w K mg base "_law_draw" 2 P__law_draw (SpB C bDraw)) (D__law_fall : DefOk P w K mg base "_law_fall" 4 P__law_fall (SpB C bFall)) (D__law_left : DefOk P w K mg base "_law_left" 3 P__law_left (SpD C dLeft)) (D__law_some : DefOk P w K mg base "_law_some" 3 P__law_some (SpB C bSome)) : FnOk P w K mg base CX0 5 f fd P__law_pattern (SpB C bPattern) := by
  refine fn_bor (g := 0) F sc__law_pattern (fun ds st k h => ?_) (by decide) (by decide) fun cdv A outer s H E ds s0 st kk hr h => ?_
  · obtain ⟨_, _, _, _, _, e1, e2, _⟩ := h
    rw [e1, e2]; exact ⟨rfl, rfl⟩
  · obtain ⟨a, ns, i, v, p, e1, e2, hi0, hi1, hp, hk⟩ := h
    subst e1
    simp only [List.cons.injEq] at e2
    obtain ⟨rfl, rfl⟩ := e2
    refine ⟨_, (pss_cons (ps_par (i := 2) (j := 3) (by rfl) sc__law_pattern.nd rfl rfl (by decide) rfl rfl (pa_cons (pe_callD D__law_left (hr.mono (by decide)) (by rfl) (pa_cons (pv 1) (pa_cons (pe_fz (pe_callD D__law_fall (hr.mono (by decide)) (by rfl) (pa_cons (pv 0) (pa_cons (pv 1) pa_nil)))) pa_nil))) (pa_cons pe_dnewK pa_nil)) (by rfl))
      (pss_cons (ps_for (g := (gName 4)) PassesOwn.never rfl (kk_pil K (pe_fz (pe_callD D__law_some (hr.mono (by decide)) (by rfl) (pa_cons (pv 0) (pa_cons (pe_fz (pe_listRg rfl (by rfl) T.b_list (prg_1 (by rfl) T.b_range (pe_callB (kk_len K) (by rfl) T.b_len (by decide +kernel) (pa_cons (pv 2) pa_nil))))) (pa_cons pe_int pa_nil)))))) (pg_name (i := 4) sc__law_pattern.nd rfl (Or.inl rfl)) (pss_cons (ps_set (i := 5) sc__law_pattern.nd rfl (Or.inl rfl) (pe_disp (pps_cons (pe_ix (kk_ixT K) (pv 2) (pv 4) (fun _ _ => rfl)) pe_bl pps_nil) (by rfl) (by rfl) (fun z => by cases z) (by decide)))
      (pss_cons (ps_if (pt_cmpR op_eq (pe_callD D__law_draw (hr.mono (by decide)) (by rfl) (pa_cons (pv 0) (pa_cons pe_int pa_nil))) pe_int (nomark _)) (pss_one (ps_set (i := 5) sc__law_pattern.nd rfl (Or.inl rfl) (pe_disp (pps_cons (pe_callD D__law_draw (hr.mono (by decide)) (by rfl) (pa_cons (pv 0) (pa_cons pe_int pa_nil))) pe_bl pps_nil) (by rfl) (by rfl) (fun z => by cases z) (by decide)))) pss_nil)
      (pss_cons (ps_for (g := (gName 6)) PassesOwn.never rfl (pi_range1 (by rfl) T.b_range (pa_cons (pe_callD D__law_draw (hr.mono (by decide)) (by rfl) (pa_cons (pv 0) (pa_cons pe_int pa_nil))) pa_nil)) (pg_name (i := 6) sc__law_pattern.nd rfl (Or.inl rfl)) (pss_one (ps_dput (hu_of hr) (pv 5) (pe_callD D__law_draw (hr.mono (by decide)) (by rfl) (pa_cons (pv 0) (pa_cons pe_int pa_nil))) pe_bl rfl)))
      (pss_one (ps_dput (hu_of hr) (pv 3) (pv 4) (pe_callTy (kk_tuple K) (by rfl) T.b_tuple (by decide +kernel) (pa_cons (pe_callB (call_sortedDI rfl) (by rfl) T.b_sorted (by decide +kernel) (pa_cons (pv 5) pa_nil)) pa_nil)) rfl))))))
      (pss_one (ps_ret (pv 3))))), ?_⟩
    have hb5 := hp.b5
    refine sx_seq (SX.mid (fun e => ∃ (cs : List Int) (i' v' : Int), cs.length = p.base.length ∧ (∀ z ∈ cs, 0 ≤ z ∧ z < 8) ∧ i ≤ i' ∧ i' ≤ i + 100 ∧ e = [.bl a (encPen ns i' v'), .im (encLP p), .im (tupI cs), .od [], .un, .un, .un]) ?_ ?_)
    · walk_at "go"
      refine ⟨0, [_], rfl, rfl, a, ns, i, v, p, rfl, rfl, by omega, by omega, hp, fun f i' v' h1 h2 h3 h4 h5 => ⟨trivial, ?_⟩⟩
      walk_at "go"
      refine ⟨hp, by omega, h2, fun cs hcl hcs => ⟨trivial, ?_⟩⟩
      walk_at "go"
      exact ⟨cs, i', v', hcl, hcs, h4, h5, rfl⟩
    rintro e ⟨cs, i1, v1, hcl, hcs, hi2, hi3, rfl⟩
    walk_at "go"
    refine sx_for (ix_list tg_name ?_)
    walk_at "go"
    have hcm : (cs.map Dat.int).length = cs.length := List.length_map ..
    refine ⟨by omega, by omega, .inl ⟨_, rfl, ?_⟩⟩
    rw [rgD_pool]
    walk_at "go"
    have hpool : ∀ x, x ∈ poolOf cs.length ↔ 0 ≤ x ∧ x < (cs.length : Int) := fun x => pool_mem
    have hpl : (poolOf cs.length).length = cs.length := by unfold poolOf; rw [List.length_map, List.length_range]
    rw [hcm, Int.toNat_natCast]
    refine ⟨0, [lstI (poolOf cs.length), .int 4], rfl, rfl, a, ns, i1, v1, poolOf cs.length, 4, rfl, rfl, by omega, by omega, by omega, pool_nd, by decide, by decide, fun L i2 v2 hL nL lL hi4 hi5 => ⟨trivial, .inl ⟨_, rfl, ?_⟩⟩⟩
    walk_at "go"
    refine ⟨fun _ _ => trivial, fun pre e => ∃ (pat : Pat) (i' v' : Int) (s4 s5 s6 : Sl), pat.map (·.1) = L.take pre.length ∧ (∀ q ∈ pat, ChOk q.2) ∧ i2 ≤ i' ∧ i' ≤ i2 + 5 * pre.length ∧ e = [.bl a (encPen ns i' v'), .im (encLP p), .im (tupI cs), .od (encPD pat), s4, s5, s6], ⟨[], i2, v2, .un, .un, .un, rfl, fun _ h => (nomatch h), by omega, by simp, rfl⟩, ?_, ?_⟩
    · rintro pre d post e hd ⟨pat, i3, v3, s4, s5, s6, hk1, hk2, hi6, hi7, rfl⟩
      obtain ⟨one, hone, rfl⟩ := map_at hd
      have hom := (hpool one).mp (hL one (List.mem_of_getElem? hone))
      have hat : L2.atI (cs.map Dat.int) one = some (.int (cs.getD one.toNat 0)) := atI_of hom.1 (by rw [List.getElem?_map, List.getD_eq_getElem?_getD, List.getElem?_eq_getElem (show one.toNat < cs.length by omega)]; rfl)
      have hc8 : 0 ≤ cs.getD one.toNat 0 ∧ cs.getD one.toNat 0 < 8 := by
        rw [List.getD_eq_getElem?_getD, List.getElem?_eq_getElem (show one.toNat < cs.length by omega)]
        exact hcs _ (List.getElem_mem _)
      have hple : pre.length ≤ 4 := by
        have := (List.getElem?_eq_some_iff.mp hone).1
        omega
      refine sx_forget 5 (sx_forget 6 ?_)
      refine (?_ : SX C _ [.bl a (encPen ns i3 v3), .im (encLP p), .im (tupI cs), .od (encPD pat), .im (.int one), .un, .un] _)
      refine sx_seq (SX.mid (fun e => ∃ ks, WD 1 ks ∧ e = [.bl a (encPen ns i3 v3), .im (encLP p), .im (tupI cs), .od (encPD pat), .im (.int one), .od ks, .un]) ?_ ?_)
      · walk_at "go"
        refine rx_ixT hat ?_
        walk_at "go"
        exact ⟨_, WD.one hc8, rfl⟩
      rintro e ⟨ks, hks, rfl⟩
      refine sx_seq (SX.mid (fun e => ∃ ks i' v', WD 1 ks ∧ i3 ≤ i' ∧ i' ≤ i3 + 2 ∧ e = [.bl a (encPen ns i' v'), .im (encLP p), .im (tupI cs), .od (encPD pat), .im (.int one), .od ks, .un]) ?_ ?_)
      · walk_at "go"
        walk_at "draw"
        rintro z i4 v4 hz0 hz1 hi8 hi9
        refine ⟨trivial, ?_⟩
        walk_at "go"
        refine iteB ?_ ?_
        · walk_at "go"
          walk_at "draw"
          rintro z2 i5 v5 hy0 hy1 hi10 hi11
          refine ⟨trivial, ?_⟩
          walk_at "go"
          exact ⟨_, i5, v5, WD.one ⟨hy0, hy1⟩, by omega, by omega, rfl⟩
        · walk_at "go"
          exact ⟨ks, i4, v4, hks, by omega, by omega, rfl⟩
      rintro e ⟨ks, i4, v4, hks, hi8, hi9, rfl⟩
      refine sx_seq (SX.mid (fun e => ∃ ks i' v' s6, WD 3 ks ∧ i4 ≤ i' ∧ i' ≤ i4 + 3 ∧ e = [.bl a (encPen ns i' v'), .im (encLP p), .im (tupI cs), .od (encPD pat), .im (.int one), .od ks, s6]) ?_ ?_)
      · refine sx_for (ix_range1 tg_name ?_)
        walk_at "go"
        walk_at "draw"
        rintro t i5 v5 ht0 ht1 hi10 hi11
        refine ⟨trivial, ?_⟩
        walk_at "go"
        refine ⟨by omega, by omega, fun pre2 e => ∃ ks i' v' s6, WD (1 + pre2.length) ks ∧ i5 ≤ i' ∧ i' ≤ i5 + pre2.length ∧ e = [.bl a (encPen ns i' v'), .im (encLP p), .im (tupI cs), .od (encPD pat), .im (.int one), .od ks, s6], ⟨ks, i5, v5, .un, hks, by omega, by simp, rfl⟩, ?_, ?_⟩
        · rintro pre2 d2 post2 e hd2 ⟨ks2, i6, v6, s7, hks2, hi12, hi13, rfl⟩
          obtain ⟨hpl2, rfl⟩ := rgD_at hd2
          refine sx_dput (i := 5) (ks := ks2) ?_
          walk_at "go"
          walk_at "draw"
          rintro z i7 v7 hz0 hz1 hi14 hi15
          have hf := hks2.few
          have hln : (pre2 ++ [Dat.int (0 + (pre2.length : Int) * 1)]).length = pre2.length + 1 := by simp
          refine ⟨trivial, z, rfl, rfl, by omega, putKD ks2 z (.bl true), i7, v7, .im (.int (0 + (pre2.length : Int) * 1)), ?_, by omega, by rw [hln]; omega, rfl⟩
          rw [hln]
          exact hks2.put ⟨hz0, hz1⟩
        · rintro e ⟨ks2, i6, v6, s7, hks2, hi12, hi13, rfl⟩
          rw [rgD_len] at hks2 hi13
          exact ⟨ks2, i6, v6, s7, hks2.mono (by omega), by omega, by omega, rfl⟩
      rintro e ⟨ks, i7, v7, s7, hks, hi10, hi11, rfl⟩
      refine sx_forget 6 ?_
      refine (?_ : SX C _ [.bl a (encPen ns i7 v7), .im (encLP p), .im (tupI cs), .od (encPD pat), .im (.int one), .od ks, .un] _)
      refine sx_dput (i := 3) (ks := encPD pat) ?_
      walk_at "go"
      refine cx_sortedD (ks := ks) rfl (by have := hks.few; omega) fun ys hy1 hy2 => ?_
      walk_at "go"
      have hch := hks.ch (by decide) hy1 hy2
      have hnew : ∀ q ∈ encPD pat, q.1 ≠ one := fun q hq e => by
        obtain ⟨r, hr, e2⟩ := List.mem_map.mp hq
        have h3 : r.1 ∈ L.take pre.length := hk1 ▸ List.mem_map.mpr ⟨r, hr, rfl⟩
        obtain ⟨j, hj⟩ := List.mem_iff_getElem?.mp h3
        rw [List.getElem?_take] at hj
        by_cases hjl : j < pre.length
        · rw [if_pos hjl] at hj
          have er : r.1 = one := by rw [← e, ← e2]
          rw [er] at hj
          obtain ⟨g1, g2⟩ := List.getElem?_eq_some_iff.mp hj
          obtain ⟨g3, g4⟩ := List.getElem?_eq_some_iff.mp hone
          exact List.pairwise_iff_getElem.mp nL j pre.length g1 g3 hjl (g2.trans g4.symm)
        · rw [if_neg hjl] at hj
          cases hj
      have hpe : (encPD pat).length ≤ 4 := by
        have := congrArg List.length hk1
        rw [List.length_map, List.length_take] at this
        rw [List.length_map]
        omega
      have hln : (pre ++ [Dat.int one]).length = pre.length + 1 := by simp
      refine ⟨by omega, pat ++ [(one, ys)], i7, v7, .im (.int one), .od ks, .un, ?_, fun q hq => ?_, by omega, by rw [hln]; omega, ?_⟩
      · rw [hln, List.map_append, hk1, List.take_add_one, hone]
        rfl
      · rcases List.mem_append.mp hq with g | g
        · exact hk2 q g
        · rw [List.mem_singleton.mp g]; exact hch
      · rw [putKD_new hnew]
        unfold encPD
        rw [List.map_append]
        rfl
    · rintro e ⟨pat, i3, v3, s4, s5, s6, hk1, hk2, hi6, hi7, rfl⟩
      rw [List.length_map] at hk1 hi7
      refine sx_forget 4 (sx_forget 5 (sx_forget 6 ?_))
      refine (?_ : SX C _ [.bl a (encPen ns i3 v3), .im (encLP p), .im (tupI cs), .od (encPD pat), .un, .un, .un] _)
      walk_at "go"
      refine ⟨rfl, hk pat i3 v3 ?_ (by omega) (by omega)⟩
      rw [List.take_length] at hk1
      refine ⟨fun q hq => ?_, hk2, by rw [hk1]; exact nL, by have := congrArg List.length hk1; simp at this; omega⟩
      have hq1 : q.1 ∈ L := hk1 ▸ List.mem_map.mpr ⟨q, hq, rfl⟩
      have := (hpool q.1).mp (hL _ hq1)
      exact isBelow_iff.mpr (by rw [← hcl]; exact this)
end
end Af
end

section
set_option maxHeartbeats 4000000
namespace Af
open PySem L2
local macro_rules | `(tactic| walk_at "sc") => `(tactic| first | exact ScD.int _ | exact ScD.bl _ | exact ScD.non | exact ScD.str _ | exact ScD.ty _ | exact ScD.cls _)
local macro_rules | `(tactic| walk_at "rx") => `(tactic| first
  | ((with_reducible refine' rx_ixT ?h ?_); (case h => exact rfl))
  | ((with_reducible refine' rx_ixL ?h1 ?h2 ?_); (case h1 => exact rfl); (case h2 => exact rfl))
  | with_reducible refine rx_I0i ?_
  | with_reducible refine rx_I0b ?_
  | ((with_reducible refine' rx_Ii ?h ?_); (case h => first | decide | (show (0 : Int) < _; omega) | exact Or.inr ⟨by decide, by decide⟩ | exact ⟨by decide, by decide, by decide⟩ | exact Or.inl ⟨by omega, by omega⟩ | exact (⟨by omega, by omega⟩ : CDiv _ _)))
  | with_reducible refine rx_eqI ?_
  | with_reducible refine rx_neI ?_
  | with_reducible refine rx_neB ?_
  | with_reducible refine rx_isN ?_
  | with_reducible refine rx_notN ?_
  | with_reducible refine rx_neT ?_
  | ((with_reducible refine' rx_neN ?h1 ?h2 ?_); (case h1 => exact rfl); (case h2 => exact rfl))
  | ((with_reducible refine' rx_eqN ?h1 ?h2 ?_); (case h1 => exact rfl); (case h2 => exact rfl)))
local macro_rules | `(tactic| walk_at "go1") => `(tactic| first
  | with_reducible refine sx_seq ?_
  | ((with_reducible refine' sx_retO ?h ?_); (case h => exact rfl))
  | ((with_reducible refine' sx_retD ?h ?_); (case h => exact rfl))
  | with_reducible refine sx_ret ?_
  | ((with_reducible refine' sx_fldM ?z ?a ?b ?c ?d ?_); (case z => exact rfl); (case a => assumption); (case b => assumption); (case c => assumption); (case d => exact Nat.le_of_ble_eq_true rfl))
  | ((with_reducible refine' sx_append ?h ?_); (case h => exact rfl))
  | ((with_reducible refine' sx_extend ?h ?_); (case h => exact rfl))
  | with_reducible refine sx_drop ?_
  | with_reducible refine sx_retN ?_
  | with_reducible refine sx_next ?_
  | with_reducible refine sx_if ?_
  | with_reducible refine sx_asg ?_
  | with_reducible refine sx_asgT ?_
  | ((with_reducible refine' ex_im ?h ?_); (case h => exact rfl))
  | ((with_reducible refine' ex_ow ?h ?_); (case h => exact rfl))
  | ((with_reducible refine' ex_ro ?h ?_); (case h => exact rfl))
  | ((with_reducible refine' ex_od ?h ?_); (case h => exact rfl))
  | ((with_reducible refine' ex_pn ?h ?_); (case h => exact rfl))
  | ((with_reducible refine' ex_mk ?h ?_); (case h => exact rfl))
  | ((with_reducible refine' ex_ri ?h ?_); (case h => exact rfl))
  | ((with_reducible refine' ex_qi ?h ?_); (case h => exact rfl))
  | ((with_reducible refine' ex_bl ?h ?_); (case h => exact rfl))
  | ((with_reducible refine' ex_c ?h ?_); (case h => walk_at "sc"))
  | with_reducible refine ex_op ?_
  | with_reducible refine ex_andV ?_
  | with_reducible refine ex_orV ?_
  | with_reducible refine ex_notV ?_
  | with_reducible refine ex_if ?_
  | with_reducible refine ex_chain ?_
  | with_reducible refine ex_tup ?_
  | with_reducible refine ex_lst ?_
  | with_reducible refine ex_sortedSet ?_
  | with_reducible refine ex_countN ?_
  | with_reducible refine ex_revL ?_
  | with_reducible refine ex_cb ?_
  | with_reducible refine ex_call ?_
  | with_reducible refine ex_callB ?_
  | with_reducible refine exa_nil ?_
  | with_reducible refine exa_cons ?_
  | with_reducible refine et_test ?_
  | with_reducible refine et_B ?_
  | with_reducible refine et_and ?_
  | with_reducible refine et_or ?_
  | with_reducible refine et_not ?_
  | walk_at "rx"
  | ((with_reducible refine' cx_isi (b := true) ?h ?k ?_); (case h => exact rfl); (case k => decide +kernel))
  | ((with_reducible refine' cx_isi (b := false) ?h ?k ?_); (case h => exact rfl); (case k => decide +kernel))
  | ((with_reducible refine' cx_len ?h ?_); (case h => exact rfl))
  | ((with_reducible refine' cx_list ?h ?_); (case h => exact rfl))
  | ((with_reducible refine' cx_tuple ?h ?_); (case h => exact rfl))
  | ((with_reducible refine' cx_allF ?h ?_); (case h => exact rfl))
  | ((with_reducible refine' cx_anyF ?h ?_); (case h => exact rfl))
  | with_reducible refine cx_intI ?_
  | with_reducible refine cx_intB ?_
  | with_reducible refine ex_fz ?_
  | refine .inl ⟨_, rfl, ?_⟩
  | refine .inr ⟨_, rfl, ?_⟩
  | ((with_reducible refine' sx_par ?_))
  | ((with_reducible refine' sx_dput ?h); (case h => skip))
  | with_reducible refine cx_max2 ?_
  | with_reducible refine cx_min2 ?_
  | ((with_reducible refine' cx_dict ?h ?_); (case h => exact rfl))
  | with_reducible refine ex_make ?_
  | ((with_reducible refine' ex_fzV ?h ?_); (case h => exact rfl))
  | ((with_reducible refine' ex_fzVD ?h ?_); (case h => exact rfl))
  | ((with_reducible refine' ex_start ?pc ?_); (case pc => assumption))
  | ((with_reducible refine' ex_span ?pc ?_); (case pc => assumption))
  | ((with_reducible refine' ex_deeds ?pc ?_); (case pc => assumption))
  | ((with_reducible refine' ex_parts ?pc ?_); (case pc => assumption))
  | ((with_reducible refine' ex_ranks ?pc ?_); (case pc => assumption))
  | with_reducible refine ex_fld ?_
  | with_reducible refine ex_prop ?_
  | with_reducible refine ex_lenSet ?_
  | with_reducible refine ex_neg ?_
  | with_reducible refine ex_dictEnum ?_
  | with_reducible refine ex_dget2 ?_
  | with_reducible refine ex_disp1 ?_
  | with_reducible refine ex_listRg1 ?_
  | with_reducible refine cx_isC ?_
  | with_reducible refine ex_meth ?_
  | with_reducible refine ex_slT ?_
  | with_reducible refine ex_slL ?_
  | with_reducible refine exo_none ?_
  | with_reducible refine exo_some ?_
  | with_reducible refine ex_dget ?_
  | with_reducible refine ex_din ?_
  | with_reducible refine ex_dnotin ?_
  | with_reducible refine ex_dnew ?_
  | with_reducible refine exa_star ?_
  | with_reducible refine iteT ?_
  | with_reducible refine iteF ?_
  | with_reducible refine iteNF ?_
  | with_reducible refine iteNT ?_
  | refine ⟨(trivial : RetOk (Sl.im _)), ?_⟩
  | refine ⟨(trivial : RetOk (Sl.ow _)), ?_⟩
  | refine ⟨[], rfl, Nat.le_of_ble_eq_true rfl, ?_⟩
  | refine ⟨[_], rfl, Nat.le_of_ble_eq_true rfl, ?_⟩
  | refine ⟨[_, _], rfl, Nat.le_of_ble_eq_true rfl, ?_⟩
  | refine ⟨[_, _, _], rfl, Nat.le_of_ble_eq_true rfl, ?_⟩
  | refine ⟨[_, _, _, _, _], rfl, Nat.le_of_ble_eq_true rfl, ?_⟩
  | refine ⟨rfl, rfl, ?_⟩
  | refine ⟨_, _, _, rfl, by assumption, by assumption, rfl, ?_⟩
  | refine ⟨npI, ?_⟩
  | refine ⟨npO, ?_⟩
  | refine ⟨npD, ?_⟩
  | refine ⟨npQ, ?_⟩
  | refine ⟨_, rfl, ?_⟩
  | refine ⟨_, _, rfl, ?_⟩
  | refine ⟨_, _, _, rfl, ?_⟩
  | refine ⟨_, _, _, _, rfl, ?_⟩
  | ((with_reducible refine' andGet ?h ?_); (case h => exact rfl)))
local macro_rules | `(tactic| walk_at "go") => `(tactic| repeat walk_at "go1")
local macro_rules | `(tactic| walk_at "T") => `(tactic| (refine iteE (c := true) rfl ?_; walk_at "go"))
local macro_rules | `(tactic| walk_at "F") => `(tactic| (refine iteE (c := false) rfl ?_; walk_at "go"))
theorem sxb_lend {C : Addr} {t : TS} {env : Sls} {W : Wish} {i : Nat} {ds : List Dat} (he : env[i]? = some (.ow ds)) (h : ∀ a, SX C t (env.set i (.bl a ds)) { nx := fun _ => False, rt := fun s _ => ∃ b, s = .im (.bl b) ∧ ∀ e, W.rt s e }) : SXB C (fun _ => False) t env W := fun B H0 σ H hB R D n r => by
  obtain ⟨v, hv, l, xs, ev, h0, nb, hl, rr⟩ := R.at B he (fun z => nomatch z)
  subst ev
  have no : ¬ Owned σ (env.set i .un) l := fun w => by
    obtain ⟨j, s, e, o, hj⟩ := w
    by_cases hji : i = j
    · subst hji
      by_cases hlt : i < env.length
      · rw [List.getElem?_set_self hlt] at e; cases e; exact o
      · rw [List.getElem?_eq_none (by rw [List.length_set]; omega)] at e; cases e
    · rw [List.getElem?_set_ne hji] at e
      exact hji (R.dist i j _ _ _ he e trivial o hv hj)
  have R2 := (R.forget i).borrow (j := i) (s := .bl l ds) hl (fun z => z) h0 nb no (fun _ _ _ z => nomatch z) rfl (fun σ' => ⟨rfl, .inr rfl, xs, hl, rr⟩)
  have e1 : σ.set i (some (.ref l)) = σ := by
    apply List.ext_getElem?
    intro j
    by_cases hji : i = j
    · subst hji
      obtain ⟨hlt, _⟩ := List.getElem?_eq_some_iff.mp hv
      rw [List.getElem?_set_self hlt, hv]
    · rw [List.getElem?_set_ne hji]
  rw [e1, List.set_set] at R2
  refine h l _ H0 σ H R2 D (fun _ _ _ z => z.elim) (fun s env' v σ' H' ⟨b, es, k⟩ R' ok => ?_) (fun _ _ _ z => z.elim) (fun _ _ _ z => z.elim)
  subst es
  refine r _ _ v σ' H' (k _) (R'.free fun a b => ?_) ok
  rcases b with b | b
  · exact (hB a b).elim (fun z => z.elim) id
  · rw [b]; exact h0
section
variable {P : Program} {w : World} {K : PySem.W.Frag} {mg : Str → Option Value} {base : Heap} {C : Addr}
def dFound : DF := fun ss k => ∃ (p : Pl) (pat : Pat), ss = [.im p.enc, .im (encPat pat)] ∧ PlOk p ∧ PatOk p.base.length pat ∧ ∀ r, Fd p pat r → k (.im (encFd r))
theorem ok__law_found {f : Addr} {fd : FuncData} (F : Fun K "_law_found" "_law_found" s__law_found f fd) (T : Txt mg) (D_find : DefOk P w K mg base "find" 13 P_find (SpD C dFind)) : FnOk P w K mg base CX0 14 f fd P__law_found (SpD C dFound) := by
  refine fn_pure F sc__law_found (fun ss k h => ?_) (by decide) fun cdv A outer s H E ss kk hr h => ?_
  · obtain ⟨_, _, e, _⟩ := h
    rw [e]; rfl
  · obtain ⟨p, pat, e, hp, ht, hk⟩ := h
    subst e
    refine ⟨_, (pss_one (ps_ret (pe_callD D_find (hr.mono (by decide)) (by rfl) (pa_cons (pv 0) (pa_cons (pv 1) (pa_cons (pe_tup (pa_cons (pe_fz (pe_lst pa_nil)) (pa_cons (pe_fz (pe_lst pa_nil)) (pa_cons (pe_fz (pe_lst pa_nil)) pa_nil)))) pa_nil)))))), ?_⟩
    walk_at "go"
    exact ⟨hp, ht, fun r hr => ⟨trivial, trivial, hk r hr⟩⟩
/-- the script: a list that is frozen, or one that the top wrote -/
def Scr (K : PySem.W.Frag) (d : Dat) : Prop := (∃ ns : List Int, d = lstI ns ∧ ns.length ≤ 100) ∨ ∃ (a : Addr) (ns : List Int), d = .cls a ∧ ns.length ≤ 100 ∧ ∀ H, SqL K H a (ns.map V.int)
theorem ex_slK {C a : Addr} {env : Sls} {KK : Sl → Sls → Prop} {te : TE} {tlo thi : TO} {F : PySem.W.Frag} {ns : List Int} (hq : ∀ H, SqL F H a (ns.map V.int)) (h : EX C te env fun s e => s = .im (.cls a) ∧ EXO C tlo e fun lo e1 => EXO C thi e1 fun hi e2 => KK (.ow (cutD (ns.map Dat.int) lo hi)) e2) : EX C (tSl (rSlL F) te tlo thi) env KK := fun B H0 σ H R Q q =>
  h B H0 σ H R _ fun s e v H1 ⟨hs, kk⟩ rs fr o R1 ok nw => by
    subst hs
    have ev : v = .ref a := by cases ok; rfl
    subst ev
    refine kk B H0 σ H1 R1 _ fun lo e1 H2 kk2 f2 o2 R2 => ?_
    refine kk2 B H0 σ H2 R2 _ fun hi e2 H3 kk3 f3 o3 R3 => ?_
    have f12 := fr.trans f2 o
    have o12 : ∀ a, Owned σ e1 a → Owned σ env a := fun a w => o a (o2 a w)
    have f13 := f12.trans f3 o12
    have o13 : ∀ a, Owned σ e2 a → Owned σ env a := fun a w => o12 a (o3 a w)
    refine ⟨a, _, rfl, hq H3, fun p hp => ?_⟩
    obtain ⟨okn, sm⟩ := new_ow R3 hp ((Reps.of_ints ns).cut lo hi)
    exact q _ e2 _ _ kk3 trivial (f13.trans (Frm.same sm) o13) o13 (R3.same sm) okn fun _ a ea => by
      cases ea
      exact f13.dom p hp
theorem cut_ints (ns : List Int) (lo hi : Option Int) : ∃ ms : List Int, cutD (ns.map Dat.int) lo hi = ms.map Dat.int := by
  unfold cutD
  exact ⟨(ns.drop (HT.sIx (ns.map Dat.int).length 0 lo)).take (HT.sIx (ns.map Dat.int).length (ns.map Dat.int).length hi - HT.sIx (ns.map Dat.int).length 0 lo), by rw [List.map_take, List.map_drop]⟩
def dPen (K : PySem.W.Frag) : DF := fun ss k => ∃ (d : Dat), ss = [.im d] ∧ Scr K d ∧ ∀ ns', k (.ow (encPen ns' 0 0))
theorem ok__law_pen {f : Addr} {fd : FuncData} (F : Fun K "_law_pen" "_law_pen" s__law_pen f fd) (T : Txt mg) : FnOk P w K mg base CX0 1 f fd P__law_pen (SpD C (dPen K)) := by
  refine fn_pure F sc__law_pen (fun ss k h => ?_) (by decide) fun cdv A outer s H E ss kk hr h => ?_
  · obtain ⟨_, e, _⟩ := h
    rw [e]; rfl
  · obtain ⟨d, e, hs, hk⟩ := h
    subst e
    refine ⟨_, (pss_one (ps_ret (pe_lst (pa_cons (pe_fz (pe_callTy (kk_list K) (by rfl) T.b_list (by decide +kernel) (pa_cons (pe_slice (kk_slL K) (pv 0) po_none (po_some pe_int)) pa_nil))) (pa_cons pe_int (pa_cons pe_int pa_nil)))))), ?_⟩
    rcases hs with ⟨ns, rfl, hl⟩ | ⟨a, ns, rfl, hl, hq⟩
    · walk_at "go"
      obtain ⟨ms, e⟩ := cut_ints ns none (some 60)
      rw [e]
      exact hk ms
    · refine sx_ret (ex_lst (exa_cons (ex_fz (ex_cb (exa_cons (ex_slK hq ?_))))))
      walk_at "go"
      refine ⟨rfl, ?_⟩
      walk_at "go"
      obtain ⟨ms, e⟩ := cut_ints ns none (some 60)
      rw [e]
      exact hk ms
end
end Af
end

section
set_option maxHeartbeats 4000000
namespace Af
open PySem L2
local macro_rules | `(tactic| walk_at "sc") => `(tactic| first | exact ScD.int _ | exact ScD.bl _ | exact ScD.non | exact ScD.str _ | exact ScD.ty _ | exact ScD.cls _)
local macro_rules | `(tactic| walk_at "rx") => `(tactic| first
  | ((with_reducible refine' rx_ixT ?h ?_); (case h => exact rfl))
  | ((with_reducible refine' rx_ixL ?h1 ?h2 ?_); (case h1 => exact rfl); (case h2 => exact rfl))
  | with_reducible refine rx_I0i ?_
  | with_reducible refine rx_I0b ?_
  | ((with_reducible refine' rx_Ii ?h ?_); (case h => first | decide | (show (0 : Int) < _; omega) | exact Or.inr ⟨by decide, by decide⟩ | exact ⟨by decide, by decide, by decide⟩ | exact Or.inl ⟨by omega, by omega⟩ | exact (⟨by omega, by omega⟩ : CDiv _ _)))
  | with_reducible refine rx_eqI ?_
  | with_reducible refine rx_neI ?_
  | with_reducible refine rx_neB ?_
  | with_reducible refine rx_isN ?_
  | with_reducible refine rx_notN ?_
  | with_reducible refine rx_neT ?_
  | ((with_reducible refine' rx_neN ?h1 ?h2 ?_); (case h1 => exact rfl); (case h2 => exact rfl))
  | ((with_reducible refine' rx_eqN ?h1 ?h2 ?_); (case h1 => exact rfl); (case h2 => exact rfl)))
local macro_rules | `(tactic| walk_at "go1") => `(tactic| first
  | with_reducible refine sx_seq ?_
  | ((with_reducible refine' sx_retO ?h ?_); (case h => exact rfl))
  | ((with_reducible refine' sx_retD ?h ?_); (case h => exact rfl))
  | with_reducible refine sx_ret ?_
  | ((with_reducible refine' sx_fldM ?z ?a ?b ?c ?d ?_); (case z => exact rfl); (case a => assumption); (case b => assumption); (case c => assumption); (case d => exact Nat.le_of_ble_eq_true rfl))
  | ((with_reducible refine' sx_append ?h ?_); (case h => exact rfl))
  | ((with_reducible refine' sx_extend ?h ?_); (case h => exact rfl))
  | with_reducible refine sx_drop ?_
  | with_reducible refine sx_retN ?_
  | with_reducible refine sx_next ?_
  | with_reducible refine sx_if ?_
  | with_reducible refine sx_asg ?_
  | with_reducible refine sx_asgT ?_
  | ((with_reducible refine' ex_im ?h ?_); (case h => exact rfl))
  | ((with_reducible refine' ex_ow ?h ?_); (case h => exact rfl))
  | ((with_reducible refine' ex_ro ?h ?_); (case h => exact rfl))
  | ((with_reducible refine' ex_od ?h ?_); (case h => exact rfl))
  | ((with_reducible refine' ex_pn ?h ?_); (case h => exact rfl))
  | ((with_reducible refine' ex_mk ?h ?_); (case h => exact rfl))
  | ((with_reducible refine' ex_ri ?h ?_); (case h => exact rfl))
  | ((with_reducible refine' ex_qi ?h ?_); (case h => exact rfl))
  | ((with_reducible refine' ex_bl ?h ?_); (case h => exact rfl))
  | ((with_reducible refine' ex_c ?h ?_); (case h => walk_at "sc"))
  | with_reducible refine ex_op ?_
  | with_reducible refine ex_andV ?_
  | with_reducible refine ex_orV ?_
  | with_reducible refine ex_notV ?_
  | with_reducible refine ex_if ?_
  | with_reducible refine ex_chain ?_
  | with_reducible refine ex_tup ?_
  | with_reducible refine ex_lst ?_
  | with_reducible refine ex_sortedSet ?_
  | with_reducible refine ex_countN ?_
  | with_reducible refine ex_revL ?_
  | with_reducible refine ex_cb ?_
  | with_reducible refine ex_call ?_
  | with_reducible refine ex_callB ?_
  | with_reducible refine exa_nil ?_
  | with_reducible refine exa_cons ?_
  | with_reducible refine et_test ?_
  | with_reducible refine et_B ?_
  | with_reducible refine et_and ?_
  | with_reducible refine et_or ?_
  | with_reducible refine et_not ?_
  | walk_at "rx"
  | ((with_reducible refine' cx_isi (b := true) ?h ?k ?_); (case h => exact rfl); (case k => decide +kernel))
  | ((with_reducible refine' cx_isi (b := false) ?h ?k ?_); (case h => exact rfl); (case k => decide +kernel))
  | ((with_reducible refine' cx_len ?h ?_); (case h => exact rfl))
  | ((with_reducible refine' cx_list ?h ?_); (case h => exact rfl))
  | ((with_reducible refine' cx_tuple ?h ?_); (case h => exact rfl))
  | ((with_reducible refine' cx_allF ?h ?_); (case h => exact rfl))
  | ((with_reducible refine' cx_anyF ?h ?_); (case h => exact rfl))
  | with_reducible refine cx_intI ?_
  | with_reducible refine cx_intB ?_
  | with_reducible refine ex_fz ?_
  | refine .inl ⟨_, rfl, ?_⟩
  | refine .inr ⟨_, rfl, ?_⟩
  | ((with_reducible refine' sx_par ?_))
  | ((with_reducible refine' sx_dput ?h); (case h => skip))
  | with_reducible refine cx_max2 ?_
  | with_reducible refine cx_min2 ?_
  | ((with_reducible refine' cx_dict ?h ?_); (case h => exact rfl))
  | with_reducible refine ex_make ?_
  | ((with_reducible refine' ex_fzV ?h ?_); (case h => exact rfl))
  | ((with_reducible refine' ex_fzVD ?h ?_); (case h => exact rfl))
  | ((with_reducible refine' ex_start ?pc ?_); (case pc => assumption))
  | ((with_reducible refine' ex_span ?pc ?_); (case pc => assumption))
  | ((with_reducible refine' ex_deeds ?pc ?_); (case pc => assumption))
  | ((with_reducible refine' ex_parts ?pc ?_); (case pc => assumption))
  | ((with_reducible refine' ex_ranks ?pc ?_); (case pc => assumption))
  | with_reducible refine ex_fld ?_
  | with_reducible refine ex_prop ?_
  | with_reducible refine ex_lenSet ?_
  | with_reducible refine ex_neg ?_
  | with_reducible refine ex_dictEnum ?_
  | with_reducible refine ex_dget2 ?_
  | with_reducible refine ex_disp1 ?_
  | with_reducible refine ex_listRg1 ?_
  | with_reducible refine cx_isC ?_
  | with_reducible refine ex_meth ?_
  | with_reducible refine ex_slT ?_
  | with_reducible refine ex_slL ?_
  | with_reducible refine exo_none ?_
  | with_reducible refine exo_some ?_
  | with_reducible refine ex_dget ?_
  | with_reducible refine ex_din ?_
  | with_reducible refine ex_dnotin ?_
  | with_reducible refine ex_dnew ?_
  | with_reducible refine exa_star ?_
  | with_reducible refine iteT ?_
  | with_reducible refine iteF ?_
  | with_reducible refine iteNF ?_
  | with_reducible refine iteNT ?_
  | refine ⟨(trivial : RetOk (Sl.im _)), ?_⟩
  | refine ⟨(trivial : RetOk (Sl.ow _)), ?_⟩
  | refine ⟨[], rfl, Nat.le_of_ble_eq_true rfl, ?_⟩
  | refine ⟨[_], rfl, Nat.le_of_ble_eq_true rfl, ?_⟩
  | refine ⟨[_, _], rfl, Nat.le_of_ble_eq_true rfl, ?_⟩
  | refine ⟨[_, _, _], rfl, Nat.le_of_ble_eq_true rfl, ?_⟩
  | refine ⟨[_, _, _, _, _], rfl, Nat.le_of_ble_eq_true rfl, ?_⟩
  | refine ⟨rfl, rfl, ?_⟩
  | refine ⟨_, _, _, rfl, by assumption, by assumption, rfl, ?_⟩
  | refine ⟨npI, ?_⟩
  | refine ⟨npO, ?_⟩
  | refine ⟨npD, ?_⟩
  | refine ⟨npQ, ?_⟩
  | refine ⟨_, rfl, ?_⟩
  | refine ⟨_, _, rfl, ?_⟩
  | refine ⟨_, _, _, rfl, ?_⟩
  | refine ⟨_, _, _, _, rfl, ?_⟩
  | ((with_reducible refine' andGet ?h ?_); (case h => exact rfl)))
local macro_rules | `(tactic| walk_at "go") => `(tactic| repeat walk_at "go1")
local macro_rules | `(tactic| walk_at "T") => `(tactic| (refine iteE (c := true) rfl ?_; walk_at "go"))
local macro_rules | `(tactic| walk_at "F") => `(tactic| (refine iteE (c := false) rfl ?_; walk_at "go"))
local macro_rules | `(tactic| walk_at "draw") => `(tactic| refine ⟨1, [_], rfl, rfl, _, _, _, _, _, rfl, rfl, by omega, by omega, by omega, by omega, ?_⟩)
section
variable {P : Program} {w : World} {K : PySem.W.Frag} {mg : Str → Option Value} {base : Heap} {C : Addr}
theorem rx_notNO {C : Addr} {env : Sls} {k : Sl → Prop} {ds : List Dat} (h : k (.im (.bl true))) : RX C (fun x y H Q => y = V.non ∧ Q (.bl (!decide (x = .non))) H) (.ow ds) (.im .non) env k := fun B H0 σ H x y R hx hy Q q => by
  refine ⟨rep_non hy, ?_⟩
  rw [isNon_ok hx (fun _ z => nomatch z) (fun z => nomatch z)]
  exact q _ _ _ h trivial (Same.refl _) (.bl _) fun z => z.elim
theorem end_ok {p : Pl} (hp : LpOk p) {x z : Int} (hs : stepOk p.base.length (some (x, [z])) = true) : PlOk (p.ins p.steps.length (some (x, [z]))) := by
  refine ⟨hp.base, hp.w1, Int.le_trans hp.w3 (by decide), ?_, fun s h => ?_, ?_⟩
  · show (p.steps.take p.steps.length ++ some (x, [z]) :: p.steps.drop p.steps.length).length ≤ 40
    have := hp.len
    simp
    omega
  · show stepOk p.base.length s = true
    rcases List.mem_append.mp (show s ∈ p.steps.take p.steps.length ++ some (x, [z]) :: p.steps.drop p.steps.length from h) with h | h
    · exact hp.steps s (List.mem_of_mem_take h)
    · rcases List.mem_cons.mp h with h | h
      · rw [h]; exact hs
      · exact hp.steps s (List.mem_of_mem_drop h)
  · rw [end_parts, List.length_append]
    have h1 := brk_len (i := p.steps.length) (f := x) (w := p.width) (ws := [z])
    have h2 : (brkS p.width (some (x, [z]), p.steps.length)).length = (brk p.steps.length x p.width [z]).length := rfl
    have h3 := hp.parts
    rw [h2]
    simp at h1
    omega
theorem look_out {pat : Pat} {x : Int} (h : (!(lookK (encPD pat) x).isSome) = true) : ∀ q ∈ pat, q.1 ≠ x := fun q hq e => by
  unfold lookK encPD at h
  rw [Option.isSome_map, Bool.not_eq_true', ← Bool.not_eq_true] at h
  exact h (List.find?_isSome.mpr ⟨(q.1, tupI q.2), List.mem_map.mpr ⟨q, hq, rfl⟩, decide_eq_true e⟩)
theorem fall_len {p : Pl} {f : List Int} (h : p.sys.Fall f) : f.length ≤ p.parts.length := by
  have := nd_len (B := poolOf p.parts.length) h.nd fun x hx => pool_mem.mpr (h.pcs x hx)
  have h2 : (poolOf p.parts.length).length = p.parts.length := by unfold poolOf; rw [List.length_map, List.length_range]
  omega
theorem pln_pc (x : Pc) : pln 2 (encPc x) := by
  intro y hy
  rcases List.mem_cons.mp hy with h | hy
  · rw [h]; trivial
  rcases List.mem_cons.mp hy with h | hy
  · rw [h]; trivial
  · rw [List.mem_singleton.mp hy]
    exact pln_ints (n := 0) _
theorem sx_step {C : Addr} {t1 t2 : TS} {env : Sls} {W : Wish} (P : Sls → Prop) (h : SX C t1 env ⟨P, W.rt, W.bk, W.ct⟩) (k : ∀ e, P e → SX C t2 e W) : SX C (tSeq t1 t2) env W := sx_seq (SX.mid P h k)
theorem SX.gen {C : Addr} {t : TS} {env : Sls} {W0 : Wish} (P : Sls → Prop) (h : ∀ W : Wish, (∀ e, P e → W.nx e) → SX C t env W) (k : ∀ e, P e → W0.nx e) : SX C t env W0 := h W0 k
theorem ins_ok {p : Pl} (hp : LpOk p) {n : Nat} (hn : n ≤ p.steps.length) : PlOk (p.ins n none) := by
  refine ⟨hp.base, hp.w1, Int.le_trans hp.w3 (by decide), ?_, fun s hs => ?_, ?_⟩
  · show (p.steps.take n ++ none :: p.steps.drop n).length ≤ 40
    have := hp.len
    simp
    omega
  · show stepOk p.base.length s = true
    rcases List.mem_append.mp (show s ∈ p.steps.take n ++ none :: p.steps.drop n from hs) with h | h
    · exact hp.steps s (List.mem_of_mem_take h)
    · rcases List.mem_cons.mp h with h | h
      · rw [h]; rfl
      · exact hp.steps s (List.mem_of_mem_drop h)
  · rw [ins_len hn]
    exact hp.ok.few
def dLaw (K : PySem.W.Frag) : DF := fun ss k => ∃ (d : Dat), ss = [.im d] ∧ Scr K d ∧ k (.im (.bl true))
theorem ok_law {f : Addr} {fd : FuncData} (F : Fun K "law" "law" s_law f fd) (T : Txt mg) (PC : PlanC K C) (D__law_pen : DefOk P w K mg base "_law_pen" 1 P__law_pen (SpD C (dPen K))) (D__law_plan : DefOk P w K mg base "_law_plan" 5 P__law_plan (SpB C bPlan)) (D__law_plan_of : DefOk P w K mg base "_law_plan_of" 8 P__law_plan_of (SpD C dPlanOf)) (D__law_draw : DefOk P w K mg base "_law_draw" 2 P__law_draw (SpB C bDraw)) (D_Plan_with_step : MetOk P w K mg base C "with_step" 8 P_Plan_with_step (SpD C dWithStep)) (D_Plan_pieces : PrpOk P w K mg base C "pieces" 1 (SpD C dPlPieces)) (D_Plan_without_step : MetOk P w K mg base C "without_step" 8 P_Plan_without_step (SpD C dWithoutStep)) (D__law_pattern : DefOk P w K mg base "_law_pattern" 5 P__law_pattern (SpB C bPattern)) (D__law_fall : DefOk P w K mg base "_law_fall" 4 P__law_fall (SpB C bFall)) (D__law_found : DefOk P w K mg base "_law_found" 14 P__law_found (SpD C dFound)) (D_is_fall : DefOk P w K mg base "is_fall" 4 P_is_fall (SpD C dIsFall)) (D_is_found : DefOk P w K mg base "is_found" 7 P_is_found (SpD C dIsFound)) (D_shut : DefOk P w K mg base "shut" 14 P_shut (SpD C dShut)) (D_content_after : DefOk P w K mg base "content_after" 6 P_content_after (SpD C dAfter)) (D_PlanX_eqX : NeOk P w K mg base C 1 (SpD C dPlEq)) : FnOk P w K mg base CX0 15 f fd P_law (SpD C (dLaw K)) := by
  refine fn_pureB F sc_law (fun ss k h => ?_) (by decide) fun cdv A outer s H E ss kk hr h => ?_
  · obtain ⟨_, e, _⟩ := h
    rw [e]; rfl
  · obtain ⟨d, e, hs, hk⟩ := h
    subst e
    refine ⟨_, (pss_cons (ps_set (i := 1) sc_law.nd rfl (Or.inl rfl) (pe_callD D__law_pen (hr.mono (by decide)) (by rfl) (pa_cons (pv 0) pa_nil)))
      (pss_cons (ps_for (g := (gName 2)) PassesOwn.never rfl (pi_range1 (by rfl) T.b_range (pa_cons pe_int pa_nil)) (pg_name (i := 2) sc_law.nd rfl (Or.inl rfl)) (pss_cons (ps_set (i := 3) sc_law.nd rfl (Or.inl rfl) (pe_callD D__law_plan (hr.mono (by decide)) (by rfl) (pa_cons (pv 1) (pa_cons pe_int pa_nil))))
      (pss_cons (ps_set (i := 4) sc_law.nd rfl (Or.inl rfl) (pe_callD D__law_plan_of (hr.mono (by decide)) (by rfl) (pa_cons (pv 3) pa_nil)))
      (pss_cons (ps_set (i := 5) sc_law.nd rfl (Or.inl rfl) (pe_callD D__law_draw (hr.mono (by decide)) (by rfl) (pa_cons (pv 1) (pa_cons (pe_op op_add (pe_callB (kk_len K) (by rfl) T.b_len (by decide +kernel) (pa_cons (pe_ix (kk_ixT K) (pv 3) pe_int (fun _ _ => rfl)) pa_nil)) pe_int) pa_nil))))
      (pss_cons (ps_set (i := 6) sc_law.nd rfl (Or.inl rfl) (pe_methD D_Plan_with_step (pv 4) (hr.mono (by decide)) (pa_cons (pv 5) (pa_cons pe_non pa_nil))))
      (pss_cons (ps_for (g := (gName 7)) PassesOwn.never rfl (pi_range1 (by rfl) T.b_range (pa_cons (pe_callB (kk_len K) (by rfl) T.b_len (by decide +kernel) (pa_cons (pe_propD D_Plan_pieces (pv 4) (hr.mono (by decide)) rfl) pa_nil)) pa_nil)) (pg_name (i := 7) sc_law.nd rfl (Or.inl rfl)) (pss_cons (ps_asg (pe_ix (kk_ixL K) (pe_propD D_Plan_pieces (pv 4) (hr.mono (by decide)) rfl) (pv 7) (fun _ _ => rfl)) (pg_tup rfl (t := gNames [8, 9, 10]) (pgs_cons (pg_name (i := 8) sc_law.nd rfl (Or.inl rfl)) (pgs_cons (pg_name (i := 9) sc_law.nd rfl (Or.inl rfl)) (pgs_cons (pg_name (i := 10) sc_law.nd rfl (Or.inl rfl)) pgs_nil)))))
      (pss_one (ps_if (pt_cmpR (kk_neD K hr.units) (pe_ix (kk_ixL K) (pe_propD D_Plan_pieces (pv 6) (hr.mono (by decide)) rfl) (pv 7) (fun _ _ => rfl)) (pe_tup (pa_cons (pe_op op_add (pv 8) (pe_callTy call_int1 (by rfl) T.b_int (by decide +kernel) (pa_cons (pe_cmpR op_ge (pv 8) (pv 5) (nomark _)) pa_nil))) (pa_cons (pv 9) (pa_cons (pv 10) pa_nil)))) (nomark _)) (pss_one (ps_ret pe_bl)) pss_nil))))
      (pss_cons (ps_if (pt_cmpR (op_nePD D_PlanX_eqX (hr.mono (by decide))) (pe_methD D_Plan_without_step (pv 6) (hr.mono (by decide)) (pa_cons (pv 5) pa_nil)) (pv 4) (nomark _)) (pss_one (ps_ret pe_bl)) pss_nil)
      (pss_one (ps_for (g := (gName 11)) PassesOwn.never rfl (pi_range1 (by rfl) T.b_range (pa_cons pe_int pa_nil)) (pg_name (i := 11) sc_law.nd rfl (Or.inl rfl)) (pss_cons (ps_asg (pe_tup (pa_cons (pe_fz (pe_callD D__law_pattern (hr.mono (by decide)) (by rfl) (pa_cons (pv 1) (pa_cons (pv 3) pa_nil)))) (pa_cons (pe_fz (pe_callD D__law_fall (hr.mono (by decide)) (by rfl) (pa_cons (pv 1) (pa_cons (pv 3) pa_nil)))) pa_nil))) (pg_tup rfl (t := gNames [12, 13]) (pgs_cons (pg_name (i := 12) sc_law.nd rfl (Or.inr rfl)) (pgs_cons (pg_name (i := 13) sc_law.nd rfl (Or.inl rfl)) pgs_nil))))
      (pss_cons (ps_set (i := 14) sc_law.nd rfl (Or.inl rfl) (pe_callD D__law_found (hr.mono (by decide)) (by rfl) (pa_cons (pv 6) (pa_cons (pv 12) pa_nil))))
      (pss_cons (ps_if (pt_cmpR op_notN (pv 14) pe_non (nomark _)) (pss_cons (ps_if (PW.pt (pw_or (pt_not (pt_val (pe_callD D_is_fall (hr.mono (by decide)) (by rfl) (pa_cons (pv 4) (pa_cons (pv 14) pa_nil))))) (pw_or1 (pt_not (pt_val (pe_callD D_is_found (hr.mono (by decide)) (by rfl) (pa_cons (pv 4) (pa_cons (pv 14) (pa_cons (pv 12) pa_nil))))))))) (pss_one (ps_ret pe_bl)) pss_nil)
      (pss_one (ps_if (pt_cmpR op_isN (pe_callD D__law_found (hr.mono (by decide)) (by rfl) (pa_cons (pv 4) (pa_cons (pv 12) pa_nil))) pe_non (nomark _)) (pss_one (ps_ret pe_bl)) pss_nil))) pss_nil)
      (pss_cons (ps_set (i := 15) sc_law.nd rfl (Or.inl rfl) (pe_callD D__law_found (hr.mono (by decide)) (by rfl) (pa_cons (pv 4) (pa_cons (pv 12) pa_nil))))
      (pss_cons (ps_if (pt_cmpR op_ne (pe_cmpR op_isN (pv 15) pe_non (nomark _)) (pe_cmpR op_notN (pe_callD D_shut (hr.mono (by decide)) (by rfl) (pa_cons (pv 4) (pa_cons (pv 12) (pa_cons (pe_tup (pa_cons (pe_fz (pe_lst pa_nil)) (pa_cons (pe_fz (pe_lst pa_nil)) (pa_cons (pe_fz (pe_lst pa_nil)) pa_nil)))) pa_nil)))) pe_non (nomark _)) (nomark _)) (pss_one (ps_ret pe_bl)) pss_nil)
      (pss_cons (ps_if (PW.pt (pw_and (pt_val (pe_callD D_is_fall (hr.mono (by decide)) (by rfl) (pa_cons (pv 6) (pa_cons (pv 13) pa_nil)))) (pw_and1 (pt_cmpR (kk_neD K hr.units) (pe_callD D_content_after (hr.mono (by decide)) (by rfl) (pa_cons (pv 6) (pa_cons (pv 13) pa_nil))) (pe_callD D_content_after (hr.mono (by decide)) (by rfl) (pa_cons (pv 4) (pa_cons (pv 13) pa_nil))) (nomark _))))) (pss_one (ps_ret pe_bl)) pss_nil)
      (pss_cons (ps_setLc (i := 16) (own := [("_law_k", 7)]) (g := (gName 7)) rfl sc_law.nd rfl rfl (sw_true rfl rfl rfl (by decide +kernel)) (pi_range1 (by rfl) T.b_range (pa_cons (pe_callB (kk_len K) (by rfl) T.b_len (by decide +kernel) (pa_cons (pe_ix (kk_ixT K) (pv 3) pe_int (fun _ _ => rfl)) pa_nil)) pa_nil)) (blkOk_by (own := [("_law_k", 7)]) (N := N_law) (sc := defScope s_law) (by decide +kernel)) (fun _ _ _ _ _ => (pg_name (i := 7) sc_law.nd rfl (Or.inl rfl))) (fun _ _ _ _ _ => (pts_one (pt_cmp (pc_dnotin (hu_of hr) (pv 7) (pv 12)) rfl))) (fun _ _ _ _ _ => (pv 7)))
      (pss_one (ps_if (pt_cmpR (kk_neD K hr.units) (pv 16) (pe_fz (pe_lst pa_nil)) (nomark _)) (pss_cons (ps_set (i := 17) sc_law.nd rfl (Or.inl rfl) (pe_ix (kk_ixL K) (pv 16) (pe_callD D__law_draw (hr.mono (by decide)) (by rfl) (pa_cons (pv 1) (pa_cons (pe_callB (kk_len K) (by rfl) T.b_len (by decide +kernel) (pa_cons (pv 16) pa_nil)) pa_nil))) (fun _ _ => rfl)))
      (pss_one (ps_for (g := (gName 18)) PassesOwn.never rfl (kk_pit K (pe_tup (pa_cons pe_non (pa_cons (pe_tup (pa_cons (pv 17) (pa_cons (pe_tup (pa_cons (pe_callD D__law_draw (hr.mono (by decide)) (by rfl) (pa_cons (pv 1) (pa_cons pe_int pa_nil))) pa_nil)) pa_nil))) pa_nil)))) (pg_name (i := 18) sc_law.nd rfl (Or.inl rfl)) (pss_cons (ps_set (i := 19) sc_law.nd rfl (Or.inl rfl) (pe_methD D_Plan_with_step (pv 4) (hr.mono (by decide)) (pa_cons (pe_callB (kk_len K) (by rfl) T.b_len (by decide +kernel) (pa_cons (pe_ix (kk_ixT K) (pv 3) pe_int (fun _ _ => rfl)) pa_nil)) (pa_cons (pv 18) pa_nil))))
      (pss_one (ps_if (pt_cmpR op_ne (pe_cmpR op_isN (pe_callD D__law_found (hr.mono (by decide)) (by rfl) (pa_cons (pv 19) (pa_cons (pv 12) pa_nil))) pe_non (nomark _)) (pe_cmpR op_isN (pv 15) pe_non (nomark _)) (nomark _)) (pss_one (ps_ret pe_bl)) pss_nil)))))) pss_nil))))))))))))))))))
      (pss_one (ps_ret pe_bl)))), ?_⟩
    refine sxb_seq (sxb_of ?_)
    walk_at "go"
    refine ⟨hs, fun ns => ⟨trivial, npO, ?_⟩⟩
    refine sxb_lend (i := 1) rfl fun a => ?_
    refine (?_ : SX C _ [.im d, .bl a (encPen ns 0 0), .un, .un, .un, .un, .un, .un, .un, .un, .un, .un, .un, .un, .un, .un, .un, .un, .un, .un] _)
    refine sx_seq (sx_for (ix_range1 tg_name ?_))
    walk_at "go"
    refine ⟨by decide, by decide, fun pre e => ∃ (i v : Int) (s2 s3 s4 s5 s6 s7 s8 s9 s10 s11 s12 s13 s14 s15 s16 s17 s18 s19 : Sl), 0 ≤ i ∧ i ≤ 5000 * pre.length ∧ e = [.im d, .bl a (encPen ns i v), s2, s3, s4, s5, s6, s7, s8, s9, s10, s11, s12, s13, s14, s15, s16, s17, s18, s19], ⟨0, 0, .un, .un, .un, .un, .un, .un, .un, .un, .un, .un, .un, .un, .un, .un, .un, .un, .un, .un, by omega, by simp, rfl⟩, ?_, ?_⟩
    · rintro pre x post e hd ⟨i, v, s2, s3, s4, s5, s6, s7, s8, s9, s10, s11, s12, s13, s14, s15, s16, s17, s18, s19, hi0, hi1, rfl⟩
      obtain ⟨hpl, rfl⟩ := rgD_at hd
      have hpre : (pre.length : Int) < 6 := by
        have : pre.length < 6 := hpl
        omega
      refine sx_forget 3 (sx_forget 4 (sx_forget 5 (sx_forget 6 (sx_forget 7 (sx_forget 8 (sx_forget 9 (sx_forget 10 (sx_forget 11 (sx_forget 12 (sx_forget 13 (sx_forget 14 (sx_forget 15 (sx_forget 16 (sx_forget 17 (sx_forget 18 (sx_forget 19 ?_))))))))))))))))
      refine (?_ : SX C _ [.im d, .bl a (encPen ns i v), .im (.int (0 + (pre.length : Int) * 1)), .un, .un, .un, .un, .un, .un, .un, .un, .un, .un, .un, .un, .un, .un, .un, .un, .un] _)
      generalize Dat.int (0 + (pre.length : Int) * 1) = d2
      refine SX.gen (fun e => ∃ (i' v' : Int) (s2 s3 s4 s5 s6 s7 s8 s9 s10 s11 s12 s13 s14 s15 s16 s17 s18 s19 : Sl), 0 ≤ i' ∧ i' ≤ i + 5000 ∧ e = [.im d, .bl a (encPen ns i' v'), s2, s3, s4, s5, s6, s7, s8, s9, s10, s11, s12, s13, s14, s15, s16, s17, s18, s19]) (fun W hW => ?_) ?_
      rotate_left 1
      · rintro e ⟨i', v', s2, s3, s4, s5, s6, s7, s8, s9, s10, s11, s12, s13, s14, s15, s16, s17, s18, s19, h1, h2, rfl⟩
        exact ⟨i', v', s2, s3, s4, s5, s6, s7, s8, s9, s10, s11, s12, s13, s14, s15, s16, s17, s18, s19, h1, by simp; omega, rfl⟩
      refine sx_step (fun e => ∃ (p : Pl) (i' v' : Int), LpOk p ∧ i ≤ i' ∧ i' ≤ i + 100 ∧ e = [.im d, .bl a (encPen ns i' v'), .im d2, .im (encLP p), .un, .un, .un, .un, .un, .un, .un, .un, .un, .un, .un, .un, .un, .un, .un, .un]) ?_ ?_
      · walk_at "go"
        exact ⟨1, [_], rfl, rfl, a, ns, i, v, rfl, rfl, by omega, by omega, fun p i1 v1 hp hi2 hi3 => ⟨trivial, npI, p, i1, v1, hp, hi2, hi3, rfl⟩⟩
      rintro e ⟨p, i1, v1, hp, hi2, hi3, rfl⟩
      have hpo := hp.ok
      have hst : StepsOk p := hp.steps
      have hlen := hp.len
      refine sx_step (fun e => e = [.im d, .bl a (encPen ns i1 v1), .im d2, .im (encLP p), .im p.enc, .un, .un, .un, .un, .un, .un, .un, .un, .un, .un, .un, .un, .un, .un, .un]) ?_ ?_
      · walk_at "go"
        exact ⟨hpo, trivial, npI, rfl⟩
      rintro e rfl
      refine sx_step (fun e => ∃ (n : Nat) (i' v' : Int), n ≤ p.steps.length ∧ i1 ≤ i' ∧ i' ≤ i1 + 1 ∧ e = [.im d, .bl a (encPen ns i' v'), .im d2, .im (encLP p), .im p.enc, .im (.int (n : Nat)), .un, .un, .un, .un, .un, .un, .un, .un, .un, .un, .un, .un, .un, .un]) ?_ ?_
      · walk_at "go"
        have hsl : (p.steps.map encStp).length = p.steps.length := List.length_map ..
        walk_at "draw"
        rintro z i2 v2 hz0 hz1 hi4 hi5
        rw [hsl] at hz1
        refine ⟨trivial, npI, z.toNat, i2, v2, by omega, hi4, hi5, ?_⟩
        rw [Int.toNat_of_nonneg hz0]
        exact rfl
      rintro e ⟨n, i2, v2, hn, hi4, hi5, rfl⟩
      have hpi : PlOk (p.ins n none) := ins_ok hp hn
      refine sx_step (fun e => e = [.im d, .bl a (encPen ns i2 v2), .im d2, .im (encLP p), .im p.enc, .im (.int (n : Nat)), .im (p.ins n none).enc, .un, .un, .un, .un, .un, .un, .un, .un, .un, .un, .un, .un, .un]) ?_ ?_
      · walk_at "go"
        refine ⟨rfl, ?_⟩
        walk_at "go"
        exact ⟨p, n, none, rfl, hpo, hn, rfl, hpi, trivial, npI, rfl⟩
      rintro e rfl
      refine sx_step (fun e => ∃ s7 s8 s9 s10, e = [.im d, .bl a (encPen ns i2 v2), .im d2, .im (encLP p), .im p.enc, .im (.int (n : Nat)), .im (p.ins n none).enc, s7, s8, s9, s10, .un, .un, .un, .un, .un, .un, .un, .un, .un]) ?_ ?_
      · refine sx_for (ix_range1 tg_name ?_)
        walk_at "go"
        have hpf := hpo.few
        have hpm : (p.parts.map encPc).length = p.parts.length := List.length_map ..
        refine ⟨by omega, by omega, fun pre2 e => ∃ s7 s8 s9 s10, e = [.im d, .bl a (encPen ns i2 v2), .im d2, .im (encLP p), .im p.enc, .im (.int (n : Nat)), .im (p.ins n none).enc, s7, s8, s9, s10, .un, .un, .un, .un, .un, .un, .un, .un, .un], ⟨.un, .un, .un, .un, rfl⟩, ?_, ?_⟩
        · rintro pre2 x2 post2 e hd2 ⟨s7, s8, s9, s10, rfl⟩
          obtain ⟨hpl2, rfl⟩ := rgD_at hd2
          have hr1 : (0 : Int) + (pre2.length : Int) * 1 = ((pre2.length : Nat) : Int) := by omega
          rw [hr1]
          have hk1 : pre2.length < p.parts.length := by omega
          obtain ⟨x, hx⟩ : ∃ x, p.parts[pre2.length]? = some x := ⟨_, List.getElem?_eq_getElem hk1⟩
          have hat : L2.atI (p.parts.map encPc) ((pre2.length : Nat) : Int) = some (encPc x) := atI_of (by omega) (by rw [Int.toNat_natCast, List.getElem?_map, hx]; rfl)
          have hat2 : L2.atI ((p.ins n none).parts.map encPc) ((pre2.length : Nat) : Int) = some (encPc (shK n x)) := atI_of (by omega) (by rw [Int.toNat_natCast, List.getElem?_map, ins_parts hn, List.getElem?_map, hx]; rfl)
          walk_at "go"
          refine rx_ixL rfl hat ?_
          refine ⟨[_, _, _], rfl, rfl, rfl, ?_⟩
          walk_at "go"
          refine rx_ixL rfl hat2 ?_
          walk_at "go"
          refine rx_neD 2 false rfl rfl (pln_pc _) (pln_pc (_, _, _)) (by decide) ?_ ?_
          · refine ⟨fun h => (nomatch h), fun h => absurd ?_ h⟩
            unfold shK
            by_cases hc : (n : Int) ≤ x.1 <;> simp [hc]
          walk_at "go"
          exact ⟨_, _, _, _, rfl⟩
        · rintro e ⟨s7, s8, s9, s10, rfl⟩
          exact ⟨s7, s8, s9, s10, rfl⟩
      rintro e ⟨s7, s8, s9, s10, rfl⟩
      refine sx_forget 7 (sx_forget 8 (sx_forget 9 (sx_forget 10 ?_)))
      refine (?_ : SX C _ [.im d, .bl a (encPen ns i2 v2), .im d2, .im (encLP p), .im p.enc, .im (.int (n : Nat)), .im (p.ins n none).enc, .un, .un, .un, .un, .un, .un, .un, .un, .un, .un, .un, .un, .un] _)
      refine sx_step (fun e => e = [.im d, .bl a (encPen ns i2 v2), .im d2, .im (encLP p), .im p.enc, .im (.int (n : Nat)), .im (p.ins n none).enc, .un, .un, .un, .un, .un, .un, .un, .un, .un, .un, .un, .un, .un]) ?_ ?_
      · walk_at "go"
        have hnl : n < (p.ins n none).steps.length := by
          show n < (p.steps.take n ++ none :: p.steps.drop n).length
          simp
          omega
        have hde : (p.ins n none).del n = p := ins_del hn
        refine ⟨rfl, ?_⟩
        walk_at "go"
        refine ⟨hpi, hnl, by rw [hde]; exact hpo, trivial, ?_⟩
        rw [hde]
        walk_at "go"
        refine rx_neO ⟨p, rfl, hpo, trivial, true, rfl, ?_⟩
        walk_at "go"
        exact rfl
      rintro e rfl
      refine sx_for (ix_range1 tg_name ?_)
      walk_at "go"
      refine ⟨by decide, by decide, fun pre2 e => ∃ (i' v' : Int) (s7 s11 s12 s13 s14 s15 s16 s17 s18 s19 : Sl), i2 ≤ i' ∧ i' ≤ i2 + 500 * pre2.length ∧ e = [.im d, .bl a (encPen ns i' v'), .im d2, .im (encLP p), .im p.enc, .im (.int (n : Nat)), .im (p.ins n none).enc, s7, .un, .un, .un, s11, s12, s13, s14, s15, s16, s17, s18, s19], ⟨i2, v2, .un, .un, .un, .un, .un, .un, .un, .un, .un, .un, by omega, by simp, rfl⟩, ?_, ?_⟩
      · rintro pre2 x2 post2 e hd2 ⟨i3, v3, s7, s11, s12, s13, s14, s15, s16, s17, s18, s19, hi6, hi7, rfl⟩
        obtain ⟨hpl2, rfl⟩ := rgD_at hd2
        have hpre2 : (pre2.length : Int) < 6 := by
          have : pre2.length < 6 := hpl2
          omega
        refine sx_forget 7 (sx_forget 12 (sx_forget 13 (sx_forget 14 (sx_forget 15 (sx_forget 16 (sx_forget 17 (sx_forget 18 (sx_forget 19 ?_))))))))
        refine (?_ : SX C _ [.im d, .bl a (encPen ns i3 v3), .im d2, .im (encLP p), .im p.enc, .im (.int (n : Nat)), .im (p.ins n none).enc, .un, .un, .un, .un, .im (.int (0 + (pre2.length : Int) * 1)), .un, .un, .un, .un, .un, .un, .un, .un] _)
        generalize Dat.int (0 + (pre2.length : Int) * 1) = d11
        refine SX.gen (fun e => ∃ (i' v' : Int) (s7 s11 s12 s13 s14 s15 s16 s17 s18 s19 : Sl), i3 ≤ i' ∧ i' ≤ i3 + 500 ∧ e = [.im d, .bl a (encPen ns i' v'), .im d2, .im (encLP p), .im p.enc, .im (.int (n : Nat)), .im (p.ins n none).enc, s7, .un, .un, .un, s11, s12, s13, s14, s15, s16, s17, s18, s19]) (fun W2 hW2 => ?_) ?_
        rotate_left 1
        · rintro e ⟨i', v', s7, s11, s12, s13, s14, s15, s16, s17, s18, s19, h1, h2, rfl⟩
          exact ⟨i', v', s7, s11, s12, s13, s14, s15, s16, s17, s18, s19, by omega, by simp; omega, rfl⟩
        refine sx_step (fun e => ∃ (pat : Pat) (cf : List Int) (i' v' : Int), PatOk p.base.length pat ∧ cf.Nodup ∧ cf.length ≤ 80 ∧ i3 ≤ i' ∧ i' ≤ i3 + 300 ∧ e = [.im d, .bl a (encPen ns i' v'), .im d2, .im (encLP p), .im p.enc, .im (.int (n : Nat)), .im (p.ins n none).enc, .un, .un, .un, .un, .im d11, .im (encPat pat), .im (lstI cf), .un, .un, .un, .un, .un, .un]) ?_ ?_
        · walk_at "go"
          refine ⟨1, [_], rfl, rfl, a, ns, i3, v3, p, rfl, rfl, by omega, by omega, hp, fun pat i4 v4 ht h1 h2 => ⟨trivial, .inr ⟨_, rfl, ?_⟩⟩⟩
          walk_at "go"
          refine ⟨1, [_], rfl, rfl, a, ns, i4, v4, p, rfl, rfl, by omega, by omega, hp, fun cf i5 v5 nf hf lf h3 h4 => ⟨trivial, .inl ⟨_, rfl, ?_⟩⟩⟩
          walk_at "go"
          exact ⟨pat, cf, i5, v5, ht, nf, lf, by omega, by omega, rfl⟩
        rintro e ⟨pat, cf, i4, v4, ht, nf, lf, hi8, hi9, rfl⟩
        refine sx_step (fun e => ∃ r, Fd (p.ins n none) pat r ∧ e = [.im d, .bl a (encPen ns i4 v4), .im d2, .im (encLP p), .im p.enc, .im (.int (n : Nat)), .im (p.ins n none).enc, .un, .un, .un, .un, .im d11, .im (encPat pat), .im (lstI cf), .im (encFd r), .un, .un, .un, .un, .un]) ?_ ?_
        · walk_at "go"
          exact ⟨hpi, ht, fun r hr => ⟨trivial, npI, r, hr, rfl⟩⟩
        rintro e ⟨r, hr, rfl⟩
        refine sx_step (fun e => e = [.im d, .bl a (encPen ns i4 v4), .im d2, .im (encLP p), .im p.enc, .im (.int (n : Nat)), .im (p.ins n none).enc, .un, .un, .un, .un, .im d11, .im (encPat pat), .im (lstI cf), .im (encFd r), .un, .un, .un, .un, .un]) ?_ ?_
        · cases hr with
          | no h =>
            walk_at "go"
            walk_at "F"
            exact rfl
          | yes hF hM =>
            rename_i g
            have hF2 : p.sys.Fall g := ins_fall hst hn hF
            have hM2 : p.sys.Met pat g := (ins_met hn).mp hM
            have hgl := fall_len hF2
            have hpf := hpo.few
            walk_at "go"
            walk_at "T"
            refine ⟨hpo, by omega, hF2.nd, trivial, fallB p g, rfl, ?_⟩
            rw [fall_iff.mpr hF2]
            walk_at "go"
            refine ⟨hpo, by omega, hF2, ht, trivial, isMet pat (p.over p.base g), rfl, ?_⟩
            rw [(met_iff hst ht).mpr hM2]
            walk_at "go"
            refine ⟨hpo, ht, fun r2 hr2 => ?_⟩
            cases hr2 with
            | no h => exact absurd ⟨g, hF2, hM2⟩ h
            | yes _ _ =>
              walk_at "go"
              walk_at "F"
              exact rfl
        rintro e rfl
        have hqp : HasFall (p.ins n none) pat → HasFall p pat := ins_has hst hn
        refine sx_step (fun e => ∃ r2, Fd p pat r2 ∧ e = [.im d, .bl a (encPen ns i4 v4), .im d2, .im (encLP p), .im p.enc, .im (.int (n : Nat)), .im (p.ins n none).enc, .un, .un, .un, .un, .im d11, .im (encPat pat), .im (lstI cf), .im (encFd r), .im (encFd r2), .un, .un, .un, .un]) ?_ ?_
        · walk_at "go"
          exact ⟨hpo, ht, fun r2 hr2 => ⟨trivial, npI, r2, hr2, rfl⟩⟩
        rintro e ⟨r2, hr2, rfl⟩
        refine sx_step (fun e => e = [.im d, .bl a (encPen ns i4 v4), .im d2, .im (encLP p), .im p.enc, .im (.int (n : Nat)), .im (p.ins n none).enc, .un, .un, .un, .un, .im d11, .im (encPat pat), .im (lstI cf), .im (encFd r), .im (encFd r2), .un, .un, .un, .un]) ?_ ?_
        · cases r2 with
          | none =>
            have hno := hr2.isNone.mp rfl
            walk_at "go"
            refine ⟨hpo, ht, fun f2 h2 => ?_, fun _ ds => ?_⟩
            · cases h2 with
              | yes a b => exact absurd ⟨_, a, b⟩ hno
            · walk_at "go"
              refine rx_notNO ?_
              walk_at "go"
              try walk_at "F"
              exact rfl
          | some g2 =>
            have hyes : HasFall p pat := by
              cases hr2 with
              | yes a b => exact ⟨_, a, b⟩
            walk_at "go"
            refine ⟨hpo, ht, fun f2 h2 => ?_, fun h2 => ?_⟩
            · walk_at "go"
              walk_at "F"
              exact rfl
            · exact absurd hyes (h2.isNone.mp rfl)
        rintro e rfl
        refine sx_step (fun e => e = [.im d, .bl a (encPen ns i4 v4), .im d2, .im (encLP p), .im p.enc, .im (.int (n : Nat)), .im (p.ins n none).enc, .un, .un, .un, .un, .im d11, .im (encPat pat), .im (lstI cf), .im (encFd r), .im (encFd r2), .un, .un, .un, .un]) ?_ ?_
        · walk_at "go"
          refine ⟨hpi, by omega, nf, trivial, fallB (p.ins n none) cf, rfl, ?_⟩
          cases hc : fallB (p.ins n none) cf with
          | false =>
            walk_at "F"
            exact rfl
          | true =>
            have hcq : (p.ins n none).sys.Fall cf := fall_iff.mp hc
            have hcp : p.sys.Fall cf := ins_fall hst hn hcq
            walk_at "T"
            refine ⟨hpi, by omega, hcq, trivial, ?_⟩
            walk_at "go"
            refine ⟨hpo, by omega, hcp, trivial, ?_⟩
            walk_at "go"
            refine rx_neD 1 false rfl rfl (pln_ints _) (pln_ints _) (by decide) ⟨fun h => (nomatch h), fun h => absurd ?_ h⟩ ?_
            · exact congrArg tupI (ins_over hn p.base cf)
            walk_at "go"
            try walk_at "F"
            exact rfl
        rintro e rfl
        have hb5 := hp.b5
        refine sx_step (fun e => ∃ fr : List Int, (∀ x ∈ fr, (0 ≤ x ∧ x < (p.base.length : Int)) ∧ ∀ q ∈ pat, q.1 ≠ x) ∧ fr.length ≤ 5 ∧ e = [.im d, .bl a (encPen ns i4 v4), .im d2, .im (encLP p), .im p.enc, .im (.int (n : Nat)), .im (p.ins n none).enc, .un, .un, .un, .un, .im d11, .im (encPat pat), .im (lstI cf), .im (encFd r), .im (encFd r2), .ow (fr.map Dat.int), .un, .un, .un]) ?_ ?_
        · walk_at "go"
          refine ex_lcT (by decide) (ix_range1 tg_name ?_)
          walk_at "go"
          have hbl : (p.base.map Dat.int).length = p.base.length := List.length_map ..
          rw [hbl]
          refine ⟨by omega, by omega, by rw [rgD_len]; omega, ⟨trivial, trivial⟩, Nat, List.range p.base.length, (fun j => .int (0 + (j : Int) * 1)), (fun j => !(lookK (encPD pat) (0 + (j : Int) * 1)).isSome), (fun j => .int (0 + (j : Int) * 1)), rfl, fun j hj => ?_, fun j hj _ => ?_, ?_⟩
          · walk_at "go"
            exact ⟨rfl, rfl⟩
          · walk_at "go"
            exact ⟨rfl, rfl⟩
          refine ⟨npO, ((List.range p.base.length).filter fun (j : Nat) => !(lookK (encPD pat) (0 + (j : Int) * 1)).isSome).map (fun (j : Nat) => 0 + (j : Int) * 1), fun x hx => ?_, ?_, ?_⟩
          · obtain ⟨j, hj, rfl⟩ := List.mem_map.mp hx
            rw [List.mem_filter, List.mem_range] at hj
            exact ⟨by omega, look_out hj.2⟩
          · rw [List.length_map]
            exact Nat.le_trans (List.length_filter_le _ _) (by rw [List.length_range]; exact hb5)
          · rw [List.map_map]
            exact rfl
        rintro e ⟨fr, hfr, hfl, rfl⟩
        walk_at "go"
        cases hfn : fr.isEmpty with
        | true =>
          walk_at "F"
          exact hW2 _ ⟨i4, v4, .un, .im d11, .im (encPat pat), .im (lstI cf), .im (encFd r), .im (encFd r2), .ow (fr.map Dat.int), .un, .un, .un, by omega, by omega, rfl⟩
        | false =>
          have hfml : (fr.map Dat.int).length = fr.length := List.length_map ..
          have hfp : 0 < fr.length := List.length_pos_iff.mpr fun h => by rw [h] at hfn; cases hfn
          refine iteE (c := true) (by rfl) ?_
          rw [if_pos rfl]
          refine sx_step (fun e => ∃ x i' v', x ∈ fr ∧ i4 ≤ i' ∧ i' ≤ i4 + 1 ∧ e = [.im d, .bl a (encPen ns i' v'), .im d2, .im (encLP p), .im p.enc, .im (.int (n : Nat)), .im (p.ins n none).enc, .un, .un, .un, .un, .im d11, .im (encPat pat), .im (lstI cf), .im (encFd r), .im (encFd r2), .ow (fr.map Dat.int), .im (.int x), .un, .un]) ?_ ?_
          · walk_at "go"
            walk_at "draw"
            rintro z i5 v5 hz0 hz1 hi10 hi11
            rw [hfml] at hz1
            obtain ⟨y, hy⟩ : ∃ y, fr[z.toNat]? = some y := ⟨_, List.getElem?_eq_getElem (by omega)⟩
            refine ⟨trivial, rx_ixL rfl (d := .int y) (atI_of hz0 (by rw [List.getElem?_map, hy]; rfl)) ?_⟩
            exact ⟨npI, y, i5, v5, List.mem_of_getElem? hy, hi10, hi11, rfl⟩
          rintro e ⟨x, i5, v5, hxm, hi10, hi11, rfl⟩
          have hx := hfr x hxm
          have hsl : (p.steps.map encStp).length = p.steps.length := List.length_map ..
          refine sx_for (ix_tup tg_name ?_)
          walk_at "go"
          walk_at "draw"
          rintro z i6 v6 hz0 hz1 hi12 hi13
          refine ⟨trivial, ?_⟩
          walk_at "go"
          have hst2 : ∀ d ∈ ([Dat.non, .tup [.int x, .tup [.int z]]] : List Dat), ∃ st : Stp, d = encStp st ∧ Free st pat ∧ stepOk p.base.length st = true ∧ PlOk (p.ins p.steps.length st) := fun d hd => by
            rcases List.mem_cons.mp hd with h | h
            · exact ⟨none, h, ⟨fun _ _ e => nomatch e⟩, rfl, ins_ok hp (Nat.le_refl _)⟩
            · have hso : stepOk p.base.length (some (x, [z])) = true := stepOk_iff.mpr ⟨hx.1, worths_of (by simp) (fun y hy => by rw [List.mem_singleton.mp hy]; exact ⟨hz0, hz1⟩), by simp; omega⟩
              exact ⟨some (x, [z]), List.mem_singleton.mp h, ⟨fun f ws e => by cases e; exact ⟨z, rfl, hx.2⟩⟩, hso, end_ok hp hso⟩
          refine ⟨fun _ _ => trivial, fun pre3 e => ∃ s18 s19, e = [.im d, .bl a (encPen ns i6 v6), .im d2, .im (encLP p), .im p.enc, .im (.int (n : Nat)), .im (p.ins n none).enc, .un, .un, .un, .un, .im d11, .im (encPat pat), .im (lstI cf), .im (encFd r), .im (encFd r2), .ow (fr.map Dat.int), .im (.int x), s18, s19], ⟨.un, .un, rfl⟩, ?_, ?_⟩
          · rintro pre3 d3 post3 e hd3 ⟨s18, s19, rfl⟩
            obtain ⟨st, rfl, hfree, hso, hpw⟩ := hst2 d3 (by rw [hd3]; simp)
            refine sx_forget 19 ?_
            refine (?_ : SX C _ [.im d, .bl a (encPen ns i6 v6), .im d2, .im (encLP p), .im p.enc, .im (.int (n : Nat)), .im (p.ins n none).enc, .un, .un, .un, .un, .im d11, .im (encPat pat), .im (lstI cf), .im (encFd r), .im (encFd r2), .ow (fr.map Dat.int), .im (.int x), .im (encStp st), .un] _)
            refine sx_seq (SX.mid (fun e => e = [.im d, .bl a (encPen ns i6 v6), .im d2, .im (encLP p), .im p.enc, .im (.int (n : Nat)), .im (p.ins n none).enc, .un, .un, .un, .un, .im d11, .im (encPat pat), .im (lstI cf), .im (encFd r), .im (encFd r2), .ow (fr.map Dat.int), .im (.int x), .im (encStp st), .im (p.ins p.steps.length st).enc]) ?_ ?_)
            · walk_at "go"
              refine ⟨rfl, ?_⟩
              walk_at "go"
              rw [hsl]
              exact ⟨hpo, Nat.le_refl _, hso, hpw, trivial, npI, rfl⟩
            rintro e rfl
            have heq : HasFall (p.ins p.steps.length st) pat ↔ HasFall p pat := end_has hst hfree
            walk_at "go"
            refine ⟨hpw, ht, fun r3 hr3 => ?_⟩
            have h3 := hr3.isNone
            have h2 := hr2.isNone
            cases r3 with
            | none =>
              cases r2 with
              | none =>
                walk_at "go"
                try walk_at "F"
                exact ⟨_, _, rfl⟩
              | some g2 =>
                exact absurd (fun h => (h3.mp rfl) (heq.mpr h)) fun h => (nomatch h2.mpr h)
            | some g3 =>
              cases r2 with
              | none =>
                exact absurd (fun h => (h2.mp rfl) (heq.mp h)) fun h => (nomatch h3.mpr h)
              | some g2 =>
                walk_at "go"
                try walk_at "F"
                exact ⟨_, _, rfl⟩
          · rintro e ⟨s18, s19, rfl⟩
            exact hW2 _ ⟨i6, v6, .un, .im d11, .im (encPat pat), .im (lstI cf), .im (encFd r), .im (encFd r2), .ow (fr.map Dat.int), .im (.int x), s18, s19, by omega, by omega, rfl⟩
      · rintro e ⟨i3, v3, s7, s11, s12, s13, s14, s15, s16, s17, s18, s19, hi6, hi7, rfl⟩
        rw [rgD_len] at hi7
        exact hW _ ⟨i3, v3, .im d2, _, _, _, _, s7, _, _, _, s11, s12, s13, s14, s15, s16, s17, s18, s19, by omega, by omega, rfl⟩
    · rintro e ⟨i, v, s2, s3, s4, s5, s6, s7, s8, s9, s10, s11, s12, s13, s14, s15, s16, s17, s18, s19, hi0, hi1, rfl⟩
      refine sx_forget 2 (sx_forget 3 (sx_forget 4 (sx_forget 5 (sx_forget 6 (sx_forget 7 (sx_forget 8 (sx_forget 9 (sx_forget 10 (sx_forget 11 (sx_forget 12 (sx_forget 13 (sx_forget 14 (sx_forget 15 (sx_forget 16 (sx_forget 17 (sx_forget 18 (sx_forget 19 ?_)))))))))))))))))
      walk_at "go"
      exact fun e => ⟨trivial, hk⟩
end
end Af
end

section
set_option maxHeartbeats 4000000
namespace Af
open PySem L2
/-- a def's object, as the top has left it -/
def DefF (K : PySem.W.Frag) (x qual : Str) (st : Stmt) (f : Addr) : Prop := ∃ fd, Fun K x qual st f fd
theorem defF_mk {K : PySem.W.Frag} {x qual : Str} {st : Stmt} {f : Addr} {oc : Value} {od an : Option Addr} {osl : Array (Option Value)} {kV dc pm cd ct : Value} (l : K.lookup f = some ⟨oc, od, .func (PySem.W.fnOf x qual (defArgs st) (defBody st) (defScope st) .none kV dc pm an cd ct), osl⟩) (c : PySem.W.codeIn K cd qual = true) (k : PySem.W.keepIn K (.ref f) = true) : DefF K x qual st f := ⟨_, fun_mk l c k⟩
def spLaw (K : PySem.W.Frag) : Sp := fun vs H Q _ => ∃ (a : Addr) (ns : List Int), vs = [.ref a] ∧ ns.length ≤ 63 ∧ ((∃ o, H a = some (.frz o (.lst (ns.map V.int)))) ∨ ∀ H', SqL K H' a (ns.map V.int)) ∧ ∀ H', Q (.bl true) H'
theorem law_imp {K : PySem.W.Frag} {C : Addr} (vs : List V) (H : Hp) (Q : VK) (E : XK) (h : spLaw K vs H Q E) : SpD C (dLaw K) vs H Q E := by
  obtain ⟨a, ns, e, hl, hs, hq⟩ := h
  subst e
  have fin : ∀ d, Scr K d → Rep C H (.ref a) d → SpD C (dLaw K) [.ref a] H Q E := fun d hd hr => ⟨[.im d], fun s => s = .im (.bl true), ⟨d, rfl, hd, rfl⟩, .cons hr .nil, fun s v H' es _ ok _ _ => by
    subst es
    rw [rep_bl ok]
    exact hq H'⟩
  rcases hs with ⟨o, h⟩ | h
  · exact fin (lstI ns) (.inl ⟨ns, rfl, by omega⟩) (.lst h (Reps.of_ints ns))
  · exact fin (.cls a) (.inr ⟨a, ns, rfl, by omega, h⟩) (.cls a)
theorem all_mk {l : PySem.W.OpenLaw} {w : World} {K : PySem.W.Frag} {h : Heap} {mg : Str → Option Value} {fa C c f_is_integer f_is_below f_are_worths f_is_content f_is_choice f_is_pattern f_check_pattern f_is_matched f_is_step f_broken f_pieces_of f_PlanX_initX f_Plan_base f_Plan_pieces f_Plan_epochs f_Plan_with_step f_Plan_without_step f_PlanX_eqX f_cells_in f_are_pieces f_lower_pieces f_is_fall f_check_fall f_overwritten f_content_after f_is_found f_are_ascending f_is_pair f_led_to f_claimed_there f_is_claims f_check_claims f_refusal f_sure_in f_PeelX_initX f_Peel_spoilt f_Peel_can_be_last f_Peel_take f_Peel_take_all f_Peel_go_through f_peeled f_can_begin f_sought_behind f_sought f_find f_entry f_shut f__law_pen f__law_next f__law_draw f__law_some f__law_split f__law_parts f__law_ranks f__law_write f__law_drawn f__law_log f__law_copy f__law_plan f__law_plan_of f__law_left f__law_nexts f__law_fall f__law_pattern f__law_found f_law p_Plan_base p_Plan_pieces p_Plan_epochs : Addr} (X : K.In h) (G : h.Ns mainGlobals mg) (hfa : mg "law" = some (.ref fa))
    (aPlan : PySem.W.nsIn K mainGlobals "Plan" = some (some (.ref C)))
    (aPeel : PySem.W.nsIn K mainGlobals "Peel" = some (some (.ref c)))
    (hcC : c ≠ C)
    (a_is_integer : PySem.W.nsIn K mainGlobals "is_integer" = some (some (.ref f_is_integer)))
    (F_is_integer : DefF K "is_integer" "is_integer" s_is_integer f_is_integer)
    (a_is_below : PySem.W.nsIn K mainGlobals "is_below" = some (some (.ref f_is_below)))
    (F_is_below : DefF K "is_below" "is_below" s_is_below f_is_below)
    (a_are_worths : PySem.W.nsIn K mainGlobals "are_worths" = some (some (.ref f_are_worths)))
    (F_are_worths : DefF K "are_worths" "are_worths" s_are_worths f_are_worths)
    (a_is_content : PySem.W.nsIn K mainGlobals "is_content" = some (some (.ref f_is_content)))
    (F_is_content : DefF K "is_content" "is_content" s_is_content f_is_content)
    (a_is_choice : PySem.W.nsIn K mainGlobals "is_choice" = some (some (.ref f_is_choice)))
    (F_is_choice : DefF K "is_choice" "is_choice" s_is_choice f_is_choice)
    (a_is_pattern : PySem.W.nsIn K mainGlobals "is_pattern" = some (some (.ref f_is_pattern)))
    (F_is_pattern : DefF K "is_pattern" "is_pattern" s_is_pattern f_is_pattern)
    (a_check_pattern : PySem.W.nsIn K mainGlobals "check_pattern" = some (some (.ref f_check_pattern)))
    (F_check_pattern : DefF K "check_pattern" "check_pattern" s_check_pattern f_check_pattern)
    (a_is_matched : PySem.W.nsIn K mainGlobals "is_matched" = some (some (.ref f_is_matched)))
    (F_is_matched : DefF K "is_matched" "is_matched" s_is_matched f_is_matched)
    (a_is_step : PySem.W.nsIn K mainGlobals "is_step" = some (some (.ref f_is_step)))
    (F_is_step : DefF K "is_step" "is_step" s_is_step f_is_step)
    (a_broken : PySem.W.nsIn K mainGlobals "broken" = some (some (.ref f_broken)))
    (F_broken : DefF K "broken" "broken" s_broken f_broken)
    (a_pieces_of : PySem.W.nsIn K mainGlobals "pieces_of" = some (some (.ref f_pieces_of)))
    (F_pieces_of : DefF K "pieces_of" "pieces_of" s_pieces_of f_pieces_of)
    (a_PlanX_initX : PySem.W.findIn K (.ref C) "__init__" = some (some (.ref f_PlanX_initX)))
    (i_PlanX_initX : PySem.W.isFn K (.ref f_PlanX_initX) = true)
    (q_PlanX_initX : PySem.W.keepIn K (.ref f_PlanX_initX) = true)
    (F_PlanX_initX : DefF K "__init__" "Plan.__init__" s_PlanX_initX f_PlanX_initX)
    (a_Plan_base : PySem.W.findIn K (.ref C) "base" = some (some (.ref p_Plan_base)))
    (g_Plan_base : PySem.W.specialIn K (.ref p_Plan_base) "__get__" = some (some (.builtin "property.__get__")))
    (t_Plan_base : PySem.W.takesIn K (.ref p_Plan_base) = some true)
    {rs_Plan_base : List Value}
    (r_Plan_base : PySem.W.recIn K p_Plan_base "property" = some (.ref f_Plan_base :: rs_Plan_base))
    (F_Plan_base : DefF K "base" "Plan.base" s_Plan_base f_Plan_base)
    (a_Plan_pieces : PySem.W.findIn K (.ref C) "pieces" = some (some (.ref p_Plan_pieces)))
    (g_Plan_pieces : PySem.W.specialIn K (.ref p_Plan_pieces) "__get__" = some (some (.builtin "property.__get__")))
    (t_Plan_pieces : PySem.W.takesIn K (.ref p_Plan_pieces) = some true)
    {rs_Plan_pieces : List Value}
    (r_Plan_pieces : PySem.W.recIn K p_Plan_pieces "property" = some (.ref f_Plan_pieces :: rs_Plan_pieces))
    (F_Plan_pieces : DefF K "pieces" "Plan.pieces" s_Plan_pieces f_Plan_pieces)
    (a_Plan_epochs : PySem.W.findIn K (.ref C) "epochs" = some (some (.ref p_Plan_epochs)))
    (g_Plan_epochs : PySem.W.specialIn K (.ref p_Plan_epochs) "__get__" = some (some (.builtin "property.__get__")))
    (t_Plan_epochs : PySem.W.takesIn K (.ref p_Plan_epochs) = some true)
    {rs_Plan_epochs : List Value}
    (r_Plan_epochs : PySem.W.recIn K p_Plan_epochs "property" = some (.ref f_Plan_epochs :: rs_Plan_epochs))
    (F_Plan_epochs : DefF K "epochs" "Plan.epochs" s_Plan_epochs f_Plan_epochs)
    (a_Plan_with_step : PySem.W.findIn K (.ref C) "with_step" = some (some (.ref f_Plan_with_step)))
    (i_Plan_with_step : PySem.W.isFn K (.ref f_Plan_with_step) = true)
    (q_Plan_with_step : PySem.W.keepIn K (.ref f_Plan_with_step) = true)
    (F_Plan_with_step : DefF K "with_step" "Plan.with_step" s_Plan_with_step f_Plan_with_step)
    (a_Plan_without_step : PySem.W.findIn K (.ref C) "without_step" = some (some (.ref f_Plan_without_step)))
    (i_Plan_without_step : PySem.W.isFn K (.ref f_Plan_without_step) = true)
    (q_Plan_without_step : PySem.W.keepIn K (.ref f_Plan_without_step) = true)
    (F_Plan_without_step : DefF K "without_step" "Plan.without_step" s_Plan_without_step f_Plan_without_step)
    (a_PlanX_eqX : PySem.W.findIn K (.ref C) "__eq__" = some (some (.ref f_PlanX_eqX)))
    (i_PlanX_eqX : PySem.W.isFn K (.ref f_PlanX_eqX) = true)
    (q_PlanX_eqX : PySem.W.keepIn K (.ref f_PlanX_eqX) = true)
    (F_PlanX_eqX : DefF K "__eq__" "Plan.__eq__" s_PlanX_eqX f_PlanX_eqX)
    (a_cells_in : PySem.W.nsIn K mainGlobals "cells_in" = some (some (.ref f_cells_in)))
    (F_cells_in : DefF K "cells_in" "cells_in" s_cells_in f_cells_in)
    (a_are_pieces : PySem.W.nsIn K mainGlobals "are_pieces" = some (some (.ref f_are_pieces)))
    (F_are_pieces : DefF K "are_pieces" "are_pieces" s_are_pieces f_are_pieces)
    (a_lower_pieces : PySem.W.nsIn K mainGlobals "lower_pieces" = some (some (.ref f_lower_pieces)))
    (F_lower_pieces : DefF K "lower_pieces" "lower_pieces" s_lower_pieces f_lower_pieces)
    (a_is_fall : PySem.W.nsIn K mainGlobals "is_fall" = some (some (.ref f_is_fall)))
    (F_is_fall : DefF K "is_fall" "is_fall" s_is_fall f_is_fall)
    (a_check_fall : PySem.W.nsIn K mainGlobals "check_fall" = some (some (.ref f_check_fall)))
    (F_check_fall : DefF K "check_fall" "check_fall" s_check_fall f_check_fall)
    (a_overwritten : PySem.W.nsIn K mainGlobals "overwritten" = some (some (.ref f_overwritten)))
    (F_overwritten : DefF K "overwritten" "overwritten" s_overwritten f_overwritten)
    (a_content_after : PySem.W.nsIn K mainGlobals "content_after" = some (some (.ref f_content_after)))
    (F_content_after : DefF K "content_after" "content_after" s_content_after f_content_after)
    (a_is_found : PySem.W.nsIn K mainGlobals "is_found" = some (some (.ref f_is_found)))
    (F_is_found : DefF K "is_found" "is_found" s_is_found f_is_found)
    (a_are_ascending : PySem.W.nsIn K mainGlobals "are_ascending" = some (some (.ref f_are_ascending)))
    (F_are_ascending : DefF K "are_ascending" "are_ascending" s_are_ascending f_are_ascending)
    (a_is_pair : PySem.W.nsIn K mainGlobals "is_pair" = some (some (.ref f_is_pair)))
    (F_is_pair : DefF K "is_pair" "is_pair" s_is_pair f_is_pair)
    (a_led_to : PySem.W.nsIn K mainGlobals "led_to" = some (some (.ref f_led_to)))
    (F_led_to : DefF K "led_to" "led_to" s_led_to f_led_to)
    (a_claimed_there : PySem.W.nsIn K mainGlobals "claimed_there" = some (some (.ref f_claimed_there)))
    (F_claimed_there : DefF K "claimed_there" "claimed_there" s_claimed_there f_claimed_there)
    (a_is_claims : PySem.W.nsIn K mainGlobals "is_claims" = some (some (.ref f_is_claims)))
    (F_is_claims : DefF K "is_claims" "is_claims" s_is_claims f_is_claims)
    (a_check_claims : PySem.W.nsIn K mainGlobals "check_claims" = some (some (.ref f_check_claims)))
    (F_check_claims : DefF K "check_claims" "check_claims" s_check_claims f_check_claims)
    (a_refusal : PySem.W.nsIn K mainGlobals "refusal" = some (some (.ref f_refusal)))
    (F_refusal : DefF K "refusal" "refusal" s_refusal f_refusal)
    (a_sure_in : PySem.W.nsIn K mainGlobals "sure_in" = some (some (.ref f_sure_in)))
    (F_sure_in : DefF K "sure_in" "sure_in" s_sure_in f_sure_in)
    (a_PeelX_initX : PySem.W.findIn K (.ref c) "__init__" = some (some (.ref f_PeelX_initX)))
    (i_PeelX_initX : PySem.W.isFn K (.ref f_PeelX_initX) = true)
    (q_PeelX_initX : PySem.W.keepIn K (.ref f_PeelX_initX) = true)
    (F_PeelX_initX : DefF K "__init__" "Peel.__init__" s_PeelX_initX f_PeelX_initX)
    (a_Peel_spoilt : PySem.W.findIn K (.ref c) "spoilt" = some (some (.ref f_Peel_spoilt)))
    (i_Peel_spoilt : PySem.W.isFn K (.ref f_Peel_spoilt) = true)
    (q_Peel_spoilt : PySem.W.keepIn K (.ref f_Peel_spoilt) = true)
    (F_Peel_spoilt : DefF K "spoilt" "Peel.spoilt" s_Peel_spoilt f_Peel_spoilt)
    (a_Peel_can_be_last : PySem.W.findIn K (.ref c) "can_be_last" = some (some (.ref f_Peel_can_be_last)))
    (i_Peel_can_be_last : PySem.W.isFn K (.ref f_Peel_can_be_last) = true)
    (q_Peel_can_be_last : PySem.W.keepIn K (.ref f_Peel_can_be_last) = true)
    (F_Peel_can_be_last : DefF K "can_be_last" "Peel.can_be_last" s_Peel_can_be_last f_Peel_can_be_last)
    (a_Peel_take : PySem.W.findIn K (.ref c) "take" = some (some (.ref f_Peel_take)))
    (i_Peel_take : PySem.W.isFn K (.ref f_Peel_take) = true)
    (q_Peel_take : PySem.W.keepIn K (.ref f_Peel_take) = true)
    (F_Peel_take : DefF K "take" "Peel.take" s_Peel_take f_Peel_take)
    (a_Peel_take_all : PySem.W.findIn K (.ref c) "take_all" = some (some (.ref f_Peel_take_all)))
    (i_Peel_take_all : PySem.W.isFn K (.ref f_Peel_take_all) = true)
    (q_Peel_take_all : PySem.W.keepIn K (.ref f_Peel_take_all) = true)
    (F_Peel_take_all : DefF K "take_all" "Peel.take_all" s_Peel_take_all f_Peel_take_all)
    (a_Peel_go_through : PySem.W.findIn K (.ref c) "go_through" = some (some (.ref f_Peel_go_through)))
    (i_Peel_go_through : PySem.W.isFn K (.ref f_Peel_go_through) = true)
    (q_Peel_go_through : PySem.W.keepIn K (.ref f_Peel_go_through) = true)
    (F_Peel_go_through : DefF K "go_through" "Peel.go_through" s_Peel_go_through f_Peel_go_through)
    (a_peeled : PySem.W.nsIn K mainGlobals "peeled" = some (some (.ref f_peeled)))
    (F_peeled : DefF K "peeled" "peeled" s_peeled f_peeled)
    (a_can_begin : PySem.W.nsIn K mainGlobals "can_begin" = some (some (.ref f_can_begin)))
    (F_can_begin : DefF K "can_begin" "can_begin" s_can_begin f_can_begin)
    (a_sought_behind : PySem.W.nsIn K mainGlobals "sought_behind" = some (some (.ref f_sought_behind)))
    (F_sought_behind : DefF K "sought_behind" "sought_behind" s_sought_behind f_sought_behind)
    (a_sought : PySem.W.nsIn K mainGlobals "sought" = some (some (.ref f_sought)))
    (F_sought : DefF K "sought" "sought" s_sought f_sought)
    (a_find : PySem.W.nsIn K mainGlobals "find" = some (some (.ref f_find)))
    (F_find : DefF K "find" "find" s_find f_find)
    (a_entry : PySem.W.nsIn K mainGlobals "entry" = some (some (.ref f_entry)))
    (F_entry : DefF K "entry" "entry" s_entry f_entry)
    (a_shut : PySem.W.nsIn K mainGlobals "shut" = some (some (.ref f_shut)))
    (F_shut : DefF K "shut" "shut" s_shut f_shut)
    (a__law_pen : PySem.W.nsIn K mainGlobals "_law_pen" = some (some (.ref f__law_pen)))
    (F__law_pen : DefF K "_law_pen" "_law_pen" s__law_pen f__law_pen)
    (a__law_next : PySem.W.nsIn K mainGlobals "_law_next" = some (some (.ref f__law_next)))
    (F__law_next : DefF K "_law_next" "_law_next" s__law_next f__law_next)
    (a__law_draw : PySem.W.nsIn K mainGlobals "_law_draw" = some (some (.ref f__law_draw)))
    (F__law_draw : DefF K "_law_draw" "_law_draw" s__law_draw f__law_draw)
    (a__law_some : PySem.W.nsIn K mainGlobals "_law_some" = some (some (.ref f__law_some)))
    (F__law_some : DefF K "_law_some" "_law_some" s__law_some f__law_some)
    (a__law_split : PySem.W.nsIn K mainGlobals "_law_split" = some (some (.ref f__law_split)))
    (F__law_split : DefF K "_law_split" "_law_split" s__law_split f__law_split)
    (a__law_parts : PySem.W.nsIn K mainGlobals "_law_parts" = some (some (.ref f__law_parts)))
    (F__law_parts : DefF K "_law_parts" "_law_parts" s__law_parts f__law_parts)
    (a__law_ranks : PySem.W.nsIn K mainGlobals "_law_ranks" = some (some (.ref f__law_ranks)))
    (F__law_ranks : DefF K "_law_ranks" "_law_ranks" s__law_ranks f__law_ranks)
    (a__law_write : PySem.W.nsIn K mainGlobals "_law_write" = some (some (.ref f__law_write)))
    (F__law_write : DefF K "_law_write" "_law_write" s__law_write f__law_write)
    (a__law_drawn : PySem.W.nsIn K mainGlobals "_law_drawn" = some (some (.ref f__law_drawn)))
    (F__law_drawn : DefF K "_law_drawn" "_law_drawn" s__law_drawn f__law_drawn)
    (a__law_log : PySem.W.nsIn K mainGlobals "_law_log" = some (some (.ref f__law_log)))
    (F__law_log : DefF K "_law_log" "_law_log" s__law_log f__law_log)
    (a__law_copy : PySem.W.nsIn K mainGlobals "_law_copy" = some (some (.ref f__law_copy)))
    (F__law_copy : DefF K "_law_copy" "_law_copy" s__law_copy f__law_copy)
    (a__law_plan : PySem.W.nsIn K mainGlobals "_law_plan" = some (some (.ref f__law_plan)))
    (F__law_plan : DefF K "_law_plan" "_law_plan" s__law_plan f__law_plan)
    (a__law_plan_of : PySem.W.nsIn K mainGlobals "_law_plan_of" = some (some (.ref f__law_plan_of)))
    (F__law_plan_of : DefF K "_law_plan_of" "_law_plan_of" s__law_plan_of f__law_plan_of)
    (a__law_left : PySem.W.nsIn K mainGlobals "_law_left" = some (some (.ref f__law_left)))
    (F__law_left : DefF K "_law_left" "_law_left" s__law_left f__law_left)
    (a__law_nexts : PySem.W.nsIn K mainGlobals "_law_nexts" = some (some (.ref f__law_nexts)))
    (F__law_nexts : DefF K "_law_nexts" "_law_nexts" s__law_nexts f__law_nexts)
    (a__law_fall : PySem.W.nsIn K mainGlobals "_law_fall" = some (some (.ref f__law_fall)))
    (F__law_fall : DefF K "_law_fall" "_law_fall" s__law_fall f__law_fall)
    (a__law_pattern : PySem.W.nsIn K mainGlobals "_law_pattern" = some (some (.ref f__law_pattern)))
    (F__law_pattern : DefF K "_law_pattern" "_law_pattern" s__law_pattern f__law_pattern)
    (a__law_found : PySem.W.nsIn K mainGlobals "_law_found" = some (some (.ref f__law_found)))
    (F__law_found : DefF K "_law_found" "_law_found" s__law_found f__law_found)
    (a_law : PySem.W.nsIn K mainGlobals "law" = some (some (.ref f_law)))
    (F_law : DefF K "law" "law" s_law f_law)
    (pgP : PySem.W.plainGet K C Str.empty = true)
    (hdP : PySem.W.hasDictIn K C = true)
    (poP : PySem.W.plainOver K C = true)
    (saP : PySem.W.findIn K (.ref C) "__setattr__" = some (some (.builtin "object.__setattr__")))
    (mkP : PySem.W.makesIn K C = true)
    (kcP : PySem.W.keepIn K (.ref C) = true)
    (pgL : PySem.W.plainGet K c Str.empty = true)
    (hdL : PySem.W.hasDictIn K c = true)
    (poL : PySem.W.plainOver K c = true)
    (saL : PySem.W.findIn K (.ref c) "__setattr__" = some (some (.builtin "object.__setattr__")))
    (mkL : PySem.W.makesIn K c = true)
    (kcL : PySem.W.keepIn K (.ref c) = true)
    (n_start : PySem.W.findIn K (.ref C) "start" = some none)
    (n_span : PySem.W.findIn K (.ref C) "span" = some none)
    (n_deeds : PySem.W.findIn K (.ref C) "deeds" = some none)
    (n_parts : PySem.W.findIn K (.ref C) "parts" = some none)
    (n_ranks : PySem.W.findIn K (.ref C) "ranks" = some none)
    (m_given : PySem.W.findIn K (.ref c) "given" = some none)
    (m_epoch : PySem.W.findIn K (.ref c) "epoch" = some none)
    (m_needed : PySem.W.findIn K (.ref c) "needed" = some none)
    (m_bottom : PySem.W.findIn K (.ref c) "bottom" = some none)
    (m_chains : PySem.W.findIn K (.ref c) "chains" = some none)
    (m_sure : PySem.W.findIn K (.ref c) "sure" = some none)
    (m_left : PySem.W.findIn K (.ref c) "left" = some none)
    (m_taken : PySem.W.findIn K (.ref c) "taken" = some none)
    (m_spoils : PySem.W.findIn K (.ref c) "spoils" = some none)
    (m_ended : PySem.W.findIn K (.ref c) "ended" = some none)
    (c1 : PySem.W.findIn K (.ref C) "__class__" = some (some (.builtin "object.__class__")))
    (c2 : PySem.W.specialIn K (.builtin "object.__class__") "__get__" = some (some (.builtin "getset_descriptor.__get__")))
    (c3 : PySem.W.takesIn K (.builtin "object.__class__") = some true)
    (c4 : PySem.W.mroIn K C (.type "object") = some true)
    (e1 : PySem.W.findIn K (.ref C) "__ne__" = some (some (.builtin "object.__ne__")))
    (e2 : PySem.W.subIn K (.ref C) (.type "object") = some true)
    (z_len : PySem.W.nsIn K mainGlobals "len" = some none)
    (z_list : PySem.W.nsIn K mainGlobals "list" = some none)
    (z_tuple : PySem.W.nsIn K mainGlobals "tuple" = some none)
    (z_int : PySem.W.nsIn K mainGlobals "int" = some none)
    (z_bool : PySem.W.nsIn K mainGlobals "bool" = some none)
    (z_dict : PySem.W.nsIn K mainGlobals "dict" = some none)
    (z_all : PySem.W.nsIn K mainGlobals "all" = some none)
    (z_any : PySem.W.nsIn K mainGlobals "any" = some none)
    (z_max : PySem.W.nsIn K mainGlobals "max" = some none)
    (z_min : PySem.W.nsIn K mainGlobals "min" = some none)
    (z_sorted : PySem.W.nsIn K mainGlobals "sorted" = some none)
    (z_set : PySem.W.nsIn K mainGlobals "set" = some none)
    (z_isinstance : PySem.W.nsIn K mainGlobals "isinstance" = some none)
    (z_range : PySem.W.nsIn K mainGlobals "range" = some none)
    (z_enumerate : PySem.W.nsIn K mainGlobals "enumerate" = some none)
    {t_MAX_CELLS : Tok}
    (z_MAX_CELLS : PySem.W.nsIn K mainGlobals "MAX_CELLS" = some (some (.int 24 t_MAX_CELLS)))
    {t_WORTHS : Tok}
    (z_WORTHS : PySem.W.nsIn K mainGlobals "WORTHS" = some (some (.int 8 t_WORTHS)))
    {t_MAX_STEPS : Tok}
    (z_MAX_STEPS : PySem.W.nsIn K mainGlobals "MAX_STEPS" = some (some (.int 40 t_MAX_STEPS)))
    {t_MAX_PIECES : Tok}
    (z_MAX_PIECES : PySem.W.nsIn K mainGlobals "MAX_PIECES" = some (some (.int 40 t_MAX_PIECES)))
    {t_BASE : Tok}
    (z_BASE : PySem.W.nsIn K mainGlobals "BASE" = some (some (.int (-1) t_BASE))) :
    ∃ fd : FuncData, (∀ (s : Shared) (v : Value), BindsTo s fd ⟨[v], []⟩ [("_law_script", v)]) ∧ ∀ base : Heap, K.In base → base.Ns mainGlobals mg → FnOk l.prog w K mg base CX0 15 fa fd ["_law_script"] (spLaw K) := by
  have cPlan := PySem.W.mg_of X G aPlan
  have cPeel := PySem.W.mg_of X G aPeel
  have T : Txt mg := ⟨PySem.W.mg_none_of X G z_len, PySem.W.mg_none_of X G z_list, PySem.W.mg_none_of X G z_tuple, PySem.W.mg_none_of X G z_int, PySem.W.mg_none_of X G z_bool, PySem.W.mg_none_of X G z_dict, PySem.W.mg_none_of X G z_all, PySem.W.mg_none_of X G z_any, PySem.W.mg_none_of X G z_max, PySem.W.mg_none_of X G z_min, PySem.W.mg_none_of X G z_sorted, PySem.W.mg_none_of X G z_set, PySem.W.mg_none_of X G z_isinstance, PySem.W.mg_none_of X G z_range, PySem.W.mg_none_of X G z_enumerate, ⟨_, PySem.W.mg_of X G z_MAX_CELLS⟩, ⟨_, PySem.W.mg_of X G z_WORTHS⟩, ⟨_, PySem.W.mg_of X G z_MAX_STEPS⟩, ⟨_, PySem.W.mg_of X G z_MAX_PIECES⟩, ⟨_, PySem.W.mg_of X G z_BASE⟩⟩
  have clC : Cls K C := ⟨pgP, hdP, poP, saP⟩
  have clL : Cls K c := ⟨pgL, hdL, poL, saL⟩
  have PC : PlanC K C := ⟨clC, n_start, n_span, n_deeds, n_parts, n_ranks⟩
  have PE : PeelC K c := ⟨clL, m_given, m_epoch, m_needed, m_bottom, m_chains, m_sure, m_left, m_taken, m_spoils, m_ended⟩
  have isPlan : C8.InsC K C := ⟨clC, c1, c2, c3, c4, if_pos (beq_self_eq_true _)⟩
  obtain ⟨fd_is_integer, G_is_integer⟩ := F_is_integer
  have b_is_integer := G_is_integer.binds (ps := P_is_integer) fun _ _ _ _ _ _ us hl => match us, hl with | [_], _ => rfl
  obtain ⟨fd_is_below, G_is_below⟩ := F_is_below
  have b_is_below := G_is_below.binds (ps := P_is_below) fun _ _ _ _ _ _ us hl => match us, hl with | [_, _], _ => rfl
  obtain ⟨fd_are_worths, G_are_worths⟩ := F_are_worths
  have b_are_worths := G_are_worths.binds (ps := P_are_worths) fun _ _ _ _ _ _ us hl => match us, hl with | [_], _ => rfl
  obtain ⟨fd_is_content, G_is_content⟩ := F_is_content
  have b_is_content := G_is_content.binds (ps := P_is_content) fun _ _ _ _ _ _ us hl => match us, hl with | [_], _ => rfl
  obtain ⟨fd_is_choice, G_is_choice⟩ := F_is_choice
  have b_is_choice := G_is_choice.binds (ps := P_is_choice) fun _ _ _ _ _ _ us hl => match us, hl with | [_], _ => rfl
  obtain ⟨fd_is_pattern, G_is_pattern⟩ := F_is_pattern
  have b_is_pattern := G_is_pattern.binds (ps := P_is_pattern) fun _ _ _ _ _ _ us hl => match us, hl with | [_, _], _ => rfl
  obtain ⟨fd_check_pattern, G_check_pattern⟩ := F_check_pattern
  have b_check_pattern := G_check_pattern.binds (ps := P_check_pattern) fun _ _ _ _ _ _ us hl => match us, hl with | [_, _], _ => rfl
  obtain ⟨fd_is_matched, G_is_matched⟩ := F_is_matched
  have b_is_matched := G_is_matched.binds (ps := P_is_matched) fun _ _ _ _ _ _ us hl => match us, hl with | [_, _], _ => rfl
  obtain ⟨fd_is_step, G_is_step⟩ := F_is_step
  have b_is_step := G_is_step.binds (ps := P_is_step) fun _ _ _ _ _ _ us hl => match us, hl with | [_, _], _ => rfl
  obtain ⟨fd_broken, G_broken⟩ := F_broken
  have b_broken := G_broken.binds (ps := P_broken) fun _ _ _ _ _ _ us hl => match us, hl with | [_, _, _], _ => rfl
  obtain ⟨fd_pieces_of, G_pieces_of⟩ := F_pieces_of
  have b_pieces_of := G_pieces_of.binds (ps := P_pieces_of) fun _ _ _ _ _ _ us hl => match us, hl with | [_, _], _ => rfl
  obtain ⟨fd_PlanX_initX, G_PlanX_initX⟩ := F_PlanX_initX
  have b_PlanX_initX := G_PlanX_initX.binds (ps := P_PlanX_initX) fun _ _ _ _ _ _ us hl => match us, hl with | [_, _, _, _], _ => rfl
  obtain ⟨fd_Plan_base, G_Plan_base⟩ := F_Plan_base
  have b_Plan_base := G_Plan_base.binds (ps := P_Plan_base) fun _ _ _ _ _ _ us hl => match us, hl with | [_], _ => rfl
  obtain ⟨fd_Plan_pieces, G_Plan_pieces⟩ := F_Plan_pieces
  have b_Plan_pieces := G_Plan_pieces.binds (ps := P_Plan_pieces) fun _ _ _ _ _ _ us hl => match us, hl with | [_], _ => rfl
  obtain ⟨fd_Plan_epochs, G_Plan_epochs⟩ := F_Plan_epochs
  have b_Plan_epochs := G_Plan_epochs.binds (ps := P_Plan_epochs) fun _ _ _ _ _ _ us hl => match us, hl with | [_], _ => rfl
  obtain ⟨fd_Plan_with_step, G_Plan_with_step⟩ := F_Plan_with_step
  have b_Plan_with_step := G_Plan_with_step.binds (ps := P_Plan_with_step) fun _ _ _ _ _ _ us hl => match us, hl with | [_, _, _], _ => rfl
  obtain ⟨fd_Plan_without_step, G_Plan_without_step⟩ := F_Plan_without_step
  have b_Plan_without_step := G_Plan_without_step.binds (ps := P_Plan_without_step) fun _ _ _ _ _ _ us hl => match us, hl with | [_, _], _ => rfl
  obtain ⟨fd_PlanX_eqX, G_PlanX_eqX⟩ := F_PlanX_eqX
  have b_PlanX_eqX := G_PlanX_eqX.binds (ps := P_PlanX_eqX) fun _ _ _ _ _ _ us hl => match us, hl with | [_, _], _ => rfl
  obtain ⟨fd_cells_in, G_cells_in⟩ := F_cells_in
  have b_cells_in := G_cells_in.binds (ps := P_cells_in) fun _ _ _ _ _ _ us hl => match us, hl with | [_, _], _ => rfl
  obtain ⟨fd_are_pieces, G_are_pieces⟩ := F_are_pieces
  have b_are_pieces := G_are_pieces.binds (ps := P_are_pieces) fun _ _ _ _ _ _ us hl => match us, hl with | [_, _], _ => rfl
  obtain ⟨fd_lower_pieces, G_lower_pieces⟩ := F_lower_pieces
  have b_lower_pieces := G_lower_pieces.binds (ps := P_lower_pieces) fun _ _ _ _ _ _ us hl => match us, hl with | [_, _], _ => rfl
  obtain ⟨fd_is_fall, G_is_fall⟩ := F_is_fall
  have b_is_fall := G_is_fall.binds (ps := P_is_fall) fun _ _ _ _ _ _ us hl => match us, hl with | [_, _], _ => rfl
  obtain ⟨fd_check_fall, G_check_fall⟩ := F_check_fall
  have b_check_fall := G_check_fall.binds (ps := P_check_fall) fun _ _ _ _ _ _ us hl => match us, hl with | [_, _], _ => rfl
  obtain ⟨fd_overwritten, G_overwritten⟩ := F_overwritten
  have b_overwritten := G_overwritten.binds (ps := P_overwritten) fun _ _ _ _ _ _ us hl => match us, hl with | [_, _, _], _ => rfl
  obtain ⟨fd_content_after, G_content_after⟩ := F_content_after
  have b_content_after := G_content_after.binds (ps := P_content_after) fun _ _ _ _ _ _ us hl => match us, hl with | [_, _], _ => rfl
  obtain ⟨fd_is_found, G_is_found⟩ := F_is_found
  have b_is_found := G_is_found.binds (ps := P_is_found) fun _ _ _ _ _ _ us hl => match us, hl with | [_, _, _], _ => rfl
  obtain ⟨fd_are_ascending, G_are_ascending⟩ := F_are_ascending
  have b_are_ascending := G_are_ascending.binds (ps := P_are_ascending) fun _ _ _ _ _ _ us hl => match us, hl with | [_], _ => rfl
  obtain ⟨fd_is_pair, G_is_pair⟩ := F_is_pair
  have b_is_pair := G_is_pair.binds (ps := P_is_pair) fun _ _ _ _ _ _ us hl => match us, hl with | [_, _], _ => rfl
  obtain ⟨fd_led_to, G_led_to⟩ := F_led_to
  have b_led_to := G_led_to.binds (ps := P_led_to) fun _ _ _ _ _ _ us hl => match us, hl with | [_, _], _ => rfl
  obtain ⟨fd_claimed_there, G_claimed_there⟩ := F_claimed_there
  have b_claimed_there := G_claimed_there.binds (ps := P_claimed_there) fun _ _ _ _ _ _ us hl => match us, hl with | [_], _ => rfl
  obtain ⟨fd_is_claims, G_is_claims⟩ := F_is_claims
  have b_is_claims := G_is_claims.binds (ps := P_is_claims) fun _ _ _ _ _ _ us hl => match us, hl with | [_, _], _ => rfl
  obtain ⟨fd_check_claims, G_check_claims⟩ := F_check_claims
  have b_check_claims := G_check_claims.binds (ps := P_check_claims) fun _ _ _ _ _ _ us hl => match us, hl with | [_, _], _ => rfl
  obtain ⟨fd_refusal, G_refusal⟩ := F_refusal
  have b_refusal := G_refusal.binds (ps := P_refusal) fun _ _ _ _ _ _ us hl => match us, hl with | [_, _, _], _ => rfl
  obtain ⟨fd_sure_in, G_sure_in⟩ := F_sure_in
  have b_sure_in := G_sure_in.binds (ps := P_sure_in) fun _ _ _ _ _ _ us hl => match us, hl with | [_, _, _], _ => rfl
  obtain ⟨fd_PeelX_initX, G_PeelX_initX⟩ := F_PeelX_initX
  have b_PeelX_initX := G_PeelX_initX.binds (ps := P_PeelX_initX) fun _ _ _ _ _ _ us hl => match us, hl with | [_, _, _, _, _, _], _ => rfl
  obtain ⟨fd_Peel_spoilt, G_Peel_spoilt⟩ := F_Peel_spoilt
  have b_Peel_spoilt := G_Peel_spoilt.binds (ps := P_Peel_spoilt) fun _ _ _ _ _ _ us hl => match us, hl with | [_, _], _ => rfl
  obtain ⟨fd_Peel_can_be_last, G_Peel_can_be_last⟩ := F_Peel_can_be_last
  have b_Peel_can_be_last := G_Peel_can_be_last.binds (ps := P_Peel_can_be_last) fun _ _ _ _ _ _ us hl => match us, hl with | [_, _], _ => rfl
  obtain ⟨fd_Peel_take, G_Peel_take⟩ := F_Peel_take
  have b_Peel_take := G_Peel_take.binds (ps := P_Peel_take) fun _ _ _ _ _ _ us hl => match us, hl with | [_, _], _ => rfl
  obtain ⟨fd_Peel_take_all, G_Peel_take_all⟩ := F_Peel_take_all
  have b_Peel_take_all := G_Peel_take_all.binds (ps := P_Peel_take_all) fun _ _ _ _ _ _ us hl => match us, hl with | [_, _], _ => rfl
  obtain ⟨fd_Peel_go_through, G_Peel_go_through⟩ := F_Peel_go_through
  have b_Peel_go_through := G_Peel_go_through.binds (ps := P_Peel_go_through) fun _ _ _ _ _ _ us hl => match us, hl with | [_], _ => rfl
  obtain ⟨fd_peeled, G_peeled⟩ := F_peeled
  have b_peeled := G_peeled.binds (ps := P_peeled) fun _ _ _ _ _ _ us hl => match us, hl with | [_, _, _, _, _], _ => rfl
  obtain ⟨fd_can_begin, G_can_begin⟩ := F_can_begin
  have b_can_begin := G_can_begin.binds (ps := P_can_begin) fun _ _ _ _ _ _ us hl => match us, hl with | [_, _], _ => rfl
  obtain ⟨fd_sought_behind, G_sought_behind⟩ := F_sought_behind
  have b_sought_behind := G_sought_behind.binds (ps := P_sought_behind) fun _ _ _ _ _ _ us hl => match us, hl with | [_, _, _, _], _ => rfl
  obtain ⟨fd_sought, G_sought⟩ := F_sought
  have b_sought := G_sought.binds (ps := P_sought) fun _ _ _ _ _ _ us hl => match us, hl with | [_, _, _], _ => rfl
  obtain ⟨fd_find, G_find⟩ := F_find
  have b_find := G_find.binds (ps := P_find) fun _ _ _ _ _ _ us hl => match us, hl with | [_, _, _], _ => rfl
  obtain ⟨fd_entry, G_entry⟩ := F_entry
  have b_entry := G_entry.binds (ps := P_entry) fun _ _ _ _ _ _ us hl => match us, hl with | [_, _, _, _], _ => rfl
  obtain ⟨fd_shut, G_shut⟩ := F_shut
  have b_shut := G_shut.binds (ps := P_shut) fun _ _ _ _ _ _ us hl => match us, hl with | [_, _, _], _ => rfl
  obtain ⟨fd__law_pen, G__law_pen⟩ := F__law_pen
  have b__law_pen := G__law_pen.binds (ps := P__law_pen) fun _ _ _ _ _ _ us hl => match us, hl with | [_], _ => rfl
  obtain ⟨fd__law_next, G__law_next⟩ := F__law_next
  have b__law_next := G__law_next.binds (ps := P__law_next) fun _ _ _ _ _ _ us hl => match us, hl with | [_], _ => rfl
  obtain ⟨fd__law_draw, G__law_draw⟩ := F__law_draw
  have b__law_draw := G__law_draw.binds (ps := P__law_draw) fun _ _ _ _ _ _ us hl => match us, hl with | [_, _], _ => rfl
  obtain ⟨fd__law_some, G__law_some⟩ := F__law_some
  have b__law_some := G__law_some.binds (ps := P__law_some) fun _ _ _ _ _ _ us hl => match us, hl with | [_, _, _], _ => rfl
  obtain ⟨fd__law_split, G__law_split⟩ := F__law_split
  have b__law_split := G__law_split.binds (ps := P__law_split) fun _ _ _ _ _ _ us hl => match us, hl with | [_, _, _], _ => rfl
  obtain ⟨fd__law_parts, G__law_parts⟩ := F__law_parts
  have b__law_parts := G__law_parts.binds (ps := P__law_parts) fun _ _ _ _ _ _ us hl => match us, hl with | [_], _ => rfl
  obtain ⟨fd__law_ranks, G__law_ranks⟩ := F__law_ranks
  have b__law_ranks := G__law_ranks.binds (ps := P__law_ranks) fun _ _ _ _ _ _ us hl => match us, hl with | [_], _ => rfl
  obtain ⟨fd__law_write, G__law_write⟩ := F__law_write
  have b__law_write := G__law_write.binds (ps := P__law_write) fun _ _ _ _ _ _ us hl => match us, hl with | [_, _, _, _], _ => rfl
  obtain ⟨fd__law_drawn, G__law_drawn⟩ := F__law_drawn
  have b__law_drawn := G__law_drawn.binds (ps := P__law_drawn) fun _ _ _ _ _ _ us hl => match us, hl with | [_, _, _, _], _ => rfl
  obtain ⟨fd__law_log, G__law_log⟩ := F__law_log
  have b__law_log := G__law_log.binds (ps := P__law_log) fun _ _ _ _ _ _ us hl => match us, hl with | [_, _], _ => rfl
  obtain ⟨fd__law_copy, G__law_copy⟩ := F__law_copy
  have b__law_copy := G__law_copy.binds (ps := P__law_copy) fun _ _ _ _ _ _ us hl => match us, hl with | [_, _], _ => rfl
  obtain ⟨fd__law_plan, G__law_plan⟩ := F__law_plan
  have b__law_plan := G__law_plan.binds (ps := P__law_plan) fun _ _ _ _ _ _ us hl => match us, hl with | [_, _], _ => rfl
  obtain ⟨fd__law_plan_of, G__law_plan_of⟩ := F__law_plan_of
  have b__law_plan_of := G__law_plan_of.binds (ps := P__law_plan_of) fun _ _ _ _ _ _ us hl => match us, hl with | [_], _ => rfl
  obtain ⟨fd__law_left, G__law_left⟩ := F__law_left
  have b__law_left := G__law_left.binds (ps := P__law_left) fun _ _ _ _ _ _ us hl => match us, hl with | [_, _], _ => rfl
  obtain ⟨fd__law_nexts, G__law_nexts⟩ := F__law_nexts
  have b__law_nexts := G__law_nexts.binds (ps := P__law_nexts) fun _ _ _ _ _ _ us hl => match us, hl with | [_, _], _ => rfl
  obtain ⟨fd__law_fall, G__law_fall⟩ := F__law_fall
  have b__law_fall := G__law_fall.binds (ps := P__law_fall) fun _ _ _ _ _ _ us hl => match us, hl with | [_, _], _ => rfl
  obtain ⟨fd__law_pattern, G__law_pattern⟩ := F__law_pattern
  have b__law_pattern := G__law_pattern.binds (ps := P__law_pattern) fun _ _ _ _ _ _ us hl => match us, hl with | [_, _], _ => rfl
  obtain ⟨fd__law_found, G__law_found⟩ := F__law_found
  have b__law_found := G__law_found.binds (ps := P__law_found) fun _ _ _ _ _ _ us hl => match us, hl with | [_, _], _ => rfl
  obtain ⟨fd_law, G_law⟩ := F_law
  have b_law := G_law.binds (ps := P_law) fun _ _ _ _ _ _ us hl => match us, hl with | [_], _ => rfl
  cases hfa.symm.trans (PySem.W.mg_of X G a_law)
  refine ⟨fd_law, fun s v => ?_, fun base _ _ => ?_⟩
  · obtain ⟨oc, od, kV, doc, pm, an, cdv, ct, osl, e, _, _⟩ := G_law.ex
    subst e
    exact .of_eq rfl
  · refine FnOk.imp ?_ (law_imp (C := C))
    have E_is_integer : DefOk l.prog w K mg base "is_integer" 1 P_is_integer (SpD c dIsInteger) := ⟨f_is_integer, fd_is_integer, ok_is_integer (C := c) G_is_integer T, PySem.W.mg_of X G a_is_integer, G_is_integer.kp, b_is_integer⟩
    have D_is_integer : DefOk l.prog w K mg base "is_integer" 1 P_is_integer (SpD C dIsInteger) := ⟨f_is_integer, fd_is_integer, ok_is_integer (C := C) G_is_integer T, PySem.W.mg_of X G a_is_integer, G_is_integer.kp, b_is_integer⟩
    have E_is_below : DefOk l.prog w K mg base "is_below" 2 P_is_below (SpD c dIsBelow) := ⟨f_is_below, fd_is_below, ok_is_below (C := c) G_is_below T E_is_integer, PySem.W.mg_of X G a_is_below, G_is_below.kp, b_is_below⟩
    have D_is_below : DefOk l.prog w K mg base "is_below" 2 P_is_below (SpD C dIsBelow) := ⟨f_is_below, fd_is_below, ok_is_below (C := C) G_is_below T D_is_integer, PySem.W.mg_of X G a_is_below, G_is_below.kp, b_is_below⟩
    have E_are_worths : DefOk l.prog w K mg base "are_worths" 3 P_are_worths (SpD c dAreWorths) := ⟨f_are_worths, fd_are_worths, ok_are_worths (C := c) G_are_worths T E_is_below, PySem.W.mg_of X G a_are_worths, G_are_worths.kp, b_are_worths⟩
    have D_are_worths : DefOk l.prog w K mg base "are_worths" 3 P_are_worths (SpD C dAreWorths) := ⟨f_are_worths, fd_are_worths, ok_are_worths (C := C) G_are_worths T D_is_below, PySem.W.mg_of X G a_are_worths, G_are_worths.kp, b_are_worths⟩
    have E_is_content : DefOk l.prog w K mg base "is_content" 4 P_is_content (SpD c dIsContent) := ⟨f_is_content, fd_is_content, ok_is_content (C := c) G_is_content T E_are_worths, PySem.W.mg_of X G a_is_content, G_is_content.kp, b_is_content⟩
    have D_is_content : DefOk l.prog w K mg base "is_content" 4 P_is_content (SpD C dIsContent) := ⟨f_is_content, fd_is_content, ok_is_content (C := C) G_is_content T D_are_worths, PySem.W.mg_of X G a_is_content, G_is_content.kp, b_is_content⟩
    have D_is_choice : DefOk l.prog w K mg base "is_choice" 4 P_is_choice (SpD C dIsChoice) := ⟨f_is_choice, fd_is_choice, ok_is_choice (C := C) G_is_choice T D_are_worths, PySem.W.mg_of X G a_is_choice, G_is_choice.kp, b_is_choice⟩
    have D_is_pattern : DefOk l.prog w K mg base "is_pattern" 5 P_is_pattern (SpD C dIsPattern) := ⟨f_is_pattern, fd_is_pattern, ok_is_pattern (C := C) G_is_pattern T D_is_below D_is_choice, PySem.W.mg_of X G a_is_pattern, G_is_pattern.kp, b_is_pattern⟩
    have D_check_pattern : DefOk l.prog w K mg base "check_pattern" 6 P_check_pattern (SpD C dCheckPattern) := ⟨f_check_pattern, fd_check_pattern, ok_check_pattern (C := C) G_check_pattern T D_is_pattern, PySem.W.mg_of X G a_check_pattern, G_check_pattern.kp, b_check_pattern⟩
    have D_is_matched : DefOk l.prog w K mg base "is_matched" 1 P_is_matched (SpD C dIsMatched) := ⟨f_is_matched, fd_is_matched, ok_is_matched (C := C) G_is_matched T, PySem.W.mg_of X G a_is_matched, G_is_matched.kp, b_is_matched⟩
    have E_is_step : DefOk l.prog w K mg base "is_step" 4 P_is_step (SpD c dIsStep) := ⟨f_is_step, fd_is_step, ok_is_step (C := c) G_is_step T E_is_below E_are_worths, PySem.W.mg_of X G a_is_step, G_is_step.kp, b_is_step⟩
    have D_is_step : DefOk l.prog w K mg base "is_step" 4 P_is_step (SpD C dIsStep) := ⟨f_is_step, fd_is_step, ok_is_step (C := C) G_is_step T D_is_below D_are_worths, PySem.W.mg_of X G a_is_step, G_is_step.kp, b_is_step⟩
    have E_broken : DefOk l.prog w K mg base "broken" 1 P_broken (SpD c dBroken) := ⟨f_broken, fd_broken, ok_broken (C := c) G_broken T, PySem.W.mg_of X G a_broken, G_broken.kp, b_broken⟩
    have D_broken : DefOk l.prog w K mg base "broken" 1 P_broken (SpD C dBroken) := ⟨f_broken, fd_broken, ok_broken (C := C) G_broken T, PySem.W.mg_of X G a_broken, G_broken.kp, b_broken⟩
    have E_pieces_of : DefOk l.prog w K mg base "pieces_of" 2 P_pieces_of (SpD c dPiecesOf) := ⟨f_pieces_of, fd_pieces_of, ok_pieces_of (C := c) G_pieces_of T E_broken, PySem.W.mg_of X G a_pieces_of, G_pieces_of.kp, b_pieces_of⟩
    have D_pieces_of : DefOk l.prog w K mg base "pieces_of" 2 P_pieces_of (SpD C dPiecesOf) := ⟨f_pieces_of, fd_pieces_of, ok_pieces_of (C := C) G_pieces_of T D_broken, PySem.W.mg_of X G a_pieces_of, G_pieces_of.kp, b_pieces_of⟩
    have D_Plan : MakOk l.prog w K mg base "Plan" C 5 P_PlanX_initX (SpI C dPlan) := ⟨f_PlanX_initX, fd_PlanX_initX, ok_PlanX_initX (C := C) (D0 := c) hcC.symm G_PlanX_initX T PC E_is_content E_is_integer E_is_step E_pieces_of, ⟨mkP, a_PlanX_initX, i_PlanX_initX, kcP⟩, cPlan, b_PlanX_initX⟩
    have D_Plan_base : PrpOk l.prog w K mg base C "base" 1 (SpD C dPlBase) := ⟨clC, p_Plan_base, f_Plan_base, fd_Plan_base, ok_Plan_base (C := C) G_Plan_base T PC, ⟨a_Plan_base, g_Plan_base, t_Plan_base, ⟨_, r_Plan_base⟩⟩, b_Plan_base⟩
    have D_Plan_pieces : PrpOk l.prog w K mg base C "pieces" 1 (SpD C dPlPieces) := ⟨clC, p_Plan_pieces, f_Plan_pieces, fd_Plan_pieces, ok_Plan_pieces (C := C) G_Plan_pieces T PC, ⟨a_Plan_pieces, g_Plan_pieces, t_Plan_pieces, ⟨_, r_Plan_pieces⟩⟩, b_Plan_pieces⟩
    have D_Plan_epochs : PrpOk l.prog w K mg base C "epochs" 1 (SpD C dPlEpochs) := ⟨clC, p_Plan_epochs, f_Plan_epochs, fd_Plan_epochs, ok_Plan_epochs (C := C) G_Plan_epochs T PC, ⟨a_Plan_epochs, g_Plan_epochs, t_Plan_epochs, ⟨_, r_Plan_epochs⟩⟩, b_Plan_epochs⟩
    have D_Plan_with_step : MetOk l.prog w K mg base C "with_step" 8 P_Plan_with_step (SpD C dWithStep) := ⟨clC, f_Plan_with_step, fd_Plan_with_step, ok_Plan_with_step (C := C) G_Plan_with_step T PC D_is_below D_is_step D_Plan cPlan, ⟨a_Plan_with_step, i_Plan_with_step, q_Plan_with_step⟩, b_Plan_with_step⟩
    have D_Plan_without_step : MetOk l.prog w K mg base C "without_step" 8 P_Plan_without_step (SpD C dWithoutStep) := ⟨clC, f_Plan_without_step, fd_Plan_without_step, ok_Plan_without_step (C := C) G_Plan_without_step T PC D_is_below D_Plan cPlan, ⟨a_Plan_without_step, i_Plan_without_step, q_Plan_without_step⟩, b_Plan_without_step⟩
    have D_PlanX_eqX : NeOk l.prog w K mg base C 1 (SpD C dPlEq) := ⟨f_PlanX_eqX, fd_PlanX_eqX, ⟨a_PlanX_eqX, i_PlanX_eqX, e1, e2⟩, ok_PlanX_eqX (C := C) G_PlanX_eqX T PC isPlan cPlan, b_PlanX_eqX⟩
    have D_cells_in : DefOk l.prog w K mg base "cells_in" 1 P_cells_in (SpD C dCellsIn) := ⟨f_cells_in, fd_cells_in, ok_cells_in (C := C) G_cells_in T PC, PySem.W.mg_of X G a_cells_in, G_cells_in.kp, b_cells_in⟩
    have D_are_pieces : DefOk l.prog w K mg base "are_pieces" 3 P_are_pieces (SpD C dArePieces) := ⟨f_are_pieces, fd_are_pieces, ok_are_pieces (C := C) G_are_pieces T PC D_is_below, PySem.W.mg_of X G a_are_pieces, G_are_pieces.kp, b_are_pieces⟩
    have D_lower_pieces : DefOk l.prog w K mg base "lower_pieces" 1 P_lower_pieces (SpD C dLower) := ⟨f_lower_pieces, fd_lower_pieces, ok_lower_pieces (C := C) G_lower_pieces T PC, PySem.W.mg_of X G a_lower_pieces, G_lower_pieces.kp, b_lower_pieces⟩
    have D_is_fall : DefOk l.prog w K mg base "is_fall" 4 P_is_fall (SpD C dIsFall) := ⟨f_is_fall, fd_is_fall, ok_is_fall (C := C) G_is_fall T PC D_are_pieces D_lower_pieces, PySem.W.mg_of X G a_is_fall, G_is_fall.kp, b_is_fall⟩
    have D_check_fall : DefOk l.prog w K mg base "check_fall" 5 P_check_fall (SpD C dCheckFall) := ⟨f_check_fall, fd_check_fall, ok_check_fall (C := C) G_check_fall T D_is_fall, PySem.W.mg_of X G a_check_fall, G_check_fall.kp, b_check_fall⟩
    have D_overwritten : DefOk l.prog w K mg base "overwritten" 2 P_overwritten (SpD C dOver) := ⟨f_overwritten, fd_overwritten, ok_overwritten (C := C) G_overwritten T PC D_cells_in, PySem.W.mg_of X G a_overwritten, G_overwritten.kp, b_overwritten⟩
    have D_content_after : DefOk l.prog w K mg base "content_after" 6 P_content_after (SpD C dAfter) := ⟨f_content_after, fd_content_after, ok_content_after (C := C) G_content_after T D_check_fall D_overwritten D_Plan_base, PySem.W.mg_of X G a_content_after, G_content_after.kp, b_content_after⟩
    have D_is_found : DefOk l.prog w K mg base "is_found" 7 P_is_found (SpD C dIsFound) := ⟨f_is_found, fd_is_found, ok_is_found (C := C) G_is_found T D_content_after D_check_pattern D_is_matched, PySem.W.mg_of X G a_is_found, G_is_found.kp, b_is_found⟩
    have D_are_ascending : DefOk l.prog w K mg base "are_ascending" 1 P_are_ascending (SpD C dAscends) := ⟨f_are_ascending, fd_are_ascending, ok_are_ascending (C := C) G_are_ascending T, PySem.W.mg_of X G a_are_ascending, G_are_ascending.kp, b_are_ascending⟩
    have D_is_pair : DefOk l.prog w K mg base "is_pair" 1 P_is_pair (SpD C dNever) := ⟨f_is_pair, fd_is_pair, ok_is_pair (C := C) G_is_pair, PySem.W.mg_of X G a_is_pair, G_is_pair.kp, b_is_pair⟩
    have D_led_to : DefOk l.prog w K mg base "led_to" 1 P_led_to (SpD C dNever) := ⟨f_led_to, fd_led_to, ok_led_to (C := C) G_led_to, PySem.W.mg_of X G a_led_to, G_led_to.kp, b_led_to⟩
    have D_claimed_there : DefOk l.prog w K mg base "claimed_there" 1 P_claimed_there (SpD C dClaimed) := ⟨f_claimed_there, fd_claimed_there, ok_claimed_there (C := C) G_claimed_there T, PySem.W.mg_of X G a_claimed_there, G_claimed_there.kp, b_claimed_there⟩
    have D_is_claims : DefOk l.prog w K mg base "is_claims" 4 P_is_claims (SpD C dIsClaims) := ⟨f_is_claims, fd_is_claims, ok_is_claims (C := C) G_is_claims T PC D_are_pieces D_is_pair D_are_ascending D_claimed_there D_led_to, PySem.W.mg_of X G a_is_claims, G_is_claims.kp, b_is_claims⟩
    have D_check_claims : DefOk l.prog w K mg base "check_claims" 5 P_check_claims (SpD C dCheckClaims) := ⟨f_check_claims, fd_check_claims, ok_check_claims (C := C) G_check_claims T D_is_claims, PySem.W.mg_of X G a_check_claims, G_check_claims.kp, b_check_claims⟩
    have D_refusal : DefOk l.prog w K mg base "refusal" 2 P_refusal (SpD C dRefusal) := ⟨f_refusal, fd_refusal, ok_refusal (C := C) G_refusal T PC D_claimed_there, PySem.W.mg_of X G a_refusal, G_refusal.kp, b_refusal⟩
    have D_sure_in : DefOk l.prog w K mg base "sure_in" 6 P_sure_in (SpD C dSureIn) := ⟨f_sure_in, fd_sure_in, ok_sure_in (C := C) G_sure_in T PC D_is_below D_check_claims D_Plan_epochs D_refusal D_lower_pieces D_claimed_there, PySem.W.mg_of X G a_sure_in, G_sure_in.kp, b_sure_in⟩
    have D_Peel : MakOk l.prog w K mg base "Peel" c 7 P_PeelX_initX (SpO C c (dPeel c)) := ⟨f_PeelX_initX, fd_PeelX_initX, ok_PeelX_initX (C := C) G_PeelX_initX T PC PE hcC D_overwritten D_Plan_base D_led_to D_sure_in, ⟨mkL, a_PeelX_initX, i_PeelX_initX, kcL⟩, cPeel, b_PeelX_initX⟩
    have D_Peel_spoilt : MetOk l.prog w K mg base c "spoilt" 2 P_Peel_spoilt (SpB C (bSpoilt c)) := ⟨clL, f_Peel_spoilt, fd_Peel_spoilt, ok_Peel_spoilt (C := C) G_Peel_spoilt T PC PE D_cells_in, ⟨a_Peel_spoilt, i_Peel_spoilt, q_Peel_spoilt⟩, b_Peel_spoilt⟩
    have D_Peel_can_be_last : MetOk l.prog w K mg base c "can_be_last" 3 P_Peel_can_be_last (SpB C (bCan c)) := ⟨clL, f_Peel_can_be_last, fd_Peel_can_be_last, ok_Peel_can_be_last (C := C) G_Peel_can_be_last T PC PE D_Peel_spoilt, ⟨a_Peel_can_be_last, i_Peel_can_be_last, q_Peel_can_be_last⟩, b_Peel_can_be_last⟩
    have D_Peel_take : MetOk l.prog w K mg base c "take" 2 P_Peel_take (SpB C (bTake c)) := ⟨clL, f_Peel_take, fd_Peel_take, ok_Peel_take (C := C) G_Peel_take T PC PE D_cells_in, ⟨a_Peel_take, i_Peel_take, q_Peel_take⟩, b_Peel_take⟩
    have D_Peel_take_all : MetOk l.prog w K mg base c "take_all" 4 P_Peel_take_all (SpB C (bTakeAll c)) := ⟨clL, f_Peel_take_all, fd_Peel_take_all, ok_Peel_take_all (C := C) G_Peel_take_all T PC PE D_Peel_can_be_last D_Peel_take, ⟨a_Peel_take_all, i_Peel_take_all, q_Peel_take_all⟩, b_Peel_take_all⟩
    have D_Peel_go_through : MetOk l.prog w K mg base c "go_through" 5 P_Peel_go_through (SpB C (bGo c)) := ⟨clL, f_Peel_go_through, fd_Peel_go_through, ok_Peel_go_through (C := C) G_Peel_go_through T PC PE hcC D_Peel_take_all D_Peel_spoilt, ⟨a_Peel_go_through, i_Peel_go_through, q_Peel_go_through⟩, b_Peel_go_through⟩
    have D_peeled : DefOk l.prog w K mg base "peeled" 10 P_peeled (SpD C (dPeeled c)) := ⟨f_peeled, fd_peeled, ok_peeled (C := C) G_peeled T PE hcC D_Peel D_Peel_go_through, PySem.W.mg_of X G a_peeled, G_peeled.kp, b_peeled⟩
    have D_can_begin : DefOk l.prog w K mg base "can_begin" 1 P_can_begin (SpD C dCanBegin) := ⟨f_can_begin, fd_can_begin, ok_can_begin (C := C) G_can_begin T, PySem.W.mg_of X G a_can_begin, G_can_begin.kp, b_can_begin⟩
    have D_sought_behind : DefOk l.prog w K mg base "sought_behind" 11 P_sought_behind (SpD C dSoughtB) := ⟨f_sought_behind, fd_sought_behind, ok_sought_behind (C := C) G_sought_behind T PC PE D_can_begin D_refusal D_peeled D_Plan_epochs, PySem.W.mg_of X G a_sought_behind, G_sought_behind.kp, b_sought_behind⟩
    have D_sought : DefOk l.prog w K mg base "sought" 12 P_sought (SpD C dSought) := ⟨f_sought, fd_sought, ok_sought (C := C) G_sought T D_sought_behind, PySem.W.mg_of X G a_sought, G_sought.kp, b_sought⟩
    have D_find : DefOk l.prog w K mg base "find" 13 P_find (SpD C dFind) := ⟨f_find, fd_find, ok_find (C := C) G_find T D_Plan_base D_check_pattern D_check_claims D_sought, PySem.W.mg_of X G a_find, G_find.kp, b_find⟩
    have D_entry : DefOk l.prog w K mg base "entry" 11 P_entry (SpD C dEntry) := ⟨f_entry, fd_entry, ok_entry (C := C) G_entry T PE D_refusal D_peeled, PySem.W.mg_of X G a_entry, G_entry.kp, b_entry⟩
    have D_shut : DefOk l.prog w K mg base "shut" 14 P_shut (SpD C dShut) := ⟨f_shut, fd_shut, ok_shut (C := C) G_shut T D_find D_entry D_Plan_epochs, PySem.W.mg_of X G a_shut, G_shut.kp, b_shut⟩
    have D__law_pen : DefOk l.prog w K mg base "_law_pen" 1 P__law_pen (SpD C (dPen K)) := ⟨f__law_pen, fd__law_pen, ok__law_pen (C := C) G__law_pen T, PySem.W.mg_of X G a__law_pen, G__law_pen.kp, b__law_pen⟩
    have D__law_next : DefOk l.prog w K mg base "_law_next" 1 P__law_next (SpB C bNext) := ⟨f__law_next, fd__law_next, ok__law_next (C := C) G__law_next T, PySem.W.mg_of X G a__law_next, G__law_next.kp, b__law_next⟩
    have D__law_draw : DefOk l.prog w K mg base "_law_draw" 2 P__law_draw (SpB C bDraw) := ⟨f__law_draw, fd__law_draw, ok__law_draw (C := C) G__law_draw T D__law_next, PySem.W.mg_of X G a__law_draw, G__law_draw.kp, b__law_draw⟩
    have D__law_some : DefOk l.prog w K mg base "_law_some" 3 P__law_some (SpB C bSome) := ⟨f__law_some, fd__law_some, ok__law_some (C := C) G__law_some T D__law_draw, PySem.W.mg_of X G a__law_some, G__law_some.kp, b__law_some⟩
    have D__law_split : DefOk l.prog w K mg base "_law_split" 1 P__law_split (SpD C dSplit) := ⟨f__law_split, fd__law_split, ok__law_split (C := C) G__law_split T, PySem.W.mg_of X G a__law_split, G__law_split.kp, b__law_split⟩
    have D__law_parts : DefOk l.prog w K mg base "_law_parts" 2 P__law_parts (SpD C dParts) := ⟨f__law_parts, fd__law_parts, ok__law_parts (C := C) G__law_parts T D__law_split, PySem.W.mg_of X G a__law_parts, G__law_parts.kp, b__law_parts⟩
    have D__law_ranks : DefOk l.prog w K mg base "_law_ranks" 3 P__law_ranks (SpD C dRanks) := ⟨f__law_ranks, fd__law_ranks, ok__law_ranks (C := C) G__law_ranks T D__law_parts, PySem.W.mg_of X G a__law_ranks, G__law_ranks.kp, b__law_ranks⟩
    have D__law_write : DefOk l.prog w K mg base "_law_write" 3 P__law_write (SpB C bWrite) := ⟨f__law_write, fd__law_write, ok__law_write (C := C) G__law_write T D__law_draw, PySem.W.mg_of X G a__law_write, G__law_write.kp, b__law_write⟩
    have D__law_drawn : DefOk l.prog w K mg base "_law_drawn" 4 P__law_drawn (SpB C bDrawn) := ⟨f__law_drawn, fd__law_drawn, ok__law_drawn (C := C) G__law_drawn T D__law_draw D__law_write D__law_parts, PySem.W.mg_of X G a__law_drawn, G__law_drawn.kp, b__law_drawn⟩
    have D__law_log : DefOk l.prog w K mg base "_law_log" 3 P__law_log (SpB C bLog) := ⟨f__law_log, fd__law_log, ok__law_log (C := C) G__law_log T D__law_draw, PySem.W.mg_of X G a__law_log, G__law_log.kp, b__law_log⟩
    have D__law_copy : DefOk l.prog w K mg base "_law_copy" 3 P__law_copy (SpB C bCopy) := ⟨f__law_copy, fd__law_copy, ok__law_copy (C := C) G__law_copy T D__law_draw, PySem.W.mg_of X G a__law_copy, G__law_copy.kp, b__law_copy⟩
    have D__law_plan : DefOk l.prog w K mg base "_law_plan" 5 P__law_plan (SpB C bPlan) := ⟨f__law_plan, fd__law_plan, ok__law_plan (C := C) G__law_plan T D__law_draw D__law_log D__law_copy D__law_drawn, PySem.W.mg_of X G a__law_plan, G__law_plan.kp, b__law_plan⟩
    have D__law_plan_of : DefOk l.prog w K mg base "_law_plan_of" 8 P__law_plan_of (SpD C dPlanOf) := ⟨f__law_plan_of, fd__law_plan_of, ok__law_plan_of (C := C) G__law_plan_of T D_Plan, PySem.W.mg_of X G a__law_plan_of, G__law_plan_of.kp, b__law_plan_of⟩
    have D__law_left : DefOk l.prog w K mg base "_law_left" 3 P__law_left (SpD C dLeft) := ⟨f__law_left, fd__law_left, ok__law_left (C := C) G__law_left T D__law_parts, PySem.W.mg_of X G a__law_left, G__law_left.kp, b__law_left⟩
    have D__law_nexts : DefOk l.prog w K mg base "_law_nexts" 1 P__law_nexts (SpD C dNexts) := ⟨f__law_nexts, fd__law_nexts, ok__law_nexts (C := C) G__law_nexts T, PySem.W.mg_of X G a__law_nexts, G__law_nexts.kp, b__law_nexts⟩
    have D__law_fall : DefOk l.prog w K mg base "_law_fall" 4 P__law_fall (SpB C bFall) := ⟨f__law_fall, fd__law_fall, ok__law_fall (C := C) G__law_fall T D__law_draw D__law_ranks D__law_nexts, PySem.W.mg_of X G a__law_fall, G__law_fall.kp, b__law_fall⟩
    have D__law_pattern : DefOk l.prog w K mg base "_law_pattern" 5 P__law_pattern (SpB C bPattern) := ⟨f__law_pattern, fd__law_pattern, ok__law_pattern (C := C) G__law_pattern T D__law_draw D__law_fall D__law_left D__law_some, PySem.W.mg_of X G a__law_pattern, G__law_pattern.kp, b__law_pattern⟩
    have D__law_found : DefOk l.prog w K mg base "_law_found" 14 P__law_found (SpD C dFound) := ⟨f__law_found, fd__law_found, ok__law_found (C := C) G__law_found T D_find, PySem.W.mg_of X G a__law_found, G__law_found.kp, b__law_found⟩
    exact ok_law (C := C) G_law T PC D__law_pen D__law_plan D__law_plan_of D__law_draw D_Plan_with_step D_Plan_pieces D_Plan_without_step D__law_pattern D__law_fall D__law_found D_is_fall D_is_found D_shut D_content_after D_PlanX_eqX
theorem walk {l : PySem.W.OpenLaw} {q : Program} {loose : List Str} {XP : (Str → Option Value) → Heap → Prop} {YP : World → Heap → Prop} {d : DefRec} {K : Params → PySem.W.Frag} (hn : l.most = some 63) (hdf : d.params.defaults = [])
    (hY : ∀ (w : World) (h : Heap), YP w h → (K w.params).In h)
    (F : ∀ (w : World) (mg : Str → Option Value) (fa : Addr) (h : Heap), (K w.params).In h → h.Ns mainGlobals mg → mg d.name = some (.ref fa) →
      ∃ fd : FuncData, (∀ (s : Shared) (u : Value), BindsTo s fd ⟨[u], []⟩ [("_law_script", u)]) ∧ ∀ base : Heap, (K w.params).In base → base.Ns mainGlobals mg → FnOk l.prog w (K w.params) mg base CX0 15 fa fd ["_law_script"] (spLaw (K w.params))) :
    PySem.W.WalkO q loose XP YP l.row.toRowW d [] (fun f vs => PySem.call f vs) :=
  L2.walk_of (n := 63) (k := 15) (x := "_law_script") (CX := fun _ => CX0) (sp := fun w => spLaw (K w.params)) hn (by decide) hdf ⟨rfl, by decide, by decide⟩ hY F (fun w H a ns hl hO hS => ⟨a, ns, rfl, hl, by
    rcases hS with h | h
    · rcases h with h | ⟨o, h⟩
      · rcases hO a with e | ⟨o, xs, e⟩
        · rw [h] at e; cases e
        · rw [h] at e; cases e
      · exact .inl ⟨o, h⟩
    · exact .inr fun H' => .inr h, fun _ => rfl⟩) fun _ _ _ _ _ z => z
end Af
end

open PySem PySem.W PyProof.Rows
set_option maxHeartbeats 0 in
theorem PySem.Challenge.cw_afterfall_k62_whole_barriers_more_holds : PySem.Challenge.rw_afterfall_k62_whole_barriers_more.Holds := by
  w_on; o_law; k_head; (case hw => w_witness2)
  k_fill
  refine Af.walk (l := PySem.Challenge.rw_afterfall_k62_whole_barriers_more) rfl rfl (fun w h Y => PySem.W.kIn_of Y) ?F
  case F =>
    intro w mg fa h KX G hmg
    refine' Af.all_mk KX G hmg ?aPlan ?aPeel ?hcC ?a_is_integer (Af.defF_mk ?l_is_integer ?c_is_integer ?k_is_integer) ?a_is_below (Af.defF_mk ?l_is_below ?c_is_below ?k_is_below) ?a_are_worths (Af.defF_mk ?l_are_worths ?c_are_worths ?k_are_worths) ?a_is_content (Af.defF_mk ?l_is_content ?c_is_content ?k_is_content) ?a_is_choice (Af.defF_mk ?l_is_choice ?c_is_choice ?k_is_choice) ?a_is_pattern (Af.defF_mk ?l_is_pattern ?c_is_pattern ?k_is_pattern) ?a_check_pattern (Af.defF_mk ?l_check_pattern ?c_check_pattern ?k_check_pattern) ?a_is_matched (Af.defF_mk ?l_is_matched ?c_is_matched ?k_is_matched) ?a_is_step (Af.defF_mk ?l_is_step ?c_is_step ?k_is_step) ?a_broken (Af.defF_mk ?l_broken ?c_broken ?k_broken) ?a_pieces_of (Af.defF_mk ?l_pieces_of ?c_pieces_of ?k_pieces_of) ?a_PlanX_initX ?i_PlanX_initX ?q_PlanX_initX (Af.defF_mk ?l_PlanX_initX ?c_PlanX_initX ?k_PlanX_initX) ?a_Plan_base ?g_Plan_base ?t_Plan_base ?r_Plan_base (Af.defF_mk ?l_Plan_base ?c_Plan_base ?k_Plan_base) ?a_Plan_pieces ?g_Plan_pieces ?t_Plan_pieces ?r_Plan_pieces (Af.defF_mk ?l_Plan_pieces ?c_Plan_pieces ?k_Plan_pieces) ?a_Plan_epochs ?g_Plan_epochs ?t_Plan_epochs ?r_Plan_epochs (Af.defF_mk ?l_Plan_epochs ?c_Plan_epochs ?k_Plan_epochs) ?a_Plan_with_step ?i_Plan_with_step ?q_Plan_with_step (Af.defF_mk ?l_Plan_with_step ?c_Plan_with_step ?k_Plan_with_step) ?a_Plan_without_step ?i_Plan_without_step ?q_Plan_without_step (Af.defF_mk ?l_Plan_without_step ?c_Plan_without_step ?k_Plan_without_step) ?a_PlanX_eqX ?i_PlanX_eqX ?q_PlanX_eqX (Af.defF_mk ?l_PlanX_eqX ?c_PlanX_eqX ?k_PlanX_eqX) ?a_cells_in (Af.defF_mk ?l_cells_in ?c_cells_in ?k_cells_in) ?a_are_pieces (Af.defF_mk ?l_are_pieces ?c_are_pieces ?k_are_pieces) ?a_lower_pieces (Af.defF_mk ?l_lower_pieces ?c_lower_pieces ?k_lower_pieces) ?a_is_fall (Af.defF_mk ?l_is_fall ?c_is_fall ?k_is_fall) ?a_check_fall (Af.defF_mk ?l_check_fall ?c_check_fall ?k_check_fall) ?a_overwritten (Af.defF_mk ?l_overwritten ?c_overwritten ?k_overwritten) ?a_content_after (Af.defF_mk ?l_content_after ?c_content_after ?k_content_after) ?a_is_found (Af.defF_mk ?l_is_found ?c_is_found ?k_is_found) ?a_are_ascending (Af.defF_mk ?l_are_ascending ?c_are_ascending ?k_are_ascending) ?a_is_pair (Af.defF_mk ?l_is_pair ?c_is_pair ?k_is_pair) ?a_led_to (Af.defF_mk ?l_led_to ?c_led_to ?k_led_to) ?a_claimed_there (Af.defF_mk ?l_claimed_there ?c_claimed_there ?k_claimed_there) ?a_is_claims (Af.defF_mk ?l_is_claims ?c_is_claims ?k_is_claims) ?a_check_claims (Af.defF_mk ?l_check_claims ?c_check_claims ?k_check_claims) ?a_refusal (Af.defF_mk ?l_refusal ?c_refusal ?k_refusal) ?a_sure_in (Af.defF_mk ?l_sure_in ?c_sure_in ?k_sure_in) ?a_PeelX_initX ?i_PeelX_initX ?q_PeelX_initX (Af.defF_mk ?l_PeelX_initX ?c_PeelX_initX ?k_PeelX_initX) ?a_Peel_spoilt ?i_Peel_spoilt ?q_Peel_spoilt (Af.defF_mk ?l_Peel_spoilt ?c_Peel_spoilt ?k_Peel_spoilt) ?a_Peel_can_be_last ?i_Peel_can_be_last ?q_Peel_can_be_last (Af.defF_mk ?l_Peel_can_be_last ?c_Peel_can_be_last ?k_Peel_can_be_last) ?a_Peel_take ?i_Peel_take ?q_Peel_take (Af.defF_mk ?l_Peel_take ?c_Peel_take ?k_Peel_take) ?a_Peel_take_all ?i_Peel_take_all ?q_Peel_take_all (Af.defF_mk ?l_Peel_take_all ?c_Peel_take_all ?k_Peel_take_all) ?a_Peel_go_through ?i_Peel_go_through ?q_Peel_go_through (Af.defF_mk ?l_Peel_go_through ?c_Peel_go_through ?k_Peel_go_through) ?a_peeled (Af.defF_mk ?l_peeled ?c_peeled ?k_peeled) ?a_can_begin (Af.defF_mk ?l_can_begin ?c_can_begin ?k_can_begin) ?a_sought_behind (Af.defF_mk ?l_sought_behind ?c_sought_behind ?k_sought_behind) ?a_sought (Af.defF_mk ?l_sought ?c_sought ?k_sought) ?a_find (Af.defF_mk ?l_find ?c_find ?k_find) ?a_entry (Af.defF_mk ?l_entry ?c_entry ?k_entry) ?a_shut (Af.defF_mk ?l_shut ?c_shut ?k_shut) ?a__law_pen (Af.defF_mk ?l__law_pen ?c__law_pen ?k__law_pen) ?a__law_next (Af.defF_mk ?l__law_next ?c__law_next ?k__law_next) ?a__law_draw (Af.defF_mk ?l__law_draw ?c__law_draw ?k__law_draw) ?a__law_some (Af.defF_mk ?l__law_some ?c__law_some ?k__law_some) ?a__law_split (Af.defF_mk ?l__law_split ?c__law_split ?k__law_split) ?a__law_parts (Af.defF_mk ?l__law_parts ?c__law_parts ?k__law_parts) ?a__law_ranks (Af.defF_mk ?l__law_ranks ?c__law_ranks ?k__law_ranks) ?a__law_write (Af.defF_mk ?l__law_write ?c__law_write ?k__law_write) ?a__law_drawn (Af.defF_mk ?l__law_drawn ?c__law_drawn ?k__law_drawn) ?a__law_log (Af.defF_mk ?l__law_log ?c__law_log ?k__law_log) ?a__law_copy (Af.defF_mk ?l__law_copy ?c__law_copy ?k__law_copy) ?a__law_plan (Af.defF_mk ?l__law_plan ?c__law_plan ?k__law_plan) ?a__law_plan_of (Af.defF_mk ?l__law_plan_of ?c__law_plan_of ?k__law_plan_of) ?a__law_left (Af.defF_mk ?l__law_left ?c__law_left ?k__law_left) ?a__law_nexts (Af.defF_mk ?l__law_nexts ?c__law_nexts ?k__law_nexts) ?a__law_fall (Af.defF_mk ?l__law_fall ?c__law_fall ?k__law_fall) ?a__law_pattern (Af.defF_mk ?l__law_pattern ?c__law_pattern ?k__law_pattern) ?a__law_found (Af.defF_mk ?l__law_found ?c__law_found ?k__law_found) ?a_law (Af.defF_mk ?l_law ?c_law ?k_law) ?pgP ?hdP ?poP ?saP ?mkP ?kcP ?pgL ?hdL ?poL ?saL ?mkL ?kcL ?n_start ?n_span ?n_deeds ?n_parts ?n_ranks ?m_given ?m_epoch ?m_needed ?m_bottom ?m_chains ?m_sure ?m_left ?m_taken ?m_spoils ?m_ended ?c1 ?c2 ?c3 ?c4 ?e1 ?e2 ?z_len ?z_list ?z_tuple ?z_int ?z_bool ?z_dict ?z_all ?z_any ?z_max ?z_min ?z_sorted ?z_set ?z_isinstance ?z_range ?z_enumerate ?z_MAX_CELLS ?z_WORTHS ?z_MAX_STEPS ?z_MAX_PIECES ?z_BASE
    (case aPlan => k_is)
    (case aPeel => k_is)
    (case hcC => decide)
    (case a_is_integer => k_is)
    (case l_is_integer => k_is)
    (case c_is_integer => k_is)
    (case k_is_integer => k_is)
    (case a_is_below => k_is)
    (case l_is_below => k_is)
    (case c_is_below => k_is)
    (case k_is_below => k_is)
    (case a_are_worths => k_is)
    (case l_are_worths => k_is)
    (case c_are_worths => k_is)
    (case k_are_worths => k_is)
    (case a_is_content => k_is)
    (case l_is_content => k_is)
    (case c_is_content => k_is)
    (case k_is_content => k_is)
    (case a_is_choice => k_is)
    (case l_is_choice => k_is)
    (case c_is_choice => k_is)
    (case k_is_choice => k_is)
    (case a_is_pattern => k_is)
    (case l_is_pattern => k_is)
    (case c_is_pattern => k_is)
    (case k_is_pattern => k_is)
    (case a_check_pattern => k_is)
    (case l_check_pattern => k_is)
    (case c_check_pattern => k_is)
    (case k_check_pattern => k_is)
    (case a_is_matched => k_is)
    (case l_is_matched => k_is)
    (case c_is_matched => k_is)
    (case k_is_matched => k_is)
    (case a_is_step => k_is)
    (case l_is_step => k_is)
    (case c_is_step => k_is)
    (case k_is_step => k_is)
    (case a_broken => k_is)
    (case l_broken => k_is)
    (case c_broken => k_is)
    (case k_broken => k_is)
    (case a_pieces_of => k_is)
    (case l_pieces_of => k_is)
    (case c_pieces_of => k_is)
    (case k_pieces_of => k_is)
    (case a_PlanX_initX => k_is)
    (case i_PlanX_initX => k_is)
    (case q_PlanX_initX => k_is)
    (case l_PlanX_initX => k_is)
    (case c_PlanX_initX => k_is)
    (case k_PlanX_initX => k_is)
    (case a_Plan_base => k_is)
    (case g_Plan_base => k_is)
    (case t_Plan_base => k_is)
    (case r_Plan_base => k_is)
    (case l_Plan_base => k_is)
    (case c_Plan_base => k_is)
    (case k_Plan_base => k_is)
    (case a_Plan_pieces => k_is)
    (case g_Plan_pieces => k_is)
    (case t_Plan_pieces => k_is)
    (case r_Plan_pieces => k_is)
    (case l_Plan_pieces => k_is)
    (case c_Plan_pieces => k_is)
    (case k_Plan_pieces => k_is)
    (case a_Plan_epochs => k_is)
    (case g_Plan_epochs => k_is)
    (case t_Plan_epochs => k_is)
    (case r_Plan_epochs => k_is)
    (case l_Plan_epochs => k_is)
    (case c_Plan_epochs => k_is)
    (case k_Plan_epochs => k_is)
    (case a_Plan_with_step => k_is)
    (case i_Plan_with_step => k_is)
    (case q_Plan_with_step => k_is)
    (case l_Plan_with_step => k_is)
    (case c_Plan_with_step => k_is)
    (case k_Plan_with_step => k_is)
    (case a_Plan_without_step => k_is)
    (case i_Plan_without_step => k_is)
    (case q_Plan_without_step => k_is)
    (case l_Plan_without_step => k_is)
    (case c_Plan_without_step => k_is)
    (case k_Plan_without_step => k_is)
    (case a_PlanX_eqX => k_is)
    (case i_PlanX_eqX => k_is)
    (case q_PlanX_eqX => k_is)
    (case l_PlanX_eqX => k_is)
    (case c_PlanX_eqX => k_is)
    (case k_PlanX_eqX => k_is)
    (case a_cells_in => k_is)
    (case l_cells_in => k_is)
    (case c_cells_in => k_is)
    (case k_cells_in => k_is)
    (case a_are_pieces => k_is)
    (case l_are_pieces => k_is)
    (case c_are_pieces => k_is)
    (case k_are_pieces => k_is)
    (case a_lower_pieces => k_is)
    (case l_lower_pieces => k_is)
    (case c_lower_pieces => k_is)
    (case k_lower_pieces => k_is)
    (case a_is_fall => k_is)
    (case l_is_fall => k_is)
    (case c_is_fall => k_is)
    (case k_is_fall => k_is)
    (case a_check_fall => k_is)
    (case l_check_fall => k_is)
    (case c_check_fall => k_is)
    (case k_check_fall => k_is)
    (case a_overwritten => k_is)
    (case l_overwritten => k_is)
    (case c_overwritten => k_is)
    (case k_overwritten => k_is)
    (case a_content_after => k_is)
    (case l_content_after => k_is)
    (case c_content_after => k_is)
    (case k_content_after => k_is)
    (case a_is_found => k_is)
    (case l_is_found => k_is)
    (case c_is_found => k_is)
    (case k_is_found => k_is)
    (case a_are_ascending => k_is)
    (case l_are_ascending => k_is)
    (case c_are_ascending => k_is)
    (case k_are_ascending => k_is)
    (case a_is_pair => k_is)
    (case l_is_pair => k_is)
    (case c_is_pair => k_is)
    (case k_is_pair => k_is)
    (case a_led_to => k_is)
    (case l_led_to => k_is)
    (case c_led_to => k_is)
    (case k_led_to => k_is)
    (case a_claimed_there => k_is)
    (case l_claimed_there => k_is)
    (case c_claimed_there => k_is)
    (case k_claimed_there => k_is)
    (case a_is_claims => k_is)
    (case l_is_claims => k_is)
    (case c_is_claims => k_is)
    (case k_is_claims => k_is)
    (case a_check_claims => k_is)
    (case l_check_claims => k_is)
    (case c_check_claims => k_is)
    (case k_check_claims => k_is)
    (case a_refusal => k_is)
    (case l_refusal => k_is)
    (case c_refusal => k_is)
    (case k_refusal => k_is)
    (case a_sure_in => k_is)
    (case l_sure_in => k_is)
    (case c_sure_in => k_is)
    (case k_sure_in => k_is)
    (case a_PeelX_initX => k_is)
    (case i_PeelX_initX => k_is)
    (case q_PeelX_initX => k_is)
    (case l_PeelX_initX => k_is)
    (case c_PeelX_initX => k_is)
    (case k_PeelX_initX => k_is)
    (case a_Peel_spoilt => k_is)
    (case i_Peel_spoilt => k_is)
    (case q_Peel_spoilt => k_is)
    (case l_Peel_spoilt => k_is)
    (case c_Peel_spoilt => k_is)
    (case k_Peel_spoilt => k_is)
    (case a_Peel_can_be_last => k_is)
    (case i_Peel_can_be_last => k_is)
    (case q_Peel_can_be_last => k_is)
    (case l_Peel_can_be_last => k_is)
    (case c_Peel_can_be_last => k_is)
    (case k_Peel_can_be_last => k_is)
    (case a_Peel_take => k_is)
    (case i_Peel_take => k_is)
    (case q_Peel_take => k_is)
    (case l_Peel_take => k_is)
    (case c_Peel_take => k_is)
    (case k_Peel_take => k_is)
    (case a_Peel_take_all => k_is)
    (case i_Peel_take_all => k_is)
    (case q_Peel_take_all => k_is)
    (case l_Peel_take_all => k_is)
    (case c_Peel_take_all => k_is)
    (case k_Peel_take_all => k_is)
    (case a_Peel_go_through => k_is)
    (case i_Peel_go_through => k_is)
    (case q_Peel_go_through => k_is)
    (case l_Peel_go_through => k_is)
    (case c_Peel_go_through => k_is)
    (case k_Peel_go_through => k_is)
    (case a_peeled => k_is)
    (case l_peeled => k_is)
    (case c_peeled => k_is)
    (case k_peeled => k_is)
    (case a_can_begin => k_is)
    (case l_can_begin => k_is)
    (case c_can_begin => k_is)
    (case k_can_begin => k_is)
    (case a_sought_behind => k_is)
    (case l_sought_behind => k_is)
    (case c_sought_behind => k_is)
    (case k_sought_behind => k_is)
    (case a_sought => k_is)
    (case l_sought => k_is)
    (case c_sought => k_is)
    (case k_sought => k_is)
    (case a_find => k_is)
    (case l_find => k_is)
    (case c_find => k_is)
    (case k_find => k_is)
    (case a_entry => k_is)
    (case l_entry => k_is)
    (case c_entry => k_is)
    (case k_entry => k_is)
    (case a_shut => k_is)
    (case l_shut => k_is)
    (case c_shut => k_is)
    (case k_shut => k_is)
    (case a__law_pen => k_is)
    (case l__law_pen => k_is)
    (case c__law_pen => k_is)
    (case k__law_pen => k_is)
    (case a__law_next => k_is)
    (case l__law_next => k_is)
    (case c__law_next => k_is)
    (case k__law_next => k_is)
    (case a__law_draw => k_is)
    (case l__law_draw => k_is)
    (case c__law_draw => k_is)
    (case k__law_draw => k_is)
    (case a__law_some => k_is)
    (case l__law_some => k_is)
    (case c__law_some => k_is)
    (case k__law_some => k_is)
    (case a__law_split => k_is)
    (case l__law_split => k_is)
    (case c__law_split => k_is)
    (case k__law_split => k_is)
    (case a__law_parts => k_is)
    (case l__law_parts => k_is)
    (case c__law_parts => k_is)
    (case k__law_parts => k_is)
    (case a__law_ranks => k_is)
    (case l__law_ranks => k_is)
    (case c__law_ranks => k_is)
    (case k__law_ranks => k_is)
    (case a__law_write => k_is)
    (case l__law_write => k_is)
    (case c__law_write => k_is)
    (case k__law_write => k_is)
    (case a__law_drawn => k_is)
    (case l__law_drawn => k_is)
    (case c__law_drawn => k_is)
    (case k__law_drawn => k_is)
    (case a__law_log => k_is)
    (case l__law_log => k_is)
    (case c__law_log => k_is)
    (case k__law_log => k_is)
    (case a__law_copy => k_is)
    (case l__law_copy => k_is)
    (case c__law_copy => k_is)
    (case k__law_copy => k_is)
    (case a__law_plan => k_is)
    (case l__law_plan => k_is)
    (case c__law_plan => k_is)
    (case k__law_plan => k_is)
    (case a__law_plan_of => k_is)
    (case l__law_plan_of => k_is)
    (case c__law_plan_of => k_is)
    (case k__law_plan_of => k_is)
    (case a__law_left => k_is)
    (case l__law_left => k_is)
    (case c__law_left => k_is)
    (case k__law_left => k_is)
    (case a__law_nexts => k_is)
    (case l__law_nexts => k_is)
    (case c__law_nexts => k_is)
    (case k__law_nexts => k_is)
    (case a__law_fall => k_is)
    (case l__law_fall => k_is)
    (case c__law_fall => k_is)
    (case k__law_fall => k_is)
    (case a__law_pattern => k_is)
    (case l__law_pattern => k_is)
    (case c__law_pattern => k_is)
    (case k__law_pattern => k_is)
    (case a__law_found => k_is)
    (case l__law_found => k_is)
    (case c__law_found => k_is)
    (case k__law_found => k_is)
    (case a_law => k_is)
    (case l_law => k_is)
    (case c_law => k_is)
    (case k_law => k_is)
    (case pgP => k_is)
    (case hdP => k_is)
    (case poP => k_is)
    (case saP => k_is)
    (case mkP => k_is)
    (case kcP => k_is)
    (case pgL => k_is)
    (case hdL => k_is)
    (case poL => k_is)
    (case saL => k_is)
    (case mkL => k_is)
    (case kcL => k_is)
    (case n_start => k_is)
    (case n_span => k_is)
    (case n_deeds => k_is)
    (case n_parts => k_is)
    (case n_ranks => k_is)
    (case m_given => k_is)
    (case m_epoch => k_is)
    (case m_needed => k_is)
    (case m_bottom => k_is)
    (case m_chains => k_is)
    (case m_sure => k_is)
    (case m_left => k_is)
    (case m_taken => k_is)
    (case m_spoils => k_is)
    (case m_ended => k_is)
    (case c1 => k_is)
    (case c2 => k_is)
    (case c3 => k_is)
    (case c4 => k_is)
    (case e1 => k_is)
    (case e2 => k_is)
    (case z_len => k_is)
    (case z_list => k_is)
    (case z_tuple => k_is)
    (case z_int => k_is)
    (case z_bool => k_is)
    (case z_dict => k_is)
    (case z_all => k_is)
    (case z_any => k_is)
    (case z_max => k_is)
    (case z_min => k_is)
    (case z_sorted => k_is)
    (case z_set => k_is)
    (case z_isinstance => k_is)
    (case z_range => k_is)
    (case z_enumerate => k_is)
    (case z_MAX_CELLS => k_is)
    (case z_WORTHS => k_is)
    (case z_MAX_STEPS => k_is)
    (case z_MAX_PIECES => k_is)
    (case z_BASE => k_is)
