import PyProof.Rows.All
import Wide.All
import OpenK.AllK
import Wide.FinOn
import HandS.ForMost
import HandS.Slots
import HandS.Zip
import HandS.Defaults
import HandS.ForExc
import HandS.CallSlots
import HandS.TupAny
import HandS.TupMul
import HandS.TupLe
import HandS.Style
import HandS.Wide
import HandS.Deep
import HandS.IsInst
import HandS.SlotsOwn
import KE.KOpsOwn
import HandS.HeadHook4
import HandS.HeadEnd
import HandS.Head2
import HandS.Conv
import HandS.TupSets
import HandS.ClsMeth
import PySem.Challenge.RW_registerrooms_k41_whole_rivals
set_option Elab.async false
set_option linter.all false
set_option maxRecDepth 100000
set_option maxHeartbeats 0
namespace CI
open PySem L2
inductive Val where
  | non | bl (b : Bool) | int (i : Int) | str (x : Str) | tup (xs : List Val) | fls (xs : List Val) | ref (n : Nat) | ty (n : String) | cst (c : Nat)
inductive AObj where
  | lst (xs : List Val)
  | dK (kvs : List (Key × Val))
  | obj (c : Nat) (dx : Nat) (fs : List (Option Val))
  | junk
abbrev AH := List AObj
abbrev AEnv := List (Option Val)
/-- an exception: its class, what its own field holds -/
structure Exn where
  cls : Nat
  fld : Option (Str × Val)
inductive Res (α : Type) where
  | ok (a : α) (h : AH)
  | ex (x : Exn) (h : AH)
  | stuck
def Res.bind {α β : Type} (r : Res α) (k : α → AH → Res β) : Res β := match r with
  | .ok a h => k a h
  | .ex x h => .ex x h
  | .stuck => .stuck
/-- a frozen list, or one of the written part -/
def FzL (K : PySem.W.Frag) (H : Hp) (a : Addr) (xs : List V) : Prop :=
  (∃ o, H a = some (.frz o (.lst xs))) ∨
    ∃ (o : Obj) (its : Array Value) (n : Nat), K.lookup a = some o ∧ o.cls = .type "list" ∧ o.dict = none ∧ o.data = .seq its n ∧ its.size ≤ sizeLine ∧ Vals xs its.toList
theorem FzL.sq {K : PySem.W.Frag} {H : Hp} {a : Addr} {xs : List V} (h : FzL K H a xs) : SqL K H a xs := by
  rcases h with ⟨o, h⟩ | h
  · exact .inl (.inr ⟨o, h⟩)
  · exact .inr h
/-- the written part; where the constants stand -/
structure Wd where
  K : PySem.W.Frag
  kap : Nat → Addr
section
variable (G : Wd) (ρ : List Addr) (H : Hp)
mutual
inductive RV : Val → V → Prop
  | non : RV .non .non
  | bl (b : Bool) : RV (.bl b) (.bl b)
  | int (i : Int) : RV (.int i) (.int i)
  | str (x : Str) : RV (.str x) (.str x)
  | ty (n : String) : RV (.ty n) (.ty n)
  | tup {xs : List Val} {a : Addr} {vs : List V} : SqT G.K H a vs → RVs xs vs → RV (.tup xs) (.ref a)
  | fls {xs : List Val} {a : Addr} {vs : List V} : FzL G.K H a vs → RVs xs vs → RV (.fls xs) (.ref a)
  | ref {n : Nat} {a : Addr} : ρ[n]? = some a → RV (.ref n) (.ref a)
  | cst (c : Nat) : RV (.cst c) (.ref (G.kap c))
inductive RVs : List Val → List V → Prop
  | nil : RVs [] []
  | cons {x : Val} {xs : List Val} {v : V} {vs : List V} : RV x v → RVs xs vs → RVs (x :: xs) (v :: vs)
end
end
/-- the instance's slots -/
def RFs (G : Wd) (ρ : List Addr) (H : Hp) (fs : List (Option Val)) (vs : List (Option V)) : Prop := ∀ (i : Nat) (x : Val), fs[i]? = some (some x) → ∃ v, vs[i]? = some (some v) ∧ RV G ρ H x v
inductive RKs (G : Wd) (ρ : List Addr) (H : Hp) : List (Key × Val) → List (Key × V) → Prop
  | nil : RKs G ρ H [] []
  | cons {k : Key} {x : Val} {v : V} {xs : List (Key × Val)} {vs : List (Key × V)} : RV G ρ H x v → RKs G ρ H xs vs → RKs G ρ H ((k, x) :: xs) ((k, v) :: vs)
def RO (G : Wd) (ρ : List Addr) (H : Hp) (a : Addr) : AObj → Prop
  | .lst xs => ∃ vs, H a = some (.lst vs) ∧ RVs G ρ H xs vs
  | .dK kvs => ∃ vs, H a = some (.dK vs) ∧ RKs G ρ H kvs vs
  | .obj c d fs => ∃ dx vs, ρ[d]? = some dx ∧ SlX.Slt H a (G.kap c) dx vs ∧ (H dx = some (.own a) ∨ H dx = some (.xd [])) ∧ RFs G ρ H fs vs
  | .junk => H a = some (.xd []) ∨ ∃ x, H a = some (.own x)
structure RH (G : Wd) (ρ : List Addr) (h : AH) (H : Hp) : Prop where
  len : ρ.length = h.length
  nd : ρ.Nodup
  obj : ∀ (i : Nat) (o : AObj) (a : Addr), h[i]? = some o → ρ[i]? = some a → RO G ρ H a o
structure Ext (G : Wd) (ρ : List Addr) (H : Hp) (ρ' : List Addr) (H' : Hp) : Prop where
  pre : ∃ l, ρ' = ρ ++ l
  new : ∀ a ∈ ρ', a ∈ ρ ∨ H a = none
  frame : ∀ b o, H b = some o → b ∉ ρ → H' b = some o
  tup : ∀ a vs, SqT G.K H a vs → SqT G.K H' a vs
  frz : ∀ a o u, H a = some (.frz o u) → H' a = some (.frz o u)
section
variable {G : Wd} {ρ ρ' ρ1 ρ2 : List Addr} {H H' H1 H2 : Hp}
theorem Ext.refl : Ext G ρ H ρ H := ⟨⟨[], by simp⟩, fun _ h => .inl h, fun _ _ h _ => h, fun _ _ h => h, fun _ _ _ h => h⟩
theorem Ext.trans (a : Ext G ρ H ρ1 H1) (b : Ext G ρ1 H1 ρ2 H2) : Ext G ρ H ρ2 H2 := by
  obtain ⟨l, hl⟩ := a.pre
  obtain ⟨m, hm⟩ := b.pre
  refine ⟨⟨l ++ m, by rw [hm, hl, List.append_assoc]⟩, fun c hc => ?_, fun c o h hn => ?_, fun c vs h => b.tup c vs (a.tup c vs h), fun c o u h => b.frz c o u (a.frz c o u h)⟩
  · rcases b.new c hc with h | h
    · exact a.new c h
    · by_cases hr : c ∈ ρ
      · exact .inl hr
      · right
        cases q : H c with
        | none => rfl
        | some o => rw [a.frame c o q hr] at h; cases h
  · have h1 := a.frame c o h hn
    refine b.frame c o h1 fun hc => ?_
    rcases a.new c hc with z | z
    · exact hn z
    · rw [z] at h; cases h
theorem Ext.at (a : Ext G ρ H ρ' H') {i : Nat} {x : Addr} (h : ρ[i]? = some x) : ρ'[i]? = some x := by
  obtain ⟨l, rfl⟩ := a.pre
  rw [List.getElem?_append_left (List.getElem?_eq_some_iff.mp h).1]
  exact h
theorem FzL.ext {K : PySem.W.Frag} {a : Addr} {xs : List V} (k : ∀ a o u, H a = some (.frz o u) → H' a = some (.frz o u)) (h : FzL K H a xs) : FzL K H' a xs := by
  rcases h with ⟨o, h⟩ | h
  · exact .inl ⟨o, k _ _ _ h⟩
  · exact .inr h
/-- what keeps a value -/
structure Kp (G : Wd) (ρ : List Addr) (H : Hp) (ρ' : List Addr) (H' : Hp) : Prop where
  at_ : ∀ (i : Nat) (x : Addr), ρ[i]? = some x → ρ'[i]? = some x
  tup : ∀ a vs, SqT G.K H a vs → SqT G.K H' a vs
  frz : ∀ a o u, H a = some (.frz o u) → H' a = some (.frz o u)
theorem Kp.trans (a : Kp G ρ H ρ1 H1) (b : Kp G ρ1 H1 ρ2 H2) : Kp G ρ H ρ2 H2 := ⟨fun i x h => b.at_ i x (a.at_ i x h), fun c vs h => b.tup c vs (a.tup c vs h), fun c o u h => b.frz c o u (a.frz c o u h)⟩
theorem Kp.refl : Kp G ρ H ρ H := ⟨fun _ _ h => h, fun _ _ h => h, fun _ _ _ h => h⟩
theorem Ext.kp (a : Ext G ρ H ρ' H') : Kp G ρ H ρ' H' := ⟨fun _ _ h => a.at h, a.tup, a.frz⟩
mutual
theorem RV.kp (e : Kp G ρ H ρ' H') : ∀ {x : Val} {v : V}, RV G ρ H x v → RV G ρ' H' x v
  | _, _, .non => .non
  | _, _, .bl b => .bl b
  | _, _, .int i => .int i
  | _, _, .str x => .str x
  | _, _, .ty n => .ty n
  | _, _, .tup h r => .tup (e.tup _ _ h) (RVs.kp e r)
  | _, _, .fls h r => .fls (h.ext e.frz) (RVs.kp e r)
  | _, _, .ref h => .ref (e.at_ _ _ h)
  | _, _, .cst c => .cst c
theorem RVs.kp (e : Kp G ρ H ρ' H') : ∀ {xs : List Val} {vs : List V}, RVs G ρ H xs vs → RVs G ρ' H' xs vs
  | _, _, .nil => .nil
  | _, _, .cons h r => .cons (RV.kp e h) (RVs.kp e r)
end
theorem RKs.kp (e : Kp G ρ H ρ' H') : ∀ {xs : List (Key × Val)} {vs : List (Key × V)}, RKs G ρ H xs vs → RKs G ρ' H' xs vs
  | _, _, .nil => .nil
  | _, _, .cons h r => .cons (h.kp e) (RKs.kp e r)
theorem RFs.kp (e : Kp G ρ H ρ' H') {fs : List (Option Val)} {vs : List (Option V)} (h : RFs G ρ H fs vs) : RFs G ρ' H' fs vs := fun i x q => by
  obtain ⟨v, h1, h2⟩ := h i x q
  exact ⟨v, h1, h2.kp e⟩
theorem RVs.length : ∀ {xs : List Val} {vs : List V}, RVs G ρ H xs vs → xs.length = vs.length
  | _, _, .nil => rfl
  | _, _, .cons _ r => by simp [RVs.length r]
theorem RVs.append : ∀ {xs ys : List Val} {vs ws : List V}, RVs G ρ H xs vs → RVs G ρ H ys ws → RVs G ρ H (xs ++ ys) (vs ++ ws)
  | _, _, _, _, .nil, s => s
  | _, _, _, _, .cons r t, s => .cons r (RVs.append t s)
theorem RVs.get : ∀ {xs : List Val} {vs : List V} {i : Nat} {x : Val}, RVs G ρ H xs vs → xs[i]? = some x → ∃ v, vs[i]? = some v ∧ RV G ρ H x v
  | _, _, _, _, .nil, e => by simp at e
  | _, _, 0, _, .cons r _, e => by simp at e; subst e; exact ⟨_, rfl, r⟩
  | _, _, i + 1, x, .cons _ t, e => by
    obtain ⟨u, h1, h2⟩ := RVs.get (i := i) (x := x) t (by simpa using e)
    exact ⟨u, by simpa using h1, h2⟩
theorem RVs.drop : ∀ {xs : List Val} {vs : List V} (n : Nat), RVs G ρ H xs vs → RVs G ρ H (xs.drop n) (vs.drop n)
  | _, _, 0, r => r
  | _, _, _ + 1, .nil => .nil
  | _, _, n + 1, .cons _ t => RVs.drop n t
theorem RVs.take : ∀ {xs : List Val} {vs : List V} (n : Nat), RVs G ρ H xs vs → RVs G ρ H (xs.take n) (vs.take n)
  | _, _, 0, _ => .nil
  | _, _, _ + 1, .nil => .nil
  | _, _, n + 1, .cons r t => .cons r (RVs.take n t)
theorem RVs.set {x : Val} {v : V} (r : RV G ρ H x v) : ∀ {xs : List Val} {vs : List V} (i : Nat), RVs G ρ H xs vs → RVs G ρ H (xs.set i x) (vs.set i v)
  | _, _, _, .nil => .nil
  | _, _, 0, .cons _ t => .cons r t
  | _, _, i + 1, .cons q t => .cons q (RVs.set r i t)
/-- nothing of ρ is free, a tuple or locked -/
theorem RH.there {h : AH} (R : RH G ρ h H) {a : Addr} (ha : a ∈ ρ) : ∃ o, H a = some o ∧ (∀ xs, o ≠ .tup xs) ∧ ∀ ob u, o ≠ .frz ob u := by
  obtain ⟨i, hi, e⟩ := List.mem_iff_getElem.mp ha
  have e1 : ρ[i]? = some a := by rw [List.getElem?_eq_getElem hi, e]
  have hi2 : i < h.length := by rw [← R.len]; exact hi
  have q := R.obj i h[i] a (List.getElem?_eq_getElem hi2) e1
  cases e2 : h[i] with
  | lst xs =>
    rw [e2] at q
    obtain ⟨vs, z, _⟩ := q
    exact ⟨_, z, fun _ => by simp, fun _ _ => by simp⟩
  | dK kvs =>
    rw [e2] at q
    obtain ⟨vs, z, _⟩ := q
    exact ⟨_, z, fun _ => by simp, fun _ _ => by simp⟩
  | junk =>
    rw [e2] at q
    rcases q with z | ⟨x, z⟩
    · exact ⟨_, z, fun _ => by simp, fun _ _ => by simp⟩
    · exact ⟨_, z, fun _ => by simp, fun _ _ => by simp⟩
  | obj c d fs =>
    rw [e2] at q
    obtain ⟨dx, vs, _, z, _⟩ := q
    rcases z with ⟨z, _⟩ | ⟨z, _⟩
    · exact ⟨_, z, fun _ => by simp, fun _ _ => by simp⟩
    · exact ⟨_, z, fun _ => by simp [SlX.SlO], fun _ _ => by simp [SlX.SlO]⟩
theorem RH.out {h : AH} (R : RH G ρ h H) {a : Addr} (ha : H a = none) : a ∉ ρ := fun z => by
  obtain ⟨o, e, _⟩ := R.there z
  rw [ha] at e; cases e
theorem slt_not {a dx C : Addr} {vs : List (Option V)} (h : SlX.Slt H a C dx vs) : (∀ xs, H a ≠ some (.lst xs)) ∧ (∀ xs, H a ≠ some (.dK xs)) ∧ (H a ≠ some (.xd [])) ∧ ∀ x, H a ≠ some (.own x) := by
  rcases h with ⟨z, _⟩ | ⟨z, _⟩
  · rw [z]; simp
  · rw [z]; simp [SlX.SlO]
/-- an object that is not touched -/
theorem RO.to (k : Kp G ρ H ρ' H') {a : Addr} {o : AObj} (ha : H' a = H a) (hd : ∀ dx, (H dx = some (.own a) ∨ H dx = some (.xd [])) → (H' dx = H dx ∨ H' dx = some (.xd []))) (h : RO G ρ H a o) : RO G ρ' H' a o := by
  cases o with
  | lst xs =>
    obtain ⟨vs, z, r⟩ := h
    exact ⟨vs, ha.trans z, r.kp k⟩
  | dK xs =>
    obtain ⟨vs, z, r⟩ := h
    exact ⟨vs, ha.trans z, r.kp k⟩
  | junk =>
    rcases h with z | ⟨x, z⟩
    · exact .inl (ha.trans z)
    · exact .inr ⟨x, ha.trans z⟩
  | obj c d fs =>
    obtain ⟨dx, vs, e, z, q, r⟩ := h
    refine ⟨dx, vs, k.at_ _ _ e, ?_, ?_, r.kp k⟩
    · rcases z with ⟨z, y⟩ | ⟨z, y⟩
      · exact .inl ⟨ha.trans z, y⟩
      · refine .inr ⟨ha.trans z, ?_⟩
        rcases hd dx q with u | u
        · exact u.trans y
        · exact u
    · rcases hd dx q with u | u
      · rw [u]; exact q
      · exact .inr u
theorem sqt_fresh {K : PySem.W.Frag} {a p : Addr} {o : HO} {vs : List V} (h : SqT K H a vs) (hp : H p = none) : SqT K (upd H p o) a vs := by
  rcases h with (h | ⟨ob, h⟩) | h
  · exact .inl (.inl (by rw [upd_ne (ne_of_none h hp)]; exact h))
  · exact .inl (.inr ⟨ob, by rw [upd_ne (ne_of_none h hp)]; exact h⟩)
  · exact .inr h
/-- a new object that is not in ρ -/
theorem Ext.fresh {h : AH} (R : RH G ρ h H) {p : Addr} {o : HO} (hp : H p = none) : Ext G ρ H ρ (upd H p o) :=
  ⟨⟨[], by simp⟩, fun _ h => .inl h, fun b u e _ => by rw [upd_ne (ne_of_none e hp)]; exact e, fun a vs q => sqt_fresh q hp, fun a ob u e => by rw [upd_ne (ne_of_none e hp)]; exact e⟩
theorem RH.fresh {h : AH} (R : RH G ρ h H) {p : Addr} {o : HO} (hp : H p = none) : RH G ρ h (upd H p o) :=
  ⟨R.len, R.nd, fun i ob a e1 e2 => (R.obj i ob a e1 e2).to (Ext.fresh R hp).kp (by
    have := R.out hp
    rw [upd_ne]; rintro rfl; exact this (List.mem_of_getElem? e2)) fun dx q => .inl (by
    rw [upd_ne]; rintro rfl
    rw [hp] at q; rcases q with q | q <;> cases q)⟩
/-- a new object at the end of ρ -/
theorem Ext.snoc {h : AH} (R : RH G ρ h H) {p : Addr} {o : HO} (hp : H p = none) : Ext G ρ H (ρ ++ [p]) (upd H p o) :=
  ⟨⟨[p], rfl⟩, fun a ha => by
    rcases List.mem_append.mp ha with z | z
    · exact .inl z
    · obtain rfl : a = p := by simpa using z
      exact .inr hp, fun b u e _ => by rw [upd_ne (ne_of_none e hp)]; exact e, fun a vs q => sqt_fresh q hp, fun a ob u e => by rw [upd_ne (ne_of_none e hp)]; exact e⟩
theorem RH.snoc {h : AH} (R : RH G ρ h H) {p : Addr} {o : HO} {ob : AObj} (hp : H p = none) (n : RO G (ρ ++ [p]) (upd H p o) p ob) : RH G (ρ ++ [p]) (h ++ [ob]) (upd H p o) := by
  have np := R.out hp
  refine ⟨by simp [R.len], ?_, fun i u a e1 e2 => ?_⟩
  · rw [List.nodup_append]
    refine ⟨R.nd, by simp, fun x hx y hy => ?_⟩
    obtain rfl : y = p := by simpa using hy
    rintro rfl; exact np hx
  · by_cases hi : i < ρ.length
    · rw [List.getElem?_append_left hi] at e2
      rw [List.getElem?_append_left (by rw [← R.len]; exact hi)] at e1
      refine (R.obj i u a e1 e2).to (Ext.snoc R hp).kp ?_ fun dx q => .inl ?_
      · rw [upd_ne]; rintro rfl; exact np (List.mem_of_getElem? e2)
      · rw [upd_ne]; rintro rfl
        rw [hp] at q; rcases q with q | q <;> cases q
    · have hi' : ρ.length ≤ i := Nat.le_of_not_lt hi
      rw [List.getElem?_append_right hi'] at e2
      rw [List.getElem?_append_right (by rw [← R.len]; exact hi')] at e1
      rw [← R.len] at e1
      cases hj : i - ρ.length with
      | zero =>
        rw [hj] at e1 e2
        simp at e1 e2
        subst e1 e2
        exact n
      | succ j =>
        rw [hj] at e2; simp at e2
/-- a list or a dict of ρ is changed -/
theorem Ext.change {h : AH} (R : RH G ρ h H) {a : Addr} {x o : HO} (ha : a ∈ ρ) : Ext G ρ H ρ (upd H a o) := by
  obtain ⟨u, e, nt, nf⟩ := R.there ha
  refine ⟨⟨[], by simp⟩, fun _ h => .inl h, fun b v q hb => ?_, fun b vs q => ?_, fun b ob v q => ?_⟩
  · rw [upd_ne]; exact q
    rintro rfl; exact hb ha
  · rcases q with (q | ⟨ob, q⟩) | q
    · refine .inl (.inl ?_)
      rw [upd_ne]; exact q
      rintro rfl; rw [e] at q; cases q; exact nt _ rfl
    · refine .inl (.inr ⟨ob, ?_⟩)
      rw [upd_ne]; exact q
      rintro rfl; rw [e] at q; cases q; exact nf _ _ rfl
    · exact .inr q
  · rw [upd_ne]; exact q
    rintro rfl; rw [e] at q; cases q; exact nf _ _ rfl
theorem RH.change {h : AH} (R : RH G ρ h H) {i : Nat} {a : Addr} {o : HO} {ob ob' : AObj} (hi : h[i]? = some ob) (e : ρ[i]? = some a) (hold : (∃ xs, H a = some (.lst xs)) ∨ ∃ xs, H a = some (.dK xs)) (n : RO G ρ (upd H a o) a ob') : RH G ρ (h.set i ob') (upd H a o) := by
  refine ⟨by simp [R.len], R.nd, fun j u b e1 e2 => ?_⟩
  by_cases hj : i = j
  · subst hj
    rw [List.getElem?_set_self (List.getElem?_eq_some_iff.mp hi).1] at e1
    rw [e] at e2
    cases e1; cases e2
    exact n
  · rw [List.getElem?_set_ne hj] at e1
    have hba : b ≠ a := by
      rintro rfl
      exact hj ((List.getElem_inj (h₀ := (List.getElem?_eq_some_iff.mp e).1) (h₁ := (List.getElem?_eq_some_iff.mp e2).1) R.nd).mp ((List.getElem?_eq_some_iff.mp e).2.trans (List.getElem?_eq_some_iff.mp e2).2.symm))
    refine (R.obj j u b e1 e2).to (Ext.change (x := o) R (List.mem_of_getElem? e)).kp (upd_ne hba) fun dx q => .inl ?_
    rw [upd_ne]; rintro rfl
    rcases hold with ⟨xs, z⟩ | ⟨xs, z⟩ <;> rw [z] at q <;> rcases q with q | q <;> cases q
theorem sqt_upd {K : PySem.W.Frag} {a p : Addr} {o : HO} {vs : List V} (h : SqT K H a vs) (hp : ∀ x u, H p = some x → (∀ xs, x ≠ .tup xs) ∧ (x ≠ .frz u (.tup vs))) : SqT K (upd H p o) a vs := by
  rcases h with (h | ⟨ob, h⟩) | h
  · refine .inl (.inl ?_)
    rw [upd_ne]; exact h
    rintro rfl
    exact (hp _ default h).1 _ rfl
  · refine .inl (.inr ⟨ob, ?_⟩)
    rw [upd_ne]; exact h
    rintro rfl
    exact (hp _ ob h).2 rfl
  · exact .inr h
end
end CI
namespace CI
open PySem L2
abbrev WX := Value → Option Addr → L2.St → Hp → Prop
abbrev WF : CI.WX := fun _ _ _ _ => False
def RE (G : Wd) (ρ : List Addr) (H : Hp) (env : AEnv) (σ : L2.St) : Prop := env.length = σ.length ∧ ∀ (i : Nat) (v : Val), env[i]? = some (some v) → ∃ x, σ[i]? = some (some x) ∧ RV G ρ H v x
theorem RE.kp {G : Wd} {ρ ρ' : List Addr} {H H' : Hp} {env : AEnv} {σ : L2.St} (e : Kp G ρ H ρ' H') (h : RE G ρ H env σ) : RE G ρ' H' env σ := ⟨h.1, fun i v q => by
  obtain ⟨x, h1, h2⟩ := h.2 i v q
  exact ⟨x, h1, h2.kp e⟩⟩
theorem RE.set {G : Wd} {ρ : List Addr} {H : Hp} {env : AEnv} {σ : L2.St} (h : RE G ρ H env σ) {v : Val} {x : V} (r : RV G ρ H v x) (i : Nat) : RE G ρ H (env.set i (some v)) (σ.set i (some x)) := by
  refine ⟨by simpa using h.1, fun j w q => ?_⟩
  by_cases e : i = j
  · subst e
    have hl : i < env.length := by
      by_cases z : i < env.length
      · exact z
      · rw [List.getElem?_eq_none (by simpa using z)] at q; cases q
    rw [List.getElem?_set_self hl] at q
    cases q
    exact ⟨x, List.getElem?_set_self (by rw [← h.1]; exact hl), r⟩
  · rw [List.getElem?_set_ne e] at q
    rw [List.getElem?_set_ne e]
    exact h.2 j w q
def RX (G : Wd) (ρ : List Addr) (H : Hp) (x : Exn) (cls : Value) (d : Option Addr) : Prop := cls = .ref (G.kap x.cls) ∧ match x.fld with
  | none => d = none
  | some (f, v) => ∃ dd y, d = some dd ∧ H dd = some (.xd [(f, y)]) ∧ RV G ρ H v y ∧ dd ∉ ρ
/-- what is wanted of a run's end -/
def Post {α β : Type} (rel : List Addr → Hp → α → β → Prop) (G : Wd) (ρ : List Addr) (H : Hp) (W : CI.WX) (σ : L2.St) (Q : β → Hp → Prop) : Res α → Prop
  | .ok v h => ∀ ρ' H' z, Ext G ρ H ρ' H' → RH G ρ' h H' → rel ρ' H' v z → Q z H'
  | .ex x h => ∀ ρ' H' cls d, Ext G ρ H ρ' H' → RH G ρ' h H' → RX G ρ' H' x cls d → W cls d σ H'
  | .stuck => False
theorem Post.mono {α β : Type} {rel : List Addr → Hp → α → β → Prop} {G : Wd} {ρ ρ1 : List Addr} {H H1 : Hp} {W : CI.WX} {σ : L2.St} {Q : β → Hp → Prop} (e : Ext G ρ H ρ1 H1) : ∀ {r : Res α}, Post rel G ρ H W σ Q r → Post rel G ρ1 H1 W σ Q r
  | .ok _ _, h => fun ρ' H' z e' => h ρ' H' z (e.trans e')
  | .ex _ _, h => fun ρ' H' c d e' => h ρ' H' c d (e.trans e')
  | .stuck, h => h
theorem Post.bind {α β γ δ : Type} {rel : List Addr → Hp → α → β → Prop} {rel2 : List Addr → Hp → γ → δ → Prop} {G : Wd} {ρ : List Addr} {H : Hp} {W : CI.WX} {σ : L2.St} {Q : δ → Hp → Prop} {Nx : β → Hp → Prop} {k : α → AH → Res γ} {r : Res α}
    (h : Post rel2 G ρ H W σ Q (r.bind k)) (f : ∀ a h1 ρ1 H1 y, r = .ok a h1 → Ext G ρ H ρ1 H1 → RH G ρ1 h1 H1 → rel ρ1 H1 a y → Post rel2 G ρ1 H1 W σ Q (k a h1) → Nx y H1) : Post rel G ρ H W σ Nx r := by
  cases r with
  | ok a h1 => exact fun ρ1 H1 y e R r => f a h1 ρ1 H1 y rfl e R r (Post.mono e h)
  | ex x h1 => exact h
  | stuck => exact h
theorem Post.imp {α β : Type} {rel : List Addr → Hp → α → β → Prop} {G : Wd} {ρ : List Addr} {H : Hp} {W : CI.WX} {σ : L2.St} {Q Q' : β → Hp → Prop} {r : Res α} (h : Post rel G ρ H W σ Q r) (f : ∀ z H', Q z H' → Q' z H') : Post rel G ρ H W σ Q' r := by
  cases r with
  | ok a h1 => exact fun ρ1 H1 y e R r => f _ _ (h ρ1 H1 y e R r)
  | ex x h1 => exact h
  | stuck => exact h
abbrev ME := AEnv → AH → Res Val
abbrev MT := AEnv → AH → Res Bool
abbrev MA := AEnv → AH → Res (List Val)
def tR {α β : Type} (rel : List Addr → Hp → α → β → Prop) (G : Wd) (W : CI.WX) (m : AEnv → AH → Res α) : L2.St → Hp → (β → Hp → Prop) → Prop := fun σ H Q => ∃ ρ env h, RE G ρ H env σ ∧ RH G ρ h H ∧ Post rel G ρ H W σ Q (m env h)
abbrev tE (G : Wd) (W : CI.WX) (m : ME) : TE := tR (RV G) G W m
abbrev tT (G : Wd) (W : CI.WX) (m : MT) : TT := tR (fun _ _ a b => a = b) G W m
abbrev tA (G : Wd) (W : CI.WX) (m : MA) : TA := tR (RVs G) G W m
section
variable {X : Cx} {G : Wd} {W : CI.WX}
theorem peI {e : Expr} {t t' : TE} (h : PE X e t) (f : ∀ σ H Q, t' σ H Q → t σ H Q) : PE X e t' := ⟨fun pins s σ H Q I q => h.run pins s σ H Q I (f _ _ _ q)⟩
theorem ptI {e : Expr} {t t' : TT} (h : PT X e t) (f : ∀ σ H Q, t' σ H Q → t σ H Q) : PT X e t' := ⟨fun pins s σ H Q I q => h.run pins s σ H Q I (f _ _ _ q)⟩
theorem pwI {e : Expr} {t t' : TT} (h : PW X e t) (f : ∀ σ H Q, t' σ H Q → t σ H Q) : PW X e t' := ⟨fun w pins s σ H Q I q => h.run w pins s σ H Q I (f _ _ _ q)⟩
theorem paI {e : List Expr} {t t' : TA} (h : PA X e t) (f : ∀ σ H Q, t' σ H Q → t σ H Q) : PA X e t' := ⟨fun pos pins s σ H Q I q => h.run pos pins s σ H Q I (f _ _ _ q)⟩
theorem psI {e : Stmt} {t t' : TS} (h : PS X e t) (f : ∀ D σ H, t' D σ H → t D σ H) : PS X e t' := ⟨fun pins s σ H D I q => h.run pins s σ H D I (f _ _ _ q)⟩
theorem pssI {e : List Stmt} {t t' : TS} (h : PSs X e t) (f : ∀ D σ H, t' D σ H → t D σ H) : PSs X e t' := ⟨fun pins s σ H D I q => h.run pins s σ H D I (f _ _ _ q)⟩
def eVar (i : Nat) : ME := fun env h => match env[i]? with
  | some (some v) => .ok v h
  | _ => .stuck
def eC (v : Val) : ME := fun _ h => .ok v h
theorem je_var {i : Nat} {x : Str} {pos : Pos} (hN : X.N[i]? = some x := by rfl) (hv : Vis X.env.scope x := by first | exact Or.inl rfl | exact Or.inr (Or.inl rfl) | exact Or.inr (Or.inr rfl)) (hd : (x == ("__debug__" : Str)) = false := by decide)
    (hcd : (x == ("__classdict__" : Str)) = false := by decide) : PE X (.Name x pos) (tE G W (eVar i)) := by
  refine peI (pe_var hN hv hd hcd) fun σ H Q ⟨ρ, env, h, re, rh, p⟩ => ?_
  unfold eVar at p
  cases e : env[i]? with
  | none => rw [e] at p; exact p.elim
  | some o =>
    cases o with
    | none => rw [e] at p; exact p.elim
    | some v =>
      rw [e] at p
      obtain ⟨z, h1, h2⟩ := re.2 i v e
      exact ⟨z, h1, p ρ H z Ext.refl rh h2⟩
theorem je_c {e : Expr} {v : V} {x : Val} (h : PE X e (tC v)) (r : ∀ ρ H, RV G ρ H x v) : PE X e (tE G W (eC x)) :=
  peI h fun σ H Q ⟨ρ, env, hp, re, rh, p⟩ => p ρ H v Ext.refl rh (r ρ H)
theorem je_int {i j pos} : PE X (.Constant (.int i) j pos) (tE G W (eC (.int i))) := je_c pe_int fun _ _ => .int i
theorem je_bl {b j pos} : PE X (.Constant (.bool b) j pos) (tE G W (eC (.bl b))) := je_c pe_bl fun _ _ => .bl b
theorem je_non {j pos} : PE X (.Constant .none j pos) (tE G W (eC .non)) := je_c pe_non fun _ _ => .non
theorem je_str {x j pos} : PE X (.Constant (.str x) j pos) (tE G W (eC (.str x))) := je_c pe_str fun _ _ => .str x
def lift {α : Type} : Option (α × AH) → Res α
  | some (a, h) => .ok a h
  | none => .stuck
abbrev F1 := Val → AH → Option (Val × AH)
abbrev F2 := Val → Val → AH → Option (Val × AH)
abbrev FN := List Val → AH → Option (Val × AH)
/-- what is wanted of an operation's end: it does not raise -/
def PostO (G : Wd) (ρ : List Addr) (H : Hp) (Q : VK) : Option (Val × AH) → Prop
  | some (v, h) => ∀ ρ' H' z, Ext G ρ H ρ' H' → RH G ρ' h H' → RV G ρ' H' v z → Q z H'
  | none => False
theorem Post.lift {ρ : List Addr} {H : Hp} {σ : L2.St} {Q : VK} {o : Option (Val × AH)} (h : Post (RV G) G ρ H W σ Q (CI.lift o)) : PostO G ρ H Q o := by
  cases o with
  | none => exact h
  | some p => exact h
def r1 (G : Wd) (f : F1) : V → Hp → VK → Prop := fun x H Q => ∃ ρ h a, RH G ρ h H ∧ RV G ρ H a x ∧ PostO G ρ H Q (f a h)
def r2 (G : Wd) (f : F2) : R2 := fun x y H Q => ∃ ρ h a b, RH G ρ h H ∧ RV G ρ H a x ∧ RV G ρ H b y ∧ PostO G ρ H Q (f a b h)
def rN (G : Wd) (f : FN) : List V → Hp → VK → Prop := fun xs H Q => ∃ ρ h as, RH G ρ h H ∧ RVs G ρ H as xs ∧ PostO G ρ H Q (f as h)
def e1 (f : F1) (a : ME) : ME := fun env h => (a env h).bind fun x h1 => lift (f x h1)
def e2 (f : F2) (a b : ME) : ME := fun env h => (a env h).bind fun x h1 => (b env h1).bind fun y h2 => lift (f x y h2)
def eN (f : FN) (as : MA) : ME := fun env h => (as env h).bind fun xs h1 => lift (f xs h1)
theorem t_op {f : F2} {r : R2} (hr : ∀ x y H Q, r2 G f x y H Q → r x y H Q) {a b : ME} {σ : L2.St} {H : Hp} {Q : VK} (h : tE G W (e2 f a b) σ H Q) : tOp r (tE G W a) (tE G W b) σ H Q := by
  obtain ⟨ρ, env, hp, re, rh, p⟩ := h
  refine ⟨ρ, env, hp, re, rh, Post.bind p fun x h1 ρ1 H1 y _ e1 R1 rx p1 => ?_⟩
  refine ⟨ρ1, env, h1, re.kp e1.kp, R1, Post.bind p1 fun x2 h2 ρ2 H2 y2 _ e2 R2 rx2 p2 => ?_⟩
  exact hr _ _ _ _ ⟨ρ2, h2, x, x2, R2, rx.kp e2.kp, rx2, Post.lift p2⟩
theorem je_bin {op : Operator} {f : F2} {a b : Expr} {ma mb : ME} {pos : Pos} (ho : OpR X (binaryOp op) (r2 G f)) (ha : PE X a (tE G W ma)) (hb : PE X b (tE G W mb)) : PE X (.BinOp a op b pos) (tE G W (e2 f ma mb)) :=
  peI (pe_op ho ha hb) fun _ _ _ h => t_op (fun _ _ _ _ q => q) h
theorem je_un {op : UnaryOp} {f : F1} {a : Expr} {ma : ME} {pos : Pos} (ho : UnR X (unaryOp op) (r1 G f)) (ha : PE X a (tE G W ma)) : PE X (.UnaryOp op a pos) (tE G W (e1 f ma)) :=
  peI (pe_un ho ha) fun σ H Q ⟨ρ, env, hp, re, rh, p⟩ => ⟨ρ, env, hp, re, rh, Post.bind p fun x h1 ρ1 H1 y _ e1 R1 rx p1 => ⟨ρ1, h1, x, R1, rx, Post.lift p1⟩⟩
theorem je_cmp {op : CmpOp} {f : F2} {a b : Expr} {ma mb : ME} {pos : Pos} (ho : OpR X (compareOp op) (r2 G f)) (ha : PE X a (tE G W ma)) (hb : PE X b (tE G W mb)) (hm : behindInMarks op b = false := by rfl) : PE X (.Compare a [op] [b] pos) (tE G W (e2 f ma mb)) :=
  peI (pe_cmpR ho ha hb hm) fun _ _ _ h => t_op (fun _ _ _ _ q => q) h
/-- a test by a value that is a bool -/
def toB (m : ME) : MT := fun env h => (m env h).bind fun v h1 => match v with
  | .bl b => .ok b h1
  | _ => .stuck
theorem t_test {m : ME} {σ : L2.St} {H : Hp} {Q : Bool → Hp → Prop} (h : tT G W (toB m) σ H Q) : tE G W m σ H fun x H' => ∃ k, x = .bl k ∧ Q k H' := by
  obtain ⟨ρ, env, hp, re, rh, p⟩ := h
  refine ⟨ρ, env, hp, re, rh, Post.bind p fun x h1 ρ1 H1 y _ e1 R1 rx p1 => ?_⟩
  cases rx with
  | bl b => exact ⟨b, rfl, p1 ρ1 H1 b Ext.refl R1 rfl⟩
  | _ => exact p1.elim
theorem jt_cmp {op : CmpOp} {f : F2} {a b : Expr} {ma mb : ME} {pos : Pos} (ho : OpR X (compareOp op) (r2 G f)) (ha : PE X a (tE G W ma)) (hb : PE X b (tE G W mb)) (hm : behindInMarks op b = false := by rfl) : PT X (.Compare a [op] [b] pos) (tT G W (toB (e2 f ma mb))) :=
  ptI (pt_cmpR ho ha hb hm) fun σ H Q h => t_op (fun _ _ _ _ q => q) (t_test h)
theorem jt_val {e : Expr} {m : ME} (h : PE X e (tE G W m)) (he : ∀ whole, isTrue e X.env whole = (do let v ← whole; standAt e.pos; holding [v] (truthy v)) := by intro _; rfl) : PT X e (tT G W (toB m)) :=
  ptI (pt_val h he) fun σ H Q q => t_test q
def eChain (f g : F2) (a b c : ME) : ME := fun env h => (a env h).bind fun x h1 => (b env h1).bind fun y h2 => (lift (f x y h2)).bind fun z h3 => match z with
  | .bl true => (c env h3).bind fun w h4 => lift (g y w h4)
  | .bl false => .ok (.bl false) h3
  | _ => .stuck
theorem t_chain {f g : F2} {a b c : ME} {σ : L2.St} {H : Hp} {Q : VK} (h : tE G W (eChain f g a b c) σ H Q) : tChain (r2 G f) (r2 G g) (tE G W a) (tE G W b) (tE G W c) σ H Q := by
  obtain ⟨ρ, env, hp, re, rh, p⟩ := h
  refine ⟨ρ, env, hp, re, rh, Post.bind p fun x h1 ρ1 H1 y _ e1 R1 rx p1 => ?_⟩
  refine ⟨ρ1, env, h1, re.kp e1.kp, R1, Post.bind p1 fun x2 h2 ρ2 H2 y2 _ e2 R2 rx2 p2 => ?_⟩
  refine ⟨ρ2, h2, x, x2, R2, rx.kp e2.kp, rx2, ?_⟩
  have p2' := Post.bind (rel := RV G) (Nx := fun z H3 => ∃ k, z = .bl k ∧ (if k = true then tE G W c σ H3 fun w' H4 => r2 G g y2 w' H4 Q else Q (.bl false) H3)) p2 fun z h3 ρ3 H3 z' _ e3 R3 rz p3 => by
    cases rz with
    | bl k =>
      refine ⟨k, rfl, ?_⟩
      cases k with
      | false => exact iteF (p3 ρ3 H3 _ Ext.refl R3 (.bl false))
      | true =>
        refine iteT ⟨ρ3, env, h3, (re.kp e1.kp).kp (e2.trans e3).kp, R3, Post.bind p3 fun w h4 ρ4 H4 w' _ e4 R4 rw4 p4 => ?_⟩
        exact ⟨ρ4, h4, x2, w, R4, rx2.kp (e3.trans e4).kp, rw4, Post.lift p4⟩
    | _ => exact p3.elim
  exact Post.lift p2'
theorem je_chain {op op' : CmpOp} {f g : F2} {a b c : Expr} {ma mb mc : ME} {pos : Pos} (ho : OpR X (compareOp op) (r2 G f)) (ho' : OpR X (compareOp op') (r2 G g)) (ha : PE X a (tE G W ma)) (hb : PE X b (tE G W mb)) (hc : PE X c (tE G W mc))
    (hm : lastMarks [op, op'] [b, c] = false := by with_unfolding_all rfl) : PE X (.Compare a [op, op'] [b, c] pos) (tE G W (eChain f g ma mb mc)) := peI (pe_chain ho ho' ha hb hc hm) fun _ _ _ h => t_chain h
theorem jt_chain {op op' : CmpOp} {f g : F2} {a b c : Expr} {ma mb mc : ME} {pos : Pos} (ho : OpR X (compareOp op) (r2 G f)) (ho' : OpR X (compareOp op') (r2 G g)) (ha : PE X a (tE G W ma)) (hb : PE X b (tE G W mb)) (hc : PE X c (tE G W mc))
    (hm : lastMarks [op, op'] [b, c] = false := by with_unfolding_all rfl) : PT X (.Compare a [op, op'] [b, c] pos) (tT G W (toB (eChain f g ma mb mc))) := ptI (pt_chain ho ho' ha hb hc hm) fun _ _ _ h => t_chain (t_test h)
def eAnd (a b : ME) : ME := fun env h => (a env h).bind fun x h1 => match x with
  | .bl true => b env h1
  | .bl false => .ok (.bl false) h1
  | _ => .stuck
def eOr (a b : ME) : ME := fun env h => (a env h).bind fun x h1 => match x with
  | .bl true => .ok (.bl true) h1
  | .bl false => b env h1
  | _ => .stuck
def eNot (a : ME) : ME := fun env h => (a env h).bind fun x h1 => match x with
  | .bl b => .ok (.bl (!b)) h1
  | _ => .stuck
def eIf (c : MT) (a b : ME) : ME := fun env h => (c env h).bind fun x h1 => if x then a env h1 else b env h1
def tmAnd (a b : MT) : MT := fun env h => (a env h).bind fun x h1 => if x then b env h1 else .ok false h1
def tmOr (a b : MT) : MT := fun env h => (a env h).bind fun x h1 => if x then .ok true h1 else b env h1
def tmNot (a : MT) : MT := fun env h => (a env h).bind fun x h1 => .ok (!x) h1
variable {a b : Expr} {rest : List Expr} {pos : Pos} {ma mb : ME} {ca cb : MT}
theorem je_one {op} (h : PE X a (tE G W ma)) : PE X (.BoolOp op [a] pos) (tE G W ma) := pe_one h
theorem je_and (ha : PE X a (tE G W ma)) (hb : PE X (.BoolOp .And (b :: rest) pos) (tE G W mb)) : PE X (.BoolOp .And (a :: b :: rest) pos) (tE G W (eAnd ma mb)) :=
  peI (pe_and ha hb) fun σ H Q ⟨ρ, env, hp, re, rh, p⟩ => ⟨ρ, env, hp, re, rh, Post.bind p fun x h1 ρ1 H1 y _ e1 R1 rx p1 => by
    cases rx with
    | bl k =>
      refine ⟨k, rfl, ?_⟩
      cases k with
      | true => exact iteT ⟨ρ1, env, h1, re.kp e1.kp, R1, p1⟩
      | false => exact iteF (p1 ρ1 H1 _ Ext.refl R1 (.bl false))
    | _ => exact p1.elim⟩
theorem je_or (ha : PE X a (tE G W ma)) (hb : PE X (.BoolOp .Or (b :: rest) pos) (tE G W mb)) : PE X (.BoolOp .Or (a :: b :: rest) pos) (tE G W (eOr ma mb)) :=
  peI (pe_or ha hb) fun σ H Q ⟨ρ, env, hp, re, rh, p⟩ => ⟨ρ, env, hp, re, rh, Post.bind p fun x h1 ρ1 H1 y _ e1 R1 rx p1 => by
    cases rx with
    | bl k =>
      refine ⟨k, rfl, ?_⟩
      cases k with
      | false => exact iteF ⟨ρ1, env, h1, re.kp e1.kp, R1, p1⟩
      | true => exact iteT (p1 ρ1 H1 _ Ext.refl R1 (.bl true))
    | _ => exact p1.elim⟩
theorem je_not (ha : PE X a (tE G W ma)) : PE X (.UnaryOp .Not a pos) (tE G W (eNot ma)) :=
  peI (pe_not ha) fun σ H Q ⟨ρ, env, hp, re, rh, p⟩ => ⟨ρ, env, hp, re, rh, Post.bind p fun x h1 ρ1 H1 y _ e1 R1 rx p1 => by
    cases rx with
    | bl k => exact ⟨k, rfl, p1 ρ1 H1 _ Ext.refl R1 (.bl _)⟩
    | _ => exact p1.elim⟩
theorem je_if {c : Expr} (hc : PT X c (tT G W ca)) (ha : PE X a (tE G W ma)) (hb : PE X b (tE G W mb)) : PE X (.IfExp c a b pos) (tE G W (eIf ca ma mb)) :=
  peI (pe_ifExp hc ha hb) fun σ H Q ⟨ρ, env, hp, re, rh, p⟩ => ⟨ρ, env, hp, re, rh, Post.bind p fun x h1 ρ1 H1 y _ e1 R1 rx p1 => by
    subst rx
    cases x with
    | true => exact iteT ⟨ρ1, env, h1, re.kp e1.kp, R1, p1⟩
    | false => exact iteF ⟨ρ1, env, h1, re.kp e1.kp, R1, p1⟩⟩
theorem jw_and1 (ha : PT X a (tT G W ca)) : PW X (.BoolOp .And [a] pos) (tT G W ca) := pw_and1 ha
theorem jw_or1 (ha : PT X a (tT G W ca)) : PW X (.BoolOp .Or [a] pos) (tT G W ca) := pw_or1 ha
theorem jw_and (ha : PT X a (tT G W ca)) (hb : PW X (.BoolOp .And (b :: rest) pos) (tT G W cb)) : PW X (.BoolOp .And (a :: b :: rest) pos) (tT G W (tmAnd ca cb)) :=
  pwI (pw_and ha hb) fun σ H Q ⟨ρ, env, hp, re, rh, p⟩ => ⟨ρ, env, hp, re, rh, Post.bind p fun x h1 ρ1 H1 y _ e1 R1 rx p1 => by
    subst rx
    cases x with
    | true => exact iteT ⟨ρ1, env, h1, re.kp e1.kp, R1, p1⟩
    | false => exact iteF (p1 ρ1 H1 false Ext.refl R1 rfl)⟩
theorem jw_or (ha : PT X a (tT G W ca)) (hb : PW X (.BoolOp .Or (b :: rest) pos) (tT G W cb)) : PW X (.BoolOp .Or (a :: b :: rest) pos) (tT G W (tmOr ca cb)) :=
  pwI (pw_or ha hb) fun σ H Q ⟨ρ, env, hp, re, rh, p⟩ => ⟨ρ, env, hp, re, rh, Post.bind p fun x h1 ρ1 H1 y _ e1 R1 rx p1 => by
    subst rx
    cases x with
    | false => exact iteF ⟨ρ1, env, h1, re.kp e1.kp, R1, p1⟩
    | true => exact iteT (p1 ρ1 H1 true Ext.refl R1 rfl)⟩
theorem jt_not (ha : PT X a (tT G W ca)) : PT X (.UnaryOp .Not a pos) (tT G W (tmNot ca)) :=
  ptI (pt_not ha) fun σ H Q ⟨ρ, env, hp, re, rh, p⟩ => ⟨ρ, env, hp, re, rh, Post.bind p fun x h1 ρ1 H1 y _ e1 R1 rx p1 => by
    subst rx
    exact p1 ρ1 H1 _ Ext.refl R1 rfl⟩
def aNil : MA := fun _ h => .ok [] h
def aCons (a : ME) (r : MA) : MA := fun env h => (a env h).bind fun x h1 => (r env h1).bind fun xs h2 => .ok (x :: xs) h2
theorem ja_nil : PA X [] (tA G W aNil) := paI pa_nil fun σ H Q ⟨ρ, env, hp, re, rh, p⟩ => p ρ H [] Ext.refl rh .nil
theorem ja_cons {e : Expr} {es : List Expr} {me : ME} {mr : MA} (ha : PE X e (tE G W me)) (hr : PA X es (tA G W mr)) (hs : starEach (e :: es) X.env = (false, eval e X.env) :: starEach es X.env := by rfl) : PA X (e :: es) (tA G W (aCons me mr)) :=
  paI (pa_cons ha hr hs) fun σ H Q ⟨ρ, env, hp, re, rh, p⟩ => ⟨ρ, env, hp, re, rh, Post.bind p fun x h1 ρ1 H1 y _ e1 R1 rx p1 => ⟨ρ1, env, h1, re.kp e1.kp, R1, Post.bind p1 fun xs h2 ρ2 H2 ys _ e2 R2 rxs p2 =>
    p2 ρ2 H2 _ Ext.refl R2 (.cons (rx.kp e2.kp) rxs)⟩⟩
def eTup (as : MA) : ME := fun env h => (as env h).bind fun xs h1 => if xs.length ≤ 100000 then .ok (.tup xs) h1 else .stuck
def eLst (as : MA) : ME := fun env h => (as env h).bind fun xs h1 => if xs.length ≤ 100000 then .ok (.ref h1.length) (h1 ++ [.lst xs]) else .stuck
theorem line5 {n : Nat} (h : n ≤ 100000) : n ≤ sizeLine := Nat.le_trans h (by decide)
theorem je_tup {es : List Expr} {x1} {as : MA} (h : PA X es (tA G W as)) : PE X (.Tuple es x1 pos) (tE G W (eTup as)) :=
  peI (pe_tup h) fun σ H Q ⟨ρ, env, hp, re, rh, p⟩ => ⟨ρ, env, hp, re, rh, Post.bind p fun xs h1 ρ1 H1 ys _ e1 R1 rxs p1 => by
    by_cases hl : xs.length ≤ 100000
    · rw [if_pos hl] at p1
      refine ⟨line5 (by rw [← rxs.length]; exact hl), fun q hq => p1 ρ1 _ _ (Ext.fresh R1 hq) (R1.fresh hq) (.tup (SqT.of upd_same) (rxs.kp (Ext.fresh R1 hq).kp))⟩
    · rw [if_neg hl] at p1; exact p1.elim⟩
theorem at_end {ρ : List Addr} {p : Addr} {h : AH} (hl : ρ.length = h.length) : (ρ ++ [p])[h.length]? = some p := by rw [← hl]; simp
theorem je_lst {es : List Expr} {as : MA} (h : PA X es (tA G W as)) : PE X (.List es pos) (tE G W (eLst as)) :=
  peI (pe_lst h) fun σ H Q ⟨ρ, env, hp, re, rh, p⟩ => ⟨ρ, env, hp, re, rh, Post.bind p fun xs h1 ρ1 H1 ys _ e1 R1 rxs p1 => by
    by_cases hl : xs.length ≤ 100000
    · rw [if_pos hl] at p1
      refine ⟨line5 (by rw [← rxs.length]; exact hl), fun q hq => p1 (ρ1 ++ [q]) _ _ (Ext.snoc R1 hq) (R1.snoc hq ⟨ys, upd_same, rxs.kp (Ext.snoc R1 hq).kp⟩) (.ref (at_end R1.len))⟩
    · rw [if_neg hl] at p1; exact p1.elim⟩
theorem je_ix {f : F2} (hr : IxR X (r2 G f)) (ha : PE X a (tE G W ma)) (hb : PE X b (tE G W mb)) (hs : PlainIx b := by exact fun _ _ => rfl) : PE X (.Subscript a b pos) (tE G W (e2 f ma mb)) :=
  peI (pe_ix hr ha hb hs) fun _ _ _ h => t_op (fun _ _ _ _ q => q) h
theorem je_callB {f : FN} {id : String} {x : Str} {p : Pos} {e : Expr} {es : List Expr} {as : MA} (hc : CallR X (.builtin id) (rN G f)) (hg : Gl X x) (hm : X.mg x = none) (hv : bootBuiltins x = some (.builtin id)) (ha : PA X (e :: es) (tA G W as)) (hn : x ≠ "__name__" := by decide) (hdb : (x == ("__debug__" : Str)) = false := by decide)
    (he : starEach (e :: es) X.env = (false, eval e X.env) :: starEach es X.env := by rfl) (hpl : (backTo pos (starEach es X.env)).any (·.1) = false := by rfl) : PE X (.Call (.Name x p) (e :: es) [] pos) (tE G W (eN f as)) :=
  peI (pe_callB hc hg hm hv ha hn hdb he hpl) fun σ H Q ⟨ρ, env, hp, re, rh, q⟩ => ⟨ρ, env, hp, re, rh, Post.bind q fun xs h1 ρ1 H1 ys _ e1 R1 rxs p1 => ⟨ρ1, h1, xs, R1, rxs, Post.lift p1⟩⟩
theorem je_callTy {f : FN} {T : String} {x : Str} {p : Pos} {e : Expr} {es : List Expr} {as : MA} (hc : CallR X (.type T) (rN G f)) (hg : Gl X x) (hm : X.mg x = none) (hv : bootBuiltins x = some (.type T)) (ha : PA X (e :: es) (tA G W as)) (hn : x ≠ "__name__" := by decide) (hdb : (x == ("__debug__" : Str)) = false := by decide)
    (he : starEach (e :: es) X.env = (false, eval e X.env) :: starEach es X.env := by rfl) (hpl : (backTo pos (starEach es X.env)).any (·.1) = false := by rfl) : PE X (.Call (.Name x p) (e :: es) [] pos) (tE G W (eN f as)) :=
  peI (pe_callTy hc hg hm hv ha hn hdb he hpl) fun σ H Q ⟨ρ, env, hp, re, rh, q⟩ => ⟨ρ, env, hp, re, rh, Post.bind q fun xs h1 ρ1 H1 ys _ e1 R1 rxs p1 => ⟨ρ1, h1, xs, R1, rxs, Post.lift p1⟩⟩
end
end CI
namespace CI
open PySem L2
inductive SR where
  | nx (env : AEnv) (h : AH)
  | rt (v : Val) (h : AH)
  | bk (env : AEnv) (h : AH)
  | ct (env : AEnv) (h : AH)
  | ex (x : Exn) (env : AEnv) (h : AH)
  | stuck
abbrev MS := AEnv → AH → SR
def PostS (G : Wd) (ρ : List Addr) (H : Hp) (W : CI.WX) (D : Ends) : SR → Prop
  | .nx env h => ∀ ρ' H' σ', Ext G ρ H ρ' H' → RH G ρ' h H' → RE G ρ' H' env σ' → D.nx σ' H'
  | .bk env h => ∀ ρ' H' σ', Ext G ρ H ρ' H' → RH G ρ' h H' → RE G ρ' H' env σ' → D.bk σ' H'
  | .ct env h => ∀ ρ' H' σ', Ext G ρ H ρ' H' → RH G ρ' h H' → RE G ρ' H' env σ' → D.ct σ' H'
  | .rt v h => ∀ ρ' H' z, Ext G ρ H ρ' H' → RH G ρ' h H' → RV G ρ' H' v z → D.rt z H'
  | .ex x env h => ∀ ρ' H' σ' cls d, Ext G ρ H ρ' H' → RH G ρ' h H' → RE G ρ' H' env σ' → RX G ρ' H' x cls d → W cls d σ' H'
  | .stuck => False
def tS (G : Wd) (W : CI.WX) (m : MS) : TS := fun D σ H => ∃ ρ env h, RE G ρ H env σ ∧ RH G ρ h H ∧ PostS G ρ H W D (m env h)
theorem PostS.mono {G : Wd} {ρ ρ1 : List Addr} {H H1 : Hp} {W : CI.WX} {D : Ends} (e : Ext G ρ H ρ1 H1) : ∀ {r : SR}, PostS G ρ H W D r → PostS G ρ1 H1 W D r
  | .nx _ _, h => fun ρ' H' z e' => h ρ' H' z (e.trans e')
  | .bk _ _, h => fun ρ' H' z e' => h ρ' H' z (e.trans e')
  | .ct _ _, h => fun ρ' H' z e' => h ρ' H' z (e.trans e')
  | .rt _ _, h => fun ρ' H' z e' => h ρ' H' z (e.trans e')
  | .ex _ _ _, h => fun ρ' H' z c d e' => h ρ' H' z c d (e.trans e')
  | .stuck, h => h
def SR.ofE {α : Type} (env : AEnv) (r : Res α) (k : α → AH → SR) : SR := match r with
  | .ok a h => k a h
  | .ex x h => .ex x env h
  | .stuck => .stuck
theorem PostS.bindE {α β : Type} {rel : List Addr → Hp → α → β → Prop} {G : Wd} {ρ : List Addr} {H : Hp} {W : CI.WX} {D : Ends} {σ : L2.St} {env : AEnv} {Nx : β → Hp → Prop} {k : α → AH → SR} {r : Res α} (re : RE G ρ H env σ)
    (h : PostS G ρ H W D (SR.ofE env r k)) (f : ∀ a h1 ρ1 H1 y, r = .ok a h1 → Ext G ρ H ρ1 H1 → RH G ρ1 h1 H1 → rel ρ1 H1 a y → PostS G ρ1 H1 W D (k a h1) → Nx y H1) : Post rel G ρ H W σ Nx r := by
  cases r with
  | ok a h1 => exact fun ρ1 H1 y e R r => f a h1 ρ1 H1 y rfl e R r (PostS.mono e h)
  | ex x h1 => exact fun ρ' H' c d e R r => h ρ' H' σ c d e R (re.kp e.kp) r
  | stuck => exact h
/-- other wants that are implied -/
theorem PostS.ends {G : Wd} {ρ : List Addr} {H : Hp} {W : CI.WX} {D D' : Ends} {r : SR} (h : PostS G ρ H W D r) (h1 : ∀ env hp, r = .nx env hp → (∀ ρ' H' σ', Ext G ρ H ρ' H' → RH G ρ' hp H' → RE G ρ' H' env σ' → D.nx σ' H') → ∀ ρ' H' σ', Ext G ρ H ρ' H' → RH G ρ' hp H' → RE G ρ' H' env σ' → D'.nx σ' H')
    (h2 : D'.rt = D.rt) (h3 : D'.bk = D.bk) (h4 : D'.ct = D.ct) : PostS G ρ H W D' r := by
  cases r with
  | nx env hp => exact h1 env hp rfl h
  | rt v hp => unfold PostS; rw [h2]; exact h
  | bk env hp => unfold PostS; rw [h3]; exact h
  | ct env hp => unfold PostS; rw [h4]; exact h
  | ex x env hp => exact h
  | stuck => exact h
section
variable {X : Cx} {G : Wd} {W : CI.WX} {pos : Pos}
def sNext : MS := fun env h => .nx env h
def sSeq (a b : MS) : MS := fun env h => match a env h with
  | .nx env' h' => b env' h'
  | r => r
theorem PostS.seq {ρ : List Addr} {H : Hp} {D : Ends} {a b : MS} {env : AEnv} {h : AH} (p : PostS G ρ H W D (sSeq a b env h)) : PostS G ρ H W { D with nx := tS G W b D } (a env h) := by
  unfold sSeq at p
  cases q : a env h with
  | nx env' h' => rw [q] at p; exact fun ρ' H' σ' e R re => ⟨ρ', env', h', re, R, PostS.mono e p⟩
  | rt v h' => rw [q] at p; exact p
  | bk v h' => rw [q] at p; exact p
  | ct v h' => rw [q] at p; exact p
  | ex x v h' => rw [q] at p; exact p
  | stuck => rw [q] at p; exact p
theorem jss_nil : PSs X [] (tS G W sNext) := pssI pss_nil fun D σ H ⟨ρ, env, hp, re, rh, p⟩ => p ρ H σ Ext.refl rh re
theorem jss_cons {st : Stmt} {rest : List Stmt} {a b : MS} (h1 : PS X st (tS G W a)) (h2 : PSs X rest (tS G W b)) : PSs X (st :: rest) (tS G W (sSeq a b)) :=
  pssI (pss_cons h1 h2) fun D σ H ⟨ρ, env, hp, re, rh, p⟩ => ⟨ρ, env, hp, re, rh, PostS.seq p⟩
theorem jss_one {st : Stmt} {a : MS} (h1 : PS X st (tS G W a)) : PSs X [st] (tS G W a) := pss_one h1
/-- a statement that is not come to -/
def sNever : MS := fun _ _ => .stuck
theorem js_never {st : Stmt} : PS X st (tS G W sNever) := psI ps_never fun _ _ _ ⟨_, _, _, _, _, p⟩ => p
theorem jss_never {st : List Stmt} : PSs X st (tS G W sNever) := pssI pss_never fun _ _ _ ⟨_, _, _, _, _, p⟩ => p
def sBreak : MS := fun env h => .bk env h
def sCont : MS := fun env h => .ct env h
theorem js_pass : PS X (.Pass pos) (tS G W sNext) := psI ps_pass fun D σ H ⟨ρ, env, hp, re, rh, p⟩ => p ρ H σ Ext.refl rh re
theorem js_break : PS X (.Break pos) (tS G W sBreak) := psI ps_break fun D σ H ⟨ρ, env, hp, re, rh, p⟩ => p ρ H σ Ext.refl rh re
theorem js_continue : PS X (.Continue pos) (tS G W sCont) := psI ps_continue fun D σ H ⟨ρ, env, hp, re, rh, p⟩ => p ρ H σ Ext.refl rh re
def sExpr (m : ME) : MS := fun env h => .ofE env (m env h) fun _ h1 => .nx env h1
def sRet (m : ME) : MS := fun env h => .ofE env (m env h) fun v h1 => .rt v h1
def sRetN : MS := fun _ h => .rt .non h
def sIf (c : MT) (a b : MS) : MS := fun env h => .ofE env (c env h) fun x h1 => if x then a env h1 else b env h1
variable {e c : Expr} {m : ME} {cm : MT} {a b : MS}
theorem js_expr (he : PE X e (tE G W m)) (hs : swapsWith e none pos.line X.env = pure false := by rfl) : PS X (.Expr e pos) (tS G W (sExpr m)) :=
  psI (ps_expr he hs) fun D σ H ⟨ρ, env, hp, re, rh, p⟩ => ⟨ρ, env, hp, re, rh, PostS.bindE re p fun x h1 ρ1 H1 y _ e1 R1 rx p1 => p1 ρ1 H1 σ Ext.refl R1 (re.kp e1.kp)⟩
theorem js_ret (he : PE X e (tE G W m)) : PS X (.Return (some e) pos) (tS G W (sRet m)) :=
  psI (ps_ret he) fun D σ H ⟨ρ, env, hp, re, rh, p⟩ => ⟨ρ, env, hp, re, rh, PostS.bindE re p fun x h1 ρ1 H1 y _ e1 R1 rx p1 => p1 ρ1 H1 y Ext.refl R1 rx⟩
theorem js_retN : PS X (.Return none pos) (tS G W sRetN) := psI ps_retN fun D σ H ⟨ρ, env, hp, re, rh, p⟩ => p ρ H _ Ext.refl rh .non
theorem js_if {ss os : List Stmt} (hc : PT X c (tT G W cm)) (ha : PSs X ss (tS G W a)) (hb : PSs X os (tS G W b)) : PS X (.If c ss os pos) (tS G W (sIf cm a b)) :=
  psI (ps_if hc ha hb) fun D σ H ⟨ρ, env, hp, re, rh, p⟩ => ⟨ρ, env, hp, re, rh, PostS.bindE re p fun x h1 ρ1 H1 y _ e1 R1 rx p1 => by
    subst rx
    cases x with
    | true => exact iteT ⟨ρ1, env, h1, re.kp e1.kp, R1, p1⟩
    | false => exact iteF ⟨ρ1, env, h1, re.kp e1.kp, R1, p1⟩⟩
inductive Tgt where
  | nm (i : Nat)
  | tp (ts : List Nat)
def setAll : List Nat → List Val → AEnv → Option AEnv
  | [], [], env => some env
  | i :: is, v :: vs, env => setAll is vs (env.set i (some v))
  | _, _, _ => none
def Tgt.bind : Tgt → Val → AEnv → Option AEnv
  | .nm i, v, env => some (env.set i (some v))
  | .tp is, .tup vs, env => setAll is vs env
  | .tp _, _, _ => none
def setAllS : List Nat → List V → L2.St → L2.St
  | i :: is, v :: vs, σ => setAllS is vs (σ.set i (some v))
  | _, _, σ => σ
def gNames : List Nat → TGs
  | [] => gNil
  | i :: is => gCons (gName i) (gNames is)
def Tgt.g (K : PySem.W.Frag) : Tgt → TG
  | .nm i => gName i
  | .tp is => gTup K is.length (gNames is)
def Tgt.slots : Tgt → List Nat
  | .nm i => [i]
  | .tp is => is
theorem setAll_ok {ρ : List Addr} {H : Hp} : ∀ {is : List Nat} {vs : List Val} {xs : List V} {env env' : AEnv} {σ : L2.St} {Q : L2.St → Hp → Prop}, setAll is vs env = some env' → RVs G ρ H vs xs → RE G ρ H env σ → (∀ σ', RE G ρ H env' σ' → σ' = setAllS is xs σ → Q σ' H) → gNames is xs σ H Q
  | [], _, _, _, _, _, _, h, .nil, re, q => by
    cases h
    exact ⟨rfl, q _ re rfl⟩
  | [], _, _, _, _, _, _, h, .cons _ _, re, q => by cases h
  | i :: is, _, _, _, _, _, _, h, .nil, re, q => by cases h
  | i :: is, _, _, env, env', σ, Q, h, .cons (v := y) r rs, re, q => ⟨y, _, rfl, setAll_ok (is := is) h rs (re.set r i) q⟩
/-- a value is bound -/
theorem Tgt.ok {ρ : List Addr} {H : Hp} {t : Tgt} {v : Val} {x : V} {env env' : AEnv} {σ : L2.St} {Q : L2.St → Hp → Prop} (h : t.bind v env = some env') (r : RV G ρ H v x) (re : RE G ρ H env σ)
    (q : ∀ σ', RE G ρ H env' σ' → (∃ ys, σ' = setAllS t.slots ys σ) → Q σ' H) : t.g G.K x σ H Q := by
  cases t with
  | nm i =>
    cases h
    exact q _ (re.set r i) ⟨[x], rfl⟩
  | tp is =>
    cases r with
    | tup hs rs =>
      rename_i vs a xs
      refine ⟨a, xs, rfl, hs, ?_, setAll_ok h rs re fun σ' r' e => q σ' r' ⟨_, e⟩⟩
      have : ∀ {is : List Nat} {vs : List Val} {env env' : AEnv}, setAll is vs env = some env' → vs.length = is.length := by
        intro is
        induction is with
        | nil => intro vs env env' z; cases vs with
          | nil => rfl
          | cons _ _ => cases z
        | cons i is ih => intro vs env env' z; cases vs with
          | nil => cases z
          | cons v vs => simp [ih z]
      rw [← rs.length]
      exact this h
    | _ => cases h
def sSet (i : Nat) (m : ME) : MS := fun env h => .ofE env (m env h) fun v h1 => .nx (env.set i (some v)) h1
theorem js_set {i : Nat} {x : Str} {pos' : Pos} (hN : X.N.Nodup) (hi : X.N[i]? = some x) (hx : Loc X.env.scope x) (he : PE X e (tE G W m)) (hs : swapsWith e (some (.Name x pos')) pos.line X.env = pure false := by rfl) (hf : X.fn x = true ∨ X.env.scope.names.lookup x = some .local := by first | exact .inl rfl | exact .inr rfl | assumption) :
    PS X (.Assign [.Name x pos'] e pos) (tS G W (sSet i m)) :=
  psI (ps_set hN hi hx he hs hf) fun D σ H ⟨ρ, env, hp, re, rh, p⟩ => ⟨ρ, env, hp, re, rh, PostS.bindE re p fun v h1 ρ1 H1 y _ e1 R1 rx p1 => p1 ρ1 H1 _ Ext.refl R1 ((re.kp e1.kp).set rx i)⟩
def loopV (t : Tgt) (body : MS) : List Val → AEnv → AH → SR
  | [], env, h => .nx env h
  | x :: xs, env, h => match t.bind x env with
    | none => .stuck
    | some env1 => match body env1 h with
      | .nx env2 h2 => loopV t body xs env2 h2
      | .ct env2 h2 => loopV t body xs env2 h2
      | .bk env2 h2 => .nx env2 h2
      | r => r
/-- one turn -/
theorem loop_turn {ρ : List Addr} {H : Hp} {D : Ends} {t : Tgt} {body : MS} {x : Val} {xs : List Val} {env : AEnv} {h : AH} {σ : L2.St} {y : V} {N : L2.St → Hp → Prop} {tb : TS} (p : PostS G ρ H W D (loopV t body (x :: xs) env h)) (rh : RH G ρ h H) (re : RE G ρ H env σ) (rx : RV G ρ H x y)
    (htb : ∀ D σ H, tS G W body D σ H → tb D σ H)
    (hN : ∀ env2 h2 ρ2 H2 σ2, Ext G ρ H ρ2 H2 → RH G ρ2 h2 H2 → RE G ρ2 H2 env2 σ2 → PostS G ρ2 H2 W D (loopV t body xs env2 h2) → N σ2 H2) :
    t.g G.K y σ H fun σ2 H2 => tb { D with nx := N, ct := N, bk := D.nx } σ2 H2 := by
  unfold loopV at p
  cases e : t.bind x env with
  | none => rw [e] at p; exact p.elim
  | some env1 =>
    rw [e] at p
    refine Tgt.ok e rx re fun σ' re' _ => htb _ _ _ ⟨ρ, env1, h, re', rh, ?_⟩
    cases q : body env1 h with
    | nx env2 h2 => simp only [q] at p; exact fun ρ' H' σ' e R re => hN env2 h2 ρ' H' σ' e R re (PostS.mono e p)
    | ct env2 h2 => simp only [q] at p; exact fun ρ' H' σ' e R re => hN env2 h2 ρ' H' σ' e R re (PostS.mono e p)
    | bk env2 h2 => simp only [q] at p; exact p
    | rt v h2 => simp only [q] at p; exact p
    | ex z env2 h2 => simp only [q] at p; exact p
    | stuck => simp only [q] at p; exact p
def sForT (m : ME) (t : Tgt) (body : MS) : MS := fun env h => .ofE env (m env h) fun v h1 => match v with
  | .tup xs => loopV t body xs env h1
  | .fls xs => loopV t body xs env h1
  | _ => .stuck
def sForR (lo : ME) (n : ME) (t : Tgt) (body : MS) : MS := fun env h => .ofE env (lo env h) fun a h1 => .ofE env (n env h1) fun b h2 => match a, b with
  | .int i, .int j => if -(2 ^ 40) ≤ i ∧ j ≤ 2 ^ 40 then loopV t body ((List.range (j - i).toNat).map fun k => Val.int (i + (k : Nat))) env h2 else .stuck
  | _, _ => .stuck
end
end CI
namespace CI
open PySem L2
/-- what a loop walks: values that are known, or a list as it stands at each turn (perhaps with its places) -/
inductive Src where
  | vals (xs : List Val)
  | live (r : Nat)
  | enum (r : Nat)
def Src.at : Src → AH → Nat → Option (Option Val)
  | .vals xs, _, i => some xs[i]?
  | .live r, h, i => match h[r]? with
    | some (.lst xs) => some xs[i]?
    | _ => none
  | .enum r, h, i => match h[r]? with
    | some (.lst xs) => some (xs[i]?.map fun x => .tup [.int (i : Nat), x])
    | _ => none
def IRel (G : Wd) (ρ : List Addr) (H : Hp) (s : Src) (J : It) : Prop := ∀ ρ' H' h', Kp G ρ H ρ' H' → RH G ρ' h' H' → ∀ i, match s.at h' i with
  | some none => J.stop i H'
  | some (some x) => J.go i H' ∧ ∀ y H2, J.yld i H' y H2 → Ext G ρ' H' ρ' H2 ∧ RH G ρ' h' H2 ∧ RV G ρ' H2 x y
  | none => True
theorem IRel.kp {G : Wd} {ρ ρ1 : List Addr} {H H1 : Hp} {s : Src} {J : It} (h : IRel G ρ H s J) (e : Kp G ρ H ρ1 H1) : IRel G ρ1 H1 s J := fun ρ' H' h' e' R => h ρ' H' h' (e.trans e') R
abbrev MI := AEnv → AH → Res Src
abbrev tI (G : Wd) (W : CI.WX) (m : MI) : TI := tR (IRel G) G W m
section
variable {X : Cx} {G : Wd} {W : CI.WX} {pos : Pos} {tg : Expr}
theorem piI {it : Expr} {t t' : TI} (h : PI X tg it t) (f : ∀ σ H R, t' σ H R → t σ H R) : PI X tg it t' := ⟨fun pins s σ H R I q => h.run pins s σ H R I (f _ _ _ q)⟩
theorem piOr {it : Expr} {t t' : TI} (h : PI X tg it t) (h' : PI X tg it t') : PI X tg it (fun σ H R => t σ H R ∨ t' σ H R) := ⟨fun pins s σ H R I q => by
  rcases q with q | q
  · exact h.run pins s σ H R I q
  · exact h'.run pins s σ H R I q⟩
theorem irel_tup {ρ : List Addr} {H : Hp} {a : Addr} {xs : List Val} {vs : List V} (hs : SqT G.K H a vs) (r : RVs G ρ H xs vs) (huniq : True := trivial) : ∀ ρ' H' h', Kp G ρ H ρ' H' → RH G ρ' h' H' → ∀ i, match (Src.vals xs).at h' i with
  | some none => (Itt G.K a).stop i H'
  | some (some x) => (Itt G.K a).go i H' ∧ ∀ y H2, (Itt G.K a).yld i H' y H2 → Ext G ρ' H' ρ' H2 ∧ RH G ρ' h' H2 ∧ RV G ρ' H2 x y
  | none => True := by
  intro ρ' H' h' e R i
  have hs' := e.tup _ _ hs
  have r' := r.kp e
  show match some xs[i]? with | some none => _ | some (some x) => _ | none => _
  cases q : xs[i]? with
  | none =>
    refine ⟨vs, hs', ?_⟩
    rw [← r.length]
    exact List.getElem?_eq_none_iff.mp q
  | some x =>
    obtain ⟨v, hv, rv⟩ := r'.get q
    refine ⟨⟨vs, v, hs', hv⟩, fun y H2 hy => ?_⟩
    obtain ⟨rfl, hy⟩ := hy
    have := hy vs hs'
    rw [hv] at this; cases this
    exact ⟨Ext.refl, R, rv⟩
theorem irel_fls {ρ : List Addr} {H : Hp} {a : Addr} {xs : List Val} {vs : List V} (hs : FzL G.K H a vs) (r : RVs G ρ H xs vs) : IRel G ρ H (.vals xs) (Itl G.K a) := by
  intro ρ' H' h' e R i
  have hs' := (hs.ext e.frz).sq
  have r' := r.kp e
  show match some xs[i]? with | some none => _ | some (some x) => _ | none => _
  cases q : xs[i]? with
  | none =>
    refine ⟨vs, hs', ?_⟩
    rw [← r.length]
    exact List.getElem?_eq_none_iff.mp q
  | some x =>
    obtain ⟨v, hv, rv⟩ := r'.get q
    refine ⟨⟨vs, v, hs', hv⟩, fun y H2 hy => ?_⟩
    obtain ⟨rfl, hy⟩ := hy
    have := hy vs hs'
    rw [hv] at this; cases this
    exact ⟨Ext.refl, R, rv⟩
theorem irel_live {ρ : List Addr} {H : Hp} {a : Addr} {n : Nat} (ha : ρ[n]? = some a) : IRel G ρ H (.live n) (Itl G.K a) := by
  intro ρ' H' h' e R i
  have ha' := e.at_ _ _ ha
  show match (match h'[n]? with | some (.lst xs) => some xs[i]? | _ => none) with | some none => _ | some (some x) => _ | none => _
  cases q : h'[n]? with
  | none => trivial
  | some o =>
    cases o with
    | lst xs =>
      obtain ⟨vs, hs, r⟩ := R.obj n _ a q ha'
      have hs' : SqL G.K H' a vs := SqL.of hs
      show match some xs[i]? with | some none => _ | some (some x) => _ | none => _
      cases q : xs[i]? with
      | none =>
        refine ⟨vs, hs', ?_⟩
        rw [← r.length]
        exact List.getElem?_eq_none_iff.mp q
      | some x =>
        obtain ⟨v, hv, rv⟩ := r.get q
        refine ⟨⟨vs, v, hs', hv⟩, fun y H2 hy => ?_⟩
        obtain ⟨rfl, hy⟩ := hy
        have := hy vs hs'
        rw [hv] at this; cases this
        exact ⟨Ext.refl, R, rv⟩
    | _ => trivial
/-- a list or a tuple -/
def iSeq (m : ME) : MI := fun env h => (m env h).bind fun v h1 => match v with
  | .tup xs => .ok (.vals xs) h1
  | .fls xs => .ok (.vals xs) h1
  | .ref r => match h1[r]? with
    | some (.lst _) => .ok (.live r) h1
    | _ => .stuck
  | _ => .stuck
theorem ji_seq {e : Expr} {m : ME} (he : PE X e (tE G W m)) (hK : X.K = G.K) : PI X tg e (tI G W (iSeq m)) := by
  refine ⟨fun pins s σ H R I q => ?_⟩
  obtain ⟨ρ, env, hp, re, rh, p⟩ := q
  unfold iSeq at p
  cases q : m env hp with
  | stuck => rw [q] at p; exact p.elim
  | ex x h1 =>
    rw [q] at p
    refine (pi_tup (tg := tg) he).run pins s σ H R I ⟨ρ, env, hp, re, rh, ?_⟩
    rw [q]
    exact p
  | ok v h1 =>
    rw [q] at p
    cases v with
    | tup xs =>
      refine (pi_tup (tg := tg) he).run pins s σ H R I ⟨ρ, env, hp, re, rh, ?_⟩
      rw [q]
      intro ρ1 H1 y e1 R1 ry
      cases ry with
      | tup hs rs =>
        rename_i a vs
        refine ⟨a, rfl, ⟨vs, by rw [hK]; exact hs⟩, ?_⟩
        rw [hK]
        exact p ρ1 H1 _ e1 R1 (irel_tup hs rs)
    | fls xs =>
      refine (pi_list (tg := tg) he).run pins s σ H R I ⟨ρ, env, hp, re, rh, ?_⟩
      rw [q]
      intro ρ1 H1 y e1 R1 ry
      cases ry with
      | fls hs rs =>
        rename_i a vs
        refine ⟨a, rfl, ⟨vs, by rw [hK]; exact hs.sq⟩, ?_⟩
        rw [hK]
        exact p ρ1 H1 _ e1 R1 (irel_fls hs rs)
    | ref r =>
      refine (pi_list (tg := tg) he).run pins s σ H R I ⟨ρ, env, hp, re, rh, ?_⟩
      rw [q]
      intro ρ1 H1 y e1 R1 ry
      cases ry with
      | ref hr =>
        rename_i a
        simp only [Res.bind] at p
        cases z : h1[r]? with
        | none => rw [z] at p; exact p.elim
        | some o =>
          rw [z] at p
          cases o with
          | lst xs =>
            obtain ⟨vs, hs, r⟩ := R1.obj _ _ a z hr
            refine ⟨a, rfl, ⟨vs, .inl (.inl hs)⟩, ?_⟩
            rw [hK]
            exact p ρ1 H1 _ e1 R1 (irel_live hr)
          | _ => exact p.elim
    | _ => exact p.elim
theorem irel_range {ρ : List Addr} {H : Hp} (lo : Int) (n : Nat) : IRel G ρ H (.vals ((List.range n).map fun k => Val.int (lo + (k : Nat)))) (Itr lo n) := by
  intro ρ' H' h' e R i
  show match some ((List.range n).map fun k => Val.int (lo + (k : Nat)))[i]? with | some none => _ | some (some x) => _ | none => _
  by_cases hi : i < n
  · rw [List.getElem?_map, List.getElem?_range hi]
    refine ⟨hi, fun y H2 hy => ?_⟩
    obtain ⟨rfl, rfl⟩ := hy
    exact ⟨Ext.refl, R, .int _⟩
  · rw [List.getElem?_eq_none (by simpa using Nat.le_of_not_lt hi)]
    exact Nat.le_of_not_lt hi
def iRng (as : MA) : MI := fun env h => (as env h).bind fun vs h1 => match vs with
  | [.int j] => if j ≤ 1000000 ∧ -1000000 ≤ j then .ok (.vals ((List.range j.toNat).map fun k => Val.int (0 + (k : Nat)))) h1 else .stuck
  | [.int i, .int j] => if j ≤ 1000000 ∧ -1000000 ≤ j ∧ i ≤ 1000000 ∧ -1000000 ≤ i then .ok (.vals ((List.range (j - i).toNat).map fun k => Val.int (i + (k : Nat)))) h1 else .stuck
  | _ => .stuck
theorem ji_range1 {e : Expr} {as : MA} {p : Pos} (hg : Gl X "range") (hm : X.mg "range" = none) (ha : PA X [e] (tA G W as)) (hs : starEach [e] X.env = [(false, eval e X.env)] := by rfl)
    (hone : ∀ env h vs h1, as env h = .ok vs h1 → vs.length = 1) : PI X tg (.Call (.Name "range" p) [e] [] pos) (tI G W (iRng as)) :=
  piI (pi_range1 hg hm ha hs) fun σ H R ⟨ρ, env, hp, re, rh, q⟩ => ⟨ρ, env, hp, re, rh, Post.bind q fun vs h1 ρ1 H1 ys eq e1 R1 rxs p1 => by
    have hl := hone _ _ _ _ eq
    cases rxs with
    | nil => cases hl
    | cons r rs =>
      cases rs with
      | cons _ _ => simp at hl
      | nil =>
        cases r with
        | int j =>
          by_cases hj : j ≤ 1000000 ∧ -1000000 ≤ j
          · simp only [if_pos hj] at p1
            exact ⟨j, rfl, by omega, by omega, p1 ρ1 H1 _ Ext.refl R1 (irel_range 0 _)⟩
          · simp only [if_neg hj] at p1; exact p1.elim
        | _ => exact p1.elim⟩
theorem ji_range2 {e e' : Expr} {as : MA} {p : Pos} (hg : Gl X "range") (hm : X.mg "range" = none) (ha : PA X [e, e'] (tA G W as)) (hs : starEach [e, e'] X.env = [(false, eval e X.env), (false, eval e' X.env)] := by rfl) (hs2 : starEach [e'] X.env = [(false, eval e' X.env)] := by rfl)
    (htwo : ∀ env h vs h1, as env h = .ok vs h1 → vs.length = 2) : PI X tg (.Call (.Name "range" p) [e, e'] [] pos) (tI G W (iRng as)) :=
  piI (pi_range2 hg hm ha hs hs2) fun σ H R ⟨ρ, env, hp, re, rh, q⟩ => ⟨ρ, env, hp, re, rh, Post.bind q fun vs h1 ρ1 H1 ys eq e1 R1 rxs p1 => by
    have hl := htwo _ _ _ _ eq
    cases rxs with
    | nil => cases hl
    | cons r rs =>
      cases rs with
      | nil => simp at hl
      | cons r' rs =>
        cases rs with
        | cons _ _ => simp at hl
        | nil =>
          cases r with
          | int i =>
            cases r' with
            | int j =>
              by_cases hj : j ≤ 1000000 ∧ -1000000 ≤ j ∧ i ≤ 1000000 ∧ -1000000 ≤ i
              · simp only [if_pos hj] at p1
                exact ⟨i, j, rfl, by omega, p1 ρ1 H1 _ Ext.refl R1 (irel_range i _)⟩
              · simp only [if_neg hj] at p1; exact p1.elim
            | _ => exact p1.elim
          | _ => cases r' <;> exact p1.elim⟩
def loopS (t : Tgt) (body : MS) (s : Src) : Nat → Nat → AEnv → AH → SR
  | n, i, env, h => match s.at h i with
    | none => .stuck
    | some none => .nx env h
    | some (some x) => match n with
      | 0 => .stuck
      | n + 1 => match t.bind x env with
        | none => .stuck
        | some env1 => match body env1 h with
          | .nx env2 h2 => loopS t body s n (i + 1) env2 h2
          | .ct env2 h2 => loopS t body s n (i + 1) env2 h2
          | .bk env2 h2 => .nx env2 h2
          | r => r
def loopA (t : Tgt) (body : MS) (s : Src) (env : AEnv) (h : AH) : SR := match s with
  | .vals xs => loopV t body xs env h
  | s => loopS t body s 100000 0 env h
theorem loopV_S (t : Tgt) (body : MS) (xs : List Val) : ∀ (n i : Nat) (env : AEnv) (h : AH), xs.length ≤ i + n → loopS t body (.vals xs) n i env h = loopV t body (xs.drop i) env h := by
  intro n
  induction n with
  | zero =>
    intro i env h hl
    have e : xs[i]? = none := List.getElem?_eq_none (by omega)
    rw [List.drop_eq_nil_of_le (by omega)]
    unfold loopS loopV
    simp only [Src.at, e]
  | succ n ih =>
    intro i env h hl
    unfold loopS
    cases e : xs[i]? with
    | none =>
      rw [List.drop_eq_nil_of_le (List.getElem?_eq_none_iff.mp e)]
      unfold loopV
      simp only [Src.at, e]
    | some x =>
      obtain ⟨hi, ex⟩ := List.getElem?_eq_some_iff.mp e
      rw [List.drop_eq_getElem_cons hi, ex]
      unfold loopV
      simp only [Src.at, e]
      cases t.bind x env with
      | none => rfl
      | some env1 =>
        dsimp only
        cases body env1 h with
        | nx env2 h2 => exact ih (i + 1) env2 h2 (by omega)
        | ct env2 h2 => exact ih (i + 1) env2 h2 (by omega)
        | _ => rfl
theorem loopA_S (t : Tgt) (body : MS) (s : Src) (env : AEnv) (h : AH) : ∃ n, loopA t body s env h = loopS t body s n 0 env h := by
  cases s with
  | vals xs => exact ⟨xs.length, by rw [loopV_S t body xs _ 0 env h (by omega)]; rfl⟩
  | live r => exact ⟨_, rfl⟩
  | enum r => exact ⟨_, rfl⟩
def sFor (m : MI) (t : Tgt) (body : MS) : MS := fun env h => .ofE env (m env h) fun s h1 => loopA t body s env h1
theorem js_for {iter : Expr} {ss : List Stmt} {m : MI} {t : Tgt} {body : MS} (hp : PassesOwn (model X.prog X.w) X.A X.env X.xe) (hc : X.calm = true) (hi : PI X tg iter (tI G W m)) (hg : PG X tg (t.g G.K)) (hb : PSs X ss (tS G W body))
    (hs : ∀ x, foldedSetIterable iter X.env x = pure x := by intro _; rfl) : PS X (.For tg iter ss [] pos) (tS G W (sFor m t body)) :=
  psI (ps_for hp hc hi hg hb hs) fun D σ H ⟨ρ, env, hp, re, rh, p⟩ => ⟨ρ, env, hp, re, rh, PostS.bindE re p fun s h1 ρ1 H1 J _ e1 R1 rJ p1 => by
    obtain ⟨n, en⟩ := loopA_S t body s env h1
    rw [en] at p1
    refine ⟨fun i k σ H => ∃ ρ env h, RE G ρ H env σ ∧ RH G ρ h H ∧ IRel G ρ H s J ∧ PostS G ρ H W D (loopS t body s k i env h), ⟨n, ρ1, env, h1, re.kp e1.kp, R1, rJ, p1⟩, ?_⟩
    rintro i k σ2 H2 ⟨ρ2, env2, h2, re2, R2, rJ2, p2⟩
    have q := rJ2 ρ2 H2 h2 Kp.refl R2 i
    unfold loopS at p2
    cases ea : s.at h2 i with
    | none => simp only [ea] at p2; exact p2.elim
    | some o =>
      cases o with
      | none =>
        simp only [ea] at p2 q
        exact .inl ⟨q, p2 ρ2 H2 σ2 Ext.refl R2 re2⟩
      | some x =>
        simp only [ea] at p2 q
        cases k with
        | zero => exact p2.elim
        | succ k =>
          refine .inr ⟨q.1, fun σ' H' => ∃ ρ env h, RE G ρ H' env σ' ∧ RH G ρ h H' ∧ IRel G ρ H' s J ∧ PostS G ρ H' W D (loopS t body s k (i + 1) env h), fun σ' H' z => ⟨k, Nat.lt_succ_self _, z⟩, fun y H' hy => ?_⟩
          obtain ⟨e3, R3, r3⟩ := q.2 y H' hy
          dsimp only at p2
          cases eb : t.bind x env2 with
          | none => rw [eb] at p2; exact p2.elim
          | some env3 =>
            rw [eb] at p2
            refine Tgt.ok eb r3 (re2.kp e3.kp) fun σ' re' _ => ⟨ρ2, env3, h2, re', R3, ?_⟩
            have p2 := PostS.mono e3 p2
            cases ec : body env3 h2 with
            | nx env4 h4 => simp only [ec] at p2; exact fun ρ' H' σ' e R re => ⟨ρ', env4, h4, re, R, (rJ2.kp e3.kp).kp e.kp, PostS.mono e p2⟩
            | ct env4 h4 => simp only [ec] at p2; exact fun ρ' H' σ' e R re => ⟨ρ', env4, h4, re, R, (rJ2.kp e3.kp).kp e.kp, PostS.mono e p2⟩
            | bk env4 h4 => simp only [ec] at p2; exact p2
            | rt v h4 => simp only [ec] at p2; exact p2
            | ex z env4 h4 => simp only [ec] at p2; exact p2
            | stuck => simp only [ec] at p2; exact p2⟩
def loopW (c : MT) (body : MS) : Nat → AEnv → AH → SR
  | 0, _, _ => .stuck
  | n + 1, env, h => .ofE env (c env h) fun b h1 => if b then
      match body env h1 with
      | .nx env2 h2 => loopW c body n env2 h2
      | .ct env2 h2 => loopW c body n env2 h2
      | .bk env2 h2 => .nx env2 h2
      | r => r
    else .nx env h1
def sWhile (n : Nat) (c : MT) (body : MS) : MS := fun env h => loopW c body n env h
theorem js_while {c : Expr} {ss : List Stmt} {cm : MT} {body : MS} (n : Nat) (hp : PassesOwn (model X.prog X.w) X.A X.env X.xe) (hc : PT X c (tT G W cm)) (hb : PSs X ss (tS G W body)) : PS X (.While c ss [] pos) (tS G W (sWhile n cm body)) :=
  psI (ps_while hp hc hb) fun D σ H ⟨ρ, env, hp, re, rh, p⟩ => by
    refine ⟨fun k σ H => ∃ ρ env h, RE G ρ H env σ ∧ RH G ρ h H ∧ PostS G ρ H W D (loopW cm body k env h), ⟨n, ρ, env, hp, re, rh, p⟩, ?_⟩
    rintro k σ2 H2 ⟨ρ2, env2, h2, re2, R2, p2⟩
    cases k with
    | zero => exact p2.elim
    | succ k =>
      refine ⟨ρ2, env2, h2, re2, R2, PostS.bindE re2 p2 fun b h3 ρ3 H3 y _ e3 R3 ry p3 => ?_⟩
      subst ry
      cases b with
      | false => exact p3 ρ3 H3 σ2 Ext.refl R3 (re2.kp e3.kp)
      | true =>
        refine ⟨fun σ' H' => ∃ ρ env h, RE G ρ H' env σ' ∧ RH G ρ h H' ∧ PostS G ρ H' W D (loopW cm body k env h), fun σ' H' z => ⟨k, Nat.lt_succ_self _, z⟩, ρ3, env2, h3, re2.kp e3.kp, R3, ?_⟩
        simp only [if_true] at p3
        cases ec : body env2 h3 with
        | nx env4 h4 => simp only [ec] at p3; exact fun ρ' H' σ' e R re => ⟨ρ', env4, h4, re, R, PostS.mono e p3⟩
        | ct env4 h4 => simp only [ec] at p3; exact fun ρ' H' σ' e R re => ⟨ρ', env4, h4, re, R, PostS.mono e p3⟩
        | bk env4 h4 => simp only [ec] at p3; exact p3
        | rt v h4 => simp only [ec] at p3; exact p3
        | ex z env4 h4 => simp only [ec] at p3; exact p3
        | stuck => simp only [ec] at p3; exact p3
end
end CI
namespace CI
open PySem L2
def Res.noex {α : Type} : Res α → Res α
  | .ok a h => .ok a h
  | _ => .stuck
section
variable {G : Wd} {ρ ρ1 : List Addr} {H H1 : Hp} {D : Addr} {xs : List V} {o : HO}
theorem kp_side (hD : H D = some (.lst xs)) : Kp G ρ H ρ (upd H D o) := ⟨fun _ _ h => h, fun a vs q => by
    rcases q with (q | ⟨ob, q⟩) | q
    · exact .inl (.inl (by rw [upd_ne]; exact q; rintro rfl; rw [hD] at q; cases q))
    · exact .inl (.inr ⟨ob, by rw [upd_ne]; exact q; rintro rfl; rw [hD] at q; cases q⟩)
    · exact .inr q, fun a ob u q => by rw [upd_ne]; exact q; rintro rfl; rw [hD] at q; cases q⟩
theorem RH.side {h : AH} (R : RH G ρ h H) (hD : H D = some (.lst xs)) (nD : D ∉ ρ) : RH G ρ h (upd H D o) :=
  ⟨R.len, R.nd, fun i ob a e1 e2 => (R.obj i ob a e1 e2).to (kp_side hD) (by rw [upd_ne]; rintro rfl; exact nD (List.mem_of_getElem? e2)) fun dx q => .inl (by
    rw [upd_ne]; rintro rfl; rw [hD] at q; rcases q with q | q <;> cases q)⟩
theorem Ext.side (E : Ext G ρ1 H1 ρ H) (h1 : H1 D = none) (hD : H D = some (.lst xs)) : Ext G ρ1 H1 ρ (upd H D o) :=
  ⟨E.pre, E.new, fun b u q nb => by rw [upd_ne (ne_of_none q h1)]; exact E.frame b u q nb, fun a vs q => (kp_side (ρ := ρ) hD).tup a vs (E.tup a vs q), fun a ob u q => (kp_side (G := G) (ρ := ρ) hD).frz a ob u (E.frz a ob u q)⟩
end
theorem at_end' : True := trivial
theorem RH.own {G : Wd} {ρ : List Addr} {H : Hp} {h : AH} {D : Addr} {xs : List Val} {zs : List V} (R : RH G ρ h H) (hD : H D = some (.lst zs)) (nD : D ∉ ρ) (r : RVs G ρ H xs zs) : RH G (ρ ++ [D]) (h ++ [.lst xs]) H := by
  have k : Kp G ρ H (ρ ++ [D]) H := ⟨fun i x e => by rw [List.getElem?_append_left (List.getElem?_eq_some_iff.mp e).1]; exact e, fun _ _ h => h, fun _ _ _ h => h⟩
  refine ⟨by simp [R.len], ?_, fun i u a e1 e2 => ?_⟩
  · rw [List.nodup_append]
    refine ⟨R.nd, by simp, fun x hx y hy => ?_⟩
    obtain rfl : y = D := by simpa using hy
    rintro rfl; exact nD hx
  · by_cases hi : i < ρ.length
    · rw [List.getElem?_append_left hi] at e2
      rw [List.getElem?_append_left (by rw [← R.len]; exact hi)] at e1
      exact (R.obj i u a e1 e2).to k rfl fun dx q => .inl rfl
    · have hi' : ρ.length ≤ i := Nat.le_of_not_lt hi
      rw [List.getElem?_append_right hi'] at e2
      rw [List.getElem?_append_right (by rw [← R.len]; exact hi')] at e1
      rw [← R.len] at e1
      cases hj : i - ρ.length with
      | zero =>
        rw [hj] at e1 e2
        simp at e1 e2
        subst e1 e2
        exact ⟨zs, hD, r.kp k⟩
      | succ j => rw [hj] at e2; simp at e2
theorem Ext.own {G : Wd} {ρ ρ1 : List Addr} {H H1 : Hp} {D : Addr} (e : Ext G ρ H ρ1 H1) (hD : H D = none) : Ext G ρ H (ρ1 ++ [D]) H1 := by
  obtain ⟨l, rfl⟩ := e.pre
  refine ⟨⟨l ++ [D], by simp⟩, fun a ha => ?_, e.frame, e.tup, e.frz⟩
  rcases List.mem_append.mp ha with z | z
  · exact e.new a z
  · obtain rfl : a = D := by simpa using z
    exact .inr hD
/-- an expression that gives a new list which nobody holds -/
def RL (G : Wd) (H0 : Hp) : List Addr → Hp → List Val → V → Prop := fun ρ H vs z => ∃ D zs, z = .ref D ∧ H0 D = none ∧ H D = some (.lst zs) ∧ D ∉ ρ ∧ vs.length ≤ 100000 ∧ RVs G ρ H vs zs
def tL (G : Wd) (W : CI.WX) (m : AEnv → AH → Res (List Val)) : TE := fun σ H Q => ∃ ρ env h, RE G ρ H env σ ∧ RH G ρ h H ∧ Post (RL G H) G ρ H W σ Q (m env h)
/-- what is put behind acc into the list at D -/
def Emit (G : Wd) (ρ1 : List Addr) (H1 : Hp) (ρc : List Addr) (Hc : Hp) (D : Addr) (acc : List Val) (Nx : Hp → Prop) : Res (List Val) → Prop
  | .ok vs h => (acc ++ vs).length ≤ 100000 ∧ ∀ ρ' H' zs, Ext G ρ1 H1 ρ' H' → Kp G ρc Hc ρ' H' → RH G ρ' h H' → D ∉ ρ' → H' D = some (.lst zs) → RVs G ρ' H' (acc ++ vs) zs → Nx H'
  | _ => False
/-- where one stands within a comprehension -/
structure At (G : Wd) (ρ1 : List Addr) (H1 : Hp) (D : Addr) (acc : List Val) (ρ : List Addr) (h : AH) (H : Hp) : Prop where
  ext : Ext G ρ1 H1 ρ H
  rh : RH G ρ h H
  out : D ∉ ρ
  at_ : ∃ zs, H D = some (.lst zs) ∧ RVs G ρ H acc zs
  new : H1 D = none
theorem At.go {G : Wd} {ρ1 ρ ρ' : List Addr} {H1 H H' : Hp} {D : Addr} {acc : List Val} {h h' : AH} (a : At G ρ1 H1 D acc ρ h H) (e : Ext G ρ H ρ' H') (R : RH G ρ' h' H') : At G ρ1 H1 D acc ρ' h' H' := by
  obtain ⟨zs, z, r⟩ := a.at_
  refine ⟨a.ext.trans e, R, fun hd => ?_, ⟨zs, e.frame D _ z a.out, r.kp e.kp⟩, a.new⟩
  rcases e.new D hd with q | q
  · exact a.out q
  · rw [z] at q; cases q
theorem Emit.kp {G : Wd} {ρ1 ρc ρd : List Addr} {H1 Hc Hd : Hp} {D : Addr} {acc : List Val} {Nx : Hp → Prop} {r : Res (List Val)} (p : Emit G ρ1 H1 ρc Hc D acc Nx r) (k : Kp G ρc Hc ρd Hd) : Emit G ρ1 H1 ρd Hd D acc Nx r := by
  cases r with
  | ok vs h => exact ⟨p.1, fun ρ' H' zs e k' => p.2 ρ' H' zs e (k.trans k')⟩
  | ex x h => exact p
  | stuck => exact p
abbrev ML := AEnv → AH → Res (List Val)
def cOne (c : MT) (e : ME) : ML := fun env h => (c env h).noex.bind fun b h1 => if b then (e env h1).noex.bind fun v h2 => .ok [v] h2 else .ok [] h1
def compS (t : Tgt) (body : ML) (env : AEnv) (s : Src) : Nat → Nat → AH → Res (List Val)
  | n, i, h => match s.at h i with
    | none => .stuck
    | some none => .ok [] h
    | some (some x) => match n with
      | 0 => .stuck
      | n + 1 => match t.bind x env with
        | none => .stuck
        | some env1 => (body env1 h).bind fun vs h1 => (compS t body env s n (i + 1) h1).bind fun ws h2 => .ok (vs ++ ws) h2
def compV (t : Tgt) (body : ML) (env : AEnv) : List Val → AH → Res (List Val)
  | [], h => .ok [] h
  | x :: xs, h => match t.bind x env with
    | none => .stuck
    | some env1 => (body env1 h).bind fun vs h1 => (compV t body env xs h1).bind fun ws h2 => .ok (vs ++ ws) h2
def compA (t : Tgt) (body : ML) (env : AEnv) (s : Src) (h : AH) : Res (List Val) := match s with
  | .vals xs => compV t body env xs h
  | s => compS t body env s 100000 0 h
theorem compV_S (t : Tgt) (body : ML) (env : AEnv) (xs : List Val) : ∀ (n i : Nat) (h : AH), xs.length ≤ i + n → compS t body env (.vals xs) n i h = compV t body env (xs.drop i) h := by
  intro n
  induction n with
  | zero =>
    intro i h hl
    have e : xs[i]? = none := List.getElem?_eq_none (by omega)
    rw [List.drop_eq_nil_of_le (by omega)]
    unfold compS compV
    simp only [Src.at, e]
  | succ n ih =>
    intro i h hl
    unfold compS
    cases e : xs[i]? with
    | none =>
      rw [List.drop_eq_nil_of_le (List.getElem?_eq_none_iff.mp e)]
      unfold compV
      simp only [Src.at, e]
    | some x =>
      obtain ⟨hi, ex⟩ := List.getElem?_eq_some_iff.mp e
      rw [List.drop_eq_getElem_cons hi, ex]
      unfold compV
      simp only [Src.at, e]
      cases t.bind x env with
      | none => rfl
      | some env1 =>
        dsimp only
        cases body env1 h with
        | ok vs h1 =>
          show (compS t body env (.vals xs) n (i + 1) h1).bind _ = _
          rw [ih (i + 1) h1 (by omega)]
          rfl
        | _ => rfl
theorem compA_S (t : Tgt) (body : ML) (env : AEnv) (s : Src) (h : AH) : ∃ n, compA t body env s h = compS t body env s n 0 h := by
  cases s with
  | vals xs => exact ⟨xs.length, by rw [compV_S t body env xs _ 0 h (by omega)]; rfl⟩
  | live r => exact ⟨_, rfl⟩
  | enum r => exact ⟨_, rfl⟩
def wipeA (env : AEnv) : List Nat → AEnv
  | [] => env
  | v :: vs => (wipeA env vs).set v none
theorem wipeA_RE {G : Wd} {ρ : List Addr} {H : Hp} {env : AEnv} {σ : L2.St} (re : RE G ρ H env σ) : ∀ vs : List Nat, RE G ρ H (wipeA env vs) (wipe σ vs)
  | [] => re
  | v :: vs => by
    have ih := wipeA_RE re vs
    refine ⟨by simp [wipeA, wipe, ih.1], fun i x q => ?_⟩
    unfold wipeA at q
    unfold wipe
    by_cases e : v = i
    · subst e
      by_cases hl : v < (wipeA env vs).length
      · rw [List.getElem?_set_self hl] at q; cases q
      · rw [List.getElem?_eq_none (by simpa using hl)] at q; cases q
    · rw [List.getElem?_set_ne e] at q ⊢
      exact ih.2 i x q
theorem wipe_set {σ : L2.St} {i : Nat} {o : Option V} : ∀ {vs : List Nat}, i ∈ vs → wipe (σ.set i o) vs = wipe σ vs
  | [], h => by simp at h
  | v :: vs, h => by
    unfold wipe
    by_cases hm : i ∈ vs
    · rw [wipe_set hm]
    · obtain rfl : i = v := by
        rcases List.mem_cons.mp h with z | z
        · exact z
        · exact (hm z).elim
      have : ∀ (vs : List Nat), i ∉ vs → wipe (σ.set i o) vs = (wipe σ vs).set i o := by
        intro vs
        induction vs with
        | nil => intro _; rfl
        | cons w ws ih =>
          intro hn
          have h1 : i ≠ w := fun z => hn (by simp [z])
          have h2 : i ∉ ws := fun z => hn (by simp [z])
          show (wipe (σ.set i o) ws).set w none = ((wipe σ ws).set w none).set i o
          rw [ih h2, List.set_comm _ _ h1]
      rw [this vs hm, List.set_set]
theorem wipe_wipe {σ : L2.St} : ∀ (ws : List Nat) (vs : List Nat), (∀ i ∈ ws, i ∈ vs) → wipe (wipe σ ws) vs = wipe σ vs
  | [], vs, _ => rfl
  | w :: ws, vs, h => by
    show wipe ((wipe σ ws).set w none) vs = _
    rw [wipe_set (h w (by simp)), wipe_wipe ws vs fun i hi => h i (by simp [hi])]
theorem wipe_all {σ : L2.St} {vs : List Nat} : ∀ (is : List Nat) (ys : List V) (τ : L2.St), (∀ i ∈ is, i ∈ vs) → wipe (setAllS is ys τ) vs = wipe τ vs
  | [], ys, τ, _ => by unfold setAllS; rfl
  | i :: is, [], τ, _ => by unfold setAllS; rfl
  | i :: is, y :: ys, τ, h => by
    show wipe (setAllS is ys (τ.set i (some y))) vs = _
    rw [wipe_all (σ := σ) is ys _ fun j hj => h j (by simp [hj]), wipe_set (h i (by simp))]
section
variable {X : Cx} {G : Wd} {W : CI.WX} {pos : Pos} {tg : Expr}
/-- one item: the tests and the element -/
theorem emit_one {ρ1 ρ : List Addr} {H1 H : Hp} {D : Addr} {acc : List Val} {Nx : Hp → Prop} {c : MT} {e : ME} {env : AEnv} {h : AH} {σ : L2.St} (a : At G ρ1 H1 D acc ρ h H) (re : RE G ρ H env σ) (p : Emit G ρ1 H1 ρ H D acc Nx (cOne c e env h)) :
    tT G WF c σ H fun b H3 => if b = true then tE G WF e σ H3 fun y H4 => ∃ acc, H4 D = some (.lst acc) ∧ acc.length < sizeLine ∧ Nx (upd H4 D (.lst (acc ++ [y]))) else Nx H3 := by
  refine ⟨ρ, env, h, re, a.rh, ?_⟩
  unfold cOne at p
  cases q : c env h with
  | stuck => rw [q] at p; exact p.elim
  | ex x h1 => rw [q] at p; exact p.elim
  | ok b h1 =>
    rw [q] at p
    intro ρ2 H2 b' e2 R2 hb
    subst hb
    have a2 := a.go e2 R2
    simp only [Res.noex, Res.bind] at p
    cases b with
    | false =>
      simp only [Bool.false_eq_true, if_false] at p
      refine iteF ?_
      obtain ⟨zs, hz, rz⟩ := a2.at_
      exact p.2 ρ2 H2 zs a2.ext e2.kp R2 a2.out hz (by simpa using rz)
    | true =>
      simp only [if_true] at p
      refine iteT ⟨ρ2, env, h1, re.kp e2.kp, R2, ?_⟩
      cases q2 : e env h1 with
      | stuck => rw [q2] at p; exact p.elim
      | ex x h2 => rw [q2] at p; exact p.elim
      | ok v h2 =>
        rw [q2] at p
        intro ρ3 H3 y e3 R3 ry
        have a3 := a2.go e3 R3
        obtain ⟨zs, hz, rz⟩ := a3.at_
        obtain ⟨p1, p2⟩ := p
        refine ⟨zs, hz, ?_, p2 ρ3 _ _ (a3.ext.side a3.new hz) ((e2.kp.trans e3.kp).trans (kp_side hz)) (R3.side hz a3.out) a3.out upd_same ((rz.append (.cons ry .nil)).kp (kp_side hz))⟩
        have hl := rz.length
        have : (acc ++ [v]).length ≤ 100000 := p1
        have h5 := line5 this
        simp at h5
        omega
/-- the walk of a source, each of whose turns emits -/
theorem emit_loop {ρ1 ρ : List Addr} {H1 H : Hp} {D : Addr} {acc : List Val} {Nx : Hp → Prop} {t : Tgt} {body : ML} {env : AEnv} {h : AH} {s : Src} {n : Nat} {J : It} {σ0 σ1 : L2.St} {vs : List Nat} {rd : L2.St → Hp → (Hp → Prop) → Prop} (a : At G ρ1 H1 D acc ρ h H) (rJ : IRel G ρ H s J) (p : Emit G ρ1 H1 ρ H D acc Nx (compS t body env s n 0 h))
    (re : RE G ρ H env σ1) (hw : ∀ ys, wipe (setAllS t.slots ys σ1) vs = wipe σ0 vs)
    (hb : ∀ {ρ H h acc env1 σ Nx}, At G ρ1 H1 D acc ρ h H → RE G ρ H env1 σ → Emit G ρ1 H1 ρ H D acc Nx (body env1 h) → rd σ H Nx) :
    ∃ Wv : Nat → Nat → Hp → Prop, (∃ m, Wv 0 m H) ∧ ∀ i m H, Wv i m H → (J.stop i H ∧ Nx H) ∨ (J.go i H ∧ ∃ N : Hp → Prop, (∀ H', N H' → ∃ m', m' < m ∧ Wv (i + 1) m' H') ∧
      ∀ x H', J.yld i H x H' → t.g G.K x σ1 H' fun σ2 H2 => wipe σ2 vs = wipe σ0 vs ∧ rd σ2 H2 N) := by
  refine ⟨fun i m H' => ∃ ρ' h' acc', At G ρ1 H1 D acc' ρ' h' H' ∧ Kp G ρ H ρ' H' ∧ Emit G ρ1 H1 ρ' H' D acc' Nx (compS t body env s m i h'), ⟨n, ρ, h, acc, a, Kp.refl, p⟩, ?_⟩
  rintro i m H2 ⟨ρ2, h2, acc2, a2, k2, p2⟩
  have q := rJ ρ2 H2 h2 k2 a2.rh i
  unfold compS at p2
  cases ea : s.at h2 i with
  | none => simp only [ea] at p2; exact p2.elim
  | some o =>
    cases o with
    | none =>
      simp only [ea] at p2 q
      obtain ⟨zs, hz, rz⟩ := a2.at_
      exact .inl ⟨q, p2.2 ρ2 H2 zs a2.ext Kp.refl a2.rh a2.out hz (by simpa using rz)⟩
    | some x =>
      simp only [ea] at p2 q
      cases m with
      | zero => exact p2.elim
      | succ m =>
        refine .inr ⟨q.1, fun H' => ∃ ρ' h' acc', At G ρ1 H1 D acc' ρ' h' H' ∧ Kp G ρ H ρ' H' ∧ Emit G ρ1 H1 ρ' H' D acc' Nx (compS t body env s m (i + 1) h'), fun H' z => ⟨m, Nat.lt_succ_self _, z⟩, fun y H' hy => ?_⟩
        obtain ⟨e3, R3, r3⟩ := q.2 y H' hy
        have a3 := a2.go e3 R3
        dsimp only at p2
        cases eb : t.bind x env with
        | none => rw [eb] at p2; exact p2.elim
        | some env3 =>
          rw [eb] at p2
          refine Tgt.ok eb r3 (re.kp (k2.trans e3.kp)) fun σ' re' ⟨ys, ey⟩ => ⟨by rw [ey]; exact hw ys, hb a3 re' ?_⟩
          dsimp only at p2
          cases ec : body env3 h2 with
          | stuck => rw [ec] at p2; exact p2.elim
          | ex z h4 => rw [ec] at p2; exact p2.elim
          | ok vs4 h4 =>
            rw [ec] at p2
            simp only [Res.bind] at p2
            cases ed : compS t body env s m (i + 1) h4 with
            | stuck => rw [ed] at p2; exact p2.elim
            | ex z h5 => rw [ed] at p2; exact p2.elim
            | ok ws h5 =>
              rw [ed] at p2
              obtain ⟨p3, p4⟩ := p2
              refine ⟨by simp at p3 ⊢; omega, fun ρ' H' zs e k R nD hz rz => ⟨ρ', h4, acc2 ++ vs4, ⟨e, R, nD, ⟨zs, hz, rz⟩, a.new⟩, (k2.trans e3.kp).trans k, ?_⟩⟩
              rw [ed]
              exact ⟨by simpa using p3, fun ρ'' H'' zs' e' k' R' nD' hz' rz' => p4 ρ'' H'' zs' e' ((e3.kp.trans k).trans k') R' nD' hz' (by simpa using rz')⟩
/-- the comprehension's whole -/
def eComp (vs : List Nat) (m : MI) (t : Tgt) (body : ML) : ML := fun env h => (m env h).bind fun s h1 => match compA t body (wipeA env vs) s h1 with
  | .ok xs h2 => if xs.length ≤ 100000 then .ok xs h2 else .stuck
  | _ => .stuck
theorem t_lc {m : MI} {t : Tgt} {c : MT} {e : ME} {vs : List Nat} (hv : ∀ i ∈ t.slots, i ∈ vs) {σ : L2.St} {H : Hp} {Q : VK} (hh : tL G W (eComp vs m t (cOne c e)) σ H Q) : tLc (tI G W m) (t.g G.K) (tT G WF c) (tE G WF e) vs σ H Q := by
  obtain ⟨ρ, env, hp, re, rh, p⟩ := hh
  refine ⟨ρ, env, hp, re, rh, Post.bind (rel := IRel G) p fun s h1 ρ1 H1 J _ e1 R1 rJ p1 => ?_⟩
  intro D hD
  obtain ⟨n, en⟩ := compA_S t (cOne c e) (wipeA env vs) s h1
  rw [en] at p1
  have a : At G ρ1 H1 D [] ρ1 h1 (upd H1 D (.lst [])) := ⟨Ext.fresh R1 hD, R1.fresh hD, R1.out hD, ⟨[], upd_same, .nil⟩, hD⟩
  have H0D : H D = none := by
    cases q : H D with
    | none => rfl
    | some o =>
      by_cases hr : D ∈ ρ
      · exact (R1.out hD (by obtain ⟨l, rfl⟩ := e1.pre; simp [hr])).elim
      · rw [e1.frame D o q hr] at hD; cases hD
  refine emit_loop (n := n) (σ0 := σ) a (rJ.kp a.ext.kp) (Nx := fun H' => Q (.ref D) H') ?_ ((wipeA_RE (re.kp (e1.trans a.ext).kp) _)) (fun ys => ?_) (fun {ρ H h acc env1 σ Nx} a re p => emit_one a re p)
  · cases q : compS t (cOne c e) (wipeA env vs) s n 0 h1 with
    | stuck => rw [q] at p1; exact p1.elim
    | ex x h2 => rw [q] at p1; exact p1.elim
    | ok xs h2 =>
      rw [q] at p1
      dsimp only at p1
      by_cases hl : xs.length ≤ 100000
      · rw [if_pos hl] at p1
        exact ⟨by simpa using hl, fun ρ' H' zs e _ R nD hz rz => p1 ρ' H' _ e R ⟨D, zs, rfl, H0D, hz, nD, hl, by simpa using rz⟩⟩
      · rw [if_neg hl] at p1; exact p1.elim
  · rw [wipe_all (σ := σ) _ _ _ hv, wipe_wipe _ _ fun i hi => hi]
theorem je_lc {elt iter : Expr} {ifs : List Expr} {scope : Scope} {own : List (Str × Nat)} {m : MI} {t : Tgt} {c : MT} {e : ME} (hc : X.calm = true) (hN : X.N.Nodup) (hi : PI X tg iter (tI G W m)) (ok : BlkOk X.N X.env.scope scope own)
    (hg : ∀ (s : Shared) (H : Hp) (C : Addr) (cl : List (Str × Addr)) (fp : List Addr), PG (X.blk s H scope (compEnvC scope cl C X.env) fp) tg (t.g G.K)) (ht : ∀ (s : Shared) (H : Hp) (C : Addr) (cl : List (Str × Addr)) (fp : List Addr), PTs (X.blk s H scope (compEnvC scope cl C X.env) fp) ifs (tT G WF c))
    (he : ∀ (s : Shared) (H : Hp) (C : Addr) (cl : List (Str × Addr)) (fp : List Addr), PE (X.blk s H scope (compEnvC scope cl C X.env) fp) elt (tE G WF e)) (hv : ∀ i ∈ t.slots, i ∈ own.map (·.2) := by decide) (hs : ∀ x, foldedSetIterable iter X.env x = pure x := by intro _; rfl) :
    PE X (.ListComp elt [⟨tg, iter, ifs, 0⟩] scope pos) (tL G W (eComp (own.map (·.2)) m t (cOne c e))) :=
  peI (pe_lc hc hN hi ok hg ht he hs) fun σ H Q h => t_lc hv h
/-- name = [..] where the stores are exchanged -/
def sSetL (i : Nat) (m : ML) : MS := fun env h => .ofE env (m env h) fun xs h1 => .nx (env.set i (some (.ref h1.length))) (h1 ++ [.lst xs])
theorem t_setL {i : Nat} {m : ML} {t : TE} (ht : ∀ σ H Q, tL G W m σ H Q → t σ H Q) {D : Ends} {σ : L2.St} {H : Hp} (h : tS G W (sSetL i m) D σ H) : tAsg t (gName i) D σ H := by
  obtain ⟨ρ, env, hp, re, rh, p⟩ := h
  refine ht _ _ _ ⟨ρ, env, hp, re, rh, PostS.bindE (rel := RL G H) re p fun xs h1 ρ1 H1 y eq e1 R1 rl p1 => ?_⟩
  obtain ⟨D', zs, rfl, hD0, hD, nD, _, rz⟩ := rl
  unfold sSetL at p
  rw [eq] at p
  have k : Kp G ρ1 H1 (ρ1 ++ [D']) H1 := ⟨fun i x e => by rw [List.getElem?_append_left (List.getElem?_eq_some_iff.mp e).1]; exact e, fun _ _ h => h, fun _ _ _ h => h⟩
  exact p (ρ1 ++ [D']) H1 _ (e1.own hD0) (R1.own hD nD rz) (((re.kp e1.kp).kp k).set (.ref (at_end R1.len)) i)
theorem js_setLc {i : Nat} {y : Str} {py : Pos} {elt iter : Expr} {ifs : List Expr} {scope : Scope} {own : List (Str × Nat)} {spos : Pos} {m : MI} {t : Tgt} {c : MT} {e : ME} (hc : X.calm = true) (hN : X.N.Nodup) (hy : X.N[i]? = some y) (hyl : X.env.scope.names.lookup y = some .local)
    (hsw : swapsWith (.ListComp elt [⟨tg, iter, ifs, 0⟩] scope pos) (some (.Name y py)) spos.line X.env = pure true) (hi : PI X tg iter (tI G W m)) (ok : BlkOk X.N X.env.scope scope own)
    (hg : ∀ (s : Shared) (H : Hp) (C : Addr) (cl : List (Str × Addr)) (fp : List Addr), PG (X.blk s H scope (compEnvC scope cl C X.env) fp) tg (t.g G.K)) (ht : ∀ (s : Shared) (H : Hp) (C : Addr) (cl : List (Str × Addr)) (fp : List Addr), PTs (X.blk s H scope (compEnvC scope cl C X.env) fp) ifs (tT G WF c))
    (he : ∀ (s : Shared) (H : Hp) (C : Addr) (cl : List (Str × Addr)) (fp : List Addr), PE (X.blk s H scope (compEnvC scope cl C X.env) fp) elt (tE G WF e)) (hv : ∀ i ∈ t.slots, i ∈ own.map (·.2) := by decide) (hs : ∀ x, foldedSetIterable iter X.env x = pure x := by intro _; rfl) :
    PS X (.Assign [.Name y py] (.ListComp elt [⟨tg, iter, ifs, 0⟩] scope pos) spos) (tS G W (sSetL i (eComp (own.map (·.2)) m t (cOne c e)))) :=
  psI (ps_setLc hc hN hy hyl hsw hi ok hg ht he hs) fun D σ H h => t_setL (fun σ H Q h => t_lc hv h) h
/-- two sources, one within the other -/
def cTwo (vs1 : List Nat) (c : MT) (m1 : MI) (t1 : Tgt) (body : ML) : ML := fun env h => (c env h).noex.bind fun b h1 => if b then (m1 env h1).noex.bind fun s h2 => compA t1 body (wipeA env vs1) s h2 else .ok [] h1
/-- no tests -/
def tmYes : MT := fun _ h => .ok true h
theorem jts_nil : PTs X [] (tT G W tmYes) := ⟨fun pins s σ H Q I ⟨ρ, env, h, re, rh, p⟩ => pts_nil.run pins s σ H Q I (p ρ H true Ext.refl rh rfl)⟩
theorem jts_one {c : Expr} {m : MT} (h : PT X c (tT G W m)) : PTs X [c] (tT G W m) := pts_one h
theorem t_lc2 {m m1 : MI} {t t1 : Tgt} {c c1 : MT} {e : ME} {vs vs1 : List Nat} (hv : ∀ i ∈ t.slots, i ∈ vs) (hv2 : ∀ i ∈ t1.slots, i ∈ vs1) {σ : L2.St} {H : Hp} {Q : VK} (hh : tL G W (eComp vs m t (cTwo vs1 c m1 t1 (cOne c1 e))) σ H Q) :
    tLc2 (tI G W m) (t.g G.K) (tT G WF c) (tI G WF m1) (t1.g G.K) (tT G WF c1) (tE G WF e) vs vs1 σ H Q := by
  obtain ⟨ρ, env, hp, re, rh, p⟩ := hh
  refine ⟨ρ, env, hp, re, rh, Post.bind (rel := IRel G) p fun s h1 ρ1 H1 J _ e1 R1 rJ p1 => ?_⟩
  intro D hD
  obtain ⟨n, en⟩ := compA_S t (cTwo vs1 c m1 t1 (cOne c1 e)) (wipeA env vs) s h1
  rw [en] at p1
  have a : At G ρ1 H1 D [] ρ1 h1 (upd H1 D (.lst [])) := ⟨Ext.fresh R1 hD, R1.fresh hD, R1.out hD, ⟨[], upd_same, .nil⟩, hD⟩
  have H0D : H D = none := by
    cases q : H D with
    | none => rfl
    | some o =>
      by_cases hr : D ∈ ρ
      · exact (R1.out hD (by obtain ⟨l, rfl⟩ := e1.pre; simp [hr])).elim
      · rw [e1.frame D o q hr] at hD; cases hD
  refine emit_loop (body := cTwo vs1 c m1 t1 (cOne c1 e)) (n := n) (σ0 := σ) a (rJ.kp a.ext.kp) (Nx := fun H' => Q (.ref D) H') ?_ ((wipeA_RE (re.kp (e1.trans a.ext).kp) _)) (fun ys => ?_) (fun {ρ2 H2 h2 acc2 env2 σ2 Nx} a2 re2 p2 => ?_)
  · cases q : compS t (cTwo vs1 c m1 t1 (cOne c1 e)) (wipeA env vs) s n 0 h1 with
    | stuck => rw [q] at p1; exact p1.elim
    | ex x h2 => rw [q] at p1; exact p1.elim
    | ok xs h2 =>
      rw [q] at p1
      dsimp only at p1
      by_cases hl : xs.length ≤ 100000
      · rw [if_pos hl] at p1
        exact ⟨by simpa using hl, fun ρ' H' zs e _ R nD hz rz => p1 ρ' H' _ e R ⟨D, zs, rfl, H0D, hz, nD, hl, by simpa using rz⟩⟩
      · rw [if_neg hl] at p1; exact p1.elim
  · rw [wipe_all (σ := σ) _ _ _ hv, wipe_wipe _ _ fun i hi => hi]
  · -- a turn of the first source
    refine ⟨ρ2, env2, h2, re2, a2.rh, ?_⟩
    unfold cTwo at p2
    cases q : c env2 h2 with
    | stuck => rw [q] at p2; exact p2.elim
    | ex x h1 => rw [q] at p2; exact p2.elim
    | ok b h3 =>
      rw [q] at p2
      intro ρ3 H3 b' e3 R3 hb
      subst hb
      have a3 := a2.go e3 R3
      simp only [Res.noex, Res.bind] at p2
      cases b with
      | false =>
        simp only [Bool.false_eq_true, if_false] at p2
        refine iteF ?_
        obtain ⟨zs, hz, rz⟩ := a3.at_
        exact p2.2 ρ3 H3 zs a3.ext e3.kp R3 a3.out hz (by simpa using rz)
      | true =>
        simp only [if_true] at p2
        refine iteT ⟨ρ3, env2, h3, re2.kp e3.kp, R3, ?_⟩
        cases q2 : m1 env2 h3 with
        | stuck => rw [q2] at p2; exact p2.elim
        | ex x h2 => rw [q2] at p2; exact p2.elim
        | ok s1 h4 =>
          rw [q2] at p2
          intro ρ4 H4 J1 e4 R4 rJ1
          have a4 := a3.go e4 R4
          dsimp only at p2
          obtain ⟨n1, en1⟩ := compA_S t1 (cOne c1 e) (wipeA env2 vs1) s1 h4
          rw [en1] at p2
          exact emit_loop (n := n1) (σ0 := σ2) (vs := vs1) a4 rJ1 (p2.kp (e3.kp.trans e4.kp)) (wipeA_RE ((re2.kp e3.kp).kp e4.kp) vs1) (fun ys => by rw [wipe_all (σ := σ2) _ _ _ hv2, wipe_wipe _ _ fun i hi => hi]) (fun {ρ H h acc env1 σ Nx} a re p => emit_one a re p)
theorem je_lc2 {elt iter iter1 tg1 : Expr} {ifs ifs1 : List Expr} {scope : Scope} {own : List (Str × Nat)} {vs1 : List Nat} {m m1 : MI} {t t1 : Tgt} {c c1 : MT} {e : ME} (hc : X.calm = true) (hN : X.N.Nodup) (hi : PI X tg iter (tI G W m)) (ok : BlkOk X.N X.env.scope scope own) (hv1 : ∀ i ∈ vs1, i ∈ own.map (·.2))
    (hg : ∀ (s : Shared) (H : Hp) (C : Addr) (cl : List (Str × Addr)) (fp : List Addr), PG (X.blk s H scope (compEnvC scope cl C X.env) fp) tg (t.g G.K)) (ht : ∀ (s : Shared) (H : Hp) (C : Addr) (cl : List (Str × Addr)) (fp : List Addr), PTs (X.blk s H scope (compEnvC scope cl C X.env) fp) ifs (tT G WF c))
    (hi1 : ∀ (s : Shared) (H : Hp) (C : Addr) (cl : List (Str × Addr)) (fp : List Addr), PI (X.blk s H scope (compEnvC scope cl C X.env) fp) tg1 iter1 (tI G WF m1))
    (hg1 : ∀ (s : Shared) (H : Hp) (C : Addr) (cl : List (Str × Addr)) (fp : List Addr), PG (X.blk s H scope (compEnvC scope cl C X.env) fp) tg1 (t1.g G.K)) (ht1 : ∀ (s : Shared) (H : Hp) (C : Addr) (cl : List (Str × Addr)) (fp : List Addr), PTs (X.blk s H scope (compEnvC scope cl C X.env) fp) ifs1 (tT G WF c1))
    (he : ∀ (s : Shared) (H : Hp) (C : Addr) (cl : List (Str × Addr)) (fp : List Addr), PE (X.blk s H scope (compEnvC scope cl C X.env) fp) elt (tE G WF e)) (hv : ∀ i ∈ t.slots, i ∈ own.map (·.2) := by decide) (hv2 : ∀ i ∈ t1.slots, i ∈ vs1 := by decide) (hs : ∀ x, foldedSetIterable iter X.env x = pure x := by intro _; rfl) (hs1 : ∀ env x, foldedSetIterable iter1 env x = pure x := by intro _ _; rfl) :
    PE X (.ListComp elt [⟨tg, iter, ifs, 0⟩, ⟨tg1, iter1, ifs1, 0⟩] scope pos) (tL G W (eComp (own.map (·.2)) m t (cTwo vs1 c m1 t1 (cOne c1 e)))) :=
  peI (pe_lc2 hc hN hi ok hv1 hg ht hi1 hg1 ht1 he hs hs1) fun σ H Q h => t_lc2 hv hv2 h
end
end CI
namespace CI
open PySem PySem.Spec PyProof.Rows L2
abbrev MF := List Val → AH → Res Val
def startA (n : Nat) (vs : List Val) : AEnv := vs.map some ++ List.replicate (n - vs.length) none
def endF : SR → Res Val
  | .nx _ h => .ok .non h
  | .rt v h => .ok v h
  | .ex x _ h => .ex x h
  | _ => .stuck
/-- a def of n parameters and N names -/
def fn (n N : Nat) (body : MS) : MF := fun as h => if as.length = n then endF (body (startA N as) h) else .stuck
def spM (G : Wd) (n : Nat) (f : MF) : Sp := fun vs H Q E => vs.length = n ∧ ∃ ρ h as, RH G ρ h H ∧ RVs G ρ H as vs ∧ Post (RV G) G ρ H (fun cls d _ H' => E cls d H') [] Q (f as h)
/-- a def that keeps to its mirror -/
abbrev FnM (G : Wd) (P : Program) (w : World) (mg : Str → Option Value) (base : Heap) (k : Nat) (f : Addr) (fd : FuncData) (ps : List Str) (m : MF) : Prop := FnOk P w G.K mg base (L2.CX P w) k f fd ps (spM G ps.length m)
section
variable {G : Wd} {P : Program} {w : World} {mg : Str → Option Value} {base : Heap}
theorem start_RE {ρ : List Addr} {H : Hp} {as : List Val} {vs : List V} (r : RVs G ρ H as vs) (N : List Str) : RE G ρ H (startA N.length as) (L2.start N vs) := by
  have hl := r.length
  refine ⟨by simp [startA, L2.start, hl], fun i v q => ?_⟩
  unfold startA at q
  by_cases hi : i < as.length
  · rw [List.getElem?_append_left (by simpa using hi), List.getElem?_map] at q
    cases e : as[i]? with
    | none => rw [e] at q; cases q
    | some x =>
      rw [e] at q
      simp at q
      subst q
      obtain ⟨y, h1, h2⟩ := r.get e
      refine ⟨y, ?_, h2⟩
      unfold L2.start
      rw [List.getElem?_append_left (by simpa [← hl] using hi), List.getElem?_map, h1]
      rfl
  · rw [List.getElem?_append_right (by simpa using Nat.le_of_not_lt hi)] at q
    rw [List.getElem?_replicate] at q
    split at q <;> cases q
/-- THE RULE for a def -/
theorem ok_fn {x qual : Str} {params : Arguments} {body : List Stmt} {scope : Scope} {dvs : List V} {kws : List (Str × V)} {f : Addr} {fd : FuncData} {N ps : List Str} {k : Nat} {m : MS} (F : FunD G.K x qual params body scope dvs kws f fd) (S : FnScope N ps scope)
    (hb : ∀ (cdv : Value) (A : Around) (outer : List Env) (s : Shared) (H : Hp) (E : XK), Room k (A.deeper (envOfC qual scope s.heap.objs.size f cdv)) → Takes (cxOf (L2.CX P w) P w G.K mg base N qual scope f cdv A outer s H E) (fun cls d _ H => E cls d H) → PassesOwn (model P w) (A.deeper (envOfC qual scope s.heap.objs.size f cdv)) (envOfC qual scope s.heap.objs.size f cdv) (cxOf (L2.CX P w) P w G.K mg base N qual scope f cdv A outer s H E).xe →
      PSs (cxOf (L2.CX P w) P w G.K mg base N qual scope f cdv A outer s H E) body (tS G (fun cls d _ H => E cls d H) m)) : FnM G P w mg base (k + 1) f fd ps (fn ps.length N.length m) := by
  refine F.ok S (fun vs H Q E h => h.1) fun cdv A outer s H vs Q E hr hsp => ⟨_, hb cdv A outer s H E hr (takes_of rfl rfl rfl rfl) (passes_of rfl), ?_⟩
  obtain ⟨hl, ρ, h, as, rh, ra, p⟩ := hsp
  unfold fn at p
  rw [if_pos (ra.length.trans hl)] at p
  refine ⟨ρ, _, h, start_RE ra N, rh, ?_⟩
  cases q : m (startA N.length as) h with
  | nx env h1 => rw [q] at p; exact fun ρ' H' σ' e R re => p ρ' H' _ e R .non
  | rt v h1 => rw [q] at p; exact p
  | bk env h1 => rw [q] at p; exact p.elim
  | ct env h1 => rw [q] at p; exact p.elim
  | ex x env h1 => rw [q] at p; exact fun ρ' H' σ' cls d e R re rx => p ρ' H' cls d e R rx
  | stuck => rw [q] at p; exact p
end
/-- a mirror that takes n arguments alone -/
def Ar (n : Nat) (m : MF) : Prop := ∀ as h, as.length ≠ n → m as h = .stuck
theorem ar_fn {n N : Nat} {b : MS} : Ar n (fn n N b) := fun as h hl => if_neg hl
def eCall (f : MF) (ds : List Val) (as : MA) : ME := fun env h => (as env h).bind fun vs h1 => f (vs ++ ds) h1
section
variable {X : Cx} {G : Wd} {W : CI.WX} {k : Nat} {f : Addr} {fd : FuncData} {ps : List Str} {m : MF} {dvs : List V} {ds : List Value} {dxs : List Val} {x : Str} {p pos : Pos} {e : Expr} {es : List Expr} {as : MA}
theorem post_call {σ : L2.St} {ρ : List Addr} {H : Hp} {Q : VK} {vs : List Val} {zs : List V} {n : Nat} {h : AH} (ha : Ar n m) (R : RH G ρ h H) (r : RVs G ρ H vs zs) (q : Post (RV G) G ρ H W σ Q (m vs h)) : spM G n m zs H Q (L2.WE W σ) := by
  have hl : vs.length = n := by
    by_cases hl : vs.length = n
    · exact hl
    · rw [ha vs h hl] at q; exact q.elim
  refine ⟨r.length.symm.trans hl, ρ, h, vs, R, r, ?_⟩
  cases z : m vs h with
  | ok v h1 => rw [z] at q; exact q
  | ex x h1 => rw [z] at q; exact q
  | stuck => rw [z] at q; exact q
theorem je_call (F : FnM G X.prog X.w X.mg X.base k f fd ps m) (hK : X.K = G.K) (ha' : Ar ps.length m) (tk : Takes X W) (hr : Room k X.A) (hg : Gl X x) (hm : X.mg x = some (.ref f)) (hk : PySem.W.keepIn X.K (.ref f) = true) (hb : Binds X.K fd ps ds) (hd : Vals dvs ds) (dr : ∀ ρ H, RVs G ρ H dxs dvs)
    (ha : PA X (e :: es) (tA G W as)) (hdb : (x == ("__debug__" : Str)) = false := by decide) (he : starEach (e :: es) X.env = (false, eval e X.env) :: starEach es X.env := by rfl) (hpl : (backTo pos (starEach es X.env)).any (·.1) = false := by rfl) :
    PE X (.Call (.Name x p) (e :: es) [] pos) (tE G W (eCall m dxs as)) := by
  have F' : FnOk X.prog X.w X.K X.mg X.base (L2.CX X.prog X.w) k f fd ps (spM G ps.length m) := by rw [hK]; exact F
  exact peI (pe_callSD (E := L2.WE W) F' hr hg hm hk hb hd (fun σ => L2.passAt tk σ) ha hdb he hpl) fun σ H Q ⟨ρ, env, hp, re, rh, q⟩ => ⟨ρ, env, hp, re, rh, Post.bind q fun vs h1 ρ1 H1 zs _ e1 R1 rzs p1 =>
    post_call ha' R1 (rzs.append (dr ρ1 H1)) p1⟩
/-- f() -/
theorem je_call0 (F : FnM G X.prog X.w X.mg X.base k f fd ps m) (hK : X.K = G.K) (ha' : Ar ps.length m) (tk : Takes X W) (hr : Room k X.A) (hg : Gl X x) (hm : X.mg x = some (.ref f)) (hk : PySem.W.keepIn X.K (.ref f) = true) (hb : Binds X.K fd ps ds) (hd : Vals dvs ds) (dr : ∀ ρ H, RVs G ρ H dxs dvs)
    (hdb : (x == ("__debug__" : Str)) = false := by decide) : PE X (.Call (.Name x p) [] [] pos) (tE G W (eCall m dxs aNil)) := by
  have F' : FnOk X.prog X.w X.K X.mg X.base (L2.CX X.prog X.w) k f fd ps (spM G ps.length m) := by rw [hK]; exact F
  refine ⟨fun pins s σ H Q I ⟨ρ, env, hp, re, rh, q⟩ => ?_⟩
  refine wpAny_Call_Name_kw (ld_glob I hg hm ?_ hdb)
  exact PySem.W.callWith_K0 I.kIn hk (run_fnSD (us := []) (vs := []) (E := L2.WE W) F' hr hb hd (L2.passAt tk σ) I .nil (post_call ha' rh (dr ρ H) q))
end
end CI
namespace CI
open PySem PySem.Spec PyProof.Rows L2
def mapO {α β : Type} (f : α → Option β) : List α → Option (List β)
  | [] => some []
  | x :: xs => match f x with
    | none => none
    | some y => match mapO f xs with
      | none => none
      | some ys => some (y :: ys)
def toD (h : AH) : Nat → Val → Option PyData
  | 0, _ => none
  | _ + 1, .non => some .none
  | _ + 1, .bl b => some (.bool b)
  | _ + 1, .int i => some (.int i)
  | _ + 1, .str x => some (.str x)
  | n + 1, .tup xs => (mapO (toD h n) xs).map .tuple
  | n + 1, .fls xs => (mapO (toD h n) xs).map .list
  | n + 1, .ref r => match h[r]? with
    | some (.lst xs) => (mapO (toD h n) xs).map .list
    | _ => none
  | _ + 1, _ => none
section
variable {G : Wd} {ρ : List Addr} {H : Hp} {h : AH}
theorem mapO_dp {f : Val → Option PyData} (ih : ∀ v x d, RV G ρ H v x → f v = some d → Dp G.K H x d) : ∀ {xs : List Val} {vs : List V} {ds : List PyData}, RVs G ρ H xs vs → mapO f xs = some ds → DpAll G.K H vs ds
  | _, _, _, .nil, e => by cases e; exact .nil
  | _, _, _, .cons (x := x) (xs := xs) r rs, e => by
    unfold mapO at e
    cases q : f x with
    | none => rw [q] at e; cases e
    | some d =>
      rw [q] at e
      cases q2 : mapO f xs with
      | none => rw [q2] at e; cases e
      | some ds =>
        rw [q2] at e
        cases e
        exact .cons (ih _ _ _ r q) (mapO_dp ih rs q2)
theorem toD_dp (R : RH G ρ h H) : ∀ (n : Nat) (v : Val) (x : V) (d : PyData), RV G ρ H v x → toD h n v = some d → Dp G.K H x d
  | 0, _, _, _, _, e => by unfold toD at e; cases e
  | n + 1, _, _, _, .non, e => by cases e; exact .non
  | n + 1, _, _, _, .bl b, e => by cases e; exact .bl b
  | n + 1, _, _, _, .int b, e => by cases e; exact .int b
  | n + 1, _, _, _, .str b, e => by cases e; exact .str b
  | n + 1, _, _, _, .ty b, e => by cases e
  | n + 1, _, _, _, .cst b, e => by cases e
  | n + 1, _, _, d, .tup (xs := xs) hs rs, e => by
    unfold toD at e
    cases q : mapO (toD h n) xs with
    | none => rw [q] at e; cases e
    | some ds => rw [q] at e; cases e; exact .tup hs (mapO_dp (fun v x d => toD_dp R n v x d) rs q)
  | n + 1, _, _, d, .fls (xs := xs) hs rs, e => by
    unfold toD at e
    cases q : mapO (toD h n) xs with
    | none => rw [q] at e; cases e
    | some ds => rw [q] at e; cases e; exact .lst hs.sq (mapO_dp (fun v x d => toD_dp R n v x d) rs q)
  | n + 1, _, _, d, .ref (n := r) ha, e => by
    unfold toD at e
    cases q0 : h[r]? with
    | none => rw [q0] at e; cases e
    | some o =>
      rw [q0] at e
      cases o with
      | lst xs =>
        dsimp only at e
        obtain ⟨vs, hs, rs⟩ := R.obj _ _ _ q0 ha
        cases q : mapO (toD h n) xs with
        | none => rw [q] at e; cases e
        | some ds => rw [q] at e; cases e; exact .lst (SqL.of hs) (mapO_dp (fun v x d => toD_dp R n v x d) rs q)
      | _ => cases e
end
def pureO (v : Option Val) (h : AH) : Option (Val × AH) := v.map fun x => (x, h)
theorem post_pure {G : Wd} {ρ : List Addr} {H : Hp} {Q : VK} {v : Val} {h : AH} (R : RH G ρ h H) {z : V} (p : PostO G ρ H Q (some (v, h))) (r : RV G ρ H v z) : Q z H := p ρ H z Ext.refl R r
def eqD (a b : Val) (h : AH) : Option Bool := match toD h 66 a, toD h 66 b with
  | some d, some e => if SeqAt.shaped d && SeqAt.shaped e then some (PyData.eqv d e) else none
  | _, _ => none
def fEq : F2
  | .int i, .int j, h => some (.bl (decide (i = j)), h)
  | .str i, .str j, h => some (.bl (decide (i = j)), h)
  | a, b, h => (eqD a b h).map fun c => (.bl c, h)
def fNe : F2
  | .int i, .int j, h => some (.bl (!decide (i = j)), h)
  | .str i, .str j, h => some (.bl (!decide (i = j)), h)
  | a, b, h => (eqD a b h).map fun c => (.bl (!c), h)
section
variable {X : Cx} {G : Wd} {W : CI.WX}
theorem eqD_of {ρ : List Addr} {H : Hp} {h : AH} {a b : Val} {x y : V} {c : Bool} (R : RH G ρ h H) (ra : RV G ρ H a x) (rb : RV G ρ H b y) (e : eqD a b h = some c) : ∃ d e, Dp G.K H x d ∧ Dp G.K H y e ∧ SeqAt.shaped d = true ∧ SeqAt.shaped e = true ∧ PyData.eqv d e = c := by
  unfold eqD at e
  cases q1 : toD h 66 a with
  | none => rw [q1] at e; cases e
  | some d =>
    cases q2 : toD h 66 b with
    | none => rw [q1, q2] at e; cases e
    | some d' =>
      rw [q1, q2] at e
      dsimp only at e
      by_cases hs : (SeqAt.shaped d && SeqAt.shaped d') = true
      · rw [if_pos hs] at e
        cases e
        obtain ⟨h1, h2⟩ := Bool.and_eq_true_iff.mp hs
        exact ⟨d, d', toD_dp R _ _ _ _ ra q1, toD_dp R _ _ _ _ rb q2, h1, h2, rfl⟩
      · rw [if_neg hs] at e; cases e
theorem dInt (i j : Int) : decide (V.int i = V.int j) = decide (i = j) := by simp
theorem dStr (i j : Str) : decide (V.str i = V.str j) = decide (i = j) := by simp
theorem op_eqM (hK : X.K = G.K) (hu : X.A.units + 64 < cLine) : OpR X (compareOp .Eq) (r2 G fEq) := by
  intro pins s σ H x y v u Q I rx ry ⟨ρ, h, a, b, R, ra, rb, p⟩
  have gen : ∀ c, eqD a b h = some c → Q (.bl c) H → wpAny (model X.prog X.w) X.A (compareOp .Eq v u) (EP X pins σ Q) X.xe s := fun c e q => by
    obtain ⟨d, d', h1, h2, h3, h4, h5⟩ := eqD_of R ra rb e
    exact op_eqD hu pins s σ H x y v u Q I rx ry ⟨d, d', by rw [hK]; exact h1, by rw [hK]; exact h2, h3, h4, by rw [h5]; exact q⟩
  have gen2 : PostO G ρ H Q ((eqD a b h).map fun c => (Val.bl c, h)) → wpAny (model X.prog X.w) X.A (compareOp .Eq v u) (EP X pins σ Q) X.xe s := fun p => by
    cases e : eqD a b h with
    | none => rw [e] at p; exact p.elim
    | some c => rw [e] at p; exact gen c e (p ρ H _ Ext.refl R (.bl c))
  unfold fEq at p
  split at p
  · cases ra; cases rb
    exact op_eq pins s σ H _ _ v u Q I rx ry ⟨rfl, by rw [dInt]; exact p ρ H _ Ext.refl R (.bl _)⟩
  · cases ra; cases rb
    exact op_eq pins s σ H _ _ v u Q I rx ry ⟨rfl, by rw [dStr]; exact p ρ H _ Ext.refl R (.bl _)⟩
  · exact gen2 p
theorem op_neM (hK : X.K = G.K) (hu : X.A.units + 64 < cLine) : OpR X (compareOp .NotEq) (r2 G fNe) := by
  intro pins s σ H x y v u Q I rx ry ⟨ρ, h, a, b, R, ra, rb, p⟩
  have gen : ∀ c, eqD a b h = some c → Q (.bl (!c)) H → wpAny (model X.prog X.w) X.A (compareOp .NotEq v u) (EP X pins σ Q) X.xe s := fun c e q => by
    obtain ⟨d, d', h1, h2, h3, h4, h5⟩ := eqD_of R ra rb e
    exact op_neD hu pins s σ H x y v u Q I rx ry ⟨d, d', by rw [hK]; exact h1, by rw [hK]; exact h2, h3, h4, by rw [h5]; exact q⟩
  have gen2 : PostO G ρ H Q ((eqD a b h).map fun c => (Val.bl (!c), h)) → wpAny (model X.prog X.w) X.A (compareOp .NotEq v u) (EP X pins σ Q) X.xe s := fun p => by
    cases e : eqD a b h with
    | none => rw [e] at p; exact p.elim
    | some c => rw [e] at p; exact gen c e (p ρ H _ Ext.refl R (.bl _))
  unfold fNe at p
  split at p
  · cases ra; cases rb
    exact op_ne pins s σ H _ _ v u Q I rx ry ⟨rfl, by rw [dInt]; exact p ρ H _ Ext.refl R (.bl _)⟩
  · cases ra; cases rb
    exact op_ne pins s σ H _ _ v u Q I rx ry ⟨rfl, by rw [dStr]; exact p ρ H _ Ext.refl R (.bl _)⟩
  · exact gen2 p
def intsA : List Val → Option (List Int)
  | [] => some []
  | .int i :: xs => (intsA xs).map (i :: ·)
  | _ => none
theorem intsA_of {ρ : List Addr} {H : Hp} : ∀ {xs : List Val} {vs : List V} {ns : List Int}, RVs G ρ H xs vs → intsA xs = some ns → vs = ns.map V.int
  | _, _, _, .nil, e => by cases e; rfl
  | _, _, _, .cons r rs, e => by
    cases r with
    | int i =>
      rename_i xs vs
      unfold intsA at e
      cases q : intsA xs with
      | none => rw [q] at e; cases e
      | some ms => rw [q] at e; cases e; rw [intsA_of rs q]; rfl
    | _ => cases e
def fLt : F2
  | .int i, .int j, h => some (.bl (decide (i < j)), h)
  | .tup xs, .tup ys, h => match intsA xs, intsA ys with
    | some ns, some ms => some (.bl (HT.lexLt ns ms), h)
    | _, _ => none
  | _, _, _ => none
def fI (p : Int → Int → Bool) : F2
  | .int i, .int j, h => some (.bl (p i j), h)
  | _, _, _ => none
def fLe : F2 := fI fun i j => decide (i ≤ j)
def fGt : F2 := fI fun i j => decide (j < i)
def fGe : F2 := fI fun i j => decide (j ≤ i)
theorem op_ltM (hK : X.K = G.K) (hu : X.A.units + 64 < cLine) : OpR X (compareOp .Lt) (r2 G fLt) := by
  intro pins s σ H x y v u Q I rx ry ⟨ρ, h, a, b, R, ra, rb, p⟩
  cases ra with
  | int i =>
    cases rb with
    | int j => exact op_lt pins s σ H _ _ v u Q I rx ry ⟨i, j, rfl, rfl, p ρ H _ Ext.refl R (.bl _)⟩
    | _ => exact p.elim
  | tup hs rs =>
    cases rb with
    | tup hs' rs' =>
      rename_i xs a vs ys b ws
      unfold fLt at p
      dsimp only at p
      cases q1 : intsA xs with
      | none => rw [q1] at p; exact p.elim
      | some ns =>
        cases q2 : intsA ys with
        | none => rw [q1, q2] at p; exact p.elim
        | some ms =>
          rw [q1, q2] at p
          rw [intsA_of rs q1] at hs
          rw [intsA_of rs' q2] at hs'
          exact op_ltT (by omega) pins s σ H _ _ v u Q I rx ry ⟨a, b, ns, ms, rfl, rfl, by rw [hK]; exact hs, by rw [hK]; exact hs', p ρ H _ Ext.refl R (.bl _)⟩
    | _ => exact p.elim
  | _ => exact p.elim
theorem opIB {op : CmpOp} {g : Int → Int → Bool} (ho : OpR X (compareOp op) (rI0 fun i j => .bl (g i j))) : OpR X (compareOp op) (r2 G (fI g)) := by
  intro pins s σ H x y v u Q I rx ry ⟨ρ, h, a, b, R, ra, rb, p⟩
  cases ra with
  | int i =>
    cases rb with
    | int j => exact ho pins s σ H _ _ v u Q I rx ry ⟨i, j, rfl, rfl, p ρ H _ Ext.refl R (.bl _)⟩
    | _ => exact p.elim
  | _ => exact p.elim
theorem op_leM : OpR X (compareOp .LtE) (r2 G fLe) := opIB op_le
theorem op_gtM : OpR X (compareOp .Gt) (r2 G fGt) := opIB op_gt
theorem op_geM : OpR X (compareOp .GtE) (r2 G fGe) := opIB op_ge
def fIs : F2
  | .bl a, .bl b, h => some (.bl (decide (a = b)), h)
  | .non, .non, h => some (.bl true, h)
  | _, .non, h => some (.bl false, h)
  | _, _, _ => none
def fIsNot : F2
  | .bl a, .bl b, h => some (.bl (!decide (a = b)), h)
  | .non, .non, h => some (.bl false, h)
  | _, .non, h => some (.bl true, h)
  | _, _, _ => none
theorem op_isM : OpR X (compareOp .Is) (r2 G fIs) := by
  intro pins s σ H x y v u Q I rx ry ⟨ρ, h, a, b, R, ra, rb, p⟩
  cases rb with
  | bl k =>
    cases ra with
    | bl k' => exact op_is_bl pins s σ H _ _ v u Q I rx ry ⟨k', k, rfl, rfl, p ρ H _ Ext.refl R (.bl _)⟩
    | _ => exact p.elim
  | non =>
    refine op_isN pins s σ H _ _ v u Q I rx ry ⟨rfl, ?_⟩
    cases ra <;> exact p ρ H _ Ext.refl R (.bl _)
  | _ => cases ra <;> exact p.elim
theorem op_isNotM : OpR X (compareOp .IsNot) (r2 G fIsNot) := by
  intro pins s σ H x y v u Q I rx ry ⟨ρ, h, a, b, R, ra, rb, p⟩
  cases rb with
  | bl k =>
    cases ra with
    | bl k' => exact op_isnot_bl pins s σ H _ _ v u Q I rx ry ⟨k', k, rfl, rfl, p ρ H _ Ext.refl R (.bl _)⟩
    | _ => exact p.elim
  | non =>
    refine op_notN pins s σ H _ _ v u Q I rx ry ⟨rfl, ?_⟩
    cases ra <;> exact p ρ H _ Ext.refl R (.bl _)
  | _ => cases ra <;> exact p.elim
def fAdd : F2
  | .int i, .int j, h => some (.int (i + j), h)
  | .str i, .str j, h => if i.length + j.length ≤ 100000 then some (.str (i ++ j), h) else none
  | .tup xs, .tup ys, h => if xs.length + ys.length ≤ 100000 then some (.tup (xs ++ ys), h) else none
  | .ref a, .ref b, h => match h[a]?, h[b]? with
    | some (.lst xs), some (.lst ys) => if xs.length + ys.length ≤ 100000 then some (.ref h.length, h ++ [.lst (xs ++ ys)]) else none
    | _, _ => none
  | _, _, _ => none
def fSub : F2
  | .int i, .int j, h => some (.int (i - j), h)
  | _, _, _ => none
def rep {α : Type} (k : Nat) (xs : List α) : List α := (List.replicate k xs).flatten
def fMul : F2
  | .int i, .int j, h => if i.natAbs.log2 + j.natAbs.log2 < 1000000 then some (.int (i * j), h) else none
  | .tup xs, .int k, h => if xs ≠ [] ∧ 2 ≤ k ∧ k ≤ 1000 ∧ xs.length ≤ 1000 then some (.tup (rep k.toNat xs), h) else none
  | .ref a, .int k, h => match h[a]? with
    | some (.lst xs) => if 0 ≤ k ∧ k ≤ 100000 ∧ xs.length * k.toNat ≤ 100000 then some (.ref h.length, h ++ [.lst (rep k.toNat xs)]) else none
    | _ => none
  | _, _, _ => none
def fMod : F2
  | .int i, .int j, h => if 0 < j then some (.int (i % j), h) else none
  | _, _, _ => none
def fDiv : F2
  | .int i, .int j, h => if 0 < j ∧ j.natAbs.log2 < 9000 then some (.int (i / j), h) else none
  | _, _, _ => none
def fPow : F2
  | .int i, .int j, h => if 0 ≤ j ∧ j ≤ 1000 ∧ i.natAbs < 2 ^ 64 then some (.int (i ^ j.toNat), h) else none
  | _, _, _ => none
def fNeg : F1
  | .int i, h => some (.int (-i), h)
  | _, _ => none
theorem RVs.nil_iff {ρ : List Addr} {H : Hp} {xs : List Val} {vs : List V} (r : RVs G ρ H xs vs) : vs = [] ↔ xs = [] := by
  cases r <;> simp
theorem RVs.rep {ρ : List Addr} {H : Hp} {xs : List Val} {vs : List V} (r : RVs G ρ H xs vs) : ∀ k : Nat, RVs G ρ H (CI.rep k xs) (List.replicate k vs).flatten
  | 0 => .nil
  | k + 1 => by
    show RVs G ρ H (List.replicate (k + 1) xs).flatten _
    rw [List.replicate_succ, List.replicate_succ, List.flatten_cons, List.flatten_cons]
    exact r.append (RVs.rep r k)
theorem new_tup {ρ : List Addr} {H : Hp} {Q : VK} {xs : List Val} {vs : List V} {h : AH} (R : RH G ρ h H) (r : RVs G ρ H xs vs) (p : PostO G ρ H Q (some (.tup xs, h))) (q : Addr) (hq : H q = none) : Q (.ref q) (upd H q (.tup vs)) :=
  p ρ _ _ (Ext.fresh R hq) (R.fresh hq) (.tup (SqT.of upd_same) (r.kp (Ext.fresh R hq).kp))
theorem new_lst {ρ : List Addr} {H : Hp} {Q : VK} {xs : List Val} {vs : List V} {h : AH} (R : RH G ρ h H) (r : RVs G ρ H xs vs) (p : PostO G ρ H Q (some (.ref h.length, h ++ [.lst xs]))) (q : Addr) (hq : H q = none) : Q (.ref q) (upd H q (.lst vs)) :=
  p (ρ ++ [q]) _ _ (Ext.snoc R hq) (R.snoc hq ⟨vs, upd_same, r.kp (Ext.snoc R hq).kp⟩) (.ref (at_end R.len))
theorem op_addM (hK : X.K = G.K) : OpR X (binaryOp .Add) (r2 G fAdd) := by
  intro pins s σ H x y v u Q I rx ry ⟨ρ, h, a, b, R, ra, rb, p⟩
  cases ra with
  | int i =>
    cases rb with
    | int j => exact op_add pins s σ H _ _ v u Q I rx ry ⟨i, j, rfl, rfl, p ρ H _ Ext.refl R (.int _)⟩
    | _ => exact p.elim
  | str i =>
    cases rb with
    | str j =>
      unfold fAdd at p
      dsimp only at p
      by_cases hl : i.length + j.length ≤ 100000
      · rw [if_pos hl] at p
        exact op_add_str pins s σ H _ _ v u Q I rx ry ⟨i, j, rfl, rfl, line5 hl, p ρ H _ Ext.refl R (.str _)⟩
      · rw [if_neg hl] at p; exact p.elim
    | _ => exact p.elim
  | tup hs rs =>
    cases rb with
    | tup hs' rs' =>
      rename_i xs a vs ys b ws
      unfold fAdd at p
      dsimp only at p
      by_cases hl : xs.length + ys.length ≤ 100000
      · rw [if_pos hl] at p
        refine op_catA pins s σ H _ _ v u Q I rx ry ⟨a, b, vs, ws, rfl, rfl, by rw [hK]; exact hs, by rw [hK]; exact hs', line5 (by rw [← rs.length, ← rs'.length]; exact hl), fun e => ?_, fun _ e => ?_, fun _ _ => new_tup R (rs.append rs') p⟩
        · rw [rs.nil_iff] at e
          subst e
          exact p ρ H _ Ext.refl R (.tup hs' rs')
        · rw [rs'.nil_iff] at e
          subst e
          exact p ρ H _ Ext.refl R (.tup hs (by simpa using rs))
      · rw [if_neg hl] at p; exact p.elim
    | _ => exact p.elim
  | ref ha =>
    cases rb with
    | ref hb =>
      rename_i n a m b
      unfold fAdd at p
      dsimp only at p
      cases q1 : h[n]? with
      | none => rw [q1] at p; exact p.elim
      | some o1 =>
        cases q2 : h[m]? with
        | none => rw [q1, q2] at p; cases o1 <;> exact p.elim
        | some o2 =>
          rw [q1, q2] at p
          cases o1 with
          | lst xs =>
            cases o2 with
            | lst ys =>
              dsimp only at p
              by_cases hl : xs.length + ys.length ≤ 100000
              · rw [if_pos hl] at p
                obtain ⟨vs, hs, rs⟩ := R.obj _ _ _ q1 ha
                obtain ⟨ws, hs', rs'⟩ := R.obj _ _ _ q2 hb
                exact op_cat pins s σ H _ _ v u Q I rx ry ⟨a, b, vs, ws, rfl, rfl, hs, hs', line5 (by rw [← rs.length, ← rs'.length]; exact hl), new_lst R (rs.append rs') p⟩
              · rw [if_neg hl] at p; exact p.elim
            | _ => exact p.elim
          | _ => cases o2 <;> exact p.elim
    | _ => exact p.elim
  | _ => exact p.elim
theorem op_subM : OpR X (binaryOp .Sub) (r2 G fSub) := by
  intro pins s σ H x y v u Q I rx ry ⟨ρ, h, a, b, R, ra, rb, p⟩
  cases ra with
  | int i =>
    cases rb with
    | int j => exact op_sub pins s σ H _ _ v u Q I rx ry ⟨i, j, rfl, rfl, p ρ H _ Ext.refl R (.int _)⟩
    | _ => exact p.elim
  | _ => exact p.elim
theorem op_mulM (hK : X.K = G.K) : OpR X (binaryOp .Mult) (r2 G fMul) := by
  intro pins s σ H x y v u Q I rx ry ⟨ρ, h, a, b, R, ra, rb, p⟩
  cases ra with
  | int i =>
    cases rb with
    | int j =>
      unfold fMul at p
      dsimp only at p
      by_cases hl : i.natAbs.log2 + j.natAbs.log2 < 1000000
      · rw [if_pos hl] at p
        exact op_mulW pins s σ H _ _ v u Q I rx ry ⟨i, j, rfl, rfl, hl, p ρ H _ Ext.refl R (.int _)⟩
      · rw [if_neg hl] at p; exact p.elim
    | _ => exact p.elim
  | tup hs rs =>
    cases rb with
    | int k =>
      rename_i xs a vs
      unfold fMul at p
      dsimp only at p
      by_cases hl : xs ≠ [] ∧ 2 ≤ k ∧ k ≤ 1000 ∧ xs.length ≤ 1000
      · rw [if_pos hl] at p
        exact op_repT pins s σ H _ _ v u Q I rx ry ⟨a, k, vs, rfl, rfl, by rw [hK]; exact hs, fun e => hl.1 (rs.nil_iff.mp e), hl.2.1, hl.2.2.1, by rw [← rs.length]; exact hl.2.2.2, new_tup R (rs.rep _) p⟩
      · rw [if_neg hl] at p; exact p.elim
    | _ => exact p.elim
  | ref ha =>
    cases rb with
    | int k =>
      rename_i n a
      unfold fMul at p
      dsimp only at p
      cases q1 : h[n]? with
      | none => rw [q1] at p; exact p.elim
      | some o1 =>
        rw [q1] at p
        cases o1 with
        | lst xs =>
          dsimp only at p
          by_cases hl : 0 ≤ k ∧ k ≤ 100000 ∧ xs.length * k.toNat ≤ 100000
          · rw [if_pos hl] at p
            obtain ⟨vs, hs, rs⟩ := R.obj _ _ _ q1 ha
            exact op_rep pins s σ H _ _ v u Q I rx ry ⟨a, k, vs, rfl, rfl, hs, by omega, by omega, line5 (by rw [← rs.length]; exact hl.2.2), new_lst R (rs.rep _) p⟩
          · rw [if_neg hl] at p; exact p.elim
        | _ => exact p.elim
    | _ => exact p.elim
  | _ => exact p.elim
theorem op_modM : OpR X (binaryOp .Mod) (r2 G fMod) := by
  intro pins s σ H x y v u Q I rx ry ⟨ρ, h, a, b, R, ra, rb, p⟩
  cases ra with
  | int i =>
    cases rb with
    | int j =>
      unfold fMod at p
      dsimp only at p
      by_cases hl : 0 < j
      · rw [if_pos hl] at p
        exact op_mod pins s σ H _ _ v u Q I rx ry ⟨i, j, rfl, rfl, hl, p ρ H _ Ext.refl R (.int _)⟩
      · rw [if_neg hl] at p; exact p.elim
    | _ => exact p.elim
  | _ => exact p.elim
theorem op_divM : OpR X (binaryOp .FloorDiv) (r2 G fDiv) := by
  intro pins s σ H x y v u Q I rx ry ⟨ρ, h, a, b, R, ra, rb, p⟩
  cases ra with
  | int i =>
    cases rb with
    | int j =>
      unfold fDiv at p
      dsimp only at p
      by_cases hl : 0 < j ∧ j.natAbs.log2 < 9000
      · rw [if_pos hl] at p
        exact op_fdivW pins s σ H _ _ v u Q I rx ry ⟨i, j, rfl, rfl, hl, p ρ H _ Ext.refl R (.int _)⟩
      · rw [if_neg hl] at p; exact p.elim
    | _ => exact p.elim
  | _ => exact p.elim
theorem op_powM : OpR X (binaryOp .Pow) (r2 G fPow) := by
  intro pins s σ H x y v u Q I rx ry ⟨ρ, h, a, b, R, ra, rb, p⟩
  cases ra with
  | int i =>
    cases rb with
    | int j =>
      unfold fPow at p
      dsimp only at p
      by_cases hl : 0 ≤ j ∧ j ≤ 1000 ∧ i.natAbs < 2 ^ 64
      · rw [if_pos hl] at p
        exact op_pow pins s σ H _ _ v u Q I rx ry ⟨i, j, rfl, rfl, ⟨hl.1, by omega, hl.2.2⟩, p ρ H _ Ext.refl R (.int _)⟩
      · rw [if_neg hl] at p; exact p.elim
    | _ => exact p.elim
  | _ => exact p.elim
theorem un_negM : UnR X (unaryOp .USub) (r1 G fNeg) := by
  intro pins s σ H x v Q I rx ⟨ρ, h, a, R, ra, p⟩
  cases ra with
  | int i => exact un_neg pins s σ H _ v Q I rx ⟨i, rfl, p ρ H _ Ext.refl R (.int _)⟩
  | _ => exact p.elim
end
end CI
namespace CI
open PySem PySem.Spec PyProof.Rows L2
section
variable {X : Cx} {G : Wd} {W : CI.WX}
/-- the items of a list or tuple -/
def items (v : Val) (h : AH) : Option (List Val) := match v with
  | .tup xs => some xs
  | .fls xs => some xs
  | .ref r => match h[r]? with
    | some (.lst xs) => some xs
    | _ => none
  | _ => none
theorem items_of {ρ : List Addr} {H : Hp} {h : AH} {v : Val} {x : V} {xs : List Val} (R : RH G ρ h H) (r : RV G ρ H v x) (e : items v h = some xs) : ∃ a vs, x = .ref a ∧ (SqL G.K H a vs ∨ SqT G.K H a vs) ∧ RVs G ρ H xs vs := by
  unfold items at e
  cases r with
  | tup hs rs => cases e; exact ⟨_, _, rfl, .inr hs, rs⟩
  | fls hs rs => cases e; exact ⟨_, _, rfl, .inl hs.sq, rs⟩
  | ref ha =>
    rename_i n a
    dsimp only at e
    cases q : h[n]? with
    | none => rw [q] at e; cases e
    | some o =>
      rw [q] at e
      cases o with
      | lst ys =>
        cases e
        obtain ⟨vs, hs, rs⟩ := R.obj _ _ _ q ha
        exact ⟨a, vs, rfl, .inl (SqL.of hs), rs⟩
      | _ => cases e
  | _ => cases e
def fIx : F2 := fun a b h => match b with
  | .int i => match items a h with
    | some xs => (atI xs i).map fun v => (v, h)
    | none => none
  | _ => none
theorem RVs.atI {ρ : List Addr} {H : Hp} {xs : List Val} {vs : List V} {i : Int} {x : Val} (r : RVs G ρ H xs vs) (e : L2.atI xs i = some x) : ∃ v, L2.atI vs i = some v ∧ RV G ρ H x v := by
  unfold L2.atI at e ⊢
  rw [← r.length]
  cases q : ixN xs.length i with
  | none => rw [q] at e; cases e
  | some j => rw [q] at e; exact r.get e
theorem ix_M (hK : X.K = G.K) : IxR X (r2 G fIx) := by
  intro value slice pins s σ H x y v u Q I rx ry h hss
  obtain ⟨ρ, hp, a, b, R, ra, rb, p⟩ := h
  unfold fIx at p
  cases rb with
  | int i =>
    dsimp only at p
    cases q : items a hp with
    | none => rw [q] at p; exact p.elim
    | some xs =>
      rw [q] at p
      dsimp only at p
      obtain ⟨c, vs, rfl, hs, rs⟩ := items_of R ra q
      cases q2 : L2.atI xs i with
      | none => rw [q2] at p; exact p.elim
      | some z =>
        rw [q2] at p
        obtain ⟨w, hw, rw⟩ := rs.atI q2
        refine ix_seq value slice pins s σ H _ _ v u Q I rx ry ?_ hss
        rcases hs with hs | hs
        · exact .inl ⟨c, vs, i, w, rfl, rfl, by rw [hK]; exact hs, hw, p ρ H _ Ext.refl R rw⟩
        · exact .inr (.inl ⟨c, vs, i, w, rfl, rfl, by rw [hK]; exact hs, hw, p ρ H _ Ext.refl R rw⟩)
  | _ => exact p.elim
def cutA (xs : List Val) (lo hi : Option Int) : List Val := (xs.drop (HT.sIx xs.length 0 lo)).take (HT.sIx xs.length xs.length hi - HT.sIx xs.length 0 lo)
theorem cutA_of {ρ : List Addr} {H : Hp} {xs : List Val} {vs : List V} (r : RVs G ρ H xs vs) (lo hi : Option Int) : RVs G ρ H (cutA xs lo hi) (cutV vs lo hi) := by
  unfold cutA cutV
  rw [← r.length]
  exact (r.drop _).take _
def fCut (v : Val) (lo hi : Option Int) (h : AH) : Option (Val × AH) := match v with
  | .tup xs => some (.tup (cutA xs lo hi), h)
  | .fls xs => some (.ref h.length, h ++ [.lst (cutA xs lo hi)])
  | .ref r => match h[r]? with
    | some (.lst xs) => some (.ref h.length, h ++ [.lst (cutA xs lo hi)])
    | _ => none
  | _ => none
def rCut (G : Wd) : V → Option Int → Option Int → Hp → VK → Prop := fun x lo hi H Q => ∃ ρ h a, RH G ρ h H ∧ RV G ρ H a x ∧ PostO G ρ H Q (fCut a lo hi h)
theorem cutV_whole {vs : List V} {lo hi : Option Int} (h : HT.sIx vs.length 0 lo = 0 ∧ HT.sIx vs.length vs.length hi = vs.length) : cutV vs lo hi = vs := by
  unfold cutV
  rw [h.1, h.2]
  simp
theorem RVs.whole {ρ : List Addr} {H : Hp} {xs : List Val} {vs : List V} (r : RVs G ρ H xs vs) {lo hi : Option Int} (h : HT.sIx vs.length 0 lo = 0 ∧ HT.sIx vs.length vs.length hi = vs.length) : cutA xs lo hi = xs := by
  rw [← r.length] at h
  unfold cutA
  rw [h.1, h.2]
  simp
theorem sl_M (hK : X.K = G.K) : SlR X (rCut G) := by
  intro pins s σ H x v vl vu lo hi sl Q I rx hs pl pu h
  obtain ⟨ρ, hp, a, R, ra, p⟩ := h
  unfold fCut at p
  cases ra with
  | tup hs' rs =>
    rename_i xs b vs
    refine sl_tupA pins s σ H _ v vl vu lo hi sl Q I rx hs pl pu ⟨b, vs, rfl, by rw [hK]; exact hs', fun w => ?_, fun w q hq => ?_⟩
    · dsimp only at p
      rw [rs.whole w] at p
      exact p ρ H _ Ext.refl R (.tup hs' rs)
    · exact new_tup R (cutA_of rs lo hi) p q hq
  | fls hs' rs =>
    rename_i xs b vs
    exact sl_list pins s σ H _ v vl vu lo hi sl Q I rx hs pl pu ⟨b, vs, rfl, by rw [hK]; exact hs'.sq, new_lst R (cutA_of rs lo hi) p⟩
  | ref ha =>
    rename_i n b
    dsimp only at p
    cases q : hp[n]? with
    | none => rw [q] at p; exact p.elim
    | some o =>
      rw [q] at p
      cases o with
      | lst xs =>
        obtain ⟨vs, hs', rs⟩ := R.obj _ _ _ q ha
        exact sl_list pins s σ H _ v vl vu lo hi sl Q I rx hs pl pu ⟨b, vs, rfl, SqL.of hs', new_lst R (cutA_of rs lo hi) p⟩
      | _ => exact p.elim
  | _ => exact p.elim
/-- a slice's bound -/
abbrev MO := AEnv → AH → Res (Option Int)
def oNone : MO := fun _ h => .ok none h
def oSome (m : ME) : MO := fun env h => (m env h).bind fun v h1 => match v with
  | .int i => .ok (some i) h1
  | _ => .stuck
abbrev tO (G : Wd) (W : CI.WX) (m : MO) : TO := tR (fun _ _ a b => a = b) G W m
theorem poI {e : Option Expr} {t t' : TO} (h : PO X e t) (f : ∀ σ H Q, t' σ H Q → t σ H Q) : PO X e t' := ⟨fun pins s σ H Q I q => h.run pins s σ H Q I (f _ _ _ q)⟩
theorem jo_none : PO X none (tO G W oNone) := poI po_none fun σ H Q ⟨ρ, env, hp, re, rh, p⟩ => p ρ H none Ext.refl rh rfl
theorem jo_some {e : Expr} {m : ME} (h : PE X e (tE G W m)) : PO X (some e) (tO G W (oSome m)) :=
  poI (po_some h) fun σ H Q ⟨ρ, env, hp, re, rh, p⟩ => ⟨ρ, env, hp, re, rh, Post.bind p fun x h1 ρ1 H1 y _ e1 R1 rx p1 => by
    cases rx with
    | int i => exact ⟨i, rfl, p1 ρ1 H1 _ Ext.refl R1 rfl⟩
    | _ => exact p1.elim⟩
def eCut (a : ME) (lo hi : MO) : ME := fun env h => (a env h).bind fun x h1 => (lo env h1).bind fun l h2 => (hi env h2).bind fun u h3 => lift (fCut x l u h3)
theorem je_cut {e : Expr} {lo hi : Option Expr} {ma : ME} {ml mh : MO} {p2 pos : Pos} (hK : X.K = G.K) (he : PE X e (tE G W ma)) (hl : PO X lo (tO G W ml)) (hu : PO X hi (tO G W mh)) : PE X (.Subscript e (.Slice lo hi none p2) pos) (tE G W (eCut ma ml mh)) :=
  peI (pe_slice (sl_M hK) he hl hu) fun σ H Q ⟨ρ, env, hp, re, rh, p⟩ => ⟨ρ, env, hp, re, rh, Post.bind p fun x h1 ρ1 H1 y _ e1 R1 rx p1 => ⟨ρ1, env, h1, re.kp e1.kp, R1, Post.bind p1 fun l h2 ρ2 H2 l' _ e2 R2 rl p2 => by
    subst rl
    exact ⟨ρ2, env, h2, (re.kp e1.kp).kp e2.kp, R2, Post.bind p2 fun u h3 ρ3 H3 u' _ e3 R3 ru p3 => by
      subst ru
      exact ⟨ρ3, h3, x, R3, rx.kp (e2.trans e3).kp, Post.lift p3⟩⟩⟩⟩
def fLen : FN
  | [.str x], h => if x.length ≤ 100000 then some (.int x.length, h) else none
  | [v], h => (items v h).map fun xs => (.int xs.length, h)
  | _, _ => none
theorem call_lenM (hK : X.K = G.K) : CallR X (.builtin "len") (rN G fLen) := by
  intro pins s σ H xs us Q I r ⟨ρ, h, as, R, ra, p⟩
  cases ra with
  | nil => exact p.elim
  | cons r1 rs =>
    cases rs with
    | cons _ _ => cases r1 <;> exact p.elim
    | nil =>
      rename_i a x
      have gen : (∀ z, a ≠ .str z) → wpAny (model X.prog X.w) X.A (call (.builtin "len") us) (EP X pins σ Q) X.xe s := fun hn => by
        have p' : PostO G ρ H Q ((items a h).map fun xs => (Val.int xs.length, h)) := by
          cases r1 <;> first | exact p | exact (hn _ rfl).elim
        cases q : items a h with
        | none => rw [q] at p'; exact p'.elim
        | some ys =>
          rw [q] at p'
          obtain ⟨c, vs, rfl, hs, rs⟩ := items_of R r1 q
          refine call_len pins s σ H _ us Q I r ⟨_, vs.length, rfl, ?_, by rw [← rs.length]; exact p' ρ H _ Ext.refl R (.int _)⟩
          rw [hK]
          rcases hs with hs | hs
          · exact .inl ⟨vs, hs, rfl⟩
          · exact .inr ⟨vs, hs, rfl⟩
      cases r1 with
      | str z =>
        unfold fLen at p
        dsimp only at p
        by_cases hl : z.length ≤ 100000
        · rw [if_pos hl] at p
          exact call_len pins s σ H _ us Q I r ⟨_, z.length, rfl, ⟨line5 hl, rfl⟩, p ρ H _ Ext.refl R (.int _)⟩
        · rw [if_neg hl] at p; exact p.elim
      | _ => exact gen fun z e => by cases e
/-- the built-in type of a value -/
def tyOf (v : Val) (h : AH) : Option String := match v with
  | .non => some "NoneType"
  | .bl _ => some "bool"
  | .int _ => some "int"
  | .str _ => some "str"
  | .tup _ => some "tuple"
  | .fls _ => some "list"
  | .ref r => match h[r]? with
    | some (.lst _) => some "list"
    | some (.dK _) => some "dict"
    | _ => none
  | _ => none
theorem tyOf_of {ρ : List Addr} {H : Hp} {h : AH} {v : Val} {x : V} {T : String} (R : RH G ρ h H) (r : RV G ρ H v x) (e : tyOf v h = some T) : TyX G.K H x (.type T) := by
  unfold tyOf at e
  cases r with
  | non => cases e; exact .base .non
  | bl b => cases e; exact .base (.bl b)
  | int b => cases e; exact .base (.int b)
  | str b => cases e; exact .base (.str b)
  | ty b => cases e
  | cst b => cases e
  | tup hs rs =>
    cases e
    rcases hs with (hs | ⟨o, hs⟩) | ⟨o, its, n, h1, h2, _⟩
    · exact .base (.tup hs)
    · exact .fTuple hs
    · exact .kTuple h1 h2
  | fls hs rs =>
    cases e
    rcases hs with ⟨o, hs⟩ | ⟨o, its, n, h1, h2, _⟩
    · exact .base (.frz hs)
    · exact .kList h1 h2
  | ref ha =>
    rename_i n a
    dsimp only at e
    cases q : h[n]? with
    | none => rw [q] at e; cases e
    | some o =>
      rw [q] at e
      cases o with
      | lst ys =>
        cases e
        obtain ⟨vs, hs, rs⟩ := R.obj _ _ _ q ha
        exact .base (.lst hs)
      | dK ys =>
        cases e
        obtain ⟨vs, hs, rs⟩ := R.obj _ _ _ q ha
        exact .base (.dK hs)
      | _ => cases e
/-- what isinstance answers of two built-in types -/
def kitS (S T : String) : Option Bool :=
  if S = T then some true
  else if S = "bool" ∧ T = "int" then some true
  else if ["NoneType", "bool", "int", "str", "tuple", "list", "dict"].contains S && ["bool", "int", "str", "tuple", "list", "dict"].contains T then some false
  else none
theorem kitS_ok {S T : String} {b : Bool} {K : PySem.W.Frag} (h : kitS S T = some b) : PySem.W.kitOne K (.type S) (.type T) = some b := by
  have all : ∀ S ∈ ["NoneType", "bool", "int", "str", "tuple", "list", "dict"], ∀ T ∈ ["bool", "int", "str", "tuple", "list", "dict"], kitB S T = kitS S T := by decide +kernel
  unfold kitS at h
  by_cases e : S = T
  · subst e
    rw [if_pos rfl] at h
    cases h
    refine kit_ty ?_
    unfold kitB
    rw [if_pos (beq_self_eq_true _)]
  · rw [if_neg e] at h
    by_cases e2 : S = "bool" ∧ T = "int"
    · obtain ⟨rfl, rfl⟩ := e2
      rw [if_pos ⟨rfl, rfl⟩] at h
      cases h
      exact kit_ty (by decide +kernel)
    · rw [if_neg e2] at h
      split at h
      · rename_i hm
        obtain ⟨h1, h2⟩ := Bool.and_eq_true_iff.mp hm
        cases h
        refine kit_ty ((all S (by simpa using h1) T (by simpa using h2)).trans ?_)
        unfold kitS
        rw [if_neg e, if_neg e2, if_pos hm]
      · cases h
def fIsi : FN
  | [v, .ty T], h => match tyOf v h with
    | some S => (kitS S T).map fun b => (.bl b, h)
    | none => none
  | _, _ => none
theorem call_isiM (hK : X.K = G.K) : CallR X (.builtin "isinstance") (rN G fIsi) := by
  intro pins s σ H xs us Q I r ⟨ρ, h, as, R, ra, p⟩
  cases ra with
  | nil => exact p.elim
  | cons r1 rs =>
    cases rs with
    | nil => exact p.elim
    | cons r2 rs =>
      cases rs with
      | cons _ _ => cases r2 <;> exact p.elim
      | nil =>
        cases r2 with
        | ty T =>
          rename_i v x
          unfold fIsi at p
          dsimp only at p
          cases q : tyOf v h with
          | none => rw [q] at p; exact p.elim
          | some S =>
            rw [q] at p
            dsimp only at p
            cases q2 : kitS S T with
            | none => rw [q2] at p; exact p.elim
            | some b =>
              rw [q2] at p
              exact call_isi pins s σ H _ us Q I r ⟨x, .ty T, .type S, .type T, b, rfl, .ty T, by rw [hK]; exact tyOf_of R r1 q, kitS_ok q2, p ρ H _ Ext.refl R (.bl _)⟩
        | _ => exact p.elim
def fMin : FN
  | [.int i, .int j], h => some (.int (if j < i then j else i), h)
  | _, _ => none
def fMax : FN
  | [.int i, .int j], h => some (.int (if j > i then j else i), h)
  | _, _ => none
def fInt : FN
  | [.int i], h => some (.int i, h)
  | [.bl b], h => some (.int (if b then 1 else 0), h)
  | _, _ => none
def fAbs : FN
  | [.int i], h => some (.int (if i < 0 then -i else i), h)
  | _, _ => none
theorem call_minM (hc : X.calm = true) : CallR X (.builtin "min") (rN G fMin) := by
  intro pins s σ H xs us Q I r ⟨ρ, h, as, R, ra, p⟩
  cases ra with
  | nil => exact p.elim
  | cons r1 rs =>
    cases rs with
    | nil => cases r1 <;> exact p.elim
    | cons r2 rs =>
      cases rs with
      | cons _ _ => cases r1 <;> cases r2 <;> exact p.elim
      | nil =>
        cases r1 with
        | int i =>
          cases r2 with
          | int j => exact call_min2 hc pins s σ H _ us Q I r ⟨i, j, rfl, p ρ H _ Ext.refl R (.int _)⟩
          | _ => exact p.elim
        | _ => cases r2 <;> exact p.elim
theorem call_maxM (hc : X.calm = true) : CallR X (.builtin "max") (rN G fMax) := by
  intro pins s σ H xs us Q I r ⟨ρ, h, as, R, ra, p⟩
  cases ra with
  | nil => exact p.elim
  | cons r1 rs =>
    cases rs with
    | nil => cases r1 <;> exact p.elim
    | cons r2 rs =>
      cases rs with
      | cons _ _ => cases r1 <;> cases r2 <;> exact p.elim
      | nil =>
        cases r1 with
        | int i =>
          cases r2 with
          | int j => exact call_max2 hc pins s σ H _ us Q I r ⟨i, j, rfl, p ρ H _ Ext.refl R (.int _)⟩
          | _ => exact p.elim
        | _ => cases r2 <;> exact p.elim
theorem call_intM : CallR X (.type "int") (rN G fInt) := by
  intro pins s σ H xs us Q I r ⟨ρ, h, as, R, ra, p⟩
  cases ra with
  | nil => exact p.elim
  | cons r1 rs =>
    cases rs with
    | cons _ _ => cases r1 <;> exact p.elim
    | nil =>
      cases r1 with
      | int i => exact call_int1 pins s σ H _ us Q I r (.inl ⟨i, rfl, p ρ H _ Ext.refl R (.int _)⟩)
      | bl i => exact call_int1 pins s σ H _ us Q I r (.inr ⟨i, rfl, p ρ H _ Ext.refl R (.int _)⟩)
      | _ => exact p.elim
theorem call_absM : CallR X (.builtin "abs") (rN G fAbs) := by
  intro pins s σ H xs us Q I r ⟨ρ, h, as, R, ra, p⟩
  cases ra with
  | nil => exact p.elim
  | cons r1 rs =>
    cases rs with
    | cons _ _ => cases r1 <;> exact p.elim
    | nil =>
      cases r1 with
      | int i => exact call_abs pins s σ H _ us Q I r ⟨i, rfl, p ρ H _ Ext.refl R (.int _)⟩
      | _ => exact p.elim
def eOwn (m : ML) : ME := fun env h => (m env h).bind fun xs h1 => .ok (.ref h1.length) (h1 ++ [.lst xs])
theorem je_own {e : Expr} {m : ML} (h : PE X e (tL G W m)) : PE X e (tE G W (eOwn m)) :=
  peI h fun σ H Q ⟨ρ, env, hp, re, rh, p⟩ => ⟨ρ, env, hp, re, rh, Post.bind (rel := RL G H) p fun xs h1 ρ1 H1 y eq e1 R1 rl p1 => by
    obtain ⟨D, zs, rfl, hD0, hD, nD, _, rz⟩ := rl
    have p2 := p
    unfold eOwn at p2
    rw [eq] at p2
    exact p2 (ρ1 ++ [D]) H1 _ (e1.own hD0) (R1.own hD nD rz) (.ref (at_end R1.len))⟩
/-- a built-in applied to a new list -/
def eUse (f : List Val → Option Val) (m : ML) : ME := fun env h => (m env h).bind fun xs h1 => match f xs with
  | some v => .ok v h1
  | none => .stuck
def bools : List Val → Option (List Bool)
  | [] => some []
  | .bl b :: xs => (bools xs).map (b :: ·)
  | _ => none
theorem bools_of {ρ : List Addr} {H : Hp} : ∀ {xs : List Val} {vs : List V} {bs : List Bool}, RVs G ρ H xs vs → bools xs = some bs → vs = bs.map V.bl
  | _, _, _, .nil, e => by cases e; rfl
  | _, _, _, .cons r rs, e => by
    cases r with
    | bl i =>
      rename_i xs vs
      unfold bools at e
      cases q : bools xs with
      | none => rw [q] at e; cases e
      | some ms => rw [q] at e; cases e; rw [bools_of rs q]; rfl
    | _ => cases e
def uAll (xs : List Val) : Option Val := (bools xs).map fun bs => .bl (bs.all id)
def uAny (xs : List Val) : Option Val := (bools xs).map fun bs => .bl (bs.any id)
def uSum (xs : List Val) : Option Val := (intsA xs).map fun ns => .int ns.sum
def uTup (xs : List Val) : Option Val := some (.tup xs)
/-- what a rule for a call with one list says, by values -/
def UseR (X : Cx) (G : Wd) (f : Value) (u : List Val → Option Val) : Prop := ∀ (pins : List (Addr × Obj)) (s : Shared) (σ : L2.St) (H : Hp) (us : List Value) (Q : VK) (D : Addr) (ρ : List Addr) (h : AH) (xs : List Val) (zs : List V) (v : Val), L2.Inv X pins σ H s → Vals [.ref D] us → RH G ρ h H → H D = some (.lst zs) → D ∉ ρ → xs.length ≤ 100000 → RVs G ρ H xs zs → u xs = some v →
  (∀ H' z, Ext G ρ H ρ H' → RH G ρ h H' → RV G ρ H' v z → Q z H') → wpAny (model X.prog X.w) X.A (call f us) (EP X pins σ Q) X.xe s
theorem use_all (hc : X.calm = true) : UseR X G (.builtin "all") uAll := by
  intro pins s σ H us Q D ρ h xs zs v I r R hD nD hl rz e q
  unfold uAll at e
  cases b : bools xs with
  | none => rw [b] at e; cases e
  | some bs =>
    rw [b] at e; cases e
    exact cr_all hc pins s σ H _ us Q I r ⟨D, bs, rfl, SqL.of (by rw [← bools_of rz b]; exact hD), q H _ Ext.refl R (.bl _)⟩
theorem use_any (hc : X.calm = true) : UseR X G (.builtin "any") uAny := by
  intro pins s σ H us Q D ρ h xs zs v I r R hD nD hl rz e q
  unfold uAny at e
  cases b : bools xs with
  | none => rw [b] at e; cases e
  | some bs =>
    rw [b] at e; cases e
    exact cr_any hc pins s σ H _ us Q I r ⟨D, bs, rfl, SqL.of (by rw [← bools_of rz b]; exact hD), q H _ Ext.refl R (.bl _)⟩
theorem use_sum (hc : X.calm = true) : UseR X G (.builtin "sum") uSum := by
  intro pins s σ H us Q D ρ h xs zs v I r R hD nD hl rz e q
  unfold uSum at e
  cases b : intsA xs with
  | none => rw [b] at e; cases e
  | some bs =>
    rw [b] at e; cases e
    exact cr_sum hc pins s σ H _ us Q I r ⟨D, bs, rfl, SqL.of (by rw [← intsA_of rz b]; exact hD), q H _ Ext.refl R (.int _)⟩
theorem use_tup : UseR X G (.type "tuple") uTup := by
  intro pins s σ H us Q D ρ h xs zs v I r R hD nD hl rz e q
  cases e
  exact call_tuple_of pins s σ H _ us Q I r ⟨D, zs, rfl, .inl ⟨SqL.of hD, fun l hl => q _ _ (Ext.fresh R hl) (R.fresh hl) (.tup (SqT.of upd_same) (rz.kp (Ext.fresh R hl).kp))⟩⟩
theorem post_use {σ : L2.St} {ρ : List Addr} {H : Hp} {Q : VK} {u : List Val → Option Val} {xs : List Val} {h : AH} (p : Post (RV G) G ρ H W σ Q (match u xs with | some v => Res.ok v h | none => .stuck)) : ∃ v, u xs = some v ∧ ∀ ρ' H' z, Ext G ρ H ρ' H' → RH G ρ' h H' → RV G ρ' H' v z → Q z H' := by
  cases e : u xs with
  | none => rw [e] at p; exact p.elim
  | some v => rw [e] at p; exact ⟨v, rfl, p⟩
theorem je_useB {u : List Val → Option Val} {id : String} {x : Str} {p pos : Pos} {e : Expr} {m : ML} (hc : UseR X G (.builtin id) u) (hg : Gl X x) (hm : X.mg x = none) (hv : bootBuiltins x = some (.builtin id)) (he : PE X e (tL G W m)) (hn : x ≠ "__name__" := by decide) (hdb : (x == ("__debug__" : Str)) = false := by decide)
    (hs : starEach [e] X.env = (false, eval e X.env) :: starEach [] X.env := by rfl) : PE X (.Call (.Name x p) [e] [] pos) (tE G W (eUse u m)) := by
  have hc' : CallR X (.builtin id) (fun vs H Q => ∃ D ρ h xs zs v, vs = [.ref D] ∧ RH G ρ h H ∧ H D = some (.lst zs) ∧ D ∉ ρ ∧ xs.length ≤ 100000 ∧ RVs G ρ H xs zs ∧ u xs = some v ∧ ∀ H' z, Ext G ρ H ρ H' → RH G ρ h H' → RV G ρ H' v z → Q z H') := by
    intro pins s σ H vs us Q I r ⟨D, ρ, h, xs, zs, v, e, R, hD, nD, hl, rz, eu, q⟩
    subst e
    exact hc pins s σ H us Q D ρ h xs zs v I r R hD nD hl rz eu q
  refine peI (pe_callB hc' hg hm hv (pa_cons he pa_nil hs) hn hdb hs rfl) fun σ H Q ⟨ρ, env, hp, re, rh, q⟩ => ⟨ρ, env, hp, re, rh, Post.bind (rel := RL G H) q fun xs h1 ρ1 H1 y _ e1 R1 rl p1 => ?_⟩
  obtain ⟨D, zs, rfl, hD0, hD, nD, hl, rz⟩ := rl
  obtain ⟨v, eu, p2⟩ := post_use p1
  exact ⟨D, ρ1, h1, xs, zs, v, rfl, R1, hD, nD, hl, rz, eu, fun H' z e R r => p2 ρ1 H' z e R r⟩
theorem je_useT {u : List Val → Option Val} {T : String} {x : Str} {p pos : Pos} {e : Expr} {m : ML} (hc : UseR X G (.type T) u) (hg : Gl X x) (hm : X.mg x = none) (hv : bootBuiltins x = some (.type T)) (he : PE X e (tL G W m)) (hn : x ≠ "__name__" := by decide) (hdb : (x == ("__debug__" : Str)) = false := by decide)
    (hs : starEach [e] X.env = (false, eval e X.env) :: starEach [] X.env := by rfl) : PE X (.Call (.Name x p) [e] [] pos) (tE G W (eUse u m)) := by
  have hc' : CallR X (.type T) (fun vs H Q => ∃ D ρ h xs zs v, vs = [.ref D] ∧ RH G ρ h H ∧ H D = some (.lst zs) ∧ D ∉ ρ ∧ xs.length ≤ 100000 ∧ RVs G ρ H xs zs ∧ u xs = some v ∧ ∀ H' z, Ext G ρ H ρ H' → RH G ρ h H' → RV G ρ H' v z → Q z H') := by
    intro pins s σ H vs us Q I r ⟨D, ρ, h, xs, zs, v, e, R, hD, nD, hl, rz, eu, q⟩
    subst e
    exact hc pins s σ H us Q D ρ h xs zs v I r R hD nD hl rz eu q
  refine peI (pe_callTy hc' hg hm hv (pa_cons he pa_nil hs) hn hdb hs rfl) fun σ H Q ⟨ρ, env, hp, re, rh, q⟩ => ⟨ρ, env, hp, re, rh, Post.bind (rel := RL G H) q fun xs h1 ρ1 H1 y _ e1 R1 rl p1 => ?_⟩
  obtain ⟨D, zs, rfl, hD0, hD, nD, hl, rz⟩ := rl
  obtain ⟨v, eu, p2⟩ := post_use p1
  exact ⟨D, ρ1, h1, xs, zs, v, rfl, R1, hD, nD, hl, rz, eu, fun H' z e R r => p2 ρ1 H' z e R r⟩
end
end CI
namespace CI
open PySem PySem.Spec PyProof.Rows L2
section
variable {X : Cx} {G : Wd} {W : CI.WX} {pos : Pos}
theorem jg_name {i : Nat} {x : Str} {p : Pos} (hN : X.N.Nodup) (hi : X.N[i]? = some x) (hx : Loc X.env.scope x) (hf : X.fn x = true ∨ X.env.scope.names.lookup x = some .local := by first | exact .inl rfl | exact .inr rfl | assumption) : PG X (.Name x p) ((Tgt.nm i).g G.K) := pg_name hN hi hx hf
theorem jgs_nil : PGs X [] (gNames []) := pgs_nil
theorem jgs_cons {i : Nat} {is : List Nat} {e : Expr} {es : List Expr} (h1 : PG X e ((Tgt.nm i).g G.K)) (h2 : PGs X es (gNames is)) (hs : (assignEach (e :: es) X.env).map (·.2) = assign e X.env :: (assignEach es X.env).map (·.2) := by rfl) : PGs X (e :: es) (gNames (i :: is)) := pgs_cons h1 h2 hs
theorem jg_tup {es : List Expr} {k : Nat} {is : List Nat} {p : Pos} (hK : X.K = G.K) (hc : X.calm = true) (h : PGs X es (gNames is)) (hn : (assignEach es X.env).length = is.length := by rfl) (hst : (assignEach es X.env).findIdx? (·.1) = none := by rfl) : PG X (.Tuple es k p) ((Tgt.tp is).g G.K) := by
  show PG X (.Tuple es k p) (gTup G.K is.length (gNames is))
  rw [← hK]
  exact pg_tup hc h hn hst
def sAsg (t : Tgt) (m : ME) : MS := fun env h => .ofE env (m env h) fun v h1 => match t.bind v env with
  | some env1 => .nx env1 h1
  | none => .stuck
theorem js_asg {tg e : Expr} {t : Tgt} {m : ME} (he : PE X e (tE G W m)) (hg : PG X tg (t.g G.K)) (hs : swapsWithSole [tg] e pos.line X.env = pure false := by rfl) (hw : swappedStores [tg] e X.env = pure none := by rfl)
    (h1 : (assignEach [tg] X.env).map (·.2) = [assign tg X.env] := by rfl) : PS X (.Assign [tg] e pos) (tS G W (sAsg t m)) :=
  psI (ps_asg he hg hs hw h1) fun D σ H ⟨ρ, env, hp, re, rh, p⟩ => ⟨ρ, env, hp, re, rh, PostS.bindE re p fun v h1 ρ1 H1 y _ e1 R1 rx p1 => by
    cases q : t.bind v env with
    | none => rw [q] at p1; exact p1.elim
    | some env1 =>
      rw [q] at p1
      exact Tgt.ok q rx (re.kp e1.kp) fun σ' re' _ => p1 ρ1 H1 σ' Ext.refl R1 re'⟩
/-- a, b = x, y -/
def sPar (is : List Nat) (as : MA) : MS := fun env h => .ofE env (as env h) fun vs h1 => match setAll is vs env with
  | some env1 => .nx env1 h1
  | none => .stuck
theorem js_par {i j : Nat} {x y : Str} {a b : Expr} {as : MA} {px py pt : Pos} {kt k2 pt2} (hc : X.calm = true) (hN : X.N.Nodup) (hi : X.N[i]? = some x) (hj : X.N[j]? = some y) (hij : i ≠ j)
    (hx : X.env.scope.names.lookup x = some .local) (hy : X.env.scope.names.lookup y = some .local) (ha : PA X [a, b] (tA G W as))
    (hw : swappedStores [.Tuple [.Name x px, .Name y py] kt pt] (.Tuple [a, b] k2 pt2) X.env = pure (some [x, y]))
    (hs : swapsWithSole [.Tuple [.Name x px, .Name y py] kt pt] (.Tuple [a, b] k2 pt2) pos.line X.env = pure false := by rfl) :
    PS X (.Assign [.Tuple [.Name x px, .Name y py] kt pt] (.Tuple [a, b] k2 pt2) pos) (tS G W (sPar [i, j] as)) :=
  psI (ps_par hc hN hi hj hij hx hy ha hw hs) fun D σ H ⟨ρ, env, hp, re, rh, p⟩ => ⟨ρ, env, hp, re, rh, PostS.bindE re p fun vs h1 ρ1 H1 ys _ e1 R1 rs p1 => by
    have re1 := re.kp e1.kp
    cases rs with
    | nil => exact p1.elim
    | cons r1 rs =>
      cases rs with
      | nil => exact p1.elim
      | cons r2 rs =>
        cases rs with
        | cons _ _ => exact p1.elim
        | nil => exact ⟨_, _, rfl, p1 ρ1 H1 _ Ext.refl R1 ((re1.set r1 i).set r2 j)⟩⟩
theorem js_par3 {i j l : Nat} {x y z : Str} {a b c : Expr} {as : MA} {px py pz pt : Pos} {kt k2 pt2} (hc : X.calm = true) (hN : X.N.Nodup) (hi : X.N[i]? = some x) (hj : X.N[j]? = some y) (hl : X.N[l]? = some z) (hij : i ≠ j) (hil : i ≠ l) (hjl : j ≠ l)
    (hx : X.env.scope.names.lookup x = some .local) (hy : X.env.scope.names.lookup y = some .local) (hz : X.env.scope.names.lookup z = some .local) (ha : PA X [a, b, c] (tA G W as))
    (hw : swappedStores [.Tuple [.Name x px, .Name y py, .Name z pz] kt pt] (.Tuple [a, b, c] k2 pt2) X.env = pure (some [x, y, z]))
    (hs : swapsWithSole [.Tuple [.Name x px, .Name y py, .Name z pz] kt pt] (.Tuple [a, b, c] k2 pt2) pos.line X.env = pure false := by rfl) :
    PS X (.Assign [.Tuple [.Name x px, .Name y py, .Name z pz] kt pt] (.Tuple [a, b, c] k2 pt2) pos) (tS G W (sPar [i, j, l] as)) :=
  psI (ps_par3 hc hN hi hj hl hij hil hjl hx hy hz ha hw hs) fun D σ H ⟨ρ, env, hp, re, rh, p⟩ => ⟨ρ, env, hp, re, rh, PostS.bindE re p fun vs h1 ρ1 H1 ys _ e1 R1 rs p1 => by
    have re1 := re.kp e1.kp
    cases rs with
    | nil => exact p1.elim
    | cons r1 rs =>
      cases rs with
      | nil => exact p1.elim
      | cons r2 rs =>
        cases rs with
        | nil => exact p1.elim
        | cons r3 rs =>
          cases rs with
          | cons _ _ => exact p1.elim
          | nil => exact ⟨_, _, _, rfl, p1 ρ1 H1 _ Ext.refl R1 (((re1.set r1 i).set r2 j).set r3 l)⟩⟩
/-- o[i] = e, o a list -/
def setL (o i v : Val) (h : AH) : Option AH := match o, i with
  | .ref r, .int k => match h[r]? with
    | some (.lst xs) => match ixN xs.length k with
      | some j => some (h.set r (.lst (xs.set j v)))
      | none => none
    | _ => none
  | _, _ => none
def sSub (o i v : ME) : MS := fun env h => .ofE env (v env h) fun x h1 => .ofE env (o env h1) fun y h2 => .ofE env (i env h2) fun z h3 => match setL y z x h3 with
  | some h4 => .nx env h4
  | none => .stuck
theorem js_sub {o i e : Expr} {mo mi me : ME} {p2 : Pos} (ho : PE X o (tE G W mo)) (hi : PE X i (tE G W mi)) (he : PE X e (tE G W me))
    (ha : ∀ v, assign (.Subscript o i p2) X.env v = (do
      let ov ← holding [v] (eval o X.env)
      let iv ← holding [v, ov] (eval i X.env)
      standAt p2
      holding [v, ov, iv] (setItem ov iv v)
      release [v, ov, iv] []) := by intro _; rfl)
    (hs : swapsWithSole [.Subscript o i p2] e pos.line X.env = pure false := by rfl) (hw : swappedStores [.Subscript o i p2] e X.env = pure none := by rfl) (h1 : (assignEach [.Subscript o i p2] X.env).map (·.2) = [assign (.Subscript o i p2) X.env] := by rfl) :
    PS X (.Assign [.Subscript o i p2] e pos) (tS G W (sSub mo mi me)) :=
  psI (ps_asg he (pg_sub ho hi set_list ha) hs hw h1) fun D σ H ⟨ρ, env, hp, re, rh, p⟩ => ⟨ρ, env, hp, re, rh, PostS.bindE re p fun v h1 ρ1 H1 x _ e1 R1 rx p1 => by
    have re1 := re.kp e1.kp
    refine ⟨ρ1, env, h1, re1, R1, PostS.bindE re1 p1 fun ov h2 ρ2 H2 y _ e2 R2 ry p2 => ?_⟩
    have re2 := re1.kp e2.kp
    refine ⟨ρ2, env, h2, re2, R2, PostS.bindE re2 p2 fun iv h3 ρ3 H3 z _ e3 R3 rz p3 => ?_⟩
    have ry3 := ry.kp e3.kp
    have rx3 := rx.kp (e2.trans e3).kp
    unfold setL at p3
    cases ry3 with
    | @ref r a hr =>
      cases rz with
      | int k =>
        dsimp only at p3
        cases q : h3[r]? with
        | none => rw [q] at p3; exact p3.elim
        | some ob =>
          rw [q] at p3
          cases ob with
          | lst xs =>
            dsimp only at p3
            obtain ⟨vs, hs, rs⟩ := R3.obj _ _ _ q hr
            cases qi : ixN xs.length k with
            | none => rw [qi] at p3; exact p3.elim
            | some j =>
              rw [qi] at p3
              have ek := Ext.change (x := .lst []) (o := .lst (vs.set j x)) R3 (List.mem_of_getElem? hr)
              exact ⟨a, vs, k, j, rfl, rfl, hs, by rw [← rs.length]; exact qi, p3 ρ3 _ σ ek (R3.change q hr (.inl ⟨vs, hs⟩) ⟨_, upd_same, (rs.set rx3 j).kp ek.kp⟩) ((re2.kp e3.kp).kp ek.kp)⟩
          | _ => exact p3.elim
      | _ => exact p3.elim
    | _ => cases rz <;> exact p3.elim⟩
abbrev FM := Val → List Val → AH → Option (Val × AH)
def rM (G : Wd) (f : FM) : V → List V → Hp → VK → Prop := fun x xs H Q => ∃ ρ h a as, RH G ρ h H ∧ RV G ρ H a x ∧ RVs G ρ H as xs ∧ PostO G ρ H Q (f a as h)
def isLst (v : Val) (h : AH) : Bool := match v with
  | .ref r => match h[r]? with
    | some (.lst _) => true
    | _ => false
  | _ => false
def eLM (f : FM) (a : ME) (as : MA) : ME := fun env h => (a env h).bind fun x h1 => if isLst x h1 then (as env h1).bind fun xs h2 => lift (f x xs h2) else .stuck
theorem isLst_ty {ρ : List Addr} {H : Hp} {h : AH} {v : Val} {x : V} (hK : X.K = G.K) (R : RH G ρ h H) (r : RV G ρ H v x) (e : isLst v h = true) : tyV X.K "list" x H := by
  unfold isLst at e
  cases r with
  | ref ha =>
    rename_i n a
    dsimp only at e
    cases q : h[n]? with
    | none => rw [q] at e; cases e
    | some o =>
      rw [q] at e
      cases o with
      | lst xs =>
        obtain ⟨vs, hs, _⟩ := R.obj _ _ _ q ha
        exact .inl ⟨rfl, vs, SqL.of hs⟩
      | _ => cases e
  | _ => cases e
theorem je_lm {f : FM} {o e : Expr} {es : List Expr} {name : Str} {apos : Pos} {id : String} {ma : ME} {as : MA} (hK : X.K = G.K) (slot : Slot "list" name id) (hty : typeOf (.builtin id) = pure (.type "method_descriptor")) (hm : MtR X id (rM G f)) (ho : PE X o (tE G W ma)) (ha : PA X (e :: es) (tA G W as))
    (hbase : attributeBase o name X.env (eval o X.env) = eval o X.env := by rfl)
    (hfew : ((backTo pos (starEach (e :: es) X.env)).all (fun x => !x.1) && (backToKw pos (keywordEach [] X.env)).all (fun x => x.1.isSome)
      && decide ((e :: es).length + ([] : List Keyword).length + (if ([] : List Keyword).isEmpty then 0 else 1) < 30)) = true := by rfl)
    (hline : (apos.endLine == pos.line) = true := by rfl) (hs : starEach (e :: es) X.env = (false, eval e X.env) :: starEach es X.env := by rfl) (hplain : (backTo pos (starEach es X.env)).any (·.1) = false := by rfl) :
    PE X (.Call (.Attribute o name apos) (e :: es) [] pos) (tE G W (eLM f ma as)) :=
  peI (pe_bm PySem.F.plainAttrs_list slot hty hm ho ha hbase hfew hline hs hplain) fun σ H Q ⟨ρ, env, hp, re, rh, p⟩ => ⟨ρ, env, hp, re, rh, Post.bind p fun x h1 ρ1 H1 y _ e1 R1 rx p1 => by
    cases q : isLst x h1 with
    | false => rw [if_neg (by rw [q]; decide)] at p1; exact p1.elim
    | true =>
      rw [if_pos q] at p1
      exact ⟨isLst_ty hK R1 rx q, ρ1, env, h1, re.kp e1.kp, R1, Post.bind p1 fun xs h2 ρ2 H2 ys _ e2 R2 rs p2 => ⟨ρ2, h2, x, xs, R2, rx.kp e2.kp, rs, Post.lift p2⟩⟩⟩
theorem je_lm0 {f : FM} {o : Expr} {name : Str} {apos : Pos} {id : String} {ma : ME} (hK : X.K = G.K) (slot : Slot "list" name id) (hty : typeOf (.builtin id) = pure (.type "method_descriptor")) (hm : MtR X id (rM G f)) (ho : PE X o (tE G W ma))
    (hbase : attributeBase o name X.env (eval o X.env) = eval o X.env := by rfl) (hline : (apos.endLine == pos.line) = true := by rfl) :
    PE X (.Call (.Attribute o name apos) [] [] pos) (tE G W (eLM f ma aNil)) :=
  peI (pe_bm0 PySem.F.plainAttrs_list slot hty hm ho hbase hline) fun σ H Q ⟨ρ, env, hp, re, rh, p⟩ => ⟨ρ, env, hp, re, rh, Post.bind p fun x h1 ρ1 H1 y _ e1 R1 rx p1 => by
    cases q : isLst x h1 with
    | false => rw [if_neg (by rw [q]; decide)] at p1; exact p1.elim
    | true =>
      rw [if_pos q] at p1
      exact ⟨isLst_ty hK R1 rx q, ρ1, h1, x, [], R1, rx, .nil, Post.lift p1⟩⟩
/-- the list at a reference -/
def lstAt (v : Val) (h : AH) : Option (Nat × List Val) := match v with
  | .ref r => match h[r]? with
    | some (.lst xs) => some (r, xs)
    | _ => none
  | _ => none
theorem lstAt_of {ρ : List Addr} {H : Hp} {h : AH} {v : Val} {x : V} {r : Nat} {xs : List Val} (R : RH G ρ h H) (rv : RV G ρ H v x) (e : lstAt v h = some (r, xs)) : ∃ a vs, x = .ref a ∧ h[r]? = some (.lst xs) ∧ ρ[r]? = some a ∧ H a = some (.lst vs) ∧ RVs G ρ H xs vs := by
  unfold lstAt at e
  cases rv with
  | ref ha =>
    rename_i n a
    dsimp only at e
    cases q : h[n]? with
    | none => rw [q] at e; cases e
    | some o =>
      rw [q] at e
      cases o with
      | lst ys =>
        cases e
        obtain ⟨vs, hs, rs⟩ := R.obj _ _ _ q ha
        exact ⟨a, vs, rfl, q, ha, hs, rs⟩
      | _ => cases e
  | _ => cases e
/-- a list is changed in its place -/
theorem post_set {ρ : List Addr} {H : Hp} {h : AH} {Q : VK} {r : Nat} {a : Addr} {xs ys : List Val} {vs ws : List V} {v : Val} {z : V} (R : RH G ρ h H) (q : h[r]? = some (.lst xs)) (hr : ρ[r]? = some a) (hs : H a = some (.lst vs)) (p : PostO G ρ H Q (some (v, h.set r (.lst ys)))) (rw : RVs G ρ H ys ws) (rv : RV G ρ H v z) : Q z (upd H a (.lst ws)) := by
  have ek := Ext.change (x := .lst []) (o := .lst ws) R (List.mem_of_getElem? hr)
  exact p ρ _ z ek (R.change q hr (.inl ⟨vs, hs⟩) ⟨_, upd_same, rw.kp ek.kp⟩) (rv.kp ek.kp)
def fAppend : FM := fun a as h => match as with
  | [v] => match lstAt a h with
    | some (r, xs) => if xs.length < 100000 then some (.non, h.set r (.lst (xs ++ [v]))) else none
    | none => none
  | _ => none
theorem mt_appendM : MtR X "list.append" (rM G fAppend) := by
  intro pins s σ H x xs v us Q I rx rs ⟨ρ, h, a, as, R, ra, ras, p⟩
  cases ras with
  | nil => exact p.elim
  | cons r1 rr =>
    cases rr with
    | cons _ _ => exact p.elim
    | nil =>
      unfold fAppend at p
      dsimp only at p
      cases q : lstAt a h with
      | none => rw [q] at p; exact p.elim
      | some z =>
        obtain ⟨r, ys⟩ := z
        rw [q] at p
        dsimp only at p
        obtain ⟨b, vs, rfl, e1, e2, e3, e4⟩ := lstAt_of R ra q
        by_cases hl : ys.length < 100000
        · rw [if_pos hl] at p
          have h5 : vs.length < sizeLine := by
            have h6 : 100000 < sizeLine := by decide
            have h7 := e4.length
            omega
          exact mt_append pins s σ H _ _ v us Q I rx rs ⟨b, vs, _, rfl, rfl, e3, h5, post_set R e1 e2 e3 p (e4.append (.cons r1 .nil)) .non⟩
        · rw [if_neg hl] at p; exact p.elim
def fPop : FM := fun a as h => match as with
  | [] => match lstAt a h with
    | some (r, xs) => match xs[xs.length - 1]? with
      | some y => some (y, h.set r (.lst xs.dropLast))
      | none => none
    | none => none
  | _ => none
theorem RVs.dropLast {ρ : List Addr} {H : Hp} {xs : List Val} {vs : List V} (r : RVs G ρ H xs vs) : RVs G ρ H xs.dropLast vs.dropLast := by
  rw [List.dropLast_eq_take, List.dropLast_eq_take, r.length]
  exact r.take _
theorem mt_popM : MtR X "list.pop" (rM G fPop) := by
  intro pins s σ H x xs v us Q I rx rs ⟨ρ, h, a, as, R, ra, ras, p⟩
  cases ras with
  | cons _ _ => exact p.elim
  | nil =>
    unfold fPop at p
    dsimp only at p
    cases q : lstAt a h with
    | none => rw [q] at p; exact p.elim
    | some z =>
      obtain ⟨r, ys⟩ := z
      rw [q] at p
      dsimp only at p
      obtain ⟨b, vs, rfl, e1, e2, e3, e4⟩ := lstAt_of R ra q
      cases q2 : ys[ys.length - 1]? with
      | none => rw [q2] at p; exact p.elim
      | some y =>
        rw [q2] at p
        obtain ⟨w, hw, rw⟩ := e4.get q2
        exact mt_pop pins s σ H _ _ v us Q I rx rs ⟨b, vs, w, rfl, rfl, e3, by rw [← e4.length]; exact hw, post_set R e1 e2 e3 p e4.dropLast rw⟩
def fClear : FM := fun a as h => match as with
  | [] => match lstAt a h with
    | some (r, xs) => some (.non, h.set r (.lst []))
    | none => none
  | _ => none
theorem mt_clearM : MtR X "list.clear" (rM G fClear) := by
  intro pins s σ H x xs v us Q I rx rs ⟨ρ, h, a, as, R, ra, ras, p⟩
  cases ras with
  | cons _ _ => exact p.elim
  | nil =>
    unfold fClear at p
    dsimp only at p
    cases q : lstAt a h with
    | none => rw [q] at p; exact p.elim
    | some z =>
      obtain ⟨r, ys⟩ := z
      rw [q] at p
      dsimp only at p
      obtain ⟨b, vs, rfl, e1, e2, e3, e4⟩ := lstAt_of R ra q
      exact mt_clear pins s σ H _ _ v us Q I rx rs ⟨b, vs, rfl, rfl, e3, post_set R e1 e2 e3 p .nil .non⟩
def fExtend : FM := fun a as h => match as with
  | [b] => match lstAt a h, lstAt b h with
    | some (r, xs), some (_, ys) => if xs.length + ys.length ≤ 100000 then some (.non, h.set r (.lst (xs ++ ys))) else none
    | _, _ => none
  | _ => none
theorem mt_extendM : MtR X "list.extend" (rM G fExtend) := by
  intro pins s σ H x xs v us Q I rx rs ⟨ρ, h, a, as, R, ra, ras, p⟩
  cases ras with
  | nil => exact p.elim
  | cons r1 rr =>
    cases rr with
    | cons _ _ => exact p.elim
    | nil =>
      rename_i b y
      unfold fExtend at p
      dsimp only at p
      cases q : lstAt a h with
      | none => rw [q] at p; exact p.elim
      | some z =>
        obtain ⟨r, ys⟩ := z
        cases q' : lstAt b h with
        | none => rw [q, q'] at p; exact p.elim
        | some z' =>
          obtain ⟨r', ys'⟩ := z'
          rw [q, q'] at p
          dsimp only at p
          obtain ⟨c, vs, rfl, e1, e2, e3, e4⟩ := lstAt_of R ra q
          obtain ⟨c', vs', rfl, f1, f2, f3, f4⟩ := lstAt_of R r1 q'
          by_cases hl : ys.length + ys'.length ≤ 100000
          · rw [if_pos hl] at p
            exact mt_extend pins s σ H _ _ v us Q I rx rs ⟨c, c', vs, vs', rfl, rfl, e3, f3, line5 (by rw [← e4.length, ← f4.length]; exact hl), post_set R e1 e2 e3 p (e4.append f4) .non⟩
          · rw [if_neg hl] at p; exact p.elim
end
end CI
namespace CI
open PySem PySem.Spec PyProof.Rows L2
section
variable {X : Cx} {G : Wd} {W : CI.WX} {pos : Pos}
/-- the instance at a reference: its class, its dict's place, its slots -/
def objAt (v : Val) (h : AH) : Option (Nat × Nat × Nat × List (Option Val)) := match v with
  | .ref r => match h[r]? with
    | some (.obj c d fs) => some (r, c, d, fs)
    | _ => none
  | _ => none
theorem objAt_of {ρ : List Addr} {H : Hp} {h : AH} {v : Val} {x : V} {r c d : Nat} {fs : List (Option Val)} (R : RH G ρ h H) (rv : RV G ρ H v x) (e : objAt v h = some (r, c, d, fs)) :
    ∃ a dx vs, x = .ref a ∧ h[r]? = some (.obj c d fs) ∧ ρ[r]? = some a ∧ ρ[d]? = some dx ∧ SlX.Slt H a (G.kap c) dx vs ∧ (H dx = some (.own a) ∨ H dx = some (.xd [])) ∧ RFs G ρ H fs vs := by
  unfold objAt at e
  cases rv with
  | @ref n a ha =>
    dsimp only at e
    cases q : h[n]? with
    | none => rw [q] at e; cases e
    | some o =>
      rw [q] at e
      cases o with
      | obj c' d' fs' =>
        cases e
        obtain ⟨dx, vs, h1, h2, h3, h4⟩ := R.obj _ _ _ q ha
        exact ⟨a, dx, vs, rfl, q, ha, h1, h2, h3, h4⟩
      | _ => cases e
  | _ => cases e
/-- where a field stands, class by class -/
abbrev FT := Nat → Option Nat
structure FTok (G : Wd) (f : Str) (t : FT) : Prop where
  ok : ∀ c i, t c = some i → SlX.SCls G.K (G.kap c) ∧ ∃ p, SlX.Slot1 G.K (G.kap c) f p i
def fFld (t : FT) : F1 := fun v h => match objAt v h with
  | some (_, c, _, fs) => match t c with
    | some i => match fs[i]? with
      | some (some x) => some (x, h)
      | _ => none
    | none => none
  | none => none
theorem je_fld {e : Expr} {f : Str} {m : ME} {t : FT} (hK : X.K = G.K) (ht : FTok G f t) (he : PE X e (tE G W m)) (hb : attributeBase e f X.env (eval e X.env) = eval e X.env := by rfl) : PE X (.Attribute e f pos) (tE G W (e1 (fFld t) m)) :=
  peI (SlX.pe_sl he hb) fun σ H Q ⟨ρ, env, hp, re, rh, p⟩ => ⟨ρ, env, hp, re, rh, Post.bind p fun x h1 ρ1 H1 y _ e1 R1 rx p1 => by
    have p2 := Post.lift p1
    unfold fFld at p2
    cases q : objAt x h1 with
    | none => rw [q] at p2; exact p2.elim
    | some z =>
      obtain ⟨r, c, d, fs⟩ := z
      rw [q] at p2
      dsimp only at p2
      cases q2 : t c with
      | none => rw [q2] at p2; exact p2.elim
      | some i =>
        rw [q2] at p2
        dsimp only at p2
        cases q3 : fs[i]? with
        | none => rw [q3] at p2; exact p2.elim
        | some o =>
          cases o with
          | none => rw [q3] at p2; exact p2.elim
          | some w =>
            rw [q3] at p2
            obtain ⟨a, dx, vs, rfl, f1, f2, f3, f4, f5, f6⟩ := objAt_of R1 rx q
            obtain ⟨v, hv, rv⟩ := f6 i w q3
            obtain ⟨hc, pp, hp⟩ := ht.ok c i q2
            exact ⟨a, G.kap c, dx, pp, vs, i, v, rfl, f4, by rw [hK]; exact hc, by rw [hK]; exact hp, hv, p2 ρ1 H1 v Ext.refl R1 rv⟩⟩
def putA (i : Nat) (v : Val) (fs : List (Option Val)) : List (Option Val) := (fs ++ List.replicate (i + 1 - fs.length) none).set i (some v)
theorem putA_get (i : Nat) (v : Val) (fs : List (Option Val)) : (putA i v fs)[i]? = some (some v) := by
  unfold putA
  rw [List.getElem?_set_self]
  simp
  omega
theorem putA_ne {i j : Nat} {v x : Val} {fs : List (Option Val)} (h : j ≠ i) (e : (putA i v fs)[j]? = some (some x)) : fs[j]? = some (some x) := by
  unfold putA at e
  rw [List.getElem?_set_ne (Ne.symm h)] at e
  by_cases hj : j < fs.length
  · rw [List.getElem?_append_left hj] at e; exact e
  · rw [List.getElem?_append_right (Nat.le_of_not_lt hj), List.getElem?_replicate] at e
    split at e <;> cases e
theorem RFs.put {ρ : List Addr} {H : Hp} {fs : List (Option Val)} {vs : List (Option V)} (r : RFs G ρ H fs vs) {v : Val} {y : V} (rv : RV G ρ H v y) (i : Nat) : RFs G ρ H (putA i v fs) (SlX.putS i y vs) := fun j x e => by
  by_cases hj : j = i
  · subst hj
    rw [putA_get] at e
    cases e
    exact ⟨y, SlX.putS_get j y vs, rv⟩
  · obtain ⟨w, h1, h2⟩ := r j x (putA_ne hj e)
    exact ⟨w, (SlX.putS_ne hj).mpr h1, h2⟩
theorem slH_at {H : Hp} {a C dx : Addr} {vs : List (Option V)} : SlX.slH H a C dx vs a = some (SlX.SlO a C dx vs) := upd_same
theorem Ext.slot {ρ : List Addr} {H : Hp} {h : AH} {a C dx : Addr} {vs : List (Option V)} (R : RH G ρ h H) (ha : a ∈ ρ) (hd : dx ∈ ρ) : Ext G ρ H ρ (SlX.slH H a C dx vs) := by
  have e1 := Ext.change (x := .lst []) (o := .xd []) R hd
  obtain ⟨u, e, nt, nf⟩ := R.there ha
  obtain ⟨u', e', nt', nf'⟩ := R.there hd
  refine ⟨⟨[], by simp⟩, fun _ h => .inl h, fun b v q hb => ?_, fun b ws q => ?_, fun b ob v q => ?_⟩
  · rw [SlX.slH_ne (by rintro rfl; exact hb ha) (by rintro rfl; exact hb hd)]; exact q
  · rcases q with (q | ⟨ob, q⟩) | q
    · refine .inl (.inl ?_)
      rw [SlX.slH_ne]; exact q
      · rintro rfl; rw [e] at q; cases q; exact nt _ rfl
      · rintro rfl; rw [e'] at q; cases q; exact nt' _ rfl
    · refine .inl (.inr ⟨ob, ?_⟩)
      rw [SlX.slH_ne]; exact q
      · rintro rfl; rw [e] at q; cases q; exact nf _ _ rfl
      · rintro rfl; rw [e'] at q; cases q; exact nf' _ _ rfl
    · exact .inr q
  · rw [SlX.slH_ne]; exact q
    · rintro rfl; rw [e] at q; cases q; exact nf _ _ rfl
    · rintro rfl; rw [e'] at q; cases q; exact nf' _ _ rfl
theorem RH.slot {ρ : List Addr} {H : Hp} {h : AH} {r c d i : Nat} {a dx : Addr} {fs : List (Option Val)} {vs : List (Option V)} {v : Val} {y : V} (R : RH G ρ h H) (hr : h[r]? = some (.obj c d fs)) (ea : ρ[r]? = some a) (ed : ρ[d]? = some dx) (hs : SlX.Slt H a (G.kap c) dx vs) (hx : H dx = some (.own a) ∨ H dx = some (.xd []))
    (rf : RFs G ρ H fs vs) (rv : RV G ρ H v y) : RH G ρ (h.set r (.obj c d (putA i v fs))) (SlX.slH H a (G.kap c) dx (SlX.putS i y vs)) := by
  have ma := List.mem_of_getElem? ea
  have md := List.mem_of_getElem? ed
  have E := Ext.slot (C := G.kap c) (vs := SlX.putS i y vs) R ma md
  have ned : dx ≠ a := by
    rintro rfl
    obtain ⟨_, _, n3, n4⟩ := slt_not hs
    rcases hx with z | z
    · exact n4 _ z
    · exact n3 z
  refine ⟨by simp [R.len], R.nd, fun j u b e1 e2 => ?_⟩
  by_cases hj : r = j
  · subst hj
    rw [List.getElem?_set_self (List.getElem?_eq_some_iff.mp hr).1] at e1
    rw [ea] at e2
    cases e1; cases e2
    refine ⟨dx, SlX.putS i y vs, ed, SlX.slH_slt ned, .inr ?_, (rf.put rv i).kp E.kp⟩
    unfold SlX.slH
    rw [upd_ne ned, upd_same]
  · rw [List.getElem?_set_ne hj] at e1
    have hba : b ≠ a := by
      rintro rfl
      exact hj ((List.getElem_inj (h₀ := (List.getElem?_eq_some_iff.mp ea).1) (h₁ := (List.getElem?_eq_some_iff.mp e2).1) R.nd).mp ((List.getElem?_eq_some_iff.mp ea).2.trans (List.getElem?_eq_some_iff.mp e2).2.symm))
    have old := R.obj j u b e1 e2
    by_cases hbd : b = dx
    · subst hbd
      -- what stands at the dict's place
      have hn : SlX.slH H a (G.kap c) b (SlX.putS i y vs) b = some (.xd []) := by
        unfold SlX.slH
        rw [upd_ne ned, upd_same]
      cases u with
      | lst xs =>
        obtain ⟨ws, z, _⟩ := old
        rw [z] at hx; rcases hx with q | q <;> cases q
      | dK xs =>
        obtain ⟨ws, z, _⟩ := old
        rw [z] at hx; rcases hx with q | q <;> cases q
      | junk => exact .inl hn
      | obj c' d' fs' =>
        obtain ⟨dx', vs', _, z, _⟩ := old
        obtain ⟨_, _, n3, n4⟩ := slt_not z
        rcases hx with q | q
        · exact (n4 _ q).elim
        · exact (n3 q).elim
    · refine old.to E.kp (SlX.slH_ne hba hbd) fun dx' q => ?_
      by_cases h1 : dx' = dx
      · subst h1
        right
        unfold SlX.slH
        rw [upd_ne ned, upd_same]
      · left
        refine SlX.slH_ne ?_ h1
        rintro rfl
        obtain ⟨_, _, n3, n4⟩ := slt_not hs
        rcases q with q | q
        · exact n4 _ q
        · exact n3 q
def setF (t : FT) (o v : Val) (h : AH) : Option AH := match objAt o h with
  | some (r, c, d, fs) => match t c with
    | some i => some (h.set r (.obj c d (putA i v fs)))
    | none => none
  | none => none
def sFldA (t : FT) (o v : ME) : MS := fun env h => .ofE env (v env h) fun x h1 => .ofE env (o env h1) fun y h2 => match setF t y x h2 with
  | some h3 => .nx env h3
  | none => .stuck
theorem js_fld {o e : Expr} {f : Str} {mo me : ME} {t : FT} {pos' : Pos} (hK : X.K = G.K) (ht : FTok G f t) (ho : PE X o (tE G W mo)) (he : PE X e (tE G W me)) (hs : swapsWith e (some (.Attribute o f pos')) pos.line X.env = pure false := by rfl) :
    PS X (.Assign [.Attribute o f pos'] e pos) (tS G W (sFldA t mo me)) :=
  psI (SlX.ps_sl ho he hs) fun D σ H ⟨ρ, env, hp, re, rh, p⟩ => ⟨ρ, env, hp, re, rh, PostS.bindE re p fun v h1 ρ1 H1 x _ e1 R1 rx p1 => by
    have re1 := re.kp e1.kp
    refine ⟨ρ1, env, h1, re1, R1, PostS.bindE re1 p1 fun ov h2 ρ2 H2 y _ e2 R2 ry p2 => ?_⟩
    have re2 := re1.kp e2.kp
    unfold setF at p2
    cases q : objAt ov h2 with
    | none => rw [q] at p2; exact p2.elim
    | some z =>
      obtain ⟨r, c, d, fs⟩ := z
      rw [q] at p2
      dsimp only at p2
      cases q2 : t c with
      | none => rw [q2] at p2; exact p2.elim
      | some i =>
        rw [q2] at p2
        obtain ⟨a, dx, vs, rfl, f1, f2, f3, f4, f5, f6⟩ := objAt_of R2 ry q
        obtain ⟨hc, pp, hp⟩ := ht.ok c i q2
        have E := Ext.slot (C := G.kap c) (vs := SlX.putS i x vs) R2 (List.mem_of_getElem? f2) (List.mem_of_getElem? f3)
        exact ⟨a, G.kap c, dx, pp, vs, i, rfl, f4, by rw [hK]; exact hc, by rw [hK]; exact hp, p2 ρ2 _ σ E (R2.slot f1 f2 f3 f4 f5 f6 (rx.kp e2.kp)) (re2.kp E.kp)⟩⟩
theorem RH.made {ρ : List Addr} {H : Hp} {h : AH} {x dx : Addr} {c : Nat} (R : RH G ρ h H) (hx : H x = none) (hd : H dx = none) (ne : dx ≠ x) :
    RH G (ρ ++ [dx] ++ [x]) (h ++ [.junk] ++ [.obj c h.length []]) (upd (upd H dx (.own x)) x (.ins (G.kap c) dx [])) ∧ Ext G ρ H (ρ ++ [dx] ++ [x]) (upd (upd H dx (.own x)) x (.ins (G.kap c) dx [])) := by
  have R1 : RH G (ρ ++ [dx]) (h ++ [.junk]) (upd H dx (.own x)) := R.snoc hd (.inr ⟨x, upd_same⟩)
  have E1 := Ext.snoc (o := .own x) R hd
  have hx1 : upd H dx (.own x) x = none := by rw [upd_ne (Ne.symm ne)]; exact hx
  have E2 := Ext.snoc (o := .ins (G.kap c) dx []) R1 hx1
  refine ⟨R1.snoc hx1 ⟨dx, [], ?_, .inl ⟨upd_same, rfl⟩, .inl ?_, fun i w q => by simp at q⟩, E1.trans E2⟩
  · rw [← R.len, List.getElem?_append_left (by simp)]
    simp
  · rw [upd_ne ne, upd_same]
def eMake (c : Nat) (m : MF) (ds : List Val) (as : MA) : ME := fun env h => (as env h).bind fun vs h1 => (m (.ref (h1.length + 1) :: (vs ++ ds)) (h1 ++ [.junk] ++ [.obj c h1.length []])).bind fun v h2 => match v with
  | .non => .ok (.ref (h1.length + 1)) h2
  | _ => .stuck
variable {k : Nat} {f : Addr} {fd : FuncData} {ps : List Str} {m : MF} {dvs : List V} {ds : List Value} {dxs : List Val} {x : Str} {p : Pos} {e : Expr} {es : List Expr} {as : MA}
theorem run_makeS {CX : CXT} {sp : Sp} {E : XK} {C : Addr} {pins : List (Addr × Obj)} {σ : L2.St} {H : Hp} {s : Shared} {Q : VK} {us : List Value} {vs : List V} (M : Mk X.K C f) (F : FnOk X.prog X.w X.K X.mg X.base CX k f fd ps sp) (hr : Room (k + 1) X.A) (hb : Binds X.K fd ps ds) (hd : Vals dvs ds)
    (hx : PassesAt CX X σ E) (I : L2.Inv X pins σ H s) (r : Vals vs us)
    (h : ∀ x dx, H x = none → H dx = none → dx ≠ x → sp (.ref x :: (vs ++ dvs)) (upd (upd H dx (.own x)) x (.ins C dx [])) (fun v H2 => v = .non ∧ Q (.ref x) H2) E) :
    wpAny (model X.prog X.w) X.A (call (.ref C) us) (EP X pins σ Q) X.xe s := by
  have hq := h (s.heap.objs.size + 1) s.heap.objs.size (I.hok.fresh (Nat.le_succ _)) (I.hok.fresh (Nat.le_refl _)) (Nat.ne_of_lt (Nat.lt_succ_self _))
  have I2 := Inv.made (C := C) I
  have r2 : Vals (V.ref (s.heap.objs.size + 1) :: (vs ++ dvs)) (Value.ref (s.heap.objs.size + 1) :: (us ++ ds)) := .cons rfl (r.append hd)
  have hl : (Value.ref (s.heap.objs.size + 1) :: us ++ ds).length = ps.length := by
    have e := r2.length
    rw [F.len _ _ _ _ hq] at e
    exact e.symm
  refine wpAny_call (make_map (f := f) I.kIn M.makes M.init (beq_iff_eq.mp M.fn) (codeAny_mono (F.run _ X.stack _ _ ⟨Value.ref (s.heap.objs.size + 1) :: us, []⟩ (Value.ref (s.heap.objs.size + 1) :: (us ++ ds)) _ _ E (hr.make C us [])
    (I2.env0.make C us []) (hb _ (Value.ref (s.heap.objs.size + 1) :: us) I2.kIn hl) r2 hq) fun r s' hq' => ?_))
  cases r with
  | error e => exact hx pins _ _ e s' I2 hq'
  | ok fl =>
    cases fl with
    | ret u =>
      obtain ⟨v, H', I3, rv, ev, q3⟩ := I2.after hq'
      subst ev
      exact ⟨rv, ⟨V.ref (s.heap.objs.size + 1), H', I3, rfl, q3⟩⟩
    | next => exact False.elim hq'
    | brk => exact False.elim hq'
    | cont => exact False.elim hq'
theorem post_make {c n : Nat} {σ : L2.St} {ρ : List Addr} {H : Hp} {Q : VK} {vs : List Val} {zs : List V} {h : AH} (ha : Ar n m) (R : RH G ρ h H) (r : RVs G ρ H vs zs)
    (q : Post (RV G) G ρ H W σ Q ((m (.ref (h.length + 1) :: vs) (h ++ [.junk] ++ [.obj c h.length []])).bind fun v h2 => match v with | .non => .ok (.ref (h.length + 1)) h2 | _ => .stuck)) :
    ∀ x dx, H x = none → H dx = none → dx ≠ x → spM G n m (.ref x :: zs) (upd (upd H dx (.own x)) x (.ins (G.kap c) dx [])) (fun v H2 => v = .non ∧ Q (.ref x) H2) (L2.WE W σ) := by
  intro x dx hx hd ne
  obtain ⟨R1, E1⟩ := RH.made (c := c) R hx hd ne
  have at1 : (ρ ++ [dx] ++ [x])[h.length + 1]? = some x := by
    rw [← R.len]
    have : (ρ ++ [dx] ++ [x])[(ρ ++ [dx]).length]? = some x := by rw [List.getElem?_append_right (Nat.le_refl _)]; simp
    simpa using this
  refine post_call ha R1 (.cons (.ref at1) (r.kp E1.kp)) ?_
  refine Post.bind (rel := RV G) (Post.mono E1 q) fun v h1 ρ1 H1 y _ e1 R2 rv p1 => ?_
  cases rv with
  | non => exact ⟨rfl, p1 ρ1 H1 _ Ext.refl R2 (.ref (e1.at at1))⟩
  | _ => exact p1.elim
theorem je_make {c : Nat} (M : Mk X.K (G.kap c) f) (F : FnM G X.prog X.w X.mg X.base k f fd ps m) (hK : X.K = G.K) (ha' : Ar ps.length m) (tk : Takes X W) (hr : Room (k + 1) X.A) (hg : Gl X x) (hm : X.mg x = some (.ref (G.kap c))) (hb : Binds X.K fd ps ds) (hd : Vals dvs ds) (dr : ∀ ρ H, RVs G ρ H dxs dvs)
    (ha : PA X (e :: es) (tA G W as)) (hdb : (x == ("__debug__" : Str)) = false := by decide) (he : starEach (e :: es) X.env = (false, eval e X.env) :: starEach es X.env := by rfl) (hpl : (backTo pos (starEach es X.env)).any (·.1) = false := by rfl) :
    PE X (.Call (.Name x p) (e :: es) [] pos) (tE G W (eMake c m dxs as)) := by
  have F' : FnOk X.prog X.w X.K X.mg X.base (L2.CX X.prog X.w) k f fd ps (spM G ps.length m) := by rw [hK]; exact F
  refine ⟨fun pins s σ H Q I ⟨ρ, env, hp, re, rh, q⟩ => ?_⟩
  refine wpAny_Call_Name_kw (ld_glob I hg hm ?_ hdb)
  refine PySem.W.callWith_K (h₀ := X.base) I.ok.mod.kin M.kp (thn (ha.run pos pins s σ H _ I ⟨ρ, env, hp, re, rh, Post.bind (Nx := fun vs H1 => ∀ x dx, H1 x = none → H1 dx = none → dx ≠ x → spM G ps.length m (.ref x :: (vs ++ dvs)) (upd (upd H1 dx (.own x)) x (.ins (G.kap c) dx [])) (fun v H2 => v = .non ∧ Q (.ref x) H2) (L2.WE W σ)) q fun vs h1 ρ1 H1 zs _ e1 R1 rzs p1 =>
    post_make ha' R1 (rzs.append (dr ρ1 H1)) p1⟩) fun us s1 ⟨vs, H1, I1, r, q1⟩ => ⟨I1.kIn, ?_⟩) he hpl
  exact run_makeS (C := G.kap c) M F' hr hb hd (L2.passAt tk σ) I1 r q1
def eMeth (c : Nat) (m : MF) (ds : List Val) (a : ME) (as : MA) : ME := fun env h => (a env h).bind fun x h1 => match objAt x h1 with
  | some (_, c', _, _) => if c' = c then (as env h1).bind fun vs h2 => m (x :: (vs ++ ds)) h2 else .stuck
  | none => .stuck
theorem je_meth {c : Nat} {o : Expr} {nm : Str} {apos : Pos} {mo : ME} {pl : Sem Bool} (ho : PE X o (tE G W mo)) (hc : SlX.SCls X.K (G.kap c)) (hm : Meth X.K (G.kap c) nm f) (F : FnM G X.prog X.w X.mg X.base k f fd ps m) (hK : X.K = G.K) (ha' : Ar ps.length m) (tk : Takes X W) (hr : Room k X.A) (hb : Binds X.K fd ps ds) (hd : Vals dvs ds) (dr : ∀ ρ H, RVs G ρ H dxs dvs)
    (ha : PA X (e :: es) (tA G W as)) (hst : starEach (e :: es) X.env = (false, eval e X.env) :: starEach es X.env := by rfl) (hpl : (backTo pos (starEach es X.env)).any (·.1) = false := by rfl)
    (ht : eval (.Call (.Attribute o nm apos) (e :: es) [] pos) X.env = (do
      let ov ← eval o X.env
      standAt apos.atName
      let (f, first) ← holding [ov] (getMethod ov nm pl)
      callWith pos f first (backTo pos (starEach (e :: es) X.env)) (backToKw pos (keywordEach [] X.env))) := by rfl) :
    PE X (.Call (.Attribute o nm apos) (e :: es) [] pos) (tE G W (eMeth c m dxs mo as)) := by
  have F' : FnOk X.prog X.w X.K X.mg X.base (L2.CX X.prog X.w) k f fd ps (spM G ps.length m) := by rw [hK]; exact F
  refine ⟨fun pins s σ H Q I ⟨ρ, env, hp, re, rh, q⟩ => ?_⟩
  refine PySem.W.methodCall_KW (pl := pl) (thn (ho.run pins s σ H _ I ⟨ρ, env, hp, re, rh, Post.bind (Nx := fun z H1 => ∃ a dx vs, z = .ref a ∧ SlX.Slt H1 a (G.kap c) dx vs ∧ tA G W as σ H1 fun ws H2 => spM G ps.length m (z :: (ws ++ dvs)) H2 Q (L2.WE W σ)) q fun x h1 ρ1 H1 y _ e1 R1 rx p1 => ?_⟩) fun u s1 ⟨x, H1, I1, rx, a, dx, vs, ex, hsl, q⟩ => ?_) ht
  · cases qo : objAt x h1 with
    | none => rw [qo] at p1; exact p1.elim
    | some z =>
      obtain ⟨r, c', d, fs⟩ := z
      rw [qo] at p1
      dsimp only at p1
      by_cases hcc : c' = c
      · subst hcc
        rw [if_pos rfl] at p1
        obtain ⟨a, dx, vs, rfl, f1, f2, f3, f4, f5, f6⟩ := objAt_of R1 rx qo
        exact ⟨a, dx, vs, rfl, f4, ρ1, env, h1, re.kp e1.kp, R1, Post.bind p1 fun ws h2 ρ2 H2 zs _ e2 R2 rs p2 => post_call ha' R2 (.cons (rx.kp e2.kp) (rs.append (dr ρ2 H2))) p2⟩
      · rw [if_neg hcc] at p1; exact p1.elim
  subst ex
  obtain rfl : u = Value.ref a := rx
  refine SlX.getmethsl_ok I1 hsl hc hm ?_
  refine PySem.W.callWith_K (first := [.ref a]) (h₀ := X.base) I.ok.mod.kin hm.kp (thn (ha.run pos pins s1 σ H1 _ I1 q) fun us s2 ⟨ws, H2, I2, r, q2⟩ => ⟨I2.kIn, ?_⟩) hst hpl
  exact run_fnSD (us := .ref a :: us) (vs := .ref a :: ws) (E := L2.WE W) F' hr hb hd (L2.passAt tk σ) I2 (.cons rfl r) q2
theorem je_meth0 {c : Nat} {o : Expr} {nm : Str} {apos : Pos} {mo : ME} {pl : Sem Bool} (ho : PE X o (tE G W mo)) (hc : SlX.SCls X.K (G.kap c)) (hm : Meth X.K (G.kap c) nm f) (F : FnM G X.prog X.w X.mg X.base k f fd ps m) (hK : X.K = G.K) (ha' : Ar ps.length m) (tk : Takes X W) (hr : Room k X.A) (hb : Binds X.K fd ps ds) (hd : Vals dvs ds) (dr : ∀ ρ H, RVs G ρ H dxs dvs)
    (ht : eval (.Call (.Attribute o nm apos) [] [] pos) X.env = (do
      let ov ← eval o X.env
      standAt apos.atName
      let (f, first) ← holding [ov] (getMethod ov nm pl)
      callWith pos f first (backTo pos (starEach [] X.env)) (backToKw pos (keywordEach [] X.env))) := by rfl) :
    PE X (.Call (.Attribute o nm apos) [] [] pos) (tE G W (eMeth c m dxs mo aNil)) := by
  have F' : FnOk X.prog X.w X.K X.mg X.base (L2.CX X.prog X.w) k f fd ps (spM G ps.length m) := by rw [hK]; exact F
  refine ⟨fun pins s σ H Q I ⟨ρ, env, hp, re, rh, q⟩ => ?_⟩
  refine PySem.W.methodCall_KW (pl := pl) (thn (ho.run pins s σ H _ I ⟨ρ, env, hp, re, rh, Post.bind (Nx := fun z H1 => ∃ a dx vs, z = .ref a ∧ SlX.Slt H1 a (G.kap c) dx vs ∧ spM G ps.length m (z :: ([] ++ dvs)) H1 Q (L2.WE W σ)) q fun x h1 ρ1 H1 y _ e1 R1 rx p1 => ?_⟩) fun u s1 ⟨x, H1, I1, rx, a, dx, vs, ex, hsl, q⟩ => ?_) ht
  · cases qo : objAt x h1 with
    | none => rw [qo] at p1; exact p1.elim
    | some z =>
      obtain ⟨r, c', d, fs⟩ := z
      rw [qo] at p1
      dsimp only at p1
      by_cases hcc : c' = c
      · subst hcc
        rw [if_pos rfl] at p1
        obtain ⟨a, dx, vs, rfl, f1, f2, f3, f4, f5, f6⟩ := objAt_of R1 rx qo
        exact ⟨a, dx, vs, rfl, f4, post_call ha' R1 (.cons rx (dr ρ1 H1)) p1⟩
      · rw [if_neg hcc] at p1; exact p1.elim
  subst ex
  obtain rfl : u = Value.ref a := rx
  refine SlX.getmethsl_ok I1 hsl hc hm ?_
  exact PySem.W.callWith_K0 (first := [.ref a]) I1.kIn hm.kp (run_fnSD (us := [.ref a]) (vs := [.ref a]) (E := L2.WE W) F' hr hb hd (L2.passAt tk σ) I1 (.cons rfl .nil) q)
end
end CI
namespace CI
open PySem PySem.Spec PyProof.Rows L2
/-- the def nm of the class c keeps to the mirror m -/
structure OwnM (G : Wd) (P : Program) (w : World) (mg : Str → Option Value) (base : Heap) (k c : Nat) (nm : Str) (m : MF) : Prop where
  ex : ∃ f fd ps, PySem.W.findIn G.K (.ref (G.kap c)) nm = some (some (.ref f)) ∧ PySem.W.isFn G.K (.ref f) = true ∧ PySem.W.fnIn G.K f = true ∧ FnM G P w mg base k f fd ps m ∧ Ar ps.length m ∧ Binds G.K fd ps []
abbrev MT2 := Nat → Option MF
section
variable {X : Cx} {G : Wd} {W : CI.WX} {pos : Pos}
theorem run_atS {CX : CXT} {A : Around} {k : Nat} {f : Addr} {fd : FuncData} {ps : List Str} {sp : Sp} {E : XK} {pins : List (Addr × Obj)} {σ : L2.St} {H : Hp} {s : Shared} {Q : VK} {us : List Value} {vs : List V} (F : FnOk X.prog X.w X.K X.mg X.base CX k f fd ps sp) (hr : Room k A) (e0 : Env0 X.prog X.w X.K X.mg X.base A X.stack s H) (hb : Binds X.K fd ps [])
    (hx : PassesAt CX X σ E) (I : L2.Inv X pins σ H s) (r : Vals vs us) (h : sp vs H Q E) : wpAny (model X.prog X.w) A (call (.ref f) us) (EP X pins σ Q) X.xe s := by
  have hl : (us ++ []).length = ps.length := by rw [List.append_nil, ← r.length]; exact F.len _ _ _ _ h
  have hb' := hb s us I.kIn hl
  rw [List.append_nil] at hb'
  refine wpAny_call (codeAny_mono (F.run A X.stack s H ⟨us, []⟩ us vs Q E hr e0 hb' r h) fun r s' hq => ?_)
  cases r with
  | error e => exact hx pins H s e s' I hq
  | ok fl =>
    cases fl with
    | ret u => exact I.after hq
    | next => exact False.elim hq
    | brk => exact False.elim hq
    | cont => exact False.elim hq
/-- an own method called by values -/
theorem run_own {A : Around} {k c : Nat} {nm : Str} {m : MF} {f : Addr} {fd : FuncData} {ps : List Str} {pins : List (Addr × Obj)} {σ : L2.St} {ρ : List Addr} {h : AH} {H : Hp} {s : Shared} {Q : VK} {us : List Value} {vs : List V} {as : List Val} (hK : X.K = G.K) (tk : Takes X W) (F : FnM G X.prog X.w X.mg X.base k f fd ps m) (ha : Ar ps.length m) (hb : Binds G.K fd ps []) (hr : Room k A) (e0 : Env0 X.prog X.w X.K X.mg X.base A X.stack s H)
    (I : L2.Inv X pins σ H s) (r : Vals vs us) (R : RH G ρ h H) (ra : RVs G ρ H as vs) (p : Post (RV G) G ρ H W σ Q (m as h)) : wpAny (model X.prog X.w) A (call (.ref f) us) (EP X pins σ Q) X.xe s := by
  have F' : FnOk X.prog X.w X.K X.mg X.base (L2.CX X.prog X.w) k f fd ps (spM G ps.length m) := by rw [hK]; exact F
  exact run_atS F' hr e0 (by rw [hK]; exact hb) (L2.passAt tk σ) I r (post_call ha R ra p)
/-- two operands, then what a dispatch makes of them -/
def e2D (d : Val → Val → AH → Res Val) (a b : ME) : ME := fun env h => (a env h).bind fun x h1 => (b env h1).bind fun y h2 => d x y h2
theorem t_2D {d : Val → Val → AH → Res Val} {a b : ME} {σ : L2.St} {H : Hp} {Q : VK} (h : tE G W (e2D d a b) σ H Q) : tE G W a σ H fun x H1 => tE G W b σ H1 fun y H2 => ∃ ρ h va vb, RH G ρ h H2 ∧ RV G ρ H2 va x ∧ RV G ρ H2 vb y ∧ Post (RV G) G ρ H2 W σ Q (d va vb h) := by
  obtain ⟨ρ, env, hp, re, rh, p⟩ := h
  refine ⟨ρ, env, hp, re, rh, Post.bind p fun x h1 ρ1 H1 y _ e1 R1 rx p1 => ?_⟩
  exact ⟨ρ1, env, h1, re.kp e1.kp, R1, Post.bind p1 fun x2 h2 ρ2 H2 y2 _ e2 R2 rx2 p2 => ⟨ρ2, h2, x, x2, R2, rx.kp e2.kp, rx2, p2⟩⟩
/-- the class of an instance -/
def clsOf (v : Val) (h : AH) : Option Nat := match objAt v h with
  | some (_, c, _, _) => some c
  | none => none
theorem clsOf_of {ρ : List Addr} {H : Hp} {h : AH} {v : Val} {x : V} {c : Nat} (R : RH G ρ h H) (rv : RV G ρ H v x) (e : clsOf v h = some c) : ∃ a dx vs, x = .ref a ∧ SlX.Slt H a (G.kap c) dx vs := by
  unfold clsOf at e
  cases q : objAt v h with
  | none => rw [q] at e; cases e
  | some z =>
    obtain ⟨r, c', d, fs⟩ := z
    rw [q] at e
    cases e
    obtain ⟨a, dx, vs, h1, _, _, _, h2, _⟩ := objAt_of R rv q
    exact ⟨a, dx, vs, h1, h2⟩
def asB (r : Res Val) (g : Bool → Bool) : Res Val := r.bind fun v h => match v with
  | .bl b => .ok (.bl (g b)) h
  | _ => .stuck
def dIn (f : F2) (t : MT2) (g : Bool → Bool) : Val → Val → AH → Res Val := fun a b h => match clsOf b h with
  | some c => match t c with
    | some m => asB (m [b, a] h) g
    | none => .stuck
  | none => lift (f a b h)
/-- a comparison by values -/
def CmpD (X : Cx) (G : Wd) (W : CI.WX) (op : CmpOp) (d : Val → Val → AH → Res Val) : Prop := ∀ (pins : List (Addr × Obj)) (s : Shared) (σ : L2.St) (H : Hp) (x y : V) (v u : Value) (Q : VK), L2.Inv X pins σ H s → L2.RelV x v → L2.RelV y u → (∃ ρ h va vb, RH G ρ h H ∧ RV G ρ H va x ∧ RV G ρ H vb y ∧ Post (RV G) G ρ H W σ Q (d va vb h)) →
  wpAny (model X.prog X.w) X.A (compareOp op v u) (EP X pins σ Q) X.xe s
theorem je_cmpD {op : CmpOp} {d : Val → Val → AH → Res Val} {a b : Expr} {ma mb : ME} (hd : CmpD X G W op d) (ha : PE X a (tE G W ma)) (hb : PE X b (tE G W mb)) (hm : behindInMarks op b = false := by rfl) : PE X (.Compare a [op] [b] pos) (tE G W (e2D d ma mb)) :=
  ⟨fun pins s σ H Q I h => wpAny_Compare1 (binT ha hb I (t_2D h) fun v u s2 x y H2 I2 rx ry q => hd pins s2 σ H2 x y v u Q I2 rx ry q) hm⟩
theorem jt_cmpD {op : CmpOp} {d : Val → Val → AH → Res Val} {a b : Expr} {ma mb : ME} (hd : CmpD X G W op d) (ha : PE X a (tE G W ma)) (hb : PE X b (tE G W mb)) (hm : behindInMarks op b = false := by rfl) : PT X (.Compare a [op] [b] pos) (tT G W (toB (e2D d ma mb))) := by
  refine ⟨fun pins s σ H Q I h => ?_⟩
  refine wpAny_isTrue_Compare1 (thn (ha.run pins s σ H _ I (t_2D (t_test h))) fun v s1 ⟨x, H1, I1, r1, q1⟩ => thn (hb.run pins s1 σ H1 _ I1 q1) fun u s2 ⟨y, H2, I2, r2, q2⟩ =>
    thn (hd pins s2 σ H2 x y v u _ I2 r1 r2 q2) fun c s3 ⟨z, H3, I3, r3, k, e, q3⟩ => ?_) hm
  subst e
  cases r3
  exact wpAny_truthy_bool ⟨H3, I3, q3⟩
theorem cmp_in {op : CmpOp} {f : F2} {t : MT2} {g : Bool → Bool} {k : Nat} (hop : (op = .In ∧ g = id) ∨ (op = .NotIn ∧ g = not)) (hK : X.K = G.K) (tk : Takes X W) (hr : Room k X.A) (ho : OpR X (compareOp op) (r2 G f)) (ht : ∀ c m, t c = some m → OwnM G X.prog X.w X.mg X.base k c "__contains__" m) : CmpD X G W op (dIn f t g) := by
  intro pins s σ H x y v u Q I rx ry hq
  obtain ⟨ρ, h, va, vb, R, ra, rb, p⟩ := hq
  unfold dIn at p
  cases q : clsOf vb h with
  | none => rw [q] at p; exact ho pins s σ H x y v u Q I rx ry ⟨ρ, h, va, vb, R, ra, rb, Post.lift p⟩
  | some c =>
    rw [q] at p
    dsimp only at p
    cases q2 : t c with
    | none => rw [q2] at p; exact p.elim
    | some m =>
      rw [q2] at p
      dsimp only at p
      obtain ⟨o, dx, vs, rfl, hs⟩ := clsOf_of R rb q
      obtain ⟨fa, fd, ps, h1, h2, _, h3, h4, h5⟩ := (ht c m q2).ex
      cases (show u = Value.ref o from ry)
      obtain ⟨sl, od, _, J, _⟩ := SlX.slt_inst I hs
      obtain ⟨mm, F⟩ := I.fr
      have call := run_own (Q := fun z H' => ∃ b, z = .bl b ∧ Q (.bl (g b)) H') (us := [.ref o, v]) (vs := [.ref o, x]) (nm := "__contains__") (c := c) hK tk h3 h4 h5 hr I.env0 I (.cons rfl (.cons rx .nil)) R (.cons rb (.cons ra .nil)) (by
        refine Post.bind (rel := RV G) p fun w h6 ρ6 H6 y6 _ e6 R6 r6 p6 => ?_
        cases r6 with
        | bl b => exact ⟨b, rfl, p6 ρ6 H6 _ Ext.refl R6 (.bl _)⟩
        | _ => exact p6.elim)
      rcases hop with ⟨rfl, rfl⟩ | ⟨rfl, rfl⟩
      · refine PySem.W.in_K F I.ok.mod.kin J (by rw [hK]; exact h1) (by rw [hK]; exact h2) (thn call fun r s' ⟨z, H', I', rz, b, eb, hq⟩ => ?_)
        subst eb
        cases rz
        exact wpAny_truthy_bool ⟨.bl b, H', I', rfl, hq⟩
      · refine PySem.W.notIn_K F I.ok.mod.kin J (by rw [hK]; exact h1) (by rw [hK]; exact h2) (thn call fun r s' ⟨z, H', I', rz, b, eb, hq⟩ => ?_)
        subst eb
        cases rz
        exact wpAny_truthy_bool ⟨.bl (!b), H', I', rfl, hq⟩
def dEq (f : F2) (t : MT2) (nf : Nat → Nat → Bool) (g : Bool → Bool) : Val → Val → AH → Res Val := fun a b h => match clsOf a h with
  | some c => match t c with
    | some m => match clsOf b h with
      | some c' => if nf c c' = true then asB (m [a, b] h) g else .stuck
      | none => .stuck
    | none => .stuck
  | none => lift (f a b h)
theorem cmp_eq {f : F2} {t : MT2} {nf : Nat → Nat → Bool} {k : Nat} (hK : X.K = G.K) (tk : Takes X W) (hr : Room k X.A) (ho : OpR X (compareOp .Eq) (r2 G f)) (ht : ∀ c m, t c = some m → OwnM G X.prog X.w X.mg X.base k c "__eq__" m) (hn : ∀ c c', nf c c' = true → PySem.W.notFirst G.K (G.kap c) (.ref (G.kap c')) = true) : CmpD X G W .Eq (dEq f t nf id) := by
  intro pins s σ H x y v u Q I rx ry hq
  obtain ⟨ρ, h, va, vb, R, ra, rb, p⟩ := hq
  unfold dEq at p
  cases q : clsOf va h with
  | none => rw [q] at p; exact ho pins s σ H x y v u Q I rx ry ⟨ρ, h, va, vb, R, ra, rb, Post.lift p⟩
  | some c =>
    rw [q] at p
    dsimp only at p
    cases q2 : t c with
    | none => rw [q2] at p; exact p.elim
    | some m =>
      rw [q2] at p
      dsimp only at p
      cases q3 : clsOf vb h with
      | none => rw [q3] at p; exact p.elim
      | some c' =>
        rw [q3] at p
        dsimp only at p
        by_cases hnf : nf c c' = true
        case neg => rw [if_neg hnf] at p; exact p.elim
        rw [if_pos hnf] at p
        obtain ⟨o, dx, vs, rfl, hs⟩ := clsOf_of R ra q
        obtain ⟨o', dx', vs', rfl, hs'⟩ := clsOf_of R rb q3
        obtain ⟨fa, fd, ps, h1, h2, _, h3, h4, h5⟩ := (ht c m q2).ex
        cases (show v = Value.ref o from rx)
        cases (show u = Value.ref o' from ry)
        obtain ⟨sl, od, _, J, _⟩ := SlX.slt_inst I hs
        obtain ⟨sl', od', _, J', _⟩ := SlX.slt_inst I hs'
        obtain ⟨mm, F⟩ := I.fr
        have call := run_own (Q := fun z H' => ∃ b, z = .bl b ∧ Q (.bl b) H') (us := [.ref o, .ref o']) (vs := [.ref o, .ref o']) (nm := "__eq__") (c := c) hK tk h3 h4 h5 hr I.env0 I (.cons rfl (.cons rfl .nil)) R (.cons ra (.cons rb .nil)) (by
          refine Post.bind (rel := RV G) p fun w h6 ρ6 H6 y6 _ e6 R6 r6 p6 => ?_
          cases r6 with
          | bl b => exact ⟨b, rfl, p6 ρ6 H6 _ Ext.refl R6 (.bl _)⟩
          | _ => exact p6.elim)
        refine PySem.W.cmp_ofEq (PySem.W.cmp_K (op := .Eq) (tb := .ref (G.kap c')) hr.units0 F I.ok.mod.kin J J'.type (by rw [hK]; exact hn c c' hnf) (by rw [hK]; exact h1) (by rw [hK]; exact h2) (thn call fun r s' ⟨z, H', I', rz, b, eb, hq⟩ => ?_))
        subst eb
        cases rz
        exact ⟨.bl b, H', I', rfl, hq⟩
/-- != by the class's own ==  -/
theorem ne_K {prog : Program} {w : World} {A : Around} {E : Value → Shared → Prop} {s : Shared} {K : PySem.W.Frag} {x C L f : Addr} {h₀ : Heap} {m : Str → Option Value} {ox : Obj} {od : Option Obj} {b tb : Value} {Q : Value → Shared → Prop} (hu : A.units + 1 < cLine) (F : Fr h₀ L s.heap m) (X₀ : K.In h₀) (I : PySem.W.InstAt s.heap x ox C od) (hb : PySem.W.Looks (model prog w) s.heap (typeOf b) tb) (hn : PySem.W.notFirst K C tb = true)
    (hne : PySem.W.findIn K (.ref C) "__ne__" = some (some (.builtin "object.__ne__"))) (hob : PySem.W.mroIn K C (.type "object") = some true)
    (hs : PySem.W.findIn K (.ref C) "__eq__" = some (some (.ref f))) (hf : PySem.W.isFn K (.ref f) = true)
    (h : wpAny (model prog w) A.in1 (call (.ref f) [.ref x, b]) (fun v s' => ∃ c, v = .bool c ∧ Q (.bool (!c)) s') E s) : wpAny (model prog w) A (richCompare .NotEq (.ref x) b) Q E s := by
  have X := X₀.keeps F.keep
  have ent : wpAny (model prog w) A.in1 (Builtin.«object.__ne__» ⟨[.ref x, b], []⟩) (fun r s' => ∃ c, r = .done (.ret (.bool (!c))) ∧ Q (.bool (!c)) s') E s := by
    unfold Builtin.«object.__ne__»
    repeat (first
      | with_reducible refine wpAny_cRoomFor hu ?_
      | (refine wpAny_bind (m := callSpecialIfBound? (.ref x) (Str.ofString "__eq__") [b])
          (PySem.W.ifBound_K X I hs hf (wpAny_mono h (fun r s' hr => by
            obtain ⟨c, rfl, hq⟩ := hr
            repeat (first | exact ⟨c, rfl, hq⟩ | exact wpAny_pure ⟨c, rfl, hq⟩ | exact wpAny_truthy_bool ⟨c, rfl, hq⟩ | (refine wpAny_bind (m := truthy (.bool _)) (wpAny_truthy_bool ?_)) | wp_step)) fun _ _ e => e)))
      | wp_step)
  have S := PySem.F.cmp_object.ne
  have sub : PySem.W.Looks (model prog w) s.heap (isInstance (.ref x) (.type "object")) true := I.type.andThen (PySem.W.looks_mroIn X hob)
  have one : wpAny (model prog w) A (tryCompare (.ref x) "__ne__" b) (fun r s' => ∃ v, r = some v ∧ Q v s') E s := by
    unfold tryCompare
    refine wpAny_bind ?_
    simp only [callSpecialIfBound?, bindSpecialIfBound?]
    refine wpAny_holding (wpAny_bind (wpAny_bind (wpAny_bind (I.type.here ((PySem.W.looks_findIn X hne).here ?_)))))
    simp only [S.bind]
    refine wpAny_bind (wpAny_askSetting (wpAny_ite ?_))
    have fin : wpAny (model prog w) A (call (.builtin "object.__ne__") ([.ref x] ++ [b]) >>= fun v => pure (some v)) (fun r s' => ∃ c, r = some (Value.bool (!c)) ∧ Q (.bool (!c)) s') E s := by
      refine wpAny_bind (wpAny_call (codeAny_call_builtin S.plain PySem.F.cmpEntry_ne (PySem.W.check_slot PySem.F.cmpKind_ne PySem.F.cmpSplit_ne sub (PySem.F.cmpArgs_ne _ _) (wpAny_mono ent (fun r s' hr => ?_) fun _ _ e => e))))
      obtain ⟨c, rfl, hq⟩ := hr
      exact wpAny_pure ⟨c, rfl, hq⟩
    have fin2 := wpAny_mono fin (Q' := fun a s' =>
          wpAny (model prog w) A
            (match a with
            | some Value.notImplemented => pure none
            | none => pure none
            | some __do_lift => pure (some __do_lift))
            (fun r s' => ∃ v, r = some v ∧ Q v s') E s') (E' := E) (fun r s' hr => by
        obtain ⟨c, rfl, hq⟩ := hr
        exact wpAny_pure ⟨_, rfl, hq⟩) (fun _ _ e => e)
    split
    · exact wpAny_bind (wpAny_pure (wpAny_pure (by exact fin2)))
    · exact wpAny_tryCatch (wpAny_bind (wpAny_pure (wpAny_pure (by exact fin2))))
  unfold richCompare
  simp only [oneThing_ref]
  refine wpAny_holding (wpAny_bind (wpAny_cRoomFor (by omega) ?_))
  refine wpAny_bind (I.type.here (wpAny_bind (hb.here ?_)))
  rw [cmpInfo_NotEq]
  dsimp only
  split
  · rename_i q
    have e : PySem.W.subIn K tb (.ref C) = some false := by
      rcases Bool.or_eq_true_iff.mp hn with e | e
      · rw [beq_iff_eq.mp e] at q; simp at q
      · exact beq_iff_eq.mp e
    refine wpAny_bind ((PySem.W.looks_subIn X e).here ?_)
    simp only [Bool.false_eq_true, if_false]
    refine wpAny_bind (wpAny_mono one (fun r s' z => ?_) fun _ _ e => e)
    obtain ⟨v, rfl, hq⟩ := z
    exact wpAny_pure hq
  · refine wpAny_bind (wpAny_pure ?_)
    simp only [Bool.false_eq_true, if_false]
    refine wpAny_bind (wpAny_mono one (fun r s' z => ?_) fun _ _ e => e)
    obtain ⟨v, rfl, hq⟩ := z
    exact wpAny_pure hq
theorem cmp_ne {f : F2} {t : MT2} {nf : Nat → Nat → Bool} {k : Nat} (hK : X.K = G.K) (tk : Takes X W) (hr : Room (k + 1) X.A) (ho : OpR X (compareOp .NotEq) (r2 G f)) (ht : ∀ c m, t c = some m → OwnM G X.prog X.w X.mg X.base k c "__eq__" m) (hn : ∀ c c', nf c c' = true → PySem.W.notFirst G.K (G.kap c) (.ref (G.kap c')) = true)
    (hne : ∀ c m, t c = some m → PySem.W.findIn G.K (.ref (G.kap c)) "__ne__" = some (some (.builtin "object.__ne__")) ∧ PySem.W.mroIn G.K (G.kap c) (.type "object") = some true) : CmpD X G W .NotEq (dEq f t nf not) := by
  intro pins s σ H x y v u Q I rx ry hq
  obtain ⟨ρ, h, va, vb, R, ra, rb, p⟩ := hq
  unfold dEq at p
  cases q : clsOf va h with
  | none => rw [q] at p; exact ho pins s σ H x y v u Q I rx ry ⟨ρ, h, va, vb, R, ra, rb, Post.lift p⟩
  | some c =>
    rw [q] at p
    dsimp only at p
    cases q2 : t c with
    | none => rw [q2] at p; exact p.elim
    | some m =>
      rw [q2] at p
      dsimp only at p
      cases q3 : clsOf vb h with
      | none => rw [q3] at p; exact p.elim
      | some c' =>
        rw [q3] at p
        dsimp only at p
        by_cases hnf : nf c c' = true
        case neg => rw [if_neg hnf] at p; exact p.elim
        rw [if_pos hnf] at p
        obtain ⟨o, dx, vs, rfl, hs⟩ := clsOf_of R ra q
        obtain ⟨o', dx', vs', rfl, hs'⟩ := clsOf_of R rb q3
        obtain ⟨fa, fd, ps, h1, h2, _, h3, h4, h5⟩ := (ht c m q2).ex
        obtain ⟨n1, n2⟩ := hne c m q2
        cases (show v = Value.ref o from rx)
        cases (show u = Value.ref o' from ry)
        obtain ⟨sl, od, _, J, _⟩ := SlX.slt_inst I hs
        obtain ⟨sl', od', _, J', _⟩ := SlX.slt_inst I hs'
        obtain ⟨mm, F⟩ := I.fr
        have call := run_own (A := X.A.in1) (Q := fun z H' => ∃ b, z = .bl b ∧ Q (.bl (!b)) H') (us := [.ref o, .ref o']) (vs := [.ref o, .ref o']) (nm := "__eq__") (c := c) hK tk h3 h4 h5 hr.in1 I.env0.in1 I (.cons rfl (.cons rfl .nil)) R (.cons ra (.cons rb .nil)) (by
          refine Post.bind (rel := RV G) p fun w h6 ρ6 H6 y6 _ e6 R6 r6 p6 => ?_
          cases r6 with
          | bl b => exact ⟨b, rfl, p6 ρ6 H6 _ Ext.refl R6 (.bl _)⟩
          | _ => exact p6.elim)
        refine PySem.W.cmp_ofNotEq (ne_K (tb := .ref (G.kap c')) (by have := hr.units; omega) F I.ok.mod.kin J J'.type (by rw [hK]; exact hn c c' hnf) (by rw [hK]; exact n1) (by rw [hK]; exact n2) (by rw [hK]; exact h1) (by rw [hK]; exact h2) (thn call fun r s' ⟨z, H', I', rz, b, eb, hq⟩ => ?_))
        subst eb
        cases rz
        exact ⟨b, rfl, .bl (!b), H', I', rfl, hq⟩
def dOwn2 (f : F2) (t : MT2) : Val → Val → AH → Res Val := fun a b h => match clsOf a h with
  | some c => match t c with
    | some m => m [a, b] h
    | none => .stuck
  | none => lift (f a b h)
theorem je_ixD {f : F2} {t : MT2} {k : Nat} {a b : Expr} {ma mb : ME} (hK : X.K = G.K) (tk : Takes X W) (hr : Room (k + 1) X.A) (hi : IxR X (r2 G f)) (ht : ∀ c m, t c = some m → OwnM G X.prog X.w X.mg X.base k c "__getitem__" m) (ha : PE X a (tE G W ma)) (hb : PE X b (tE G W mb))
    (hs : PlainIx b := by exact fun _ _ => rfl) (hsl : ∀ o i, subscripted b true o i = runValue (.builtin "lifetime.subscript" ⟨[o, i], []⟩) := by intro _ _; with_unfolding_all rfl) : PE X (.Subscript a b pos) (tE G W (e2D (dOwn2 f t) ma mb)) := by
  refine ⟨fun pins s σ H Q I h => ?_⟩
  refine Subscript_ (binT ha hb I (t_2D h) fun v u s2 x y H2 I2 rx ry hq => ?_)
  obtain ⟨ρ, h, va, vb, R, ra, rb, p⟩ := hq
  unfold dOwn2 at p
  cases q : clsOf va h with
  | none => rw [q] at p; exact hi a b pins s2 σ H2 x y v u Q I2 rx ry ⟨ρ, h, va, vb, R, ra, rb, Post.lift p⟩ (hs _ _)
  | some c =>
    rw [q] at p
    dsimp only at p
    cases q2 : t c with
    | none => rw [q2] at p; exact p.elim
    | some m =>
      rw [q2] at p
      dsimp only at p
      obtain ⟨o, dx, vs, rfl, hsl'⟩ := clsOf_of R ra q
      obtain ⟨fa, fd, ps, h1, h2, h2', h3, h4, h5⟩ := (ht c m q2).ex
      cases (show v = Value.ref o from rx)
      obtain ⟨sl, od, _, J, _⟩ := SlX.slt_inst I2 hsl'
      obtain ⟨mm, F⟩ := I2.fr
      exact PySem.W.sub_K F I2.ok.mod.kin J (by rw [hK]; exact h1) (by rw [hK]; exact h2') (by rw [hK]; exact h2)
        (run_own (A := X.A.in1) (us := [.ref o, u]) (vs := [.ref o, y]) (nm := "__getitem__") (c := c) hK tk h3 h4 h5 hr.in1 I2.env0.in1 I2 (.cons rfl (.cons ry .nil)) R (.cons ra (.cons rb .nil)) p) (hsl _ _)
def dBin (f : F2) (t : MT2) : Val → Val → AH → Res Val := fun x y h => match clsOf x h, clsOf y h with
  | some c, some c' => if c = c' then dOwn2 f t x y h else .stuck
  | some _, none => .stuck
  | none, _ => lift (f x y h)
theorem je_binD {op : Operator} {f : F2} {t : MT2} {k : Nat} {a b : Expr} {ma mb : ME} (hK : X.K = G.K) (tk : Takes X W) (hr : Room k X.A) (ho : OpR X (binaryOp op) (r2 G f)) (ht : ∀ c m, t c = some m → OwnM G X.prog X.w X.mg X.base k c (PySem.dunder op.info.2) m ∧ PySem.W.selfFirst G.K (G.kap c) = true) (ha : PE X a (tE G W ma)) (hb : PE X b (tE G W mb)) :
    PE X (.BinOp a op b pos) (tE G W (e2D (dBin f t) ma mb)) := by
  refine ⟨fun pins s σ H Q I h => ?_⟩
  refine wpAny_BinOp (binT ha hb I (t_2D h) fun v u s2 x y H2 I2 rx ry hq => ?_)
  obtain ⟨ρ, h, va, vb, R, ra, rb, p⟩ := hq
  unfold dBin at p
  cases q : clsOf va h with
  | none => simp only [q] at p; exact ho pins s2 σ H2 x y v u Q I2 rx ry ⟨ρ, h, va, vb, R, ra, rb, Post.lift p⟩
  | some c =>
    cases q3 : clsOf vb h with
    | none => simp only [q, q3] at p; exact p.elim
    | some c' =>
      simp only [q, q3] at p
      by_cases hcc : c = c'
      · subst hcc
        rw [if_pos rfl] at p
        unfold dOwn2 at p
        rw [q] at p
        dsimp only at p
        cases q2 : t c with
        | none => rw [q2] at p; exact p.elim
        | some m =>
          rw [q2] at p
          dsimp only at p
          obtain ⟨o, dx, vs, rfl, hs⟩ := clsOf_of R ra q
          obtain ⟨o', dx', vs', rfl, hs'⟩ := clsOf_of R rb q3
          obtain ⟨hw, hsf⟩ := ht c m q2
          obtain ⟨fa, fd, ps, h1, h2, _, h3, h4, h5⟩ := hw.ex
          cases (show v = Value.ref o from rx)
          cases (show u = Value.ref o' from ry)
          obtain ⟨sl, od, _, J, _⟩ := SlX.slt_inst I2 hs
          obtain ⟨sl', od', _, J', _⟩ := SlX.slt_inst I2 hs'
          obtain ⟨mm, F⟩ := I2.fr
          refine PySem.W.binop_K F I2.ok.mod.kin J J'.type (by rw [hK]; exact hsf) (by rw [hK]; exact h1) (by rw [hK]; exact h2) (thn (run_own (us := [.ref o, .ref o']) (vs := [.ref o, .ref o']) (nm := PySem.dunder op.info.2) (c := c) hK tk h3 h4 h5 hr I2.env0 I2 (.cons rfl (.cons rfl .nil)) R (.cons ra (.cons rb .nil)) p) fun r s' hq => ?_)
          obtain ⟨z, H', I', rz, qz⟩ := hq
          exact SlX.cmpback rz ⟨z, H', I', rz, qz⟩
      · rw [if_neg hcc] at p; exact p.elim
def dOwn1 (f : F1) (t : MT2) : Val → AH → Res Val := fun a h => match clsOf a h with
  | some c => match t c with
    | some m => m [a] h
    | none => .stuck
  | none => lift (f a h)
def e1D (d : Val → AH → Res Val) (a : ME) : ME := fun env h => (a env h).bind fun x h1 => d x h1
theorem je_invD {t : MT2} {k : Nat} {a : Expr} {ma : ME} (hK : X.K = G.K) (tk : Takes X W) (hr : Room k X.A) (ht : ∀ c m, t c = some m → OwnM G X.prog X.w X.mg X.base k c "__invert__" m) (ha : PE X a (tE G W ma)) :
    PE X (.UnaryOp .Invert a pos) (tE G W (e1D (dOwn1 (fun _ _ => none) t) ma)) := by
  refine ⟨fun pins s σ H Q I ⟨ρ0, env, hp, re, rh, p⟩ => ?_⟩
  refine UnaryOp_ (thn (ha.run pins s σ H (fun x H1 => ∃ ρ h va, RH G ρ h H1 ∧ RV G ρ H1 va x ∧ Post (RV G) G ρ H1 W σ Q (dOwn1 (fun _ _ => none) t va h)) I ⟨ρ0, env, hp, re, rh, Post.bind p fun x h1 ρ1 H1 y _ e1 R1 rx p1 => ⟨ρ1, h1, x, R1, rx, p1⟩⟩) fun v s1 ⟨x, H1, I1, r1, q1⟩ => ?_)
  obtain ⟨ρ, h, va, R, ra, p⟩ := q1
  unfold dOwn1 at p
  cases q : clsOf va h with
  | none => rw [q] at p; exact p.elim
  | some c =>
    rw [q] at p
    dsimp only at p
    cases q2 : t c with
    | none => rw [q2] at p; exact p.elim
    | some m =>
      rw [q2] at p
      dsimp only at p
      obtain ⟨o, dx, vs, rfl, hs⟩ := clsOf_of R ra q
      obtain ⟨fa, fd, ps, h1, h2, _, h3, h4, h5⟩ := (ht c m q2).ex
      cases (show v = Value.ref o from r1)
      obtain ⟨sl, od, _, J, _⟩ := SlX.slt_inst I1 hs
      obtain ⟨mm, F⟩ := I1.fr
      exact PySem.W.ksp_inv F I1.ok.mod.kin J (by rw [hK]; exact h1) (by rw [hK]; exact h2) (run_own (us := [.ref o]) (vs := [.ref o]) (nm := "__invert__") (c := c) hK tk h3 h4 h5 hr I1.env0 I1 (.cons rfl .nil) R (.cons ra .nil) p)
/-- len(a) -/
def dLen (t : MT2) : Val → AH → Res Val := fun a h => match clsOf a h with
  | some c => match t c with
    | some m => (m [a] h).bind fun v h1 => match v with
      | .int n => if 0 ≤ n ∧ n < 100000 then .ok (.int n) h1 else .stuck
      | _ => .stuck
    | none => .stuck
  | none => lift (fLen [a] h)
theorem je_lenD {t : MT2} {k : Nat} {a : Expr} {ma : ME} {p : Pos} (hK : X.K = G.K) (tk : Takes X W) (hr : Room (k + 1) X.A) (hg : Gl X "len") (hm : X.mg "len" = none) (ht : ∀ c m, t c = some m → OwnM G X.prog X.w X.mg X.base k c "__len__" m) (ha : PE X a (tE G W ma)) (hs : starEach [a] X.env = (false, eval a X.env) :: starEach [] X.env := by rfl) :
    PE X (.Call (.Name "len" p) [a] [] pos) (tE G W (e1D (dLen t) ma)) := by
  refine ⟨fun pins s σ H Q I ⟨ρ0, env, hp, re, rh, p⟩ => ?_⟩
  refine wpAny_Call_Name_kw (ld_blt I hg hm PySem.boot_len ?_ (by decide) (by decide))
  refine PyProof.Rows.callWith_builtin1 (thn ((pa_cons ha pa_nil hs).run pos pins s σ H (fun vs H1 => ∃ x, vs = [x] ∧ ∃ ρ h va, RH G ρ h H1 ∧ RV G ρ H1 va x ∧ Post (RV G) G ρ H1 W σ Q (dLen t va h)) I ⟨ρ0, env, hp, re, rh, Post.bind p fun x h1 ρ1 H1 y _ e1 R1 rx p1 => ⟨_, rfl, ρ1, h1, x, R1, rx, p1⟩⟩) fun us s1 ⟨vs, H1, I1, r1, q1⟩ => ?_) hs rfl
  obtain ⟨x, rfl, ρ, h, va, R, ra, p⟩ := q1
  unfold dLen at p
  cases q : clsOf va h with
  | none => rw [q] at p; exact call_lenM hK pins s1 σ H1 [x] us Q I1 r1 ⟨ρ, h, [va], R, .cons ra .nil, Post.lift p⟩
  | some c =>
    rw [q] at p
    dsimp only at p
    cases q2 : t c with
    | none => rw [q2] at p; exact p.elim
    | some m =>
      rw [q2] at p
      dsimp only at p
      obtain ⟨o, dx, vs, rfl, hs⟩ := clsOf_of R ra q
      obtain ⟨fa, fd, ps, h1, h2, _, h3, h4, h5⟩ := (ht c m q2).ex
      obtain ⟨u, rfl, ru⟩ := r1.one
      cases (show u = Value.ref o from ru)
      obtain ⟨sl, od, _, J, _⟩ := SlX.slt_inst I1 hs
      obtain ⟨mm, F⟩ := I1.fr
      refine PySem.W.len_K F I1.ok.mod.kin J (by rw [hK]; exact h1) (by rw [hK]; exact h2) (thn (run_own (A := X.A.in1) (Q := fun z H' => ∃ n, z = .int n ∧ 0 ≤ n ∧ n < 100000 ∧ Q (.int n) H') (us := [.ref o]) (vs := [.ref o]) (nm := "__len__") (c := c) hK tk h3 h4 h5 hr.in1 I1.env0.in1 I1 (.cons rfl .nil) R (.cons ra .nil) (by
        refine Post.bind (rel := RV G) p fun w h6 ρ6 H6 y6 _ e6 R6 r6 p6 => ?_
        cases r6 with
        | int n =>
          dsimp only at p6
          by_cases hn : 0 ≤ n ∧ n < 100000
          · rw [if_pos hn] at p6; exact ⟨n, rfl, hn.1, hn.2, p6 ρ6 H6 _ Ext.refl R6 (.int _)⟩
          · rw [if_neg hn] at p6; exact p6.elim
        | _ => exact p6.elim)) fun r s' hq => ?_)
      obtain ⟨z, H', I', rz, n, ez, hn1, hn2, qz⟩ := hq
      subst ez
      obtain ⟨tt, rfl⟩ := rz
      exact ⟨⟨hn1, by omega⟩, ⟨.int n, H', I'.tok _, ⟨_, rfl⟩, qz⟩⟩
end
end CI
namespace CI
open PySem PySem.Spec PyProof.Rows L2
/-- the module's name x: a def that keeps to the mirror m, its last arguments told by defaults -/
def CallT (G : Wd) (P : Program) (w : World) (mg : Str → Option Value) (base : Heap) (k : Nat) (x : Str) (m : MF) (dxs : List Val) : Prop :=
  ∃ f fd ps ds dvs, mg x = some (.ref f) ∧ PySem.W.keepIn G.K (.ref f) = true ∧ FnM G P w mg base k f fd ps m ∧ Ar ps.length m ∧ Binds G.K fd ps ds ∧ Vals dvs ds ∧ ∀ ρ H, RVs G ρ H dxs dvs
/-- the module's name x: the class c, its __init__ keeps to the mirror m -/
def MakeT (G : Wd) (P : Program) (w : World) (mg : Str → Option Value) (base : Heap) (k : Nat) (x : Str) (c : Nat) (m : MF) (dxs : List Val) : Prop :=
  ∃ f fd ps ds dvs, mg x = some (.ref (G.kap c)) ∧ Mk G.K (G.kap c) f ∧ FnM G P w mg base k f fd ps m ∧ Ar ps.length m ∧ Binds G.K fd ps ds ∧ Vals dvs ds ∧ ∀ ρ H, RVs G ρ H dxs dvs
/-- the method nm of the class c -/
def MethT (G : Wd) (P : Program) (w : World) (mg : Str → Option Value) (base : Heap) (k : Nat) (c : Nat) (nm : Str) (m : MF) (dxs : List Val) : Prop :=
  ∃ f fd ps ds dvs, SlX.SCls G.K (G.kap c) ∧ Meth G.K (G.kap c) nm f ∧ FnM G P w mg base k f fd ps m ∧ Ar ps.length m ∧ Binds G.K fd ps ds ∧ Vals dvs ds ∧ ∀ ρ H, RVs G ρ H dxs dvs
section
variable {X : Cx} {G : Wd} {W : CI.WX} {k : Nat} {m : MF} {dxs : List Val} {x : Str} {p pos : Pos} {e : Expr} {es : List Expr} {as : MA} {c : Nat}
theorem je_callT (C : CallT G X.prog X.w X.mg X.base k x m dxs) (hK : X.K = G.K) (tk : Takes X W) (hr : Room k X.A) (hg : Gl X x) (ha : PA X (e :: es) (tA G W as)) (hdb : (x == ("__debug__" : Str)) = false := by decide)
    (he : starEach (e :: es) X.env = (false, eval e X.env) :: starEach es X.env := by rfl) (hpl : (backTo pos (starEach es X.env)).any (·.1) = false := by rfl) : PE X (.Call (.Name x p) (e :: es) [] pos) (tE G W (eCall m dxs as)) := by
  obtain ⟨f, fd, ps, ds, dvs, h1, h2, h3, h4, h5, h6, h7⟩ := C
  exact je_call h3 hK h4 tk hr hg h1 (by rw [hK]; exact h2) (by rw [hK]; exact h5) h6 h7 ha hdb he hpl
theorem je_callT0 (C : CallT G X.prog X.w X.mg X.base k x m dxs) (hK : X.K = G.K) (tk : Takes X W) (hr : Room k X.A) (hg : Gl X x) (hdb : (x == ("__debug__" : Str)) = false := by decide) : PE X (.Call (.Name x p) [] [] pos) (tE G W (eCall m dxs aNil)) := by
  obtain ⟨f, fd, ps, ds, dvs, h1, h2, h3, h4, h5, h6, h7⟩ := C
  exact je_call0 h3 hK h4 tk hr hg h1 (by rw [hK]; exact h2) (by rw [hK]; exact h5) h6 h7 hdb
theorem je_makeT (C : MakeT G X.prog X.w X.mg X.base k x c m dxs) (hK : X.K = G.K) (tk : Takes X W) (hr : Room (k + 1) X.A) (hg : Gl X x) (ha : PA X (e :: es) (tA G W as)) (hdb : (x == ("__debug__" : Str)) = false := by decide)
    (he : starEach (e :: es) X.env = (false, eval e X.env) :: starEach es X.env := by rfl) (hpl : (backTo pos (starEach es X.env)).any (·.1) = false := by rfl) : PE X (.Call (.Name x p) (e :: es) [] pos) (tE G W (eMake c m dxs as)) := by
  obtain ⟨f, fd, ps, ds, dvs, h1, h2, h3, h4, h5, h6, h7⟩ := C
  exact je_make (by rw [hK]; exact h2) h3 hK h4 tk hr hg h1 (by rw [hK]; exact h5) h6 h7 ha hdb he hpl
theorem je_methT {o : Expr} {nm : Str} {apos : Pos} {mo : ME} {pl : Sem Bool} (C : MethT G X.prog X.w X.mg X.base k c nm m dxs) (hK : X.K = G.K) (tk : Takes X W) (hr : Room k X.A) (ho : PE X o (tE G W mo))
    (ha : PA X (e :: es) (tA G W as)) (hst : starEach (e :: es) X.env = (false, eval e X.env) :: starEach es X.env := by rfl) (hpl : (backTo pos (starEach es X.env)).any (·.1) = false := by rfl)
    (ht : eval (.Call (.Attribute o nm apos) (e :: es) [] pos) X.env = (do
      let ov ← eval o X.env
      standAt apos.atName
      let (f, first) ← holding [ov] (getMethod ov nm pl)
      callWith pos f first (backTo pos (starEach (e :: es) X.env)) (backToKw pos (keywordEach [] X.env))) := by rfl) :
    PE X (.Call (.Attribute o nm apos) (e :: es) [] pos) (tE G W (eMeth c m dxs mo as)) := by
  obtain ⟨f, fd, ps, ds, dvs, h1, h2, h3, h4, h5, h6, h7⟩ := C
  exact je_meth ho (by rw [hK]; exact h1) (by rw [hK]; exact h2) h3 hK h4 tk hr (by rw [hK]; exact h5) h6 h7 ha hst hpl ht
theorem je_methT0 {o : Expr} {nm : Str} {apos : Pos} {mo : ME} {pl : Sem Bool} (C : MethT G X.prog X.w X.mg X.base k c nm m dxs) (hK : X.K = G.K) (tk : Takes X W) (hr : Room k X.A) (ho : PE X o (tE G W mo))
    (ht : eval (.Call (.Attribute o nm apos) [] [] pos) X.env = (do
      let ov ← eval o X.env
      standAt apos.atName
      let (f, first) ← holding [ov] (getMethod ov nm pl)
      callWith pos f first (backTo pos (starEach [] X.env)) (backToKw pos (keywordEach [] X.env))) := by rfl) :
    PE X (.Call (.Attribute o nm apos) [] [] pos) (tE G W (eMeth c m dxs mo aNil)) := by
  obtain ⟨f, fd, ps, ds, dvs, h1, h2, h3, h4, h5, h6, h7⟩ := C
  exact je_meth0 ho (by rw [hK]; exact h1) (by rw [hK]; exact h2) h3 hK h4 tk hr (by rw [hK]; exact h5) h6 h7 ht
theorem je_gint {i : Int} (hg : Gl X x) (h : ∃ t, X.mg x = some (.int i t)) (hd : (x == ("__debug__" : Str)) = false := by decide) : PE X (.Name x pos) (tE G W (eC (.int i))) := by
  obtain ⟨t, h⟩ := h
  exact je_c (pe_glob hg h (show RelV (.int i) (.int i t) from ⟨t, rfl⟩) hd) fun _ _ => .int i
theorem je_gcst (hg : Gl X x) (h : X.mg x = some (.ref (G.kap c))) (hd : (x == ("__debug__" : Str)) = false := by decide) : PE X (.Name x pos) (tE G W (eC (.cst c))) :=
  je_c (pe_glob hg h (show RelV (.ref (G.kap c)) (.ref (G.kap c)) from rfl) hd) fun _ _ => .cst c
theorem je_gty {T : String} (hg : Gl X x) (hm : X.mg x = none) (hv : bootBuiltins x = some (.type T)) (hn : x ≠ "__name__" := by decide) (hd : (x == ("__debug__" : Str)) = false := by decide) : PE X (.Name x pos) (tE G W (eC (.ty T))) :=
  je_c (pe_bltn hg hm hv (show RelV (.ty T) (.type T) from rfl) hn hd) fun _ _ => .ty T
abbrev IT := Nat → Nat → Option Bool
structure ITok (G : Wd) (t : IT) : Prop where
  ok : ∀ c d b, t c d = some b → SlX.SCls G.K (G.kap c) ∧ SlX.SIsi G.K (G.kap c) ∧ PySem.W.kitOne G.K (.ref (G.kap c)) (.ref (G.kap d)) = some b
def fIsO (t : IT) : FN := fun xs h => match xs with
  | [v, .cst d] => match clsOf v h with
    | some c => (t c d).map fun b => (.bl b, h)
    | none => none
  | _ => none
theorem call_isO {t : IT} (hK : X.K = G.K) (ht : ITok G t) : CallR X (.builtin "isinstance") (rN G (fIsO t)) := by
  intro pins s σ H xs us Q I r h
  obtain ⟨ρ, hp, as, R, ra, p⟩ := h
  unfold fIsO at p
  split at p
  · rename_i v d
    cases ra with
    | cons r1 ra =>
      cases ra with
      | cons r2 ra =>
        cases ra
        cases r2
        cases e : clsOf v hp with
        | none => rw [e] at p; exact p.elim
        | some c =>
          rw [e] at p
          dsimp only at p
          cases eb : t c d with
          | none => rw [eb] at p; exact p.elim
          | some b =>
            rw [eb] at p
            obtain ⟨a, dx, vs, rfl, hs⟩ := clsOf_of R r1 e
            obtain ⟨h1, h2, h3⟩ := ht.ok _ _ _ eb
            refine SlX.call_isiSl (.ref (G.kap d)) pins s σ H _ us Q I r ⟨a, _, dx, vs, _, b, rfl, rfl, fun w q => q, hs, by rw [hK]; exact h1, by rw [hK]; exact h2, by rw [hK]; exact h3, ?_⟩
            exact p ρ H _ Ext.refl R (.bl b)
  · exact p.elim
end
structure ExcT (G : Wd) (mg : Str → Option Value) (x : Str) (c : Nat) : Prop where
  mg : mg x = some (.ref (G.kap c))
  ex : PySem.W.excIn G.K (G.kap c) He.veBase "ValueError.__new__" = true
  kp : PySem.W.keepIn G.K (.ref (G.kap c)) = true
  sub : PySem.W.subIn G.K (.ref (G.kap c)) (.type "BaseException") = some true
  ty : PySem.W.typeIn G.K (.ref (G.kap c)) = some (.type "type")
def sRaise0 (c : Nat) : MS := fun env h => .ex ⟨c, none⟩ env h
/-- what an except clause takes -/
abbrev XT := Nat → Option Bool
structure XTok (G : Wd) (d : Value) (t : XT) : Prop where
  ok : ∀ c b, t c = some b → PySem.W.exmOne G.K (.ref (G.kap c)) d = some b
def noexS : SR → SR
  | .ex _ _ _ => .stuck
  | r => r
def sTry (t : XT) (mb ms : MS) : MS := fun env h => match mb env h with
  | .ex x env1 h1 => match t x.cls with
    | some true => noexS (ms env1 h1)
    | some false => .ex x env1 h1
    | none => .stuck
  | r => r
section
variable {X : Cx} {G : Wd} {W : CI.WX} {x : Str} {p pos : Pos} {c : Nat}
theorem js_raise0 {msg : Str} {j : Nat} {p2 p3 : Pos} (T : ExcT G X.mg x c) (hK : X.K = G.K) (hc : X.calm = true) (tk : Takes X W) (hg : Gl X x) (hdb : (x == ("__debug__" : Str)) = false := by decide) :
    PS X (.Raise (some (.Call (.Name x p) [.Constant (.str msg) j p2] [] p3)) none pos) (tS G W (sRaise0 c)) := by
  have h := ps_raise (pos := pos) hc tk (pmk_own (X := X) (x := x) (m := msg) (j := j) (p := p) (p2 := p2) (pos := p3) F.excBase_ValueError (by rw [hK]; exact T.ex) T.mg (by rw [hK]; exact T.kp) (raises_own (by rw [hK]; exact T.sub) (by rw [hK]; exact T.ty)) hg hdb)
  exact psI h fun D σ H ⟨ρ, env, hp, re, rh, q⟩ => q ρ H σ _ none Ext.refl rh re ⟨rfl, rfl⟩
theorem PostS.noex {ρ : List Addr} {H : Hp} {D : Ends} {r : SR} (h : PostS G ρ H W D (noexS r)) : PostS G ρ H WF D r := by
  cases r with
  | ex x env hp => exact h.elim
  | nx env hp => exact h
  | rt env hp => exact h
  | bk env hp => exact h
  | ct env hp => exact h
  | stuck => exact h
theorem js_try {cl : Value} {t : XT} {body suite : List Stmt} {b0 : Stmt} {np pos' : Pos} {mb ms : MS} (hK : X.K = G.K) (hs : X.stack = X.env :: X.outer) (hf : X.env.frame = some X.env.locals) (hc : Names X x cl) (ht : XTok G cl t) (tk : Takes X W)
    (hb : ∀ (W' : CI.WX) (pn : List (Addr × Obj)) (xe : Value → Shared → Prop), Takes (X.tr pn xe) W' → PassesOwn (model X.prog X.w) X.A X.env xe → PSs (X.tr pn xe) body (tS G W' mb))
    (hsu : ∀ (a : Addr) (oe : Obj) (pn : List (Addr × Obj)), PSs (X.suite a ((a, oe) :: pn)) (b0 :: suite) (tS G WF ms)) :
    PS X (.Try body [.ExceptHandler (some (.Name x np)) none (b0 :: suite) pos'] [] [] pos) (tS G W (sTry t mb ms)) := by
  refine psI (ps_try_only (tb := fun W' => tS G W' mb) (ts := fun _ _ _ => tS G WF ms) hs hf hc tk hb (fun a oe cls d pn _ _ => hsu a oe pn)) fun D σ H ⟨ρ, env, hp, re, rh, q⟩ => ⟨ρ, env, hp, re, rh, ?_⟩
  unfold sTry at q
  cases e : mb env hp with
  | nx env1 h1 => rw [e] at q; exact q
  | rt env1 h1 => rw [e] at q; exact q
  | bk env1 h1 => rw [e] at q; exact q
  | ct env1 h1 => rw [e] at q; exact q
  | stuck => rw [e] at q; exact q
  | ex z env1 h1 =>
    rw [e] at q
    dsimp only at q
    intro ρ' H' σ' cls d e1 R1 re1 rx
    obtain ⟨rfl, rd⟩ := rx
    cases et : t z.cls with
    | none => rw [et] at q; exact q.elim
    | some b =>
      rw [et] at q
      refine ⟨b, by rw [hK]; exact ht.ok _ _ et, fun hb1 a ha => ?_, fun hb1 => ?_⟩
      · subst hb1
        exact ⟨ρ', env1, h1, re1, R1, PostS.noex (PostS.mono e1 q)⟩
      · subst hb1
        exact q ρ' H' σ' _ d e1 R1 re1 ⟨rfl, rd⟩
end
end CI
namespace CI
open PySem PySem.Spec PyProof.Rows L2 RZ
theorem OwnM.up {G : Wd} {P : Program} {w : World} {mg : Str → Option Value} {base : Heap} {j k c : Nat} {nm : Str} {m : MF} (h : OwnM G P w mg base j c nm m) (hl : j ≤ k) : OwnM G P w mg base k c nm m := by
  obtain ⟨f, fd, ps, h1, h2, h3, h4, h5, h6⟩ := h.ex
  exact ⟨f, fd, ps, h1, h2, h3, ⟨h4.len, fun A o s H a us vs Q E hr => h4.run A o s H a us vs Q E (hr.mono hl)⟩, h5, h6⟩
def fNo : F2 := fun _ _ _ => none
theorem op_noM {X : Cx} {G : Wd} {o : Value → Value → Sem Value} : OpR X o (r2 G fNo) := by
  intro pins s σ H x y v u Q I rx ry ⟨ρ, h, a, b, R, ra, rb, p⟩
  exact p.elim
theorem lenA {a : ME} {as : MA} {n : Nat} (h : ∀ env h vs h1, as env h = .ok vs h1 → vs.length = n) : ∀ env h vs h1, aCons a as env h = .ok vs h1 → vs.length = n + 1 := by
  intro env hp vs h1 e
  unfold aCons at e
  cases q : a env hp with
  | ok x h2 =>
    rw [q] at e
    simp only [Res.bind] at e
    cases q2 : as env h2 with
    | ok xs h3 =>
      rw [q2] at e
      cases e
      simp [h _ _ _ _ q2]
    | ex _ _ => rw [q2] at e; cases e
    | stuck => rw [q2] at e; cases e
  | ex _ _ => rw [q] at e; cases e
  | stuck => rw [q] at e; cases e
theorem len0 : ∀ env h vs h1, aNil env h = .ok vs h1 → vs.length = 0 := fun _ _ _ _ e => by cases e; rfl
theorem len1 {a : ME} : ∀ env h vs h1, aCons a aNil env h = .ok vs h1 → vs.length = 1 := lenA len0
theorem len2 {a b : ME} : ∀ env h vs h1, aCons a (aCons b aNil) env h = .ok vs h1 → vs.length = 2 := lenA len1
def inD (a b : Val) (h : AH) : Option Bool := match toD h 66 a, toD h 66 b with
  | some d, some (.list ds) => if SeqAt.shaped d && SeqAt.shaped (.list ds) then some (ds.any fun z => PyData.eqv z d) else none
  | some d, some (.tuple ds) => if SeqAt.shaped d && SeqAt.shaped (.tuple ds) then some (ds.any fun z => PyData.eqv z d) else none
  | _, _ => none
def fIn : F2 := fun a b h => (inD a b h).map fun c => (.bl c, h)
def fNotIn : F2 := fun a b h => (inD a b h).map fun c => (.bl (!c), h)
section
variable {X : Cx} {G : Wd} {W : CI.WX}
theorem inD_of {ρ : List Addr} {H : Hp} {h : AH} {a b : Val} {x y : V} {c : Bool} (R : RH G ρ h H) (ra : RV G ρ H a x) (rb : RV G ρ H b y) (e : inD a b h = some c) :
    ∃ d ds, Dp G.K H x d ∧ SeqAt.shaped d = true ∧ (ds.any fun z => PyData.eqv z d) = c ∧ ((Dp G.K H y (.list ds) ∧ SeqAt.shaped (.list ds) = true) ∨ (Dp G.K H y (.tuple ds) ∧ SeqAt.shaped (.tuple ds) = true)) := by
  unfold inD at e
  cases q1 : toD h 66 a with
  | none => rw [q1] at e; cases e
  | some d =>
    cases q2 : toD h 66 b with
    | none => rw [q1, q2] at e; cases e
    | some d' =>
      rw [q1, q2] at e
      cases d' with
      | list ds =>
        dsimp only at e
        by_cases hs : (SeqAt.shaped d && SeqAt.shaped (.list ds)) = true
        · rw [if_pos hs] at e
          cases e
          obtain ⟨h1, h2⟩ := Bool.and_eq_true_iff.mp hs
          exact ⟨d, ds, toD_dp R _ _ _ _ ra q1, h1, rfl, .inl ⟨toD_dp R _ _ _ _ rb q2, h2⟩⟩
        · rw [if_neg hs] at e; cases e
      | tuple ds =>
        dsimp only at e
        by_cases hs : (SeqAt.shaped d && SeqAt.shaped (.tuple ds)) = true
        · rw [if_pos hs] at e
          cases e
          obtain ⟨h1, h2⟩ := Bool.and_eq_true_iff.mp hs
          exact ⟨d, ds, toD_dp R _ _ _ _ ra q1, h1, rfl, .inr ⟨toD_dp R _ _ _ _ rb q2, h2⟩⟩
        · rw [if_neg hs] at e; cases e
      | _ => cases e
theorem Room.units65 {k : Nat} {A : Around} (r : Room k A) : A.units + 65 < cLine := by have := r.un; omega
theorem op_inM {k : Nat} (hK : X.K = G.K) (hr : Room k X.A) : OpR X (compareOp .In) (r2 G fIn) := by
  have hu := Room.units65 hr
  intro pins s σ H x y v u Q I rx ry ⟨ρ, h, a, b, R, ra, rb, p⟩
  unfold fIn at p
  cases e : inD a b h with
  | none => rw [e] at p; exact p.elim
  | some c =>
    rw [e] at p
    have q := p ρ H _ Ext.refl R (.bl c)
    obtain ⟨d, ds, h1, h2, h3, h4⟩ := inD_of R ra rb e
    rw [← hK] at h1 h4
    obtain ⟨as, r1⟩ := Dp.reads I d x v h1 rx
    rcases h4 with ⟨h4, h5⟩ | ⟨h4, h5⟩
    · obtain ⟨bs, r2⟩ := Dp.reads I (.list ds) y u h4 ry
      exact SeqAt.in_list_reads r2 r1 (SeqAt.canLay_of_shaped h5) (SeqAt.canLay_of_shaped h2) (room_in_shaped h2 hu) ⟨.bl _, H, I, rfl, by rw [h3]; exact q⟩
    · obtain ⟨bs, r2⟩ := Dp.reads I (.tuple ds) y u h4 ry
      exact SeqAt.in_tuple_reads r2 r1 (SeqAt.canLay_of_shaped h5) (SeqAt.canLay_of_shaped h2) (room_in_shaped h2 hu) ⟨.bl _, H, I, rfl, by rw [h3]; exact q⟩
theorem op_notInM {k : Nat} (hK : X.K = G.K) (hr : Room k X.A) : OpR X (compareOp .NotIn) (r2 G fNotIn) := by
  have hu := Room.units65 hr
  intro pins s σ H x y v u Q I rx ry ⟨ρ, h, a, b, R, ra, rb, p⟩
  unfold fNotIn at p
  cases e : inD a b h with
  | none => rw [e] at p; exact p.elim
  | some c =>
    rw [e] at p
    have q := p ρ H _ Ext.refl R (.bl _)
    obtain ⟨d, ds, h1, h2, h3, h4⟩ := inD_of R ra rb e
    rw [← hK] at h1 h4
    obtain ⟨as, r1⟩ := Dp.reads I d x v h1 rx
    rcases h4 with ⟨h4, h5⟩ | ⟨h4, h5⟩
    · obtain ⟨bs, r2⟩ := Dp.reads I (.list ds) y u h4 ry
      exact SeqAt.notIn_list_reads r2 r1 (SeqAt.canLay_of_shaped h5) (SeqAt.canLay_of_shaped h2) (room_in_shaped h2 hu) ⟨.bl _, H, I, rfl, by rw [h3]; exact q⟩
    · obtain ⟨bs, r2⟩ := Dp.reads I (.tuple ds) y u h4 ry
      exact SeqAt.notIn_tuple_reads r2 r1 (SeqAt.canLay_of_shaped h5) (SeqAt.canLay_of_shaped h2) (room_in_shaped h2 hu) ⟨.bl _, H, I, rfl, by rw [h3]; exact q⟩
def fTup : FN := fun xs h => match xs with
  | [v] => (items v h).map fun ys => (.tup ys, h)
  | _ => none
def fList : FN := fun xs h => match xs with
  | [v] => (items v h).map fun ys => (.ref h.length, h ++ [.lst ys])
  | _ => none
theorem call_tupM (hK : X.K = G.K) : CallR X (.type "tuple") (rN G fTup) := by
  intro pins s σ H xs us Q I r ⟨ρ, hp, as, R, ra, p⟩
  unfold fTup at p
  split at p
  · rename_i v
    cases ra with
    | cons r1 ra =>
      cases ra
      cases e : items v hp with
      | none => rw [e] at p; exact p.elim
      | some ys =>
        rw [e] at p
        obtain ⟨a, vs, rfl, hs, rs⟩ := items_of R r1 e
        rw [← hK] at hs
        refine call_tuple_of pins s σ H _ us Q I r ⟨a, vs, rfl, ?_⟩
        rcases hs with hs | hs
        · exact .inl ⟨hs, fun l hl => new_tup R rs p l hl⟩
        · exact .inr ⟨hs, p ρ H _ Ext.refl R (.tup (by rw [← hK]; exact hs) rs)⟩
  · exact p.elim
theorem call_listM (hK : X.K = G.K) : CallR X (.type "list") (rN G fList) := by
  intro pins s σ H xs us Q I r ⟨ρ, hp, as, R, ra, p⟩
  unfold fList at p
  split at p
  · rename_i v
    cases ra with
    | cons r1 ra =>
      cases ra
      cases e : items v hp with
      | none => rw [e] at p; exact p.elim
      | some ys =>
        rw [e] at p
        obtain ⟨a, vs, rfl, hs, rs⟩ := items_of R r1 e
        rw [← hK] at hs
        exact call_list_of pins s σ H _ us Q I r ⟨a, vs, rfl, hs, fun l hl => new_lst R rs p l hl⟩
  · exact p.elim
def zipT : List Val → List Val → List Val
  | x :: xs, y :: ys => .tup [x, y] :: zipT xs ys
  | _, _ => []
theorem zipT_get : ∀ (xs ys : List Val) (i : Nat), (zipT xs ys)[i]? = (match xs[i]?, ys[i]? with | some x, some y => some (.tup [x, y]) | _, _ => none)
  | [], ys, i => by simp [zipT]
  | x :: xs, [], i => by
    simp only [zipT, List.getElem?_nil]
    cases (x :: xs)[i]? <;> rfl
  | x :: xs, y :: ys, 0 => by simp [zipT]
  | x :: xs, y :: ys, i + 1 => by
    simp only [zipT, List.getElem?_cons_succ]
    exact zipT_get xs ys i
def iZip (as : MA) : MI := fun env h => (as env h).bind fun vs h1 => match vs with
  | [.tup xs, .tup ys] => .ok (.vals (zipT xs ys)) h1
  | _ => .stuck
theorem irel_zip {ρ : List Addr} {H : Hp} {a b : Addr} {xs ys : List Val} {vs ws : List V} (hs : SqT G.K H a vs) (hs2 : SqT G.K H b ws) (r : RVs G ρ H xs vs) (r2 : RVs G ρ H ys ws) : IRel G ρ H (.vals (zipT xs ys)) (ItzT G.K a b) := by
  intro ρ' H' h' e R i
  have hs' := e.tup _ _ hs
  have hs2' := e.tup _ _ hs2
  have r' := r.kp e
  have r2' := r2.kp e
  show match some (zipT xs ys)[i]? with | some none => _ | some (some x) => _ | none => _
  rw [zipT_get]
  cases q : xs[i]? with
  | none =>
    refine ⟨vs, ws, hs', hs2', .inl ?_⟩
    rw [← r.length]
    exact List.getElem?_eq_none_iff.mp q
  | some x =>
    cases q2 : ys[i]? with
    | none =>
      refine ⟨vs, ws, hs', hs2', .inr ?_⟩
      rw [← r2.length]
      exact List.getElem?_eq_none_iff.mp q2
    | some y =>
      obtain ⟨v, hv, rv⟩ := r'.get q
      obtain ⟨w, hw, rw'⟩ := r2'.get q2
      refine ⟨⟨vs, ws, v, w, hs', hs2', hv, hw⟩, fun z H2 hz => ?_⟩
      obtain ⟨T, x', y', rfl, hT, rfl, f1, f2⟩ := hz
      have e1 := f1 vs hs'
      rw [hv] at e1; cases e1
      have e2 := f2 ws hs2'
      rw [hw] at e2; cases e2
      exact ⟨Ext.fresh R hT, R.fresh hT, .tup (SqT.of upd_same) (.cons (rv.kp (Ext.fresh R hT).kp) (.cons (rw'.kp (Ext.fresh R hT).kp) .nil))⟩
theorem ji_zip {e e2 : Expr} {as : MA} {p pos tpos : Pos} {elts : List Expr} {kk : Nat} (hK : X.K = G.K) (hg : Gl X "zip") (hm : X.mg "zip" = none) (ha : PA X [e, e2] (tA G W as))
    (hs : starEach [e, e2] X.env = (false, eval e X.env) :: starEach [e2] X.env := by rfl) (hpl : (backTo pos (starEach [e2] X.env)).any (·.1) = false := by rfl) :
    PI X (.Tuple elts kk tpos) (.Call (.Name "zip" p) [e, e2] [] pos) (tI G W (iZip as)) :=
  piI (pi_zipA hg hm ha hs hpl) fun σ H R ⟨ρ, env, hp, re, rh, q⟩ => ⟨ρ, env, hp, re, rh, Post.bind q fun vs h1 ρ1 H1 ys eq e1 R1 rxs p1 => by
    split at p1
    · rename_i xs zs
      cases rxs with
      | cons r rs =>
        cases rs with
        | cons r' rs =>
          cases rs
          cases r with
          | tup hs1 rs1 =>
            cases r' with
            | tup hs2 rs2 =>
              rename_i a vs b ws
              refine ⟨a, b, vs, ws, rfl, .inr ⟨by rw [hK]; exact hs1, by rw [hK]; exact hs2, ?_⟩⟩
              rw [hK]
              exact p1 ρ1 H1 _ Ext.refl R1 (irel_zip hs1 hs2 rs1 rs2)
    · exact p1.elim⟩
def rgA (i j : Int) : List Val := (List.range (j - i).toNat).map fun k => Val.int (i + (k : Nat))
theorem rgA_of {ρ : List Addr} {H : Hp} (i j : Int) : RVs G ρ H (rgA i j) (rgV i j) := by
  unfold rgA rgV
  generalize (List.range (j - i).toNat) = l
  induction l with
  | nil => exact .nil
  | cons x l ih => exact .cons (.int _) ih
def eLstRg (as : MA) : ME := fun env h => (as env h).bind fun vs h1 => match vs with
  | [.int j] => if 0 ≤ j ∧ j ≤ 100000 then .ok (.ref h1.length) (h1 ++ [.lst (rgA 0 j)]) else .stuck
  | _ => .stuck
theorem je_listRg {a : Expr} {ma : ME} {p pos p2 pos2 : Pos} (hc : X.calm = true) (hg : Gl X "list") (hm : X.mg "list" = none) (hg2 : Gl X "range") (hm2 : X.mg "range" = none) (ha : PE X a (tE G W ma))
    (na : starEach [a] X.env = (false, eval a X.env) :: starEach [] X.env := by rfl) (na2 : starEach [.Call (.Name "range" p2) [a] [] pos2] X.env = (false, eval (.Call (.Name "range" p2) [a] [] pos2) X.env) :: starEach [] X.env := by rfl) :
    PE X (.Call (.Name "list" p) [.Call (.Name "range" p2) [a] [] pos2] [] pos) (tE G W (eLstRg (aCons ma aNil))) := by
  refine peI (pe_listRg hc hg hm (prg_1 hg2 hm2 ha na) na2) fun σ H Q ⟨ρ, env, hp, re, rh, q⟩ => ⟨ρ, env, hp, re, rh, ?_⟩
  unfold eLstRg aCons at q
  cases e : ma env hp with
  | stuck => rw [e] at q; exact q.elim
  | ex x h1 => rw [e] at q; exact q
  | ok v h1 =>
    rw [e] at q
    intro ρ1 H1 y e1 R1 ry
    have q : Post (RV G) G ρ H W σ Q (match [v] with | [.int j] => if 0 ≤ j ∧ j ≤ 100000 then .ok (.ref h1.length) (h1 ++ [.lst (rgA 0 j)]) else .stuck | _ => .stuck) := q
    cases ry with
    | int j =>
      dsimp only at q
      by_cases hj : 0 ≤ j ∧ j ≤ 100000
      · rw [if_pos hj] at q
        refine ⟨j, rfl, RgOk.of_le (by omega) (by omega) (by omega) (by omega), fun l hl => ?_⟩
        exact q (ρ1 ++ [l]) _ _ (e1.trans (Ext.snoc R1 hl)) (R1.snoc hl ⟨_, upd_same, (rgA_of 0 j).kp (Ext.snoc R1 hl).kp⟩) (.ref (at_end R1.len))
      · rw [if_neg hj] at q; exact q.elim
    | _ => exact q.elim
end
end CI
namespace CI
open PySem PySem.Spec PyProof.Rows L2
def pairA : Val → Option (Int × Int)
  | .tup [.int a, .int b] => if 0 ≤ a ∧ a < 64 ∧ 0 ≤ b ∧ b < 64 then some (a, b) else none
  | _ => none
def pairsA : List Val → Option (List (Int × Int))
  | [] => some []
  | x :: xs => match pairA x, pairsA xs with
    | some p, some ps => some (p :: ps)
    | _, _ => none
def valP (p : Int × Int) : Val := .tup [.int p.1, .int p.2]
def keyP (p : Int × Int) : Int := p.1 * 64 + p.2
def insP (p : Int × Int) : List (Int × Int) → List (Int × Int)
  | [] => [p]
  | q :: r => if keyP p ≤ keyP q then p :: q :: r else q :: insP p r
def sortP : List (Int × Int) → List (Int × Int)
  | [] => []
  | p :: r => insP p (sortP r)
def ddP : List (Int × Int) → List (Int × Int)
  | [] => []
  | p :: r => if p ∈ r then ddP r else p :: ddP r
def InB (p : Int × Int) : Prop := 0 ≤ p.1 ∧ p.1 < 64 ∧ 0 ≤ p.2 ∧ p.2 < 64
theorem insP_perm (p : Int × Int) : ∀ l, (insP p l).Perm (p :: l)
  | [] => .refl _
  | q :: r => by
    unfold insP
    split
    · exact .refl _
    · exact ((insP_perm p r).cons q).trans (.swap p q r)
theorem sortP_perm : ∀ l, (sortP l).Perm l
  | [] => .refl _
  | p :: r => (insP_perm p _).trans ((sortP_perm r).cons p)
theorem insP_sorted (p : Int × Int) : ∀ l : List (Int × Int), l.Pairwise (fun a b => keyP a ≤ keyP b) → (insP p l).Pairwise (fun a b => keyP a ≤ keyP b)
  | [], _ => by simp [insP]
  | q :: r, h => by
    obtain ⟨h1, h2⟩ := List.pairwise_cons.mp h
    unfold insP
    split
    · rename_i hle
      refine List.pairwise_cons.mpr ⟨fun b hb => ?_, h⟩
      rcases List.mem_cons.mp hb with rfl | hb
      · exact hle
      · exact Int.le_trans hle (h1 b hb)
    · rename_i hle
      refine List.pairwise_cons.mpr ⟨fun b hb => ?_, insP_sorted p r h2⟩
      rcases List.mem_cons.mp ((insP_perm p r).mem_iff.mp hb) with rfl | hb
      · omega
      · exact h1 b hb
theorem sortP_sorted : ∀ l, (sortP l).Pairwise (fun a b => keyP a ≤ keyP b)
  | [] => .nil
  | p :: r => insP_sorted p _ (sortP_sorted r)
theorem keyP_inj {p q : Int × Int} (hp : InB p) (hq : InB q) (h : keyP p = keyP q) : p = q := by
  obtain ⟨a, b⟩ := p
  obtain ⟨c, d⟩ := q
  simp only [InB, keyP] at *
  have : a = c := by omega
  have : b = d := by omega
  simp [*]
theorem sorted_eq : ∀ {l m : List (Int × Int)}, (∀ p ∈ l, InB p) → l.Perm m → l.Pairwise (fun a b => keyP a ≤ keyP b) → m.Pairwise (fun a b => keyP a ≤ keyP b) → l = m
  | [], m, _, h, _, _ => (List.nil_perm.mp h).symm
  | a :: l, [], _, h, _, _ => absurd h.length_eq (by simp)
  | a :: l, b :: m, hb, h, h1, h2 => by
    obtain ⟨p1, p2⟩ := List.pairwise_cons.mp h1
    obtain ⟨q1, q2⟩ := List.pairwise_cons.mp h2
    have ba : b ∈ a :: l := h.mem_iff.mpr List.mem_cons_self
    have ab : a ∈ b :: m := h.mem_iff.mp List.mem_cons_self
    have k1 : keyP a ≤ keyP b := by
      rcases List.mem_cons.mp ba with rfl | z
      · exact Int.le_refl _
      · exact p1 b z
    have k2 : keyP b ≤ keyP a := by
      rcases List.mem_cons.mp ab with rfl | z
      · exact Int.le_refl _
      · exact q1 a z
    have e : a = b := keyP_inj (hb a List.mem_cons_self) (hb b ba) (by omega)
    subst e
    rw [sorted_eq (fun p hp => hb p (List.mem_cons_of_mem _ hp)) (List.Perm.cons_inv h) p2 q2]
theorem ddP_mem {p : Int × Int} : ∀ {l : List (Int × Int)}, p ∈ ddP l ↔ p ∈ l
  | [] => by simp [ddP]
  | q :: r => by
    unfold ddP
    split
    · rename_i h
      rw [ddP_mem]
      constructor
      · exact fun z => List.mem_cons_of_mem _ z
      · intro z
        rcases List.mem_cons.mp z with rfl | z
        · exact h
        · exact z
    · rw [List.mem_cons, List.mem_cons, ddP_mem]
theorem ddP_nodup : ∀ l : List (Int × Int), (ddP l).Nodup
  | [] => .nil
  | q :: r => by
    unfold ddP
    split
    · exact ddP_nodup r
    · rename_i h
      exact List.nodup_cons.mpr ⟨fun z => h (ddP_mem.mp z), ddP_nodup r⟩
theorem nodup_perm : ∀ {l m : List (Int × Int)}, l.Nodup → m.Nodup → (∀ p, p ∈ l ↔ p ∈ m) → l.Perm m := fun h1 h2 h => (List.perm_ext_iff_of_nodup h1 h2).mpr h
theorem pairsA_bd : ∀ {xs : List Val} {ps : List (Int × Int)}, pairsA xs = some ps → xs = ps.map valP ∧ ∀ p ∈ ps, InB p
  | [], ps, e => by cases e; exact ⟨rfl, fun _ h => absurd h (by simp)⟩
  | x :: xs, ps, e => by
    unfold pairsA at e
    cases q1 : pairA x with
    | none => rw [q1] at e; cases e
    | some p =>
      cases q2 : pairsA xs with
      | none => rw [q1, q2] at e; cases e
      | some r =>
        rw [q1, q2] at e
        cases e
        obtain ⟨rfl, h2⟩ := pairsA_bd q2
        have h3 : x = valP p ∧ InB p := by
          unfold pairA at q1
          split at q1
          · split at q1
            · cases q1
              exact ⟨rfl, by assumption⟩
            · cases q1
          · cases q1
        refine ⟨by rw [h3.1]; rfl, fun z hz => ?_⟩
        rcases List.mem_cons.mp hz with rfl | hz
        · exact h3.2
        · exact h2 z hz
section
variable {X : Cx} {G : Wd} {W : CI.WX} {ρ : List Addr} {H : Hp}
theorem RV.pair {p : Int × Int} {x : V} (r : RV G ρ H (valP p) x) : ∃ t, x = .ref t ∧ SqT G.K H t ([p.1, p.2].map V.int) := by
  unfold valP at r
  cases r with
  | tup hs rs =>
    rename_i a vs
    cases rs with
    | cons r1 rs =>
      cases rs with
      | cons r2 rs =>
        cases rs
        cases r1
        cases r2
        exact ⟨a, rfl, hs⟩
theorem RV.pair_of {p : Int × Int} {t : Addr} (h : SqT G.K H t ([p.1, p.2].map V.int)) : RV G ρ H (valP p) (.ref t) := .tup h (.cons (.int _) (.cons (.int _) .nil))
/-- a permutation on the right is one on the left -/
theorem RVs.perm {ys xs : List V} (h : ys.Perm xs) : ∀ {ps : List (Int × Int)}, RVs G ρ H (ps.map valP) xs → ∃ qs : List (Int × Int), qs.Perm ps ∧ RVs G ρ H (qs.map valP) ys := by
  induction h with
  | nil =>
    intro ps r
    cases ps with
    | nil => exact ⟨[], .refl _, .nil⟩
    | cons p ps => cases r
  | cons x _ ih =>
    intro ps r
    cases ps with
    | nil => cases r
    | cons p ps =>
      cases r with
      | cons r1 r2 =>
        obtain ⟨qs, h1, h2⟩ := ih r2
        exact ⟨p :: qs, h1.cons p, .cons r1 h2⟩
  | swap x y l =>
    intro ps r
    cases ps with
    | nil => cases r
    | cons p ps =>
      cases r with
      | cons r1 r2 =>
        cases ps with
        | nil => cases r2
        | cons q ps =>
          cases r2 with
          | cons r2 r3 => exact ⟨q :: p :: ps, .swap p q ps, .cons r2 (.cons r1 r3)⟩
  | trans _ _ ih1 ih2 =>
    intro ps r
    obtain ⟨qs, h1, h2⟩ := ih2 r
    obtain ⟨rs, h3, h4⟩ := ih1 h2
    exact ⟨rs, h3.trans h1, h4⟩
theorem code64 (p : Int × Int) : TS.code 64 [p.1, p.2] = keyP p := code_pair p.1 p.2
theorem bd64 {p : Int × Int} (h : InB p) : TS.Bd 64 [p.1, p.2] := by
  obtain ⟨h1, h2, h3, h4⟩ := h
  intro m hm
  rcases List.mem_cons.mp hm with rfl | hm
  · exact ⟨h1, h2⟩
  · rcases List.mem_cons.mp hm with rfl | hm
    · exact ⟨h3, h4⟩
    · cases hm
theorem RVs.sorted : ∀ {qs : List (Int × Int)} {ys : List V}, RVs G ρ H (qs.map valP) ys → ys.Pairwise (fun x y => ∀ n m, TupI G.K H x n → TupI G.K H y m → TS.code 64 n ≤ TS.code 64 m) → qs.Pairwise (fun a b => keyP a ≤ keyP b)
  | [], _, _, _ => .nil
  | p :: qs, _, .cons r1 r2, h => by
    obtain ⟨h1, h2⟩ := List.pairwise_cons.mp h
    refine List.pairwise_cons.mpr ⟨fun q hq => ?_, RVs.sorted r2 h2⟩
    obtain ⟨t, rfl, ht⟩ := RV.pair r1
    have : ∀ {qs : List (Int × Int)} {ys : List V}, RVs G ρ H (qs.map valP) ys → q ∈ qs → ∃ y ∈ ys, RV G ρ H (valP q) y := by
      intro qs
      induction qs with
      | nil => intro ys _ hq; cases hq
      | cons a qs ih =>
        intro ys r hq
        cases r with
        | cons ra rb =>
          rcases List.mem_cons.mp hq with rfl | hq
          · exact ⟨_, List.mem_cons_self, ra⟩
          · obtain ⟨y, hy, ry⟩ := ih rb hq
            exact ⟨y, List.mem_cons_of_mem _ hy, ry⟩
    obtain ⟨y, hy, ry⟩ := this r2 hq
    obtain ⟨t', rfl, ht'⟩ := RV.pair ry
    have := h1 _ hy [p.1, p.2] [q.1, q.2] ⟨t, rfl, ht⟩ ⟨t', rfl, ht'⟩
    rwa [code64, code64] at this
/-- sorted(xs), xs a list of pairs -/
def fSorted : FN := fun xs h => match xs with
  | [v] => match v with
    | .ref r => match h[r]? with
      | some (.lst ys) => match pairsA ys with
        | some ps => if ps.length < 64 then some (.ref h.length, h ++ [.lst ((sortP ps).map valP)]) else none
        | none => none
      | _ => none
    | _ => none
  | _ => none
theorem call_sortedM (hK : X.K = G.K) (hu : X.A.units + 64 < cLine) : CallR X (.builtin "sorted") (rN G fSorted) := by
  intro pins s σ H xs us Q I r ⟨ρ, hp, as, R, ra, p⟩
  unfold fSorted at p
  split at p
  · rename_i v
    cases ra with
    | cons r1 ra =>
      cases ra
      cases r1 with
      | ref hr =>
        rename_i n a
        dsimp only at p
        cases e : hp[n]? with
        | none => rw [e] at p; exact p.elim
        | some o =>
          rw [e] at p
          cases o with
          | lst ys =>
            dsimp only at p
            cases e2 : pairsA ys with
            | none => rw [e2] at p; exact p.elim
            | some ps =>
              rw [e2] at p
              dsimp only at p
              by_cases hl : ps.length < 64
              · rw [if_pos hl] at p
                obtain ⟨vs, hs, rs⟩ := R.obj _ _ _ e hr
                obtain ⟨rfl, hb⟩ := pairsA_bd e2
                refine cr_sortT (d := 2) (B := 64) (by decide) pins s σ H _ us Q I r ⟨a, vs, rfl, SqL.of hs, ?_, fun x hx => ?_, fun zs q hz hpw hq => ?_⟩
                · rw [← rs.length, List.length_map]; exact hl
                · have : ∀ {ps : List (Int × Int)} {vs : List V}, RVs G ρ H (ps.map valP) vs → x ∈ vs → ∃ p ∈ ps, RV G ρ H (valP p) x := by
                    intro ps
                    induction ps with
                    | nil => intro vs r hx; cases r; cases hx
                    | cons a ps ih =>
                      intro vs r hx
                      cases r with
                      | cons ra rb =>
                        rcases List.mem_cons.mp hx with rfl | hx
                        · exact ⟨a, List.mem_cons_self, ra⟩
                        · obtain ⟨y, hy, ry⟩ := ih rb hx
                          exact ⟨y, List.mem_cons_of_mem _ hy, ry⟩
                  obtain ⟨p', hp', rp⟩ := this rs hx
                  obtain ⟨t, rfl, ht⟩ := RV.pair rp
                  exact ⟨[p'.1, p'.2], ⟨t, rfl, by rw [hK]; exact ht⟩, rfl, bd64 (hb p' hp')⟩
                · obtain ⟨qs, h1, h2⟩ := RVs.perm hz rs
                  have h3 := RVs.sorted h2 (by rw [hK] at hpw; exact hpw)
                  have h4 : qs = sortP ps := sorted_eq (fun p hp => hb p (h1.mem_iff.mp hp)) (h1.trans (sortP_perm ps).symm) h3 (sortP_sorted ps)
                  rw [h4] at h2
                  exact new_lst R h2 p q hq
              · rw [if_neg hl] at p; exact p.elim
          | _ => exact p.elim
      | _ => exact p.elim
  · exact p.elim
end
end CI
namespace CI
open PySem PySem.Spec PyProof.Rows L2
section
variable {P : Program} {w : World} {A : Around} {E : Value → Shared → Prop} {s : Shared}
/-- the set that is being filled -/
abbrev newSet (w : World) : Obj := { cls := .type "set", dict := none, data := .set #[] 0 (.fresh 0 0 (!w.params.followText "set-order")) }
/-- set(t), t a tuple of tuples of ints -/
theorem call_set_of_tup {l : Addr} {items : Array Value} (ks : List (Addr × List Int)) {Q : Value → Shared → Prop} (hh : A.handled = none) (hl : s.heap.IsTuple l items) (hit : items.toList = ks.map fun p => Value.ref p.1)
    (hk : ∀ p ∈ ks, IsT P w s.heap p.2 p.1) (hfew : ks.length < 64) (hu : A.units + 3 < cLine)
    (h : ∀ (h' : Heap) (tk : Nat) L es ep t, SetTR P w h' s.heap.objs.size L es ep t → Got ks ks.length L → (∀ b o, s.heap.get? b = some o → h'.get? b = some o) → Q (.ref s.heap.objs.size) { s with heap := h', toks := tk }) :
    wpAny (model P w) A (call (.type "set") [.ref l]) Q E s := by
  have hisz : items.size = ks.length := by
    have q := congrArg List.length hit
    rw [Array.length_toList, List.length_map] at q
    exact q
  obtain ⟨c, tl, hmro⟩ := F.called_set.mro
  have hmade := F.called_set.made
  have hsub := F.called_set.sub
  refine wpAny_call (codeAny_of_tree ?_)
  show wpAny _ _ (callAny (.type "set") _) _ _ _
  refine wpAny_pure ⟨Code.quiet_builtin _ (by decide +kernel), codeAny_builtin F.entry_type_call ?_⟩
  rw [Around.under_plain (weight_type_call_type "set" [.ref l] []) rfl]
  have h1 := F.called_set.notType
  have h2 := F.called_set.canCreate
  have hct := F.typeCall_set_1 (.ref l)
  repeat (any_goals (first | assumption | wp_step))
  refine codeAny_mono (code_set_led1 (.ref l) (E := E) (Q₁ := fun obj s₁ => obj = .ref s.heap.objs.size ∧ s₁ = { s with heap := s.heap.push (newSet w) }) ⟨rfl, rfl⟩) fun r s₁ hr => ?_
  cases r with
  | error e => exact hr
  | ok fl =>
    cases fl with
    | ret obj =>
      obtain ⟨rfl, rfl⟩ := hr
      have hS : (s.heap.push (newSet w)).get? s.heap.objs.size = some (newSet w) := Heap.get?_push_size _ rfl
      have hT : Shared.TypeIs { s with heap := s.heap.push (newSet w) } (.ref s.heap.objs.size) "set" := ⟨_, hS, rfl⟩
      have hli := F.called_set.init.lookup
      have hbi := F.called_set.init.bind (.ref s.heap.objs.size)
      repeat (any_goals (first | assumption | wp_step))
      refine codeAny_mono (codeAny_call_builtin (R := wants (fun r s₂ => r = .none ∧ ∃ h' tk L es ep t, s₂ = { s with heap := h', toks := tk } ∧ SetTR P w h' s.heap.objs.size L es ep t ∧ Got ks ks.length L ∧
          (∀ b o, s.heap.get? b = some o → h'.get? b = some o)) E) F.called_set.init.plain F.entry_set_init (check_set_init_1 hT ?_)) fun r₂ s₂ hr₂ => ?_
      · obtain ⟨ol, hol, hcl, nl, hdl⟩ := hl
        obtain ⟨ocls, odict, odata, oslots⟩ := ol
        simp only at hcl hdl
        subst hcl; subst hdl
        have hol' : (s.heap.push (newSet w)).get? l = some { cls := .type "tuple", dict := odict, data := .seq items nl, slots := oslots } := Heap.get?_push_of_some _ hol
        have hsls := F.sub_tuple_set
        have hslf := F.sub_tuple_frozenset
        have hne : (Value.type "tuple" == Value.type "dict") = false := by decide
        have hl1 : (s.heap.push (newSet w)).IsTuple l items := ⟨_, hol', rfl, nl, rfl⟩
        unfold Builtin.«set.__init__» noKeywords Builtin.Frozenset.updateFrom
        generalize hPI : pyIter = PI
        wp_walk
        subst hPI
        refine wpAny_pyIter_tuple hl1 ?_
        refine wpAny_bind (wpAny_runValue ?_)
        have hlS : l < s.heap.objs.size := Heap.lt_size hol
        have hh3 : A.in1.in1.in1.handled = none := by simp [hh]
        have hneI : l ≠ (s.heap.push (newSet w)).objs.size := by
          rw [Heap.size_push]; exact Nat.ne_of_lt (Nat.lt_succ_of_lt hlS)
        have hSf : s.heap.objs.size ∉ [(s.heap.push (newSet w)).objs.size, l] := by
          rw [Heap.size_push]; simp only [List.mem_cons, List.mem_singleton, List.not_mem_nil, or_false, not_or]
          exact ⟨Nat.ne_of_lt (Nat.lt_succ_self _), Nat.ne_of_gt hlS⟩
        have hval : ∀ (i : Nat) (v : Value), items[i]? = some v → ∃ p, ks[i]? = some p ∧ v = .ref p.1 := fun i v hv => by
          have q : items.toList[i]? = some v := by rw [Array.getElem?_toList]; exact hv
          rw [hit, List.getElem?_map] at q
          cases hq : ks[i]? with
          | none => rw [hq] at q; cases q
          | some p =>
            rw [hq] at q
            exact ⟨p, rfl, (Option.some.inj q).symm⟩
        have none_of : ∀ b, s.heap.objs.size ≤ b → s.heap.get? b = none := fun b hb => by
          cases q : s.heap.get? b with
          | none => rfl
          | some o => exact absurd (Nat.lt_of_lt_of_le (Heap.lt_size q) hb) (Nat.lt_irrefl _)
        refine set_update_tups ((Walks.tuple hh3 _ l hneI items).toS) s.heap.objs.size
          hSf ks hisz hfew hval s.heap hk (none_of _ (Nat.le_refl _)) (fun b hb => none_of b (by
            rw [List.mem_singleton.mp hb, Heap.size_push]
            exact Nat.le_succ _)) hu (items.size - 0) 0 _ (by omega) (Nat.zero_le _)
          ⟨⟨_, Heap.get?_push_size _ rfl, rfl, rfl⟩, (hl1.push _)⟩ (fun b o e => Heap.get?_push_of_some _ (Heap.get?_push_of_some _ e)) ?hS0 ?hR
        case hS0 => exact ⟨[], #[], 0, _, setTR_fresh (Heap.get?_push_of_some _ hS), Got.zero ks⟩
        case hR =>
          intro s' L es ep t hm hS' g' hkp
          obtain ⟨h', g2, d', tk', os'⟩ := s'
          have eg : g2 = s.gens := hm.gens
          have ed : d' = s.drawn := hm.drawn
          have eo : os' = s.os := hm.os
          subst eg; subst ed; subst eo
          show wpAny _ _ _ _ _ _
          refine wpAny_pure ?_
          show wpAny _ _ (ret Value.none) _ _ _
          rw [hisz] at g'
          exact wpAny_pure ⟨rfl, h', tk', L, es, ep, t, rfl, hS', g', hkp⟩
      · cases r₂ with
        | error e => exact hr₂
        | ok fl₂ =>
          cases fl₂ with
          | ret r =>
            obtain ⟨rfl, h', tk, L, es, ep, t, rfl, hS', g', hk'⟩ := hr₂
            repeat (any_goals (first | assumption | wp_step))
            exact h _ _ _ _ _ _ hS' g' hk'
          | _ => exact hr₂.elim
    | _ => exact hr.elim
end
end CI
namespace CI
open PySem PySem.Spec PyProof.Rows L2
section
variable {X : Cx} {G : Wd} {W : CI.WX} {pos : Pos}
def rSetTT (K : PySem.W.Frag) (P : Program) (w : World) : List V → Hp → VK → Prop := fun xs H Q => ∃ (l : Addr) (ks : List (Addr × List Int)), xs = [V.ref l] ∧ SqT K H l (ks.map fun p => V.ref p.1) ∧ (∀ p ∈ ks, SqT K H p.1 (p.2.map V.int)) ∧ ks.length < 64 ∧
  ∀ a L, H a = none → (∀ p ∈ L, p ∈ ks) → (∀ p ∈ ks, p.2 ∈ L.map (·.2)) → Q (.ref a) (upd H a (SetTO P w a L))
theorem cr_setTT (hc : X.calm = true) (hu : X.A.units + 64 < cLine) : CallR X (.type "set") (rSetTT X.K X.prog X.w) := by
  intro pins s σ H xs us Q I r h
  obtain ⟨l, ks, rfl, hl, hk, hf, q⟩ := h
  rw [Vals.ref1 r]
  obtain ⟨its, rv, pl, hz⟩ := I.tuple hl
  have hn : H s.heap.objs.size = none := I.hok.fresh (Nat.le_refl _)
  refine call_set_of_tup (P := X.prog) (w := X.w) ks (I.ok.hd hc) pl (by simpa using refs_of_vals rv) (fun p hp => I.isT (hk p hp)) hf (by omega) fun h' tk L es ep t R g k => ?_
  refine ⟨.ref s.heap.objs.size, upd H s.heap.objs.size (SetTO X.prog X.w s.heap.objs.size L), I.laid (t' := tk) k (Nat.le_refl _) (setTO_new R.t0), rfl, q _ L hn (fun p hp => ?_) fun p hp => ?_⟩
  · exact List.mem_of_mem_take (g.sub p hp)
  · exact g.all p (by rw [List.take_length]; exact hp)
/-- sorted(set(t)) -/
def eSortSet (m : ME) : ME := fun env h => (m env h).bind fun v h1 => match v with
  | .tup ys => match pairsA ys with
    | some ps => if ps.length < 64 then .ok (.ref h1.length) (h1 ++ [.lst ((sortP (ddP ps)).map valP)]) else .stuck
    | none => .stuck
  | _ => .stuck
theorem RVs.keys {ρ : List Addr} {H : Hp} : ∀ {ps : List (Int × Int)} {vs : List V}, RVs G ρ H (ps.map valP) vs → ∃ ks : List (Addr × List Int), vs = ks.map (fun p => V.ref p.1) ∧ ks.map (·.2) = ps.map (fun p => [p.1, p.2]) ∧ ∀ p ∈ ks, SqT G.K H p.1 (p.2.map V.int)
  | [], _, .nil => ⟨[], rfl, rfl, fun _ h => absurd h (by simp)⟩
  | p :: ps, _, .cons r rs => by
    obtain ⟨ks, rfl, h2, h3⟩ := RVs.keys rs
    obtain ⟨t, rfl, ht⟩ := RV.pair r
    refine ⟨(t, [p.1, p.2]) :: ks, rfl, by simp [h2], fun q hq => ?_⟩
    rcases List.mem_cons.mp hq with rfl | hq
    · exact ht
    · exact h3 q hq
theorem pair_list {a b c d : Int} (h : [a, b] = [c, d]) : (a, b) = (c, d) := by cases h; rfl
theorem je_sortset {e : Expr} {m : ME} {p p2 pos2 : Pos} {kk : Nat} (hK : X.K = G.K) (hc : X.calm = true) (hr : Room kk X.A) (hg : Gl X "sorted") (hm : X.mg "sorted" = none) (hg2 : Gl X "set") (hm2 : X.mg "set" = none) (he : PE X e (tE G W m))
    (hs1 : starEach [.Call (.Name "set" p2) [e] [] pos2] X.env = (false, eval (.Call (.Name "set" p2) [e] [] pos2) X.env) :: starEach [] X.env := by rfl) (hs2 : starEach [e] X.env = (false, eval e X.env) :: starEach [] X.env := by rfl) :
    PE X (.Call (.Name "sorted" p) [.Call (.Name "set" p2) [e] [] pos2] [] pos) (tE G W (eSortSet m)) := by
  refine peI (pe_callB (cr_sortedT hc) hg hm boot_sorted (pa_cons (pe_callTy (cr_setTT hc hr.units) hg2 hm2 boot_set (pa_cons he pa_nil hs2) (by decide) (by decide) hs2 rfl) pa_nil hs1) (by decide) (by decide) hs1 rfl) fun σ H Q ⟨ρ, env, hp, re, rh, q⟩ => ⟨ρ, env, hp, re, rh, Post.bind q fun v h1 ρ1 H1 y _ e1 R1 ry p1 => ?_⟩
  cases ry with
  | tup hs rs =>
    rename_i xs l vs eq0
    dsimp only at p1
    cases e2 : pairsA xs with
    | none => rw [e2] at p1; exact p1.elim
    | some ps =>
      rw [e2] at p1
      dsimp only at p1
      by_cases hl : ps.length < 64
      · rw [if_pos hl] at p1
        obtain ⟨rfl, hb⟩ := pairsA_bd e2
        obtain ⟨ks, rfl, hk2, hk3⟩ := RVs.keys rs
        have hkl : ks.length = ps.length := by
          have := congrArg List.length hk2
          simpa using this
        refine ⟨l, ks, rfl, by rw [hK]; exact hs, fun p hp => by rw [hK]; exact hk3 p hp, by omega, fun a L ha hL1 hL2 => ?_⟩
        have hn3 : ∀ p ∈ L, SqT G.K (upd H1 a (SetTO X.prog X.w a L)) p.1 (p.2.map V.int) := fun p hp => (Ext.fresh R1 ha).tup _ _ (hk3 p (hL1 p hp))
        have two : ∀ p ∈ L, ∃ q ∈ ps, p.2 = [q.1, q.2] := fun p hp => by
          have : p.2 ∈ ks.map (·.2) := List.mem_map_of_mem (hL1 p hp)
          rw [hk2] at this
          obtain ⟨q, hq, e⟩ := List.mem_map.mp this
          exact ⟨q, hq, e.symm⟩
        refine ⟨a, L, 2, 64, rfl, upd_same, fun p hp => by rw [hK]; exact hn3 p hp, by decide, fun p hp => ?_, fun L' z hperm hnd hlen hpw hz => ?_⟩
        · obtain ⟨q, hq, e⟩ := two p hp
          rw [e]
          exact ⟨rfl, bd64 (hb q hq)⟩
        · have two' : ∀ p ∈ L', ∃ q ∈ ps, p.2 = [q.1, q.2] := fun p hp => two p (hperm.mem_iff.mp hp)
          have toP : ∀ {M : List (Addr × List Int)}, (∀ p ∈ M, ∃ q ∈ ps, p.2 = [q.1, q.2]) → ∃ qs : List (Int × Int), M.map (·.2) = qs.map (fun p => [p.1, p.2]) ∧ ∀ q ∈ qs, q ∈ ps := by
            intro M
            induction M with
            | nil => intro _; exact ⟨[], rfl, fun _ h => absurd h (by simp)⟩
            | cons p M ih =>
              intro h
              obtain ⟨q, hq, e⟩ := h p List.mem_cons_self
              obtain ⟨qs, h1, h2⟩ := ih fun p hp => h p (List.mem_cons_of_mem _ hp)
              refine ⟨q :: qs, by simp [h1, e], fun r hr => ?_⟩
              rcases List.mem_cons.mp hr with rfl | hr
              · exact hq
              · exact h2 r hr
          obtain ⟨qs, hq1, hq2⟩ := toP two'
          have nd : qs.Nodup := by
            rw [hq1] at hnd
            exact (List.pairwise_map.mp hnd).imp fun h e => h (by rw [e])
          have mem : ∀ p, p ∈ qs ↔ p ∈ ddP ps := fun p => by
            rw [ddP_mem]
            refine ⟨hq2 p, fun hp => ?_⟩
            have h1 : [p.1, p.2] ∈ ks.map (·.2) := by rw [hk2]; exact List.mem_map_of_mem (f := fun p : Int × Int => [p.1, p.2]) hp
            obtain ⟨k, hk, ek⟩ := List.mem_map.mp h1
            have h2 := hL2 k hk
            rw [ek] at h2
            have h3 : [p.1, p.2] ∈ L'.map (·.2) := (hperm.map (·.2)).mem_iff.mpr h2
            rw [hq1] at h3
            obtain ⟨q', hq', eq'⟩ := List.mem_map.mp h3
            have := pair_list eq'
            have e3 : q' = p := Prod.ext (congrArg Prod.fst this) (congrArg Prod.snd this)
            rw [← e3]
            exact hq'
          have srt : qs.Pairwise (fun a b => keyP a ≤ keyP b) := by
            have h1 : (L'.map (·.2)).Pairwise (fun a b => TS.code 64 a ≤ TS.code 64 b) := List.pairwise_map.mpr hpw
            rw [hq1, List.pairwise_map] at h1
            exact h1.imp fun {a b} h => by rwa [code64, code64] at h
          have e4 : qs = sortP (ddP ps) := sorted_eq (fun p hp => hb p (hq2 p hp)) ((nodup_perm nd (ddP_nodup ps) mem).trans (sortP_perm _).symm) srt (sortP_sorted _)
          have R2 := R1.fresh (o := SetTO X.prog X.w a L) ha
          have rv : ∀ {M : List (Addr × List Int)} {qs : List (Int × Int)}, M.map (·.2) = qs.map (fun p => [p.1, p.2]) → (∀ p ∈ M, p ∈ L') → RVs G ρ1 (upd H1 a (SetTO X.prog X.w a L)) (qs.map valP) (M.map fun q => V.ref q.1) := by
            intro M
            induction M with
            | nil =>
              intro qs h _
              cases qs with
              | nil => exact .nil
              | cons _ _ => cases h
            | cons p M ih =>
              intro qs h hM
              cases qs with
              | nil => cases h
              | cons q qs =>
                simp only [List.map_cons, List.cons.injEq] at h
                refine .cons (RV.pair_of ?_) (ih h.2 fun r hr => hM r (List.mem_cons_of_mem _ hr))
                rw [← h.1]
                exact hn3 p (hperm.mem_iff.mp (hM p List.mem_cons_self))
          have r5 := rv hq1 fun p hp => hp
          rw [e4] at r5
          have E1 := Ext.fresh (o := SetTO X.prog X.w a L) R1 ha
          exact p1 (ρ1 ++ [z]) _ _ (E1.trans (Ext.snoc R2 hz)) (R2.snoc hz ⟨_, upd_same, r5.kp (Ext.snoc R2 hz).kp⟩) (.ref (at_end R2.len))
      · rw [if_neg hl] at p1; exact p1.elim
  | _ => exact p1.elim
end
end CI
namespace CI
open PySem PySem.Spec PyProof.Rows L2
section
variable {prog : Program} {w : World} {A : Around} {E : Value → Shared → Prop} {s : Shared}
/-- (a, b)[::-1] -/
theorem getItem_pair_rev {t sl : Addr} {a b vs : Value} {Q : Value → Shared → Prop} (ht : IsTup s.heap t #[a, b]) (hs : s.heap.IsSliceOf sl .none .none vs) (ps : IsPart vs (some (-1)))
    (h : Q (.ref s.heap.objs.size) { s with heap := s.heap.push { cls := .type "tuple", data := .seq #[b, a] } }) : wpAny (model prog w) A (getItem (.ref t) (.ref sl)) Q E s := by
  obtain ⟨os, hos, hcs, hds⟩ := id hs
  have hTs : s.TypeIs (.ref sl) "slice" := ⟨os, hos, hcs⟩
  have htake : sizeOk (.seq #[b, a]) := by show 2 ≤ sizeLine; decide
  unfold getItem
  try with_reducible refine wpAny_holding ?_
  first | refine wpAny_bind (wpAny_pure ?_) | skip
  refine wpAny_bind (wpAny_sequenceKey ht.typeIs (by decide) ?_)
  refine wpAny_bind (wpAny_callSpecial?_slot (name := Str.ofString "__getitem__") ht.typeIs PyProof.Rows.slot_tuple_getitem
    (wpAny_call_entry PyProof.Rows.slot_tuple_getitem ht.typeIs entry_tuple_getitem ?_ (args_tuple_getitem _ _)))
  show wpAny _ _ (Builtin.Tuple.tupleItemsOf (.ref t) >>= _) _ _ s
  refine wpAny_bind (tupleItemsOf_ ht ?_)
  refine wpAny_bind (wpAny_typeOf hTs ?_)
  rw [if_pos (by decide)]
  have app : ∀ {Q : Int × Int × Nat → Shared → Prop}, Q ((1 : Int), (-1 : Int), 2) s → wpAny (model prog w) A.in1 (Builtin.Slice.sliceApplied (.ref sl) (pure ((#[a, b] : Array Value).size : Int))) Q (fun _ _ => False) s := by
    intro Q h
    unfold Builtin.Slice.sliceApplied Builtin.Slice.sliceFields
    refine wpAny_bind (wpAny_bind (wpAny_field hos hds (x := .none) rfl (wpAny_bind (wpAny_field hos hds (x := .none) rfl (wpAny_bind (wpAny_field hos hds (x := vs) rfl (wpAny_pure ?_)))))))
    refine wpAny_bind (HT.slicePart_ ps ?_)
    show wpAny _ _ (if ((-1 : Int) == 0) = true then _ else _) _ _ s
    rw [if_neg (by decide)]
    refine wpAny_bind (slicePart_none (wpAny_bind (slicePart_none (wpAny_bind (wpAny_pure ?_)))))
    refine wpAny_pure (cast (congrArg (fun z => Q z s) ?_) h)
    first | rfl | (with_unfolding_all rfl) | simp [Builtin.Slice.slicePlaces]
  refine wpAny_bind (wpAny_mono (app (Q := fun r s' => r = ((1 : Int), (-1 : Int), 2) ∧ s' = s) ⟨rfl, rfl⟩) (fun r s' hr => ?_) fun _ _ z => z.elim)
  obtain ⟨rfl, rfl⟩ := hr
  show wpAny _ _ (if (((1 : Int) == 0) && ((-1 : Int) == 1) && (2 == (#[a, b] : Array Value).size)) = true then _ else _) _ _ _
  rw [if_neg (show ¬ ((((1 : Int) == 0) && ((-1 : Int) == 1) && (2 == (#[a, b] : Array Value).size)) = true) from fun z => Bool.false_ne_true z)]
  have e : ((List.range 2).filterMap fun (k : Nat) => (#[a, b] : Array Value)[((1 : Int) + (k : Int) * (-1)).toNat]?).toArray = #[b, a] := rfl
  rw [e]
  first
    | exact wpAny_bind (m := Builtin.Tuple.tupleExact _) (wpAny_newObj_type (wpAny_pure ⟨_, rfl, wpAny_pure h⟩) htake)
    | exact wpAny_bind (m := Builtin.Tuple.tupleExact _) (wpAny_newObj_type (wpAny_bind (wpAny_pure (wpAny_pure ⟨_, rfl, wpAny_pure h⟩))) htake)
    | exact wpAny_bind (wpAny_bind (m := Builtin.Tuple.tupleExact _) (wpAny_newObj_type (wpAny_pure (wpAny_pure ⟨_, rfl, wpAny_pure h⟩)) htake))
    | exact wpAny_bind (wpAny_bind (m := Builtin.Tuple.tupleExact _) (wpAny_newObj_type (wpAny_pure ⟨_, rfl, wpAny_pure h⟩) htake))
end
section
variable {X : Cx} {G : Wd} {W : CI.WX} {pos : Pos}
def tRevP (K : PySem.W.Frag) (te : TE) : TE := fun σ H Q => te σ H fun x H1 => ∃ a y z, x = .ref a ∧ SqT K H1 a [y, z] ∧ ∀ p, H1 p = none → Q (.ref p) (upd H1 p (.tup [z, y]))
theorem pe_revP {e : Expr} {te : TE} {k : Nat} {p1 p2 p3 : Pos} (he : PE X e te) : PE X (.Subscript e (.Slice none none (some (.UnaryOp .USub (.Constant (.int 1) k p1) p2)) p3) pos) (tRevP X.K te) := by
  refine ⟨fun pins s σ H Q I h => ?_⟩
  refine Subscript_ (thn (he.run pins s σ H _ I h) fun v s1 ⟨x, H1, I1, r1, q1⟩ => ?_)
  obtain ⟨a, y, z, ex, hx, q⟩ := q1
  subst ex
  cases r1
  have hst : PO X (some (.UnaryOp .USub (.Constant (.int 1) k p1) p2)) (tPart (tUn (rU fun i => .int (-i)) (tC (.int 1)))) := po_some (pe_un un_neg pe_int)
  have none_ : ∀ {Q : Value → Shared → Prop} {s : Shared}, Q .none s → wpAny (model X.prog X.w) X.A (evalPart none X.env) Q X.xe s := fun q => wpAny_pure q
  refine wpAny_Slice (none_ ?_)
  refine none_ ?_
  refine thn (hst.run pins s1 σ H1 (fun o H4 => o = some (-1) ∧ H4 = H1) I1 ⟨1, rfl, -1, rfl, rfl, rfl⟩) fun vs s4 ⟨o, H4, I4, ps, eo, e4⟩ => ?_
  subst eo
  subst e4
  have I5 : L2.Inv X pins σ H4 { s4 with heap := s4.heap.push { cls := .type "slice", data := .fields #[.none, .none, vs] } } := I4.kept (t' := s4.toks) fun b ob q => Heap.get?_push_of_some _ q
  obtain ⟨its, r, ht, hz⟩ := I5.tuple hx
  cases r with
  | @cons _ u1 _ l0 ra r =>
    cases r with
    | @cons _ u2 _ l1 rb r =>
      cases r
      show wpAny (model X.prog X.w) X.A (subscriptTail e (.Slice none none (some (.UnaryOp .USub (.Constant (.int 1) k p1) p2)) p3) (.ref a) (.ref s4.heap.objs.size)) (EP X pins σ Q) X.xe { s4 with heap := s4.heap.push { cls := .type "slice", data := .fields #[.none, .none, vs] } }
      refine tail_any (ops := [.ref a, .ref s4.heap.objs.size]) ht.typeIs (PyProof.Rows.slot_tuple_getitem.lookup) ?_ (by with_unfolding_all rfl)
      refine getItem_pair_rev (a := u1) (b := u2) ht (Heap.IsSliceOf.new _ .none .none vs) ps ?_
      refine ⟨.ref _, _, I5.laid (t' := s4.toks) (o := .tup [z, y]) (fun b ob q => Heap.get?_push_of_some _ q) (Nat.le_refl _) ?_, rfl, q _ (I5.hok.fresh (Nat.le_refl _))⟩
      exact ⟨by show 2 ≤ sizeLine; decide, [u2, u1], .cons rb (.cons ra .nil), IsTup.new _ _⟩
def fRev : F1 := fun v h => match v with
  | .tup [x, y] => some (.tup [y, x], h)
  | _ => none
theorem je_rev {e : Expr} {m : ME} {k : Nat} {p1 p2 p3 : Pos} (hK : X.K = G.K) (he : PE X e (tE G W m)) : PE X (.Subscript e (.Slice none none (some (.UnaryOp .USub (.Constant (.int 1) k p1) p2)) p3) pos) (tE G W (e1 fRev m)) :=
  peI (pe_revP he) fun σ H Q ⟨ρ, env, hp, re, rh, p⟩ => ⟨ρ, env, hp, re, rh, Post.bind p fun x h1 ρ1 H1 y _ e1 R1 rx p1 => by
    unfold fRev at p1
    split at p1
    · rename_i u v
      cases rx with
      | tup hs rs =>
        cases rs with
        | cons ra rs =>
          cases rs with
          | cons rb rs =>
            cases rs
            refine ⟨_, _, _, rfl, by rw [hK]; exact hs, fun q hq => ?_⟩
            exact p1 ρ1 _ _ (Ext.fresh R1 hq) (R1.fresh hq) (.tup (SqT.of upd_same) (.cons (rb.kp (Ext.fresh R1 hq).kp) (.cons (ra.kp (Ext.fresh R1 hq).kp) .nil)))
    · exact p1.elim⟩
def eMakeV (c : Nat) (m : MF) (ds : List Val) (a : ME) (as : MA) : ME := fun env h => (a env h).bind fun x h1 => match x with
  | .cst c' => if c' = c then eMake c m ds as env h1 else .stuck
  | _ => .stuck
theorem je_makeV {k c : Nat} {x y : Str} {m : MF} {dxs : List Val} {p : Pos} {e : Expr} {es : List Expr} {ma : ME} {as : MA} (C : MakeT G X.prog X.w X.mg X.base k y c m dxs) (hK : X.K = G.K) (tk : Takes X W) (hr : Room (k + 1) X.A) (hv : PE X (.Name x p) (tE G W ma)) (ha : PA X (e :: es) (tA G W as))
    (he : starEach (e :: es) X.env = (false, eval e X.env) :: starEach es X.env := by rfl) (hpl : (backTo pos (starEach es X.env)).any (·.1) = false := by rfl) : PE X (.Call (.Name x p) (e :: es) [] pos) (tE G W (eMakeV c m dxs ma as)) := by
  obtain ⟨f, fd, ps, ds, dvs, h1, M, F, ha', hb, hd, dr⟩ := C
  have F' : FnOk X.prog X.w X.K X.mg X.base (L2.CX X.prog X.w) k f fd ps (spM G ps.length m) := by rw [hK]; exact F
  refine ⟨fun pins s σ H Q I ⟨ρ, env, hp, re, rh, q⟩ => ?_⟩
  refine wpAny_Call_Name_kw (thn (hv.run pins s σ H _ I ⟨ρ, env, hp, re, rh, Post.bind (Nx := fun z H1 => z = .ref (G.kap c) ∧ tE G W (eMake c m dxs as) σ H1 Q) q fun x h2 ρ2 H2 z _ e2 R2 rx p2 => ?_⟩) fun u s1 ⟨z, H1, I1, rz, ez, q1⟩ => ?_)
  · cases rx with
    | cst c' =>
      dsimp only at p2
      by_cases hcc : c' = c
      · subst hcc
        rw [if_pos rfl] at p2
        exact ⟨rfl, ρ2, env, h2, re.kp e2.kp, R2, p2⟩
      · rw [if_neg hcc] at p2; exact p2.elim
    | _ => exact p2.elim
  · subst ez
    obtain rfl : u = Value.ref (G.kap c) := rz
    obtain ⟨ρ, env, hp, re, rh, q⟩ := q1
    refine PySem.W.callWith_K (h₀ := X.base) I1.ok.mod.kin (by rw [hK]; exact M.kp) (thn (ha.run pos pins s1 σ H1 _ I1 ⟨ρ, env, hp, re, rh, Post.bind (Nx := fun vs H1 => ∀ x dx, H1 x = none → H1 dx = none → dx ≠ x → spM G ps.length m (.ref x :: (vs ++ dvs)) (upd (upd H1 dx (.own x)) x (.ins (G.kap c) dx [])) (fun v H2 => v = .non ∧ Q (.ref x) H2) (L2.WE W σ)) q fun vs h1 ρ1 H1 zs _ e1 R1 rzs p1 =>
      post_make ha' R1 (rzs.append (dr ρ1 H1)) p1⟩) fun us s1 ⟨vs, H1, I1, r, q1⟩ => ⟨I1.kIn, ?_⟩) he hpl
    exact run_makeS (C := G.kap c) (by rw [hK]; exact M) F' hr (by rw [hK]; exact hb) hd (L2.passAt tk σ) I1 r q1
def CMethT (G : Wd) (P : Program) (w : World) (mg : Str → Option Value) (base : Heap) (k c : Nat) (nm : Str) (m : MF) : Prop :=
  ∃ f fd ps mc p, ClX.CRead G.K (G.kap c) mc ∧ ClX.CMet G.K (G.kap c) mc nm p f ∧ FnM G P w mg base k f fd ps m ∧ Ar ps.length m ∧ Binds G.K fd ps []
def eCMeth (c : Nat) (m : MF) (a : ME) (as : MA) : ME := fun env h => (a env h).bind fun x h1 => match x with
  | .cst c' => if c' = c then (as env h1).bind fun vs h2 => (m (.cst c :: vs) h2).noex else .stuck
  | _ => .stuck
theorem je_cmeth {k c : Nat} {nm : Str} {m : MF} {o e : Expr} {es : List Expr} {apos : Pos} {mo : ME} {as : MA} {pl : Sem Bool} (C : CMethT G X.prog X.w X.mg X.base k c nm m) (hK : X.K = G.K) (hr : Room k X.A) (ho : PE X o (tE G W mo)) (ha : PA X (e :: es) (tA G W as))
    (hst : starEach (e :: es) X.env = (false, eval e X.env) :: starEach es X.env := by rfl) (hpl : (backTo pos (starEach es X.env)).any (·.1) = false := by rfl)
    (ht : eval (.Call (.Attribute o nm apos) (e :: es) [] pos) X.env = (do
      let ov ← eval o X.env
      standAt apos.atName
      let (f, first) ← holding [ov] (getMethod ov nm pl)
      callWith pos f first (backTo pos (starEach (e :: es) X.env)) (backToKw pos (keywordEach [] X.env))) := by rfl) :
    PE X (.Call (.Attribute o nm apos) (e :: es) [] pos) (tE G W (eCMeth c m mo as)) := by
  obtain ⟨f, fd, ps, mc, p, h1, h2, F, h4, h5⟩ := C
  have F' : FnOk X.prog X.w X.K X.mg X.base (L2.CX X.prog X.w) k f fd ps (spM G ps.length m) := by rw [hK]; exact F
  have FR : FnR X.prog X.w X.K X.mg X.base (L2.CX X.prog X.w) k f (spM G ps.length m) := fun A outer s H us vs Q E hr e0 r q => by
    have hl : us.length = ps.length := by rw [← r.length]; exact F'.len _ _ _ _ q
    have b := h5 s us (by rw [← hK]; exact e0.mod.kin.keeps fun b o e => (e0.bs b o e).1) (by rw [List.append_nil]; exact hl)
    rw [List.append_nil] at b
    exact F'.run A outer s H ⟨us, []⟩ us vs Q E hr e0 b r q
  have px : Passes (L2.CX X.prog X.w) X (fun _ _ _ => False) := fun pins σ H s e s' I hq => L2.passAt (W := WF) takes0 σ pins H s e s' I hq
  refine peI (ClX.pe_cmeth (pl := pl) ho (by rw [hK]; exact h1) (by rw [hK]; exact h2) FR hr px ha hst hpl ht) fun σ H Q ⟨ρ, env, hp, re, rh, q⟩ => ⟨ρ, env, hp, re, rh, Post.bind q fun x hh2 ρ2 H2 z _ e2 R2 rx p2 => ?_⟩
  cases rx with
  | cst c' =>
    dsimp only at p2
    by_cases hcc : c' = c
    · subst hcc
      rw [if_pos rfl] at p2
      refine ⟨rfl, ρ2, env, hh2, re.kp e2.kp, R2, Post.bind p2 fun vs h3 ρ3 H3 ys _ e3 R3 rs p3 => ?_⟩
      refine post_call (W := WF) (σ := σ) h4 R3 (.cons (.cst _) rs) ?_
      cases z : m (.cst c' :: vs) h3 with
      | ok v h4 => rw [z] at p3; exact p3
      | ex x h4 => rw [z] at p3; exact p3.elim
      | stuck => rw [z] at p3; exact p3.elim
    · rw [if_neg hcc] at p2; exact p2.elim
  | _ => exact p2.elim
end
end CI
namespace CI
open PySem PySem.Spec PyProof.Rows L2
def cmRec (K : PySem.W.Frag) (C m : Str) : Addr := He.ma K (He.ga K C) m
def cmFn (K : PySem.W.Frag) (C m : Str) : Addr := match PySem.W.recIn K (cmRec K C m) "classmethod" with
  | some (.ref g :: _) => g
  | _ => 0
def slotAd (K : PySem.W.Frag) (C : Addr) (f : Str) : Addr := He.ma K C f
structure DefE where
  ad : PySem.W.Frag → Addr
  name : Str
  qual : Str
  params : Arguments
  body : List Stmt
  scope : Scope
  dfl : PySem.W.Frag → List V
  kwd : PySem.W.Frag → List (Str × V)
def fnWA (K : PySem.W.Frag) (a : Addr) : He.FnW := match K.lookup a with
  | some ⟨_, _, .func fd, _⟩ => some (fd.name, fd.qualname, fd.params, fd.body, fd.scope, fd.globals, fd.closure, fd.builtins)
  | _ => none
def DefE.val (d : DefE) : He.FnW := some (d.name, d.qual, d.params, .stmts d.body, d.scope, mainGlobals, [], builtinsNs)
def DefE.ok (K : PySem.W.Frag) (d : DefE) : Bool := PySem.W.keepIn K (.ref (d.ad K)) && (match K.lookup (d.ad K) with
  | some ⟨_, _, .func fd, _⟩ => PySem.W.codeIn K fd.code d.qual && (He.dflB K fd.defaults (d.dfl K) && He.kwdB K fd.kwdefaults (d.kwd K))
  | _ => false)
theorem DefE.funD {K : PySem.W.Frag} {d : DefE} (e : fnWA K (d.ad K) = d.val) (c : d.ok K = true) : ∃ fd, FunD K d.name d.qual d.params d.body d.scope (d.dfl K) (d.kwd K) (d.ad K) fd := by
  obtain ⟨kp, c2⟩ := He.ba c
  unfold fnWA at e
  cases q : K.lookup (d.ad K) with
  | none => rw [q] at c2; cases c2
  | some o =>
    obtain ⟨oc, od, dt, osl⟩ := o
    rw [q] at c2 e
    cases dt with
    | func fd =>
      obtain ⟨n1, n2, n3, n4, n5, n6, n7, n8, n9, n10, n11, n12, n13, n14, n15⟩ := fd
      have e2 : (some (n1, n2, n3, n4, n5, n6, n7, n15) : He.FnW) = some (d.name, d.qual, d.params, .stmts d.body, d.scope, mainGlobals, [], builtinsNs) := e
      simp only [Option.some.injEq, Prod.mk.injEq] at e2
      obtain ⟨h1, h2, h3, h4, h5, h6, h7, h8⟩ := e2
      subst h1 h2 h3 h4 h5 h6 h7 h8
      have c3 : (PySem.W.codeIn K n13 d.qual && (He.dflB K n8 (d.dfl K) && He.kwdB K n9 (d.kwd K))) = true := c2
      obtain ⟨k1, k2⟩ := He.ba c3
      obtain ⟨k3, k4⟩ := He.ba k2
      exact ⟨_, ⟨oc, od, n8, n9, n10, n11, n12, n13, n14, osl, rfl, q, k1, He.dflB_ok k3, He.kwdB_ok k4⟩, kp⟩
    | _ => cases c2
abbrev FB := PySem.W.Frag → Bool
abbrev Al : Type := Bool × List He.FnW
def frAt (g : Addr → Option Obj) (n : Nat) : PySem.W.Frag := He.frG g (cStatics :: He.asD g n)
def obsE (fl : List FB) (fn : List DefE) (K : PySem.W.Frag) : Al := ((fl.all fun f => f K) && fn.all fun d => d.ok K, fn.map fun d => fnWA K (d.ad K))
def valE (fn : List DefE) : Al := (true, fn.map DefE.val)
def obsG (n : Nat) (fl : List FB) (fn : List DefE) (g : Addr → Option Obj) : Al := obsE fl fn (frAt g n)
def hookE (n : Nat) (fl : List FB) (fn : List DefE) : PySem.W.Hook where
  α := Al
  obs := fun s => obsG n fl fn s.heap.get?
  val := fun _ => valE fn
  says := fun _ h => ∃ K : PySem.W.Frag, K.In h ∧ obsE fl fn K = valE fn
  of := fun _ _ e => ⟨_, He.frG_in, e⟩
  keeps := fun _ _ _ ⟨K, hK, c⟩ k => ⟨K, PySem.W.Frag.In.keeps hK k, c⟩
theorem obsG_eq {n : Nat} {fl : List FB} {fn : List DefE} {g : Addr → Option Obj} {s : Shared} (h : ∀ a, g a = s.heap.get? a) : obsG n fl fn g = (hookE n fl fn).obs s := by
  have e : g = s.heap.get? := funext h
  rw [e] <;> rfl
section
variable {fl : List FB} {fn : List DefE} {K : PySem.W.Frag}
theorem says_fact (c : obsE fl fn K = valE fn) (i : Nat) {f : FB} (h : fl[i]? = some f := by rfl) : f K = true := by
  have c1 := (He.ba (show ((fl.all fun f => f K) && fn.all fun d => d.ok K) = true from congrArg (fun z : Al => z.1) c)).1
  exact List.all_eq_true.mp c1 f (List.mem_of_getElem? h)
theorem says_def (c : obsE fl fn K = valE fn) (i : Nat) {d : DefE} (h : fn[i]? = some d := by rfl) : ∃ fd, FunD K d.name d.qual d.params d.body d.scope (d.dfl K) (d.kwd K) (d.ad K) fd := by
  have c2 := (He.ba (show ((fl.all fun f => f K) && fn.all fun d => d.ok K) = true from congrArg (fun z : Al => z.1) c)).2
  have e : fn.map (fun d => fnWA K (d.ad K)) = fn.map DefE.val := congrArg (fun z : Al => z.2) c
  have e2 : (fn.map fun d => fnWA K (d.ad K))[i]? = (fn.map DefE.val)[i]? := by rw [e]
  rw [List.getElem?_map, List.getElem?_map, h] at e2
  exact DefE.funD (Option.some.inj e2) (List.all_eq_true.mp c2 d (List.mem_of_getElem? h))
end
def sclsB (C : PySem.W.Frag → Addr) : FB := fun K => PySem.W.plainGet K (C K) Str.empty && (PySem.W.isClsIn K (C K) && (PySem.W.plainOver K (C K) && He.eqO (PySem.W.findIn K (.ref (C K)) "__setattr__") (some (some (.builtin "object.__setattr__")))))
theorem sclsB_ok {C : PySem.W.Frag → Addr} {K : PySem.W.Frag} (h : sclsB C K = true) : SlX.SCls K (C K) := by
  obtain ⟨h1, h⟩ := He.ba h
  obtain ⟨h2, h⟩ := He.ba h
  obtain ⟨h3, h4⟩ := He.ba h
  exact ⟨h1, h2, h3, He.eqO_ok h4⟩
def slot1B (C : PySem.W.Frag → Addr) (f : Str) (i : Nat) : FB := fun K => He.eqO (PySem.W.findIn K (.ref (C K)) f) (some (some (.ref (slotAd K (C K) f)))) && (He.eqO (PySem.W.specialIn K (.ref (slotAd K (C K) f)) "__get__") (some (some (.builtin "member_descriptor.__get__"))) &&
  (decide (PySem.W.takesIn K (.ref (slotAd K (C K) f)) = some true) && (decide (PySem.W.typeIn K (.ref (slotAd K (C K) f)) = some (.type "member_descriptor")) && (decide (PySem.W.slotIn K (slotAd K (C K) f) (C K) = some i) && decide (i < 1000)))))
theorem slot1B_ok {C : PySem.W.Frag → Addr} {f : Str} {i : Nat} {K : PySem.W.Frag} (h : slot1B C f i K = true) : ∃ p, SlX.Slot1 K (C K) f p i := by
  obtain ⟨h1, h⟩ := He.ba h
  obtain ⟨h2, h⟩ := He.ba h
  obtain ⟨h3, h⟩ := He.ba h
  obtain ⟨h4, h⟩ := He.ba h
  obtain ⟨h5, h6⟩ := He.ba h
  exact ⟨_, He.eqO_ok h1, He.eqO_ok h2, of_decide_eq_true h3, of_decide_eq_true h4, of_decide_eq_true h5, of_decide_eq_true h6⟩
def isiB (C D : PySem.W.Frag → Addr) (b : Bool) : FB := fun K => He.eqO (PySem.W.findIn K (.ref (C K)) "__class__") (some (some (.builtin "object.__class__"))) && (He.eqO (PySem.W.specialIn K (.builtin "object.__class__") "__get__") (some (some (.builtin "getset_descriptor.__get__"))) &&
  (decide (PySem.W.takesIn K (.builtin "object.__class__") = some true) && (decide (PySem.W.mroIn K (C K) (.type "object") = some true) && decide (PySem.W.kitOne K (.ref (C K)) (.ref (D K)) = some b))))
theorem isiB_ok {C D : PySem.W.Frag → Addr} {b : Bool} {K : PySem.W.Frag} (h : isiB C D b K = true) : SlX.SIsi K (C K) ∧ PySem.W.kitOne K (.ref (C K)) (.ref (D K)) = some b := by
  obtain ⟨h1, h⟩ := He.ba h
  obtain ⟨h2, h⟩ := He.ba h
  obtain ⟨h3, h⟩ := He.ba h
  obtain ⟨h4, h5⟩ := He.ba h
  exact ⟨⟨He.eqO_ok h1, He.eqO_ok h2, of_decide_eq_true h3, of_decide_eq_true h4⟩, of_decide_eq_true h5⟩
def ownB (C m : Str) : FB := fun K => He.eqO (PySem.W.findIn K (.ref (He.ga K C)) m) (some (some (.ref (He.fAd K (C, some m))))) && (PySem.W.isFn K (.ref (He.fAd K (C, some m))) && PySem.W.fnIn K (He.fAd K (C, some m)))
theorem ownB_ok {C m : Str} {K : PySem.W.Frag} (h : ownB C m K = true) : PySem.W.findIn K (.ref (He.ga K C)) m = some (some (.ref (He.fAd K (C, some m)))) ∧ PySem.W.isFn K (.ref (He.fAd K (C, some m))) = true ∧ PySem.W.fnIn K (He.fAd K (C, some m)) = true := by
  obtain ⟨h1, h⟩ := He.ba h
  obtain ⟨h2, h3⟩ := He.ba h
  exact ⟨He.eqO_ok h1, h2, h3⟩
def neB (C : Str) : FB := fun K => He.eqO (PySem.W.findIn K (.ref (He.ga K C)) "__ne__") (some (some (.builtin "object.__ne__"))) && decide (PySem.W.mroIn K (He.ga K C) (.type "object") = some true)
theorem neB_ok {C : Str} {K : PySem.W.Frag} (h : neB C K = true) : PySem.W.findIn K (.ref (He.ga K C)) "__ne__" = some (some (.builtin "object.__ne__")) ∧ PySem.W.mroIn K (He.ga K C) (.type "object") = some true := by
  obtain ⟨h1, h2⟩ := He.ba h
  exact ⟨He.eqO_ok h1, of_decide_eq_true h2⟩
def nilB (a : PySem.W.Frag → Addr) : FB := fun K => match K.lookup (a K) with
  | some ⟨.type c, _, .seq its _, _⟩ => decide (c = "tuple") && decide (its.size = 0)
  | _ => false
theorem nilB_ok {a : PySem.W.Frag → Addr} {K : PySem.W.Frag} (h : nilB a K = true) (H : Hp) : SqT K H (a K) [] := by
  unfold nilB at h
  cases q : K.lookup (a K) with
  | none => rw [q] at h; cases h
  | some o =>
    obtain ⟨oc, od, dt, osl⟩ := o
    rw [q] at h
    cases oc with
    | type c =>
      cases dt with
      | seq its n =>
        obtain ⟨h1, h2⟩ := He.ba (show (decide (c = "tuple") && decide (its.size = 0)) = true from h)
        have e := of_decide_eq_true h2
        have e2 : its.toList = [] := by rw [← List.length_eq_zero_iff, Array.length_toList]; exact e
        exact .inr ⟨_, its, n, q, congrArg Value.type (of_decide_eq_true h1), rfl, by rw [e]; exact Nat.zero_le _, by rw [e2]; exact .nil⟩
      | _ => cases h
    | _ => cases dt <;> cases h
def creadB (C : Str) : FB := fun K => PySem.W.readsIn K (He.ga K C) (.type "type") && He.eqO (PySem.W.specialIn K (.ref (He.ga K C)) "__getattribute__") (some (some (.builtin "type.__getattribute__")))
theorem creadB_ok {C : Str} {K : PySem.W.Frag} (h : creadB C K = true) : ClX.CRead K (He.ga K C) (.type "type") := by
  obtain ⟨h1, h2⟩ := He.ba h
  exact ⟨h1, He.eqO_ok h2⟩
def cmetB (C m : Str) : FB := fun K => (match PySem.W.findCls K (.ref (He.ga K C)) (.type "type") m with
  | some (.get (.builtin i) (.ref p) .none (.ref D)) => decide (i = "classmethod.__get__") && (decide (p = cmRec K C m) && decide (D = He.ga K C))
  | _ => false) && ((match PySem.W.recIn K (cmRec K C m) "classmethod" with
  | some (.ref g :: _) => true
  | _ => false) && PySem.W.fnIn K (cmFn K C m))
theorem cmetB_ok {C m : Str} {K : PySem.W.Frag} (h : cmetB C m K = true) : ClX.CMet K (He.ga K C) (.type "type") m (cmRec K C m) (cmFn K C m) := by
  obtain ⟨h1, h⟩ := He.ba h
  obtain ⟨h2, h3⟩ := He.ba h
  refine ⟨?_, ?_, h3⟩
  · split at h1
    · rename_i i p D e
      obtain ⟨e1, h1⟩ := He.ba h1
      obtain ⟨e2, e3⟩ := He.ba h1
      rw [e, of_decide_eq_true e1, of_decide_eq_true e2, of_decide_eq_true e3]
    · cases h1
  · unfold cmFn
    split at h2
    · rename_i g rest e
      rw [e]
      exact ⟨rest, rfl⟩
    · cases h2
end CI
namespace CI
open PySem PySem.Spec PyProof.Rows L2
theorem walk_w {l : PySem.W.OpenLaw} {n k : Nat} {q : Program} {loose : List Str} {XP : (Str → Option Value) → Heap → Prop} {YP : World → Heap → Prop} {d : DefRec} {CX : World → CXT} {x : Str}
    (hn : l.most = some n) (hn2 : n ≤ sizeLine) (hdf : d.params.defaults = []) (hr : Room k callerA)
    (F : ∀ (w : World) (mg : Str → Option Value) (fa : Addr) (h : Heap), YP w h → h.Ns mainGlobals mg → mg d.name = some (.ref fa) →
      ∃ (K : PySem.W.Frag) (fd : FuncData) (sp : Sp), K.In h ∧ (∀ (s : Shared) (u : Value), BindsTo s fd ⟨[u], []⟩ [(x, u)]) ∧
        (∀ (H : Hp) (a : Addr) (ns : List Int), ns.length ≤ n → Only H → SqL K H a (ns.map V.int) → sp [.ref a] H (fun v _ => v = .bl true) fun _ _ _ => False) ∧
        ∀ base : Heap, K.In base → base.Ns mainGlobals mg → FnOk l.prog w K mg base (CX w) k fa fd [x] sp)
    (hCX : ∀ (w : World) (H : Hp) (s : Shared) (e : Value) (s' : Shared), CX w [] H s (fun _ _ _ => False) e s' → False) :
    PySem.W.WalkO q loose XP YP l.row.toRowW d [] (fun f vs => PySem.call f vs) := by
  refine Att.attach_call hn hdf fun w s₀ s₁ mg mb fa o pm cd doc a vs ns G Y ho hd hcd hmg hobj hints hlen hg => ?_
  obtain ⟨K, fd, sp, KX, hb, hsp, hF⟩ := F w mg fa _ Y G.T.g hmg
  exact law_call KX G.T.g G.T.b G.T.builtins G.T.nolimit hg hobj hints (Nat.le_trans hlen hn2) hr hF hb (fun H hO hS => hsp H a ns hlen hO hS) fun H e s' => hCX w H s₁ e s'
theorem cx_no {P : Program} {w : World} (H : Hp) (s : Shared) (e : Value) (s' : Shared) (h : L2.CX P w [] H s (fun _ _ _ => False) e s') : False := by
  obtain ⟨_, _, _, _, _, _, _, _, _, _, _, _, z⟩ := h
  exact z
def scriptA (ns : List Int) : Val := .fls (ns.map .int)
theorem sp_law {G : Wd} {m : MF} {H : Hp} {a : Addr} {ns : List Int} (hO : Only H) (hS : SqL G.K H a (ns.map V.int)) (h : ∃ h', m [scriptA ns] [] = .ok (.bl true) h') : spM G 1 m [.ref a] H (fun v _ => v = .bl true) (fun _ _ _ => False) := by
  obtain ⟨h', e⟩ := h
  have fz : FzL G.K H a (ns.map V.int) := by
    rcases hS with (hS | ⟨o, hS⟩) | hS
    · rcases hO a with z | ⟨o, xs, z⟩ <;> rw [hS] at z <;> cases z
    · exact .inl ⟨o, hS⟩
    · exact .inr hS
  have rs : ∀ ns : List Int, RVs G [] H (ns.map Val.int) (ns.map V.int) := fun ns => by
    induction ns with
    | nil => exact .nil
    | cons n ns ih => exact .cons (.int n) ih
  refine ⟨rfl, [], [], [scriptA ns], ⟨rfl, .nil, fun i o a e => by simp at e⟩, .cons (.fls fz (rs ns)) .nil, ?_⟩
  rw [e]
  intro ρ' H' z _ _ r
  cases r
  rfl
end CI
namespace Lw
open PySem PySem.Spec PyProof.Rows L2 CI
abbrev prg : Program := PySem.Challenge.pw_registerrooms_k41_whole_rivals
def topS (i : Nat) : Stmt := prg.main.body.getD i (.Pass ⟨0, 0, 0, 0⟩)
def clsB : Stmt → List Stmt
  | .ClassDef (body := b) .. => b
  | _ => []
def inS (i j : Nat) : Stmt := (clsB (topS i)).getD j (.Pass ⟨0, 0, 0, 0⟩)
def cnm : List Str := ["RoomError", "BadVariable", "Unlike", "BadRivals", "Rivals"]
abbrev GG (K : PySem.W.Frag) : Wd := ⟨K, fun c => He.ga K (cnm.getD c "")⟩
def ft_many : FT := fun c => match c with
  | 4 => some 0
  | _ => none
def ft_pairs : FT := fun c => match c with
  | 4 => some 1
  | _ => none
def nft : Nat → Nat → Bool := fun c c' => decide (c ∈ [4]) && decide (c' ∈ [4])
def itab : IT := fun c d => match c, d with
  | 4, 4 => some true
  | _, _ => none
def xt_Unlike : XT := fun c => match c with
  | 2 => some true
  | _ => none
structure Fx (K : PySem.W.Frag) (mg : Str → Option Value) : Prop where
  n_int : mg "int" = none
  n_isinstance : mg "isinstance" = none
  n_bool : mg "bool" = none
  n_tuple : mg "tuple" = none
  n_len : mg "len" = none
  n_all : mg "all" = none
  n_zip : mg "zip" = none
  n_range : mg "range" = none
  n_sorted : mg "sorted" = none
  n_list : mg "list" = none
  n_max : mg "max" = none
  n_min : mg "min" = none
  n_set : mg "set" = none
  i_MOST_RIVALS : ∃ t, mg "MOST_RIVALS" = some (.int 8 t)
  c_Rivals : mg "Rivals" = some (.ref ((GG K).kap 4))
  x_Unlike : ExcT (GG K) mg "Unlike" 2
  xt_Unlike : XTok (GG K) (.ref ((GG K).kap 2)) xt_Unlike
  ft_many : FTok (GG K) "many" ft_many
  ft_pairs : FTok (GG K) "pairs" ft_pairs
  isi : ITok (GG K) itab
  d_is_number : ∃ fd, FunD K "is_number" "is_number" (defArgs (topS 7)) (defBody (topS 7)) (defScope (topS 7)) [] [] (He.fAd K ("is_number", none)) fd
  g_is_number : mg "is_number" = some (.ref (He.fAd K ("is_number", none)))
  d_is_pair : ∃ fd, FunD K "is_pair" "is_pair" (defArgs (topS 8)) (defBody (topS 8)) (defScope (topS 8)) [] [] (He.fAd K ("is_pair", none)) fd
  g_is_pair : mg "is_pair" = some (.ref (He.fAd K ("is_pair", none)))
  d_are_pairs : ∃ fd, FunD K "are_pairs" "are_pairs" (defArgs (topS 9)) (defBody (topS 9)) (defScope (topS 9)) [] [] (He.fAd K ("are_pairs", none)) fd
  g_are_pairs : mg "are_pairs" = some (.ref (He.fAd K ("are_pairs", none)))
  d_all_pairs : ∃ fd, FunD K "all_pairs" "all_pairs" (defArgs (topS 10)) (defBody (topS 10)) (defScope (topS 10)) [] [] (He.fAd K ("all_pairs", none)) fd
  g_all_pairs : mg "all_pairs" = some (.ref (He.fAd K ("all_pairs", none)))
  d_Rivals___init__ : ∃ fd, FunD K "__init__" "Rivals.__init__" (defArgs (inS 11 1)) (defBody (inS 11 1)) (defScope (inS 11 1)) [.ref (He.dflAt ("Rivals", some "__init__") 0 K)] [] (He.fAd K ("Rivals", some "__init__")) fd
  e_Rivals___init___0 : ∀ H, SqT K H (He.dflAt ("Rivals", some "__init__") 0 K) []
  mk_Rivals : Mk K ((GG K).kap 4) (He.fAd K ("Rivals", some "__init__"))
  d_Rivals_circle : ∃ fd, FunD K "circle" "Rivals.circle" (defArgs (inS 11 2)) (defBody (inS 11 2)) (defScope (inS 11 2)) [] [] (cmFn K "Rivals" "circle") fd
  cm_Rivals_circle : ClX.CMet K ((GG K).kap 4) (.type "type") "circle" (cmRec K "Rivals" "circle") (cmFn K "Rivals" "circle")
  d_Rivals___len__ : ∃ fd, FunD K "__len__" "Rivals.__len__" (defArgs (inS 11 3)) (defBody (inS 11 3)) (defScope (inS 11 3)) [] [] (He.fAd K ("Rivals", some "__len__")) fd
  o_Rivals___len__ : PySem.W.findIn K (.ref ((GG K).kap 4)) "__len__" = some (some (.ref (He.fAd K ("Rivals", some "__len__")))) ∧ PySem.W.isFn K (.ref (He.fAd K ("Rivals", some "__len__"))) = true ∧ PySem.W.fnIn K (He.fAd K ("Rivals", some "__len__")) = true
  d_Rivals___contains__ : ∃ fd, FunD K "__contains__" "Rivals.__contains__" (defArgs (inS 11 4)) (defBody (inS 11 4)) (defScope (inS 11 4)) [] [] (He.fAd K ("Rivals", some "__contains__")) fd
  o_Rivals___contains__ : PySem.W.findIn K (.ref ((GG K).kap 4)) "__contains__" = some (some (.ref (He.fAd K ("Rivals", some "__contains__")))) ∧ PySem.W.isFn K (.ref (He.fAd K ("Rivals", some "__contains__"))) = true ∧ PySem.W.fnIn K (He.fAd K ("Rivals", some "__contains__")) = true
  d_Rivals___getitem__ : ∃ fd, FunD K "__getitem__" "Rivals.__getitem__" (defArgs (inS 11 5)) (defBody (inS 11 5)) (defScope (inS 11 5)) [] [] (He.fAd K ("Rivals", some "__getitem__")) fd
  o_Rivals___getitem__ : PySem.W.findIn K (.ref ((GG K).kap 4)) "__getitem__" = some (some (.ref (He.fAd K ("Rivals", some "__getitem__")))) ∧ PySem.W.isFn K (.ref (He.fAd K ("Rivals", some "__getitem__"))) = true ∧ PySem.W.fnIn K (He.fAd K ("Rivals", some "__getitem__")) = true
  d_Rivals___eq__ : ∃ fd, FunD K "__eq__" "Rivals.__eq__" (defArgs (inS 11 7)) (defBody (inS 11 7)) (defScope (inS 11 7)) [] [] (He.fAd K ("Rivals", some "__eq__")) fd
  o_Rivals___eq__ : PySem.W.findIn K (.ref ((GG K).kap 4)) "__eq__" = some (some (.ref (He.fAd K ("Rivals", some "__eq__")))) ∧ PySem.W.isFn K (.ref (He.fAd K ("Rivals", some "__eq__"))) = true ∧ PySem.W.fnIn K (He.fAd K ("Rivals", some "__eq__")) = true
  d_Rivals___or__ : ∃ fd, FunD K "__or__" "Rivals.__or__" (defArgs (inS 11 8)) (defBody (inS 11 8)) (defScope (inS 11 8)) [] [] (He.fAd K ("Rivals", some "__or__")) fd
  o_Rivals___or__ : PySem.W.findIn K (.ref ((GG K).kap 4)) "__or__" = some (some (.ref (He.fAd K ("Rivals", some "__or__")))) ∧ PySem.W.isFn K (.ref (He.fAd K ("Rivals", some "__or__"))) = true ∧ PySem.W.fnIn K (He.fAd K ("Rivals", some "__or__")) = true
  d_Rivals___sub__ : ∃ fd, FunD K "__sub__" "Rivals.__sub__" (defArgs (inS 11 9)) (defBody (inS 11 9)) (defScope (inS 11 9)) [] [] (He.fAd K ("Rivals", some "__sub__")) fd
  o_Rivals___sub__ : PySem.W.findIn K (.ref ((GG K).kap 4)) "__sub__" = some (some (.ref (He.fAd K ("Rivals", some "__sub__")))) ∧ PySem.W.isFn K (.ref (He.fAd K ("Rivals", some "__sub__"))) = true ∧ PySem.W.fnIn K (He.fAd K ("Rivals", some "__sub__")) = true
  d_Rivals___invert__ : ∃ fd, FunD K "__invert__" "Rivals.__invert__" (defArgs (inS 11 10)) (defBody (inS 11 10)) (defScope (inS 11 10)) [] [] (He.fAd K ("Rivals", some "__invert__")) fd
  o_Rivals___invert__ : PySem.W.findIn K (.ref ((GG K).kap 4)) "__invert__" = some (some (.ref (He.fAd K ("Rivals", some "__invert__")))) ∧ PySem.W.isFn K (.ref (He.fAd K ("Rivals", some "__invert__"))) = true ∧ PySem.W.fnIn K (He.fAd K ("Rivals", some "__invert__")) = true
  d__law_cell_at : ∃ fd, FunD K "_law_cell_at" "_law_cell_at" (defArgs (topS 13)) (defBody (topS 13)) (defScope (topS 13)) [] [] (He.fAd K ("_law_cell_at", none)) fd
  g__law_cell_at : mg "_law_cell_at" = some (.ref (He.fAd K ("_law_cell_at", none)))
  d__law_draw : ∃ fd, FunD K "_law_draw" "_law_draw" (defArgs (topS 14)) (defBody (topS 14)) (defScope (topS 14)) [] [] (He.fAd K ("_law_draw", none)) fd
  g__law_draw : mg "_law_draw" = some (.ref (He.fAd K ("_law_draw", none)))
  d__law_number : ∃ fd, FunD K "_law_number" "_law_number" (defArgs (topS 15)) (defBody (topS 15)) (defScope (topS 15)) [] [] (He.fAd K ("_law_number", none)) fd
  g__law_number : mg "_law_number" = some (.ref (He.fAd K ("_law_number", none)))
  d__law_next : ∃ fd, FunD K "_law_next" "_law_next" (defArgs (topS 16)) (defBody (topS 16)) (defScope (topS 16)) [] [] (He.fAd K ("_law_next", none)) fd
  g__law_next : mg "_law_next" = some (.ref (He.fAd K ("_law_next", none)))
  d__law_every : ∃ fd, FunD K "_law_every" "_law_every" (defArgs (topS 17)) (defBody (topS 17)) (defScope (topS 17)) [] [] (He.fAd K ("_law_every", none)) fd
  g__law_every : mg "_law_every" = some (.ref (He.fAd K ("_law_every", none)))
  d__law_rivals : ∃ fd, FunD K "_law_rivals" "_law_rivals" (defArgs (topS 18)) (defBody (topS 18)) (defScope (topS 18)) [] [] (He.fAd K ("_law_rivals", none)) fd
  g__law_rivals : mg "_law_rivals" = some (.ref (He.fAd K ("_law_rivals", none)))
  d__law_are : ∃ fd, FunD K "_law_are" "_law_are" (defArgs (topS 19)) (defBody (topS 19)) (defScope (topS 19)) [] [] (He.fAd K ("_law_are", none)) fd
  g__law_are : mg "_law_are" = some (.ref (He.fAd K ("_law_are", none)))
  d__law_is_fine : ∃ fd, FunD K "_law_is_fine" "_law_is_fine" (defArgs (topS 20)) (defBody (topS 20)) (defScope (topS 20)) [] [] (He.fAd K ("_law_is_fine", none)) fd
  g__law_is_fine : mg "_law_is_fine" = some (.ref (He.fAd K ("_law_is_fine", none)))
  d__law_refuses : ∃ fd, FunD K "_law_refuses" "_law_refuses" (defArgs (topS 21)) (defBody (topS 21)) (defScope (topS 21)) [] [] (He.fAd K ("_law_refuses", none)) fd
  g__law_refuses : mg "_law_refuses" = some (.ref (He.fAd K ("_law_refuses", none)))
  d_law : ∃ fd, FunD K "law" "law" (defArgs (topS 22)) (defBody (topS 22)) (defScope (topS 22)) [] [] (He.fAd K ("law", none)) fd
  g_law : mg "law" = some (.ref (He.fAd K ("law", none)))
  cr_Rivals : ClX.CRead K ((GG K).kap 4) (.type "type")
  nf : ∀ c c', nft c c' = true → PySem.W.notFirst K ((GG K).kap c) (.ref ((GG K).kap c')) = true
  ne_Rivals : PySem.W.findIn K (.ref ((GG K).kap 4)) "__ne__" = some (some (.builtin "object.__ne__")) ∧ PySem.W.mroIn K ((GG K).kap 4) (.type "object") = some true
  sf_Rivals : PySem.W.selfFirst K ((GG K).kap 4) = true
section
variable {P : Program} {w : World} {K : PySem.W.Frag} {mg : Str → Option Value} {base : Heap}
abbrev st_is_number : Stmt := topS 7
def m_is_number : MF := fn 3 3 (sRet (eAnd (eN fIsi (aCons (eVar 0) (aCons (eC (.ty "int")) aNil))) (eAnd (eNot (eN fIsi (aCons (eVar 0) (aCons (eC (.ty "bool")) aNil)))) (eChain fLe fLe (eVar 1) (eVar 0) (eVar 2)))))
theorem sc_is_number : FnScope ["thing", "low", "high"] ["thing", "low", "high"] (defScope st_is_number) := ⟨rfl, rfl, rfl, by decide +kernel, rfl, by decide +kernel, by decide +kernel⟩
theorem fn_is_number (Y : Fx K mg) {f : Addr} {fd : FuncData} {dvs : List V} {kws : List (Str × V)} (F : FunD K "is_number" "is_number" (defArgs st_is_number) (defBody st_is_number) (defScope st_is_number) dvs kws f fd) : FnM (GG K) P w mg base 1 f fd ["thing", "low", "high"] m_is_number :=
  ok_fn (G := GG K) F sc_is_number fun cdv A outer s H E hr tk hp => (jss_one (js_ret (je_and (je_callB (call_isiM rfl) rfl Y.n_isinstance boot_isinstance (ja_cons (je_var (i := 0)) (ja_cons (je_gty rfl Y.n_int boot_int) ja_nil))) (je_and (je_not (je_callB (call_isiM rfl) rfl Y.n_isinstance boot_isinstance (ja_cons (je_var (i := 0)) (ja_cons (je_gty rfl Y.n_bool boot_bool) ja_nil)))) (je_one (je_chain op_leM op_leM (je_var (i := 1)) (je_var (i := 0)) (je_var (i := 2))))))))
theorem ok_is_number (Y : Fx K mg) : CallT (GG K) P w mg base 1 "is_number" m_is_number [] := by
  obtain ⟨fd, F⟩ := Y.d_is_number
  exact ⟨_, fd, _, [], [], Y.g_is_number, F.kp, fn_is_number Y F, ar_fn, F.bindsN (fun _ _ _ _ _ _ us hl => match us, hl with | [_, _, _], _ => rfl), .nil, fun _ _ => .nil⟩
abbrev st_is_pair : Stmt := topS 8
def m_is_pair : MF := fn 2 3 (sSeq (sIf (tmOr (tmNot (toB (eN fIsi (aCons (eVar 1) (aCons (eC (.ty "tuple")) aNil))))) (toB (e2 fNe (eN fLen (aCons (eVar 1) aNil)) (eC (.int 2))))) (sRet (eC (.bl false))) sNext)
  (sRet (eAnd (eUse uAll (eComp [2] (iSeq (eVar 1)) (.nm 2) (cOne tmYes (eCall m_is_number [] (aCons (eVar 2) (aCons (eC (.int 0)) (aCons (e2 fSub (eVar 0) (eC (.int 1))) aNil))))))) (e2 fLt (e2 fIx (eVar 1) (eC (.int 0))) (e2 fIx (eVar 1) (eC (.int 1)))))))
theorem sc_is_pair : FnScope ["many", "thing", "one"] ["many", "thing"] (defScope st_is_pair) := ⟨rfl, rfl, rfl, by decide +kernel, rfl, by decide +kernel, by decide +kernel⟩
theorem fn_is_pair (Y : Fx K mg) {f : Addr} {fd : FuncData} {dvs : List V} {kws : List (Str × V)} (F : FunD K "is_pair" "is_pair" (defArgs st_is_pair) (defBody st_is_pair) (defScope st_is_pair) dvs kws f fd) : FnM (GG K) P w mg base 2 f fd ["many", "thing"] m_is_pair :=
  ok_fn (G := GG K) F sc_is_pair fun cdv A outer s H E hr tk hp => (jss_cons (js_if (PW.pt (jw_or (jt_not (jt_val (je_callB (call_isiM rfl) rfl Y.n_isinstance boot_isinstance (ja_cons (je_var (i := 1)) (ja_cons (je_gty rfl Y.n_tuple boot_tuple) ja_nil))))) (jw_or1 (jt_cmp (op_neM rfl hr.units) (je_callB (call_lenM rfl) rfl Y.n_len boot_len (ja_cons (je_var (i := 1)) ja_nil)) je_int)))) (jss_one (js_ret je_bl)) jss_nil)
  (jss_one (js_ret (je_and (je_useB (use_all rfl) rfl Y.n_all boot_all (je_lc (own := [("one", 2)]) (t := (.nm 2)) rfl sc_is_pair.nd (ji_seq (je_var (i := 1)) rfl) (blkOk_by (by show blkC ["many", "thing", "one"] (defScope st_is_pair) _ _ = true; decide +kernel)) (fun s1 H1 C1 cl1 fp1 => (jg_name (i := 2) sc_is_pair.nd rfl (by first | exact Or.inl rfl | exact Or.inr rfl))) (fun s1 H1 C1 cl1 fp1 => jts_nil) (fun s1 H1 C1 cl1 fp1 => (je_callT (ok_is_number Y) rfl takes0 (show Room 1 _ from hr.mono (by decide)) rfl (ja_cons (je_var (i := 2)) (ja_cons je_int (ja_cons (je_bin op_subM (je_var (i := 0)) je_int) ja_nil))))))) (je_one (je_cmp (op_ltM rfl hr.units) (je_ix (ix_M rfl) (je_var (i := 1)) je_int) (je_ix (ix_M rfl) (je_var (i := 1)) je_int)))))))
theorem ok_is_pair (Y : Fx K mg) : CallT (GG K) P w mg base 2 "is_pair" m_is_pair [] := by
  obtain ⟨fd, F⟩ := Y.d_is_pair
  exact ⟨_, fd, _, [], [], Y.g_is_pair, F.kp, fn_is_pair Y F, ar_fn, F.bindsN (fun _ _ _ _ _ _ us hl => match us, hl with | [_, _], _ => rfl), .nil, fun _ _ => .nil⟩
abbrev st_are_pairs : Stmt := topS 9
def m_are_pairs : MF := fn 2 5 (sSeq (sIf (tmOr (tmNot (toB (eN fIsi (aCons (eVar 1) (aCons (eC (.ty "tuple")) aNil))))) (tmNot (toB (eUse uAll (eComp [2] (iSeq (eVar 1)) (.nm 2) (cOne tmYes (eCall m_is_pair [] (aCons (eVar 0) (aCons (eVar 2) aNil))))))))) (sRet (eC (.bl false))) sNext)
  (sRet (eUse uAll (eComp [3, 4] (iZip (aCons (eVar 1) (aCons (eCut (eVar 1) (oSome (eC (.int 1))) oNone) aNil))) (.tp [3, 4]) (cOne tmYes (e2 fLt (eVar 3) (eVar 4)))))))
theorem sc_are_pairs : FnScope ["many", "thing", "pair", "one", "other"] ["many", "thing"] (defScope st_are_pairs) := ⟨rfl, rfl, rfl, by decide +kernel, rfl, by decide +kernel, by decide +kernel⟩
theorem fn_are_pairs (Y : Fx K mg) {f : Addr} {fd : FuncData} {dvs : List V} {kws : List (Str × V)} (F : FunD K "are_pairs" "are_pairs" (defArgs st_are_pairs) (defBody st_are_pairs) (defScope st_are_pairs) dvs kws f fd) : FnM (GG K) P w mg base 3 f fd ["many", "thing"] m_are_pairs :=
  ok_fn (G := GG K) F sc_are_pairs fun cdv A outer s H E hr tk hp => (jss_cons (js_if (PW.pt (jw_or (jt_not (jt_val (je_callB (call_isiM rfl) rfl Y.n_isinstance boot_isinstance (ja_cons (je_var (i := 1)) (ja_cons (je_gty rfl Y.n_tuple boot_tuple) ja_nil))))) (jw_or1 (jt_not (jt_val (je_useB (use_all rfl) rfl Y.n_all boot_all (je_lc (own := [("pair", 2)]) (t := (.nm 2)) rfl sc_are_pairs.nd (ji_seq (je_var (i := 1)) rfl) (blkOk_by (by show blkC ["many", "thing", "pair", "one", "other"] (defScope st_are_pairs) _ _ = true; decide +kernel)) (fun s1 H1 C1 cl1 fp1 => (jg_name (i := 2) sc_are_pairs.nd rfl (by first | exact Or.inl rfl | exact Or.inr rfl))) (fun s1 H1 C1 cl1 fp1 => jts_nil) (fun s1 H1 C1 cl1 fp1 => (je_callT (ok_is_pair Y) rfl takes0 (show Room 2 _ from hr.mono (by decide)) rfl (ja_cons (je_var (i := 0)) (ja_cons (je_var (i := 2)) ja_nil))))))))))) (jss_one (js_ret je_bl)) jss_nil)
  (jss_one (js_ret (je_useB (use_all rfl) rfl Y.n_all boot_all (je_lc (own := [("one", 3), ("other", 4)]) (t := (.tp [3, 4])) rfl sc_are_pairs.nd (ji_zip rfl rfl Y.n_zip (ja_cons (je_var (i := 1)) (ja_cons (je_cut rfl (je_var (i := 1)) (jo_some je_int) jo_none) ja_nil))) (blkOk_by (by show blkC ["many", "thing", "pair", "one", "other"] (defScope st_are_pairs) _ _ = true; decide +kernel)) (fun s1 H1 C1 cl1 fp1 => (jg_tup rfl rfl (jgs_cons (G := GG K) (jg_name (i := 3) sc_are_pairs.nd rfl (by first | exact Or.inl rfl | exact Or.inr rfl)) (jgs_cons (G := GG K) (jg_name (i := 4) sc_are_pairs.nd rfl (by first | exact Or.inl rfl | exact Or.inr rfl)) jgs_nil)))) (fun s1 H1 C1 cl1 fp1 => jts_nil) (fun s1 H1 C1 cl1 fp1 => (je_cmp (op_ltM rfl hr.units) (je_var (i := 3)) (je_var (i := 4)))))))))
theorem ok_are_pairs (Y : Fx K mg) : CallT (GG K) P w mg base 3 "are_pairs" m_are_pairs [] := by
  obtain ⟨fd, F⟩ := Y.d_are_pairs
  exact ⟨_, fd, _, [], [], Y.g_are_pairs, F.kp, fn_are_pairs Y F, ar_fn, F.bindsN (fun _ _ _ _ _ _ us hl => match us, hl with | [_, _], _ => rfl), .nil, fun _ _ => .nil⟩
abbrev st_all_pairs : Stmt := topS 10
def m_all_pairs : MF := fn 1 3 (sRet (eOwn (eComp [1, 2] (iRng (aCons (eVar 0) aNil)) (.nm 1) (cTwo [2] tmYes (iRng (aCons (e2 fAdd (eVar 1) (eC (.int 1))) (aCons (eVar 0) aNil))) (.nm 2) (cOne tmYes (eTup (aCons (eVar 1) (aCons (eVar 2) aNil))))))))
theorem sc_all_pairs : FnScope ["many", "one", "other"] ["many"] (defScope st_all_pairs) := ⟨rfl, rfl, rfl, by decide +kernel, rfl, by decide +kernel, by decide +kernel⟩
theorem fn_all_pairs (Y : Fx K mg) {f : Addr} {fd : FuncData} {dvs : List V} {kws : List (Str × V)} (F : FunD K "all_pairs" "all_pairs" (defArgs st_all_pairs) (defBody st_all_pairs) (defScope st_all_pairs) dvs kws f fd) : FnM (GG K) P w mg base 1 f fd ["many"] m_all_pairs :=
  ok_fn (G := GG K) F sc_all_pairs fun cdv A outer s H E hr tk hp => (jss_one (js_ret (je_own (je_lc2 (own := [("one", 1), ("other", 2)]) (vs1 := [2]) (t := (.nm 1)) (t1 := (.nm 2)) rfl sc_all_pairs.nd (ji_range1 rfl Y.n_range (ja_cons (je_var (i := 0)) ja_nil) rfl len1) (blkOk_by (by show blkC ["many", "one", "other"] (defScope st_all_pairs) _ _ = true; decide +kernel)) (by decide) (fun s1 H1 C1 cl1 fp1 => (jg_name (i := 1) sc_all_pairs.nd rfl (by first | exact Or.inl rfl | exact Or.inr rfl))) (fun s1 H1 C1 cl1 fp1 => jts_nil) (fun s1 H1 C1 cl1 fp1 => (ji_range2 rfl Y.n_range (ja_cons (je_bin (op_addM rfl) (je_var (i := 1)) je_int) (ja_cons (je_var (i := 0)) ja_nil)) rfl rfl len2)) (fun s1 H1 C1 cl1 fp1 => (jg_name (i := 2) sc_all_pairs.nd rfl (by first | exact Or.inl rfl | exact Or.inr rfl))) (fun s1 H1 C1 cl1 fp1 => jts_nil) (fun s1 H1 C1 cl1 fp1 => (je_tup (ja_cons (je_var (i := 1)) (ja_cons (je_var (i := 2)) ja_nil))))))))
theorem ok_all_pairs (Y : Fx K mg) : CallT (GG K) P w mg base 1 "all_pairs" m_all_pairs [] := by
  obtain ⟨fd, F⟩ := Y.d_all_pairs
  exact ⟨_, fd, _, [], [], Y.g_all_pairs, F.kp, fn_all_pairs Y F, ar_fn, F.bindsN (fun _ _ _ _ _ _ us hl => match us, hl with | [_], _ => rfl), .nil, fun _ _ => .nil⟩
abbrev st_Rivals___init__ : Stmt := inS 11 1
def m_Rivals___init__ : MF := fn 3 3 (sSeq (sIf (tmNot (toB (eCall m_is_number [] (aCons (eVar 1) (aCons (eC (.int 1)) (aCons (eC (.int 8)) aNil)))))) sNever sNext)
  (sSeq (sIf (tmNot (toB (eCall m_are_pairs [] (aCons (eVar 1) (aCons (eVar 2) aNil))))) sNever sNext)
  (sSeq (sFldA ft_many (eVar 0) (eVar 1))
  (sFldA ft_pairs (eVar 0) (eVar 2)))))
theorem sc_Rivals___init__ : FnScope ["self", "many", "pairs"] ["self", "many", "pairs"] (defScope st_Rivals___init__) := ⟨rfl, rfl, rfl, by decide +kernel, rfl, by decide +kernel, by decide +kernel⟩
theorem fn_Rivals___init__ (Y : Fx K mg) {f : Addr} {fd : FuncData} {dvs : List V} {kws : List (Str × V)} (F : FunD K "__init__" "Rivals.__init__" (defArgs st_Rivals___init__) (defBody st_Rivals___init__) (defScope st_Rivals___init__) dvs kws f fd) : FnM (GG K) P w mg base 4 f fd ["self", "many", "pairs"] m_Rivals___init__ :=
  ok_fn (G := GG K) F sc_Rivals___init__ fun cdv A outer s H E hr tk hp => (jss_cons (js_if (jt_not (jt_val (je_callT (ok_is_number Y) rfl tk (show Room 1 _ from hr.mono (by decide)) rfl (ja_cons (je_var (i := 1)) (ja_cons je_int (ja_cons (je_gint rfl Y.i_MOST_RIVALS) ja_nil)))))) jss_never jss_nil)
  (jss_cons (js_if (jt_not (jt_val (je_callT (ok_are_pairs Y) rfl tk (show Room 3 _ from hr.mono (by decide)) rfl (ja_cons (je_var (i := 1)) (ja_cons (je_var (i := 2)) ja_nil))))) jss_never jss_nil)
  (jss_cons (js_fld rfl Y.ft_many (je_var (i := 0)) (je_var (i := 1)))
  (jss_one (js_fld rfl Y.ft_pairs (je_var (i := 0)) (je_var (i := 2)))))))
theorem mk_Rivals___init__ (Y : Fx K mg) : MakeT (GG K) P w mg base 4 "Rivals" 4 m_Rivals___init__ [] := by
  obtain ⟨fd, F⟩ := Y.d_Rivals___init__
  obtain ⟨ds, hv, hb⟩ := F.binds1 (ps := ["self", "many", "pairs"]) 3 1 (List.cons_ne_nil _ _) rfl (fun T kV doc pm an cdv ct us its hu hi => match us, its, hu, hi with | [_, _, _], [_], _, _ => ⟨_, rfl, rfl⟩)
  exact ⟨_, fd, _, ds, _, Y.c_Rivals, Y.mk_Rivals, fn_Rivals___init__ Y F, ar_fn, hb, hv, fun ρ H => .nil⟩
theorem mk_Rivals___init___d1 (Y : Fx K mg) : MakeT (GG K) P w mg base 4 "Rivals" 4 m_Rivals___init__ [(.tup [])] := by
  obtain ⟨fd, F⟩ := Y.d_Rivals___init__
  obtain ⟨ds, hv, hb⟩ := F.binds1 (ps := ["self", "many", "pairs"]) 2 0 (List.cons_ne_nil _ _) rfl (fun T kV doc pm an cdv ct us its hu hi => match us, its, hu, hi with | [_, _], [_], _, _ => ⟨_, rfl, rfl⟩)
  exact ⟨_, fd, _, ds, _, Y.c_Rivals, Y.mk_Rivals, fn_Rivals___init__ Y F, ar_fn, hb, hv, fun ρ H => (.cons (.tup (Y.e_Rivals___init___0 H) .nil) .nil)⟩
abbrev st_Rivals_circle : Stmt := inS 11 2
def m_Rivals_circle : MF := fn 2 3 (sSeq (sIf (tmNot (toB (eCall m_is_number [] (aCons (eVar 1) (aCons (eC (.int 3)) (aCons (eC (.int 8)) aNil)))))) sNever sNext)
  (sRet (eMakeV 4 m_Rivals___init__ [] (eVar 0) (aCons (eVar 1) (aCons (eN fTup (aCons (eN fSorted (aCons (e2 fAdd (eOwn (eComp [2] (iRng (aCons (e2 fSub (eVar 1) (eC (.int 1))) aNil)) (.nm 2) (cOne tmYes (eTup (aCons (eVar 2) (aCons (e2 fAdd (eVar 2) (eC (.int 1))) aNil)))))) (eLst (aCons (eTup (aCons (eC (.int 0)) (aCons (e2 fSub (eVar 1) (eC (.int 1))) aNil))) aNil))) aNil)) aNil)) aNil)))))
theorem sc_Rivals_circle : FnScope ["cls", "many", "one"] ["cls", "many"] (defScope st_Rivals_circle) := ⟨rfl, rfl, rfl, by decide +kernel, rfl, by decide +kernel, by decide +kernel⟩
theorem fn_Rivals_circle (Y : Fx K mg) {f : Addr} {fd : FuncData} {dvs : List V} {kws : List (Str × V)} (F : FunD K "circle" "Rivals.circle" (defArgs st_Rivals_circle) (defBody st_Rivals_circle) (defScope st_Rivals_circle) dvs kws f fd) : FnM (GG K) P w mg base 6 f fd ["cls", "many"] m_Rivals_circle :=
  ok_fn (G := GG K) F sc_Rivals_circle fun cdv A outer s H E hr tk hp => (jss_cons (js_if (jt_not (jt_val (je_callT (ok_is_number Y) rfl tk (show Room 1 _ from hr.mono (by decide)) rfl (ja_cons (je_var (i := 1)) (ja_cons je_int (ja_cons (je_gint rfl Y.i_MOST_RIVALS) ja_nil)))))) jss_never jss_nil)
  (jss_one (js_ret (je_makeV (mk_Rivals___init__ Y) rfl tk (show Room 5 _ from hr.mono (by decide)) (je_var (i := 0)) (ja_cons (je_var (i := 1)) (ja_cons (je_callTy (call_tupM rfl) rfl Y.n_tuple boot_tuple (ja_cons (je_callB (call_sortedM rfl hr.units) rfl Y.n_sorted boot_sorted (ja_cons (je_bin (op_addM rfl) (je_own (je_lc (own := [("one", 2)]) (t := (.nm 2)) rfl sc_Rivals_circle.nd (ji_range1 rfl Y.n_range (ja_cons (je_bin op_subM (je_var (i := 1)) je_int) ja_nil) rfl len1) (blkOk_by (by show blkC ["cls", "many", "one"] (defScope st_Rivals_circle) _ _ = true; decide +kernel)) (fun s1 H1 C1 cl1 fp1 => (jg_name (i := 2) sc_Rivals_circle.nd rfl (by first | exact Or.inl rfl | exact Or.inr rfl))) (fun s1 H1 C1 cl1 fp1 => jts_nil) (fun s1 H1 C1 cl1 fp1 => (je_tup (ja_cons (je_var (i := 2)) (ja_cons (je_bin (op_addM rfl) (je_var (i := 2)) je_int) ja_nil)))))) (je_lst (ja_cons (je_tup (ja_cons je_int (ja_cons (je_bin op_subM (je_var (i := 1)) je_int) ja_nil))) ja_nil))) ja_nil)) ja_nil)) ja_nil))))))
theorem cm_Rivals_circle (Y : Fx K mg) : CMethT (GG K) P w mg base 6 4 "circle" m_Rivals_circle := by
  obtain ⟨fd, F⟩ := Y.d_Rivals_circle
  exact ⟨_, fd, _, _, _, Y.cr_Rivals, Y.cm_Rivals_circle, fn_Rivals_circle Y F, ar_fn, F.bindsN (fun _ _ _ _ _ _ us hl => match us, hl with | [_, _], _ => rfl)⟩
abbrev st_Rivals___len__ : Stmt := inS 11 3
def m_Rivals___len__ : MF := fn 1 1 (sRet (eN fLen (aCons (eLstRg (aCons (e1 (fFld ft_many) (eVar 0)) aNil)) aNil)))
theorem sc_Rivals___len__ : FnScope ["self"] ["self"] (defScope st_Rivals___len__) := ⟨rfl, rfl, rfl, by decide +kernel, rfl, by decide +kernel, by decide +kernel⟩
theorem fn_Rivals___len__ (Y : Fx K mg) {f : Addr} {fd : FuncData} {dvs : List V} {kws : List (Str × V)} (F : FunD K "__len__" "Rivals.__len__" (defArgs st_Rivals___len__) (defBody st_Rivals___len__) (defScope st_Rivals___len__) dvs kws f fd) : FnM (GG K) P w mg base 1 f fd ["self"] m_Rivals___len__ :=
  ok_fn (G := GG K) F sc_Rivals___len__ fun cdv A outer s H E hr tk hp => (jss_one (js_ret (je_callB (call_lenM rfl) rfl Y.n_len boot_len (ja_cons (je_listRg rfl rfl Y.n_list rfl Y.n_range (je_fld rfl Y.ft_many (je_var (i := 0)))) ja_nil))))
theorem own_Rivals___len__ (Y : Fx K mg) : OwnM (GG K) P w mg base 1 4 "__len__" m_Rivals___len__ := by
  obtain ⟨fd, F⟩ := Y.d_Rivals___len__
  exact ⟨_, fd, _, Y.o_Rivals___len__.1, Y.o_Rivals___len__.2.1, Y.o_Rivals___len__.2.2, fn_Rivals___len__ Y F, ar_fn, F.bindsN (fun _ _ _ _ _ _ us hl => match us, hl with | [_], _ => rfl)⟩
def tb__len__0 : MT2 := fun c => match c with
  | 4 => some m_Rivals___len__
  | _ => none
theorem T_tb__len__0 (Y : Fx K mg) : ∀ c m, tb__len__0 c = some m → OwnM (GG K) P w mg base 1 c "__len__" m := by
  intro c m e
  match c, e with
  | 4, e => cases e; exact (own_Rivals___len__ Y).up (by decide)
abbrev st_Rivals___contains__ : Stmt := inS 11 4
def m_Rivals___contains__ : MF := fn 2 3 (sSeq (sIf (tmOr (tmNot (toB (eN fIsi (aCons (eVar 1) (aCons (eC (.ty "tuple")) aNil))))) (toB (e2 fNe (e1D (dLen tb__len__0) (eVar 1)) (eC (.int 2))))) (sRet (eC (.bl false))) sNext)
  (sSeq (sIf (tmNot (toB (eUse uAll (eComp [2] (iSeq (eVar 1)) (.nm 2) (cOne tmYes (eCall m_is_number [] (aCons (eVar 2) (aCons (eC (.int 0)) (aCons (e2 fSub (e1 (fFld ft_many) (eVar 0)) (eC (.int 1))) aNil))))))))) (sRet (eC (.bl false))) sNext)
  (sRet (eOr (e2 fIn (eVar 1) (e1 (fFld ft_pairs) (eVar 0))) (e2 fIn (e1 fRev (eVar 1)) (e1 (fFld ft_pairs) (eVar 0)))))))
theorem sc_Rivals___contains__ : FnScope ["self", "pair", "one"] ["self", "pair"] (defScope st_Rivals___contains__) := ⟨rfl, rfl, rfl, by decide +kernel, rfl, by decide +kernel, by decide +kernel⟩
theorem fn_Rivals___contains__ (Y : Fx K mg) {f : Addr} {fd : FuncData} {dvs : List V} {kws : List (Str × V)} (F : FunD K "__contains__" "Rivals.__contains__" (defArgs st_Rivals___contains__) (defBody st_Rivals___contains__) (defScope st_Rivals___contains__) dvs kws f fd) : FnM (GG K) P w mg base 3 f fd ["self", "pair"] m_Rivals___contains__ :=
  ok_fn (G := GG K) F sc_Rivals___contains__ fun cdv A outer s H E hr tk hp => (jss_cons (js_if (PW.pt (jw_or (jt_not (jt_val (je_callB (call_isiM rfl) rfl Y.n_isinstance boot_isinstance (ja_cons (je_var (i := 1)) (ja_cons (je_gty rfl Y.n_tuple boot_tuple) ja_nil))))) (jw_or1 (jt_cmp (op_neM rfl hr.units) (je_lenD rfl tk (show Room 2 _ from hr.mono (by decide)) rfl Y.n_len (T_tb__len__0 Y) (je_var (i := 1))) je_int)))) (jss_one (js_ret je_bl)) jss_nil)
  (jss_cons (js_if (jt_not (jt_val (je_useB (use_all rfl) rfl Y.n_all boot_all (je_lc (own := [("one", 2)]) (t := (.nm 2)) rfl sc_Rivals___contains__.nd (ji_seq (je_var (i := 1)) rfl) (blkOk_by (by show blkC ["self", "pair", "one"] (defScope st_Rivals___contains__) _ _ = true; decide +kernel)) (fun s1 H1 C1 cl1 fp1 => (jg_name (i := 2) sc_Rivals___contains__.nd rfl (by first | exact Or.inl rfl | exact Or.inr rfl))) (fun s1 H1 C1 cl1 fp1 => jts_nil) (fun s1 H1 C1 cl1 fp1 => (je_callT (ok_is_number Y) rfl takes0 (show Room 1 _ from hr.mono (by decide)) rfl (ja_cons (je_var (i := 2)) (ja_cons je_int (ja_cons (je_bin op_subM (je_fld rfl Y.ft_many (je_var (i := 0))) je_int) ja_nil))))))))) (jss_one (js_ret je_bl)) jss_nil)
  (jss_one (js_ret (je_or (je_cmp (op_inM rfl hr) (je_var (i := 1)) (je_fld rfl Y.ft_pairs (je_var (i := 0)))) (je_one (je_cmp (op_inM rfl hr) (je_rev rfl (je_var (i := 1))) (je_fld rfl Y.ft_pairs (je_var (i := 0))))))))))
theorem own_Rivals___contains__ (Y : Fx K mg) : OwnM (GG K) P w mg base 3 4 "__contains__" m_Rivals___contains__ := by
  obtain ⟨fd, F⟩ := Y.d_Rivals___contains__
  exact ⟨_, fd, _, Y.o_Rivals___contains__.1, Y.o_Rivals___contains__.2.1, Y.o_Rivals___contains__.2.2, fn_Rivals___contains__ Y F, ar_fn, F.bindsN (fun _ _ _ _ _ _ us hl => match us, hl with | [_, _], _ => rfl)⟩
def tb__contains__1 : MT2 := fun c => match c with
  | 4 => some m_Rivals___contains__
  | _ => none
theorem T_tb__contains__1 (Y : Fx K mg) : ∀ c m, tb__contains__1 c = some m → OwnM (GG K) P w mg base 3 c "__contains__" m := by
  intro c m e
  match c, e with
  | 4, e => cases e; exact (own_Rivals___contains__ Y).up (by decide)
abbrev st_Rivals___getitem__ : Stmt := inS 11 5
def m_Rivals___getitem__ : MF := fn 2 3 (sSeq (sIf (tmNot (toB (eCall m_is_number [] (aCons (eVar 1) (aCons (eC (.int 0)) (aCons (e2 fSub (e1 (fFld ft_many) (eVar 0)) (eC (.int 1))) aNil)))))) sNever sNext)
  (sRet (eOwn (eComp [2] (iRng (aCons (e1 (fFld ft_many) (eVar 0)) aNil)) (.nm 2) (cOne (toB (e2D (dIn fIn tb__contains__1 id) (eTup (aCons (eVar 1) (aCons (eVar 2) aNil))) (eVar 0))) (eVar 2))))))
theorem sc_Rivals___getitem__ : FnScope ["self", "one", "other"] ["self", "one"] (defScope st_Rivals___getitem__) := ⟨rfl, rfl, rfl, by decide +kernel, rfl, by decide +kernel, by decide +kernel⟩
theorem fn_Rivals___getitem__ (Y : Fx K mg) {f : Addr} {fd : FuncData} {dvs : List V} {kws : List (Str × V)} (F : FunD K "__getitem__" "Rivals.__getitem__" (defArgs st_Rivals___getitem__) (defBody st_Rivals___getitem__) (defScope st_Rivals___getitem__) dvs kws f fd) : FnM (GG K) P w mg base 4 f fd ["self", "one"] m_Rivals___getitem__ :=
  ok_fn (G := GG K) F sc_Rivals___getitem__ fun cdv A outer s H E hr tk hp => (jss_cons (js_if (jt_not (jt_val (je_callT (ok_is_number Y) rfl tk (show Room 1 _ from hr.mono (by decide)) rfl (ja_cons (je_var (i := 1)) (ja_cons je_int (ja_cons (je_bin op_subM (je_fld rfl Y.ft_many (je_var (i := 0))) je_int) ja_nil)))))) jss_never jss_nil)
  (jss_one (js_ret (je_own (je_lc (own := [("other", 2)]) (t := (.nm 2)) rfl sc_Rivals___getitem__.nd (ji_range1 rfl Y.n_range (ja_cons (je_fld rfl Y.ft_many (je_var (i := 0))) ja_nil) rfl len1) (blkOk_by (by show blkC ["self", "one", "other"] (defScope st_Rivals___getitem__) _ _ = true; decide +kernel)) (fun s1 H1 C1 cl1 fp1 => (jg_name (i := 2) sc_Rivals___getitem__.nd rfl (by first | exact Or.inl rfl | exact Or.inr rfl))) (fun s1 H1 C1 cl1 fp1 => jts_one (jt_cmpD (cmp_in (.inl ⟨rfl, rfl⟩) rfl takes0 (show Room 3 _ from hr.mono (by decide)) (op_inM rfl hr) (T_tb__contains__1 Y)) (je_tup (ja_cons (je_var (i := 1)) (ja_cons (je_var (i := 2)) ja_nil))) (je_var (i := 0)))) (fun s1 H1 C1 cl1 fp1 => (je_var (i := 2))))))))
theorem own_Rivals___getitem__ (Y : Fx K mg) : OwnM (GG K) P w mg base 4 4 "__getitem__" m_Rivals___getitem__ := by
  obtain ⟨fd, F⟩ := Y.d_Rivals___getitem__
  exact ⟨_, fd, _, Y.o_Rivals___getitem__.1, Y.o_Rivals___getitem__.2.1, Y.o_Rivals___getitem__.2.2, fn_Rivals___getitem__ Y F, ar_fn, F.bindsN (fun _ _ _ _ _ _ us hl => match us, hl with | [_, _], _ => rfl)⟩
abbrev st_Rivals___eq__ : Stmt := inS 11 7
def m_Rivals___eq__ : MF := fn 2 2 (sRet (eAnd (eN (fIsO itab) (aCons (eVar 1) (aCons (eC (.cst 4)) aNil))) (e2 fEq (eTup (aCons (e1 (fFld ft_many) (eVar 0)) (aCons (e1 (fFld ft_pairs) (eVar 0)) aNil))) (eTup (aCons (e1 (fFld ft_many) (eVar 1)) (aCons (e1 (fFld ft_pairs) (eVar 1)) aNil))))))
theorem sc_Rivals___eq__ : FnScope ["self", "other"] ["self", "other"] (defScope st_Rivals___eq__) := ⟨rfl, rfl, rfl, by decide +kernel, rfl, by decide +kernel, by decide +kernel⟩
theorem fn_Rivals___eq__ (Y : Fx K mg) {f : Addr} {fd : FuncData} {dvs : List V} {kws : List (Str × V)} (F : FunD K "__eq__" "Rivals.__eq__" (defArgs st_Rivals___eq__) (defBody st_Rivals___eq__) (defScope st_Rivals___eq__) dvs kws f fd) : FnM (GG K) P w mg base 1 f fd ["self", "other"] m_Rivals___eq__ :=
  ok_fn (G := GG K) F sc_Rivals___eq__ fun cdv A outer s H E hr tk hp => (jss_one (js_ret (je_and (je_callB (call_isO rfl Y.isi) rfl Y.n_isinstance boot_isinstance (ja_cons (je_var (i := 1)) (ja_cons (je_gcst (c := 4) rfl Y.c_Rivals) ja_nil))) (je_one (je_cmp (op_eqM rfl hr.units) (je_tup (ja_cons (je_fld rfl Y.ft_many (je_var (i := 0))) (ja_cons (je_fld rfl Y.ft_pairs (je_var (i := 0))) ja_nil))) (je_tup (ja_cons (je_fld rfl Y.ft_many (je_var (i := 1))) (ja_cons (je_fld rfl Y.ft_pairs (je_var (i := 1))) ja_nil))))))))
theorem own_Rivals___eq__ (Y : Fx K mg) : OwnM (GG K) P w mg base 1 4 "__eq__" m_Rivals___eq__ := by
  obtain ⟨fd, F⟩ := Y.d_Rivals___eq__
  exact ⟨_, fd, _, Y.o_Rivals___eq__.1, Y.o_Rivals___eq__.2.1, Y.o_Rivals___eq__.2.2, fn_Rivals___eq__ Y F, ar_fn, F.bindsN (fun _ _ _ _ _ _ us hl => match us, hl with | [_, _], _ => rfl)⟩
def tb__eq__2 : MT2 := fun c => match c with
  | 4 => some m_Rivals___eq__
  | _ => none
theorem T_tb__eq__2 (Y : Fx K mg) : ∀ c m, tb__eq__2 c = some m → OwnM (GG K) P w mg base 1 c "__eq__" m := by
  intro c m e
  match c, e with
  | 4, e => cases e; exact (own_Rivals___eq__ Y).up (by decide)
theorem M_tb__eq__2 (Y : Fx K mg) : ∀ c m, tb__eq__2 c = some m → PySem.W.findIn K (.ref ((GG K).kap c)) "__ne__" = some (some (.builtin "object.__ne__")) ∧ PySem.W.mroIn K ((GG K).kap c) (.type "object") = some true := by
  intro c m e
  match c, e with
  | 4, e => exact Y.ne_Rivals
abbrev st_Rivals___or__ : Stmt := inS 11 8
def m_Rivals___or__ : MF := fn 2 3 (sSeq (sIf (toB (e2D (dEq fNe tb__eq__2 nft not) (e1 (fFld ft_many) (eVar 0)) (e1 (fFld ft_many) (eVar 1)))) (sRaise0 2) sNext)
  (sRet (eMake 4 m_Rivals___init__ [] (aCons (e1 (fFld ft_many) (eVar 0)) (aCons (eUse uTup (eComp [2] (iSeq (eCall m_all_pairs [] (aCons (e1 (fFld ft_many) (eVar 0)) aNil))) (.nm 2) (cOne (tmOr (toB (e2D (dIn fIn tb__contains__1 id) (eVar 2) (eVar 0))) (toB (e2D (dIn fIn tb__contains__1 id) (eVar 2) (eVar 1)))) (eVar 2)))) aNil)))))
theorem sc_Rivals___or__ : FnScope ["self", "other", "pair"] ["self", "other"] (defScope st_Rivals___or__) := ⟨rfl, rfl, rfl, by decide +kernel, rfl, by decide +kernel, by decide +kernel⟩
theorem fn_Rivals___or__ (Y : Fx K mg) {f : Addr} {fd : FuncData} {dvs : List V} {kws : List (Str × V)} (F : FunD K "__or__" "Rivals.__or__" (defArgs st_Rivals___or__) (defBody st_Rivals___or__) (defScope st_Rivals___or__) dvs kws f fd) : FnM (GG K) P w mg base 6 f fd ["self", "other"] m_Rivals___or__ :=
  ok_fn (G := GG K) F sc_Rivals___or__ fun cdv A outer s H E hr tk hp => (jss_cons (js_if (jt_cmpD (cmp_ne rfl tk (show Room 2 _ from hr.mono (by decide)) (op_neM rfl hr.units) (T_tb__eq__2 Y) Y.nf (M_tb__eq__2 Y)) (je_fld rfl Y.ft_many (je_var (i := 0))) (je_fld rfl Y.ft_many (je_var (i := 1)))) (jss_one (js_raise0 Y.x_Unlike rfl rfl tk rfl)) jss_nil)
  (jss_one (js_ret (je_makeT (mk_Rivals___init__ Y) rfl tk (show Room 5 _ from hr.mono (by decide)) rfl (ja_cons (je_fld rfl Y.ft_many (je_var (i := 0))) (ja_cons (je_useT use_tup rfl Y.n_tuple boot_tuple (je_lc (own := [("pair", 2)]) (t := (.nm 2)) rfl sc_Rivals___or__.nd (ji_seq (je_callT (ok_all_pairs Y) rfl tk (show Room 1 _ from hr.mono (by decide)) rfl (ja_cons (je_fld rfl Y.ft_many (je_var (i := 0))) ja_nil)) rfl) (blkOk_by (by show blkC ["self", "other", "pair"] (defScope st_Rivals___or__) _ _ = true; decide +kernel)) (fun s1 H1 C1 cl1 fp1 => (jg_name (i := 2) sc_Rivals___or__.nd rfl (by first | exact Or.inl rfl | exact Or.inr rfl))) (fun s1 H1 C1 cl1 fp1 => jts_one (PW.pt (jw_or (jt_cmpD (cmp_in (.inl ⟨rfl, rfl⟩) rfl takes0 (show Room 3 _ from hr.mono (by decide)) (op_inM rfl hr) (T_tb__contains__1 Y)) (je_var (i := 2)) (je_var (i := 0))) (jw_or1 (jt_cmpD (cmp_in (.inl ⟨rfl, rfl⟩) rfl takes0 (show Room 3 _ from hr.mono (by decide)) (op_inM rfl hr) (T_tb__contains__1 Y)) (je_var (i := 2)) (je_var (i := 1))))))) (fun s1 H1 C1 cl1 fp1 => (je_var (i := 2))))) ja_nil))))))
theorem own_Rivals___or__ (Y : Fx K mg) : OwnM (GG K) P w mg base 6 4 "__or__" m_Rivals___or__ := by
  obtain ⟨fd, F⟩ := Y.d_Rivals___or__
  exact ⟨_, fd, _, Y.o_Rivals___or__.1, Y.o_Rivals___or__.2.1, Y.o_Rivals___or__.2.2, fn_Rivals___or__ Y F, ar_fn, F.bindsN (fun _ _ _ _ _ _ us hl => match us, hl with | [_, _], _ => rfl)⟩
abbrev st_Rivals___sub__ : Stmt := inS 11 9
def m_Rivals___sub__ : MF := fn 2 3 (sSeq (sIf (toB (e2D (dEq fNe tb__eq__2 nft not) (e1 (fFld ft_many) (eVar 0)) (e1 (fFld ft_many) (eVar 1)))) (sRaise0 2) sNext)
  (sRet (eMake 4 m_Rivals___init__ [] (aCons (e1 (fFld ft_many) (eVar 0)) (aCons (eUse uTup (eComp [2] (iSeq (e1 (fFld ft_pairs) (eVar 0))) (.nm 2) (cOne (toB (e2D (dIn fNotIn tb__contains__1 not) (eVar 2) (eVar 1))) (eVar 2)))) aNil)))))
theorem sc_Rivals___sub__ : FnScope ["self", "other", "pair"] ["self", "other"] (defScope st_Rivals___sub__) := ⟨rfl, rfl, rfl, by decide +kernel, rfl, by decide +kernel, by decide +kernel⟩
theorem fn_Rivals___sub__ (Y : Fx K mg) {f : Addr} {fd : FuncData} {dvs : List V} {kws : List (Str × V)} (F : FunD K "__sub__" "Rivals.__sub__" (defArgs st_Rivals___sub__) (defBody st_Rivals___sub__) (defScope st_Rivals___sub__) dvs kws f fd) : FnM (GG K) P w mg base 6 f fd ["self", "other"] m_Rivals___sub__ :=
  ok_fn (G := GG K) F sc_Rivals___sub__ fun cdv A outer s H E hr tk hp => (jss_cons (js_if (jt_cmpD (cmp_ne rfl tk (show Room 2 _ from hr.mono (by decide)) (op_neM rfl hr.units) (T_tb__eq__2 Y) Y.nf (M_tb__eq__2 Y)) (je_fld rfl Y.ft_many (je_var (i := 0))) (je_fld rfl Y.ft_many (je_var (i := 1)))) (jss_one (js_raise0 Y.x_Unlike rfl rfl tk rfl)) jss_nil)
  (jss_one (js_ret (je_makeT (mk_Rivals___init__ Y) rfl tk (show Room 5 _ from hr.mono (by decide)) rfl (ja_cons (je_fld rfl Y.ft_many (je_var (i := 0))) (ja_cons (je_useT use_tup rfl Y.n_tuple boot_tuple (je_lc (own := [("pair", 2)]) (t := (.nm 2)) rfl sc_Rivals___sub__.nd (ji_seq (je_fld rfl Y.ft_pairs (je_var (i := 0))) rfl) (blkOk_by (by show blkC ["self", "other", "pair"] (defScope st_Rivals___sub__) _ _ = true; decide +kernel)) (fun s1 H1 C1 cl1 fp1 => (jg_name (i := 2) sc_Rivals___sub__.nd rfl (by first | exact Or.inl rfl | exact Or.inr rfl))) (fun s1 H1 C1 cl1 fp1 => jts_one (jt_cmpD (cmp_in (.inr ⟨rfl, rfl⟩) rfl takes0 (show Room 3 _ from hr.mono (by decide)) (op_notInM rfl hr) (T_tb__contains__1 Y)) (je_var (i := 2)) (je_var (i := 1)))) (fun s1 H1 C1 cl1 fp1 => (je_var (i := 2))))) ja_nil))))))
theorem own_Rivals___sub__ (Y : Fx K mg) : OwnM (GG K) P w mg base 6 4 "__sub__" m_Rivals___sub__ := by
  obtain ⟨fd, F⟩ := Y.d_Rivals___sub__
  exact ⟨_, fd, _, Y.o_Rivals___sub__.1, Y.o_Rivals___sub__.2.1, Y.o_Rivals___sub__.2.2, fn_Rivals___sub__ Y F, ar_fn, F.bindsN (fun _ _ _ _ _ _ us hl => match us, hl with | [_, _], _ => rfl)⟩
abbrev st_Rivals___invert__ : Stmt := inS 11 10
def m_Rivals___invert__ : MF := fn 1 2 (sRet (eMake 4 m_Rivals___init__ [] (aCons (e1 (fFld ft_many) (eVar 0)) (aCons (eUse uTup (eComp [1] (iSeq (eCall m_all_pairs [] (aCons (e1 (fFld ft_many) (eVar 0)) aNil))) (.nm 1) (cOne (toB (e2D (dIn fNotIn tb__contains__1 not) (eVar 1) (eVar 0))) (eVar 1)))) aNil))))
theorem sc_Rivals___invert__ : FnScope ["self", "pair"] ["self"] (defScope st_Rivals___invert__) := ⟨rfl, rfl, rfl, by decide +kernel, rfl, by decide +kernel, by decide +kernel⟩
theorem fn_Rivals___invert__ (Y : Fx K mg) {f : Addr} {fd : FuncData} {dvs : List V} {kws : List (Str × V)} (F : FunD K "__invert__" "Rivals.__invert__" (defArgs st_Rivals___invert__) (defBody st_Rivals___invert__) (defScope st_Rivals___invert__) dvs kws f fd) : FnM (GG K) P w mg base 6 f fd ["self"] m_Rivals___invert__ :=
  ok_fn (G := GG K) F sc_Rivals___invert__ fun cdv A outer s H E hr tk hp => (jss_one (js_ret (je_makeT (mk_Rivals___init__ Y) rfl tk (show Room 5 _ from hr.mono (by decide)) rfl (ja_cons (je_fld rfl Y.ft_many (je_var (i := 0))) (ja_cons (je_useT use_tup rfl Y.n_tuple boot_tuple (je_lc (own := [("pair", 1)]) (t := (.nm 1)) rfl sc_Rivals___invert__.nd (ji_seq (je_callT (ok_all_pairs Y) rfl tk (show Room 1 _ from hr.mono (by decide)) rfl (ja_cons (je_fld rfl Y.ft_many (je_var (i := 0))) ja_nil)) rfl) (blkOk_by (by show blkC ["self", "pair"] (defScope st_Rivals___invert__) _ _ = true; decide +kernel)) (fun s1 H1 C1 cl1 fp1 => (jg_name (i := 1) sc_Rivals___invert__.nd rfl (by first | exact Or.inl rfl | exact Or.inr rfl))) (fun s1 H1 C1 cl1 fp1 => jts_one (jt_cmpD (cmp_in (.inr ⟨rfl, rfl⟩) rfl takes0 (show Room 3 _ from hr.mono (by decide)) (op_notInM rfl hr) (T_tb__contains__1 Y)) (je_var (i := 1)) (je_var (i := 0)))) (fun s1 H1 C1 cl1 fp1 => (je_var (i := 1))))) ja_nil)))))
theorem own_Rivals___invert__ (Y : Fx K mg) : OwnM (GG K) P w mg base 6 4 "__invert__" m_Rivals___invert__ := by
  obtain ⟨fd, F⟩ := Y.d_Rivals___invert__
  exact ⟨_, fd, _, Y.o_Rivals___invert__.1, Y.o_Rivals___invert__.2.1, Y.o_Rivals___invert__.2.2, fn_Rivals___invert__ Y F, ar_fn, F.bindsN (fun _ _ _ _ _ _ us hl => match us, hl with | [_], _ => rfl)⟩
def tb__getitem__3 : MT2 := fun c => match c with
  | 4 => some m_Rivals___getitem__
  | _ => none
theorem T_tb__getitem__3 (Y : Fx K mg) : ∀ c m, tb__getitem__3 c = some m → OwnM (GG K) P w mg base 4 c "__getitem__" m := by
  intro c m e
  match c, e with
  | 4, e => cases e; exact (own_Rivals___getitem__ Y).up (by decide)
abbrev st__law_cell_at : Stmt := topS 13
def m__law_cell_at : MF := fn 2 2 (sSeq (sIf (toB (e2 fLt (eVar 1) (e1D (dLen tb__len__0) (eVar 0)))) (sRet (e2D (dOwn2 fIx tb__getitem__3) (eVar 0) (eVar 1))) sNext)
  (sRet (eC (.int 0))))
theorem sc__law_cell_at : FnScope ["_law_script", "_law_k"] ["_law_script", "_law_k"] (defScope st__law_cell_at) := ⟨rfl, rfl, rfl, by decide +kernel, rfl, by decide +kernel, by decide +kernel⟩
theorem fn__law_cell_at (Y : Fx K mg) {f : Addr} {fd : FuncData} {dvs : List V} {kws : List (Str × V)} (F : FunD K "_law_cell_at" "_law_cell_at" (defArgs st__law_cell_at) (defBody st__law_cell_at) (defScope st__law_cell_at) dvs kws f fd) : FnM (GG K) P w mg base 6 f fd ["_law_script", "_law_k"] m__law_cell_at :=
  ok_fn (G := GG K) F sc__law_cell_at fun cdv A outer s H E hr tk hp => (jss_cons (js_if (jt_cmp (op_ltM rfl hr.units) (je_var (i := 1)) (je_lenD rfl tk (show Room 2 _ from hr.mono (by decide)) rfl Y.n_len (T_tb__len__0 Y) (je_var (i := 0)))) (jss_one (js_ret (je_ixD rfl tk (show Room 5 _ from hr.mono (by decide)) (ix_M rfl) (T_tb__getitem__3 Y) (je_var (i := 0)) (je_var (i := 1))))) jss_nil)
  (jss_one (js_ret je_int)))
theorem ok__law_cell_at (Y : Fx K mg) : CallT (GG K) P w mg base 6 "_law_cell_at" m__law_cell_at [] := by
  obtain ⟨fd, F⟩ := Y.d__law_cell_at
  exact ⟨_, fd, _, [], [], Y.g__law_cell_at, F.kp, fn__law_cell_at Y F, ar_fn, F.bindsN (fun _ _ _ _ _ _ us hl => match us, hl with | [_, _], _ => rfl), .nil, fun _ _ => .nil⟩
abbrev st__law_draw : Stmt := topS 14
def m__law_draw : MF := fn 3 4 (sSeq (sSet 3 (eTup (aCons (eC (.int 1000003)) (aCons (eC (.int 1000033)) (aCons (eC (.int 1000037)) (aCons (eC (.int 1000039)) (aCons (eC (.int 1000081)) (aCons (eC (.int 1000099)) (aCons (eC (.int 1000117)) (aCons (eC (.int 1000121)) aNil))))))))))
  (sSeq (sSet 3 (e2 fAdd (eVar 3) (eTup (aCons (eC (.int 1000133)) (aCons (eC (.int 1000151)) (aCons (eC (.int 1000159)) (aCons (eC (.int 1000171)) (aCons (eC (.int 1000183)) (aCons (eC (.int 1000187)) (aCons (eC (.int 1000193)) (aCons (eC (.int 1000199)) aNil)))))))))))
  (sRet (e2 fMod (eN fInt (aCons (e2 fMod (eN fInt (aCons (e2 fAdd (e2 fMul (eVar 0) (eC (.int 48271))) (e2 fMul (eVar 1) (eC (.int 69621)))) aNil)) (e2D (dOwn2 fIx tb__getitem__3) (eVar 3) (e2 fMod (eN fInt (aCons (eVar 1) aNil)) (eC (.int 16))))) aNil)) (eVar 2)))))
theorem sc__law_draw : FnScope ["_law_cell", "_law_k", "_law_bound", "_law_primes"] ["_law_cell", "_law_k", "_law_bound"] (defScope st__law_draw) := ⟨rfl, rfl, rfl, by decide +kernel, rfl, by decide +kernel, by decide +kernel⟩
theorem fn__law_draw (Y : Fx K mg) {f : Addr} {fd : FuncData} {dvs : List V} {kws : List (Str × V)} (F : FunD K "_law_draw" "_law_draw" (defArgs st__law_draw) (defBody st__law_draw) (defScope st__law_draw) dvs kws f fd) : FnM (GG K) P w mg base 6 f fd ["_law_cell", "_law_k", "_law_bound"] m__law_draw :=
  ok_fn (G := GG K) F sc__law_draw fun cdv A outer s H E hr tk hp => (jss_cons (js_set (i := 3) sc__law_draw.nd rfl (by first | exact Or.inl rfl | exact Or.inr rfl) (je_tup (ja_cons je_int (ja_cons je_int (ja_cons je_int (ja_cons je_int (ja_cons je_int (ja_cons je_int (ja_cons je_int (ja_cons je_int ja_nil))))))))))
  (jss_cons (js_set (i := 3) sc__law_draw.nd rfl (by first | exact Or.inl rfl | exact Or.inr rfl) (je_bin (op_addM rfl) (je_var (i := 3)) (je_tup (ja_cons je_int (ja_cons je_int (ja_cons je_int (ja_cons je_int (ja_cons je_int (ja_cons je_int (ja_cons je_int (ja_cons je_int ja_nil)))))))))))
  (jss_one (js_ret (je_bin op_modM (je_callTy call_intM rfl Y.n_int boot_int (ja_cons (je_bin op_modM (je_callTy call_intM rfl Y.n_int boot_int (ja_cons (je_bin (op_addM rfl) (je_bin (op_mulM rfl) (je_var (i := 0)) je_int) (je_bin (op_mulM rfl) (je_var (i := 1)) je_int)) ja_nil)) (je_ixD rfl tk (show Room 5 _ from hr.mono (by decide)) (ix_M rfl) (T_tb__getitem__3 Y) (je_var (i := 3)) (je_bin op_modM (je_callTy call_intM rfl Y.n_int boot_int (ja_cons (je_var (i := 1)) ja_nil)) je_int))) ja_nil)) (je_var (i := 2)))))))
theorem ok__law_draw (Y : Fx K mg) : CallT (GG K) P w mg base 6 "_law_draw" m__law_draw [] := by
  obtain ⟨fd, F⟩ := Y.d__law_draw
  exact ⟨_, fd, _, [], [], Y.g__law_draw, F.kp, fn__law_draw Y F, ar_fn, F.bindsN (fun _ _ _ _ _ _ us hl => match us, hl with | [_, _, _], _ => rfl), .nil, fun _ _ => .nil⟩
def tb__sub__4 : MT2 := fun c => match c with
  | 4 => some m_Rivals___sub__
  | _ => none
theorem T_tb__sub__4 (Y : Fx K mg) : ∀ c m, tb__sub__4 c = some m → OwnM (GG K) P w mg base 6 c "__sub__" m := by
  intro c m e
  match c, e with
  | 4, e => cases e; exact (own_Rivals___sub__ Y).up (by decide)
theorem S_tb__sub__4 (Y : Fx K mg) : ∀ c m, tb__sub__4 c = some m → OwnM (GG K) P w mg base 6 c (PySem.dunder Operator.Sub.info.2) m ∧ PySem.W.selfFirst K ((GG K).kap c) = true := by
  intro c m e
  refine ⟨by have z : PySem.dunder Operator.Sub.info.2 = "__sub__" := (by decide +kernel); rw [z]; exact T_tb__sub__4 Y c m e, ?_⟩
  match c, e with
  | 4, e => exact Y.sf_Rivals
abbrev st__law_number : Stmt := topS 15
def m__law_number : MF := fn 3 8 (sSeq (sSet 3 (eC (.int 1)))
  (sSeq (sFor (iRng (aCons (e2 fMod (eN fInt (aCons (eVar 1) aNil)) (eC (.int 24))) aNil)) (.nm 4) (sSet 3 (e2 fMul (eVar 3) (eC (.int 1009)))))
  (sSeq (sSet 5 (e2 fDiv (e2D (dBin fSub tb__sub__4) (eVar 0) (e2 fPow (eC (.int 10)) (eC (.int 18)))) (eVar 3)))
  (sSeq (sIf (toB (e2 fGt (eVar 5) (eC (.int 0)))) (sRet (e2 fMod (eN fInt (aCons (e2 fMod (eN fInt (aCons (eVar 5) aNil)) (eC (.int 1009))) aNil)) (eVar 2))) sNext)
  (sSeq (sSet 6 (e2 fMod (eN fInt (aCons (eVar 0) aNil)) (eC (.int 1000003))))
  (sSeq (sSet 7 (e2 fMul (e2 fAdd (eVar 6) (e2 fMul (eC (.int 977)) (eVar 1))) (e2 fAdd (e2 fAdd (eVar 6) (e2 fMul (eC (.int 31)) (eVar 1))) (eC (.int 5)))))
  (sRet (e2 fMod (eN fInt (aCons (eCall m__law_draw [] (aCons (eVar 7) (aCons (e2 fAdd (e2 fMod (eN fInt (aCons (eVar 1) aNil)) (eC (.int 9))) (eC (.int 1))) (aCons (eC (.int 999983)) aNil)))) aNil)) (eVar 2)))))))))
theorem sc__law_number : FnScope ["_law_cell", "_law_k", "_law_bound", "_law_power", "_law_times", "_law_rest", "_law_small", "_law_blend"] ["_law_cell", "_law_k", "_law_bound"] (defScope st__law_number) := ⟨rfl, rfl, rfl, by decide +kernel, rfl, by decide +kernel, by decide +kernel⟩
theorem fn__law_number (Y : Fx K mg) {f : Addr} {fd : FuncData} {dvs : List V} {kws : List (Str × V)} (F : FunD K "_law_number" "_law_number" (defArgs st__law_number) (defBody st__law_number) (defScope st__law_number) dvs kws f fd) : FnM (GG K) P w mg base 7 f fd ["_law_cell", "_law_k", "_law_bound"] m__law_number :=
  ok_fn (G := GG K) F sc__law_number fun cdv A outer s H E hr tk hp => (jss_cons (js_set (i := 3) sc__law_number.nd rfl (by first | exact Or.inl rfl | exact Or.inr rfl) je_int)
  (jss_cons (js_for (t := (.nm 4)) hp rfl (ji_range1 rfl Y.n_range (ja_cons (je_bin op_modM (je_callTy call_intM rfl Y.n_int boot_int (ja_cons (je_var (i := 1)) ja_nil)) je_int) ja_nil) rfl len1) (jg_name (i := 4) sc__law_number.nd rfl (by first | exact Or.inl rfl | exact Or.inr rfl)) (jss_one (js_set (i := 3) sc__law_number.nd rfl (by first | exact Or.inl rfl | exact Or.inr rfl) (je_bin (op_mulM rfl) (je_var (i := 3)) je_int))))
  (jss_cons (js_set (i := 5) sc__law_number.nd rfl (by first | exact Or.inl rfl | exact Or.inr rfl) (je_bin op_divM (je_binD rfl tk (show Room 6 _ from hr.mono (by decide)) op_subM (S_tb__sub__4 Y) (je_var (i := 0)) (je_bin op_powM je_int je_int)) (je_var (i := 3))))
  (jss_cons (js_if (jt_cmp op_gtM (je_var (i := 5)) je_int) (jss_one (js_ret (je_bin op_modM (je_callTy call_intM rfl Y.n_int boot_int (ja_cons (je_bin op_modM (je_callTy call_intM rfl Y.n_int boot_int (ja_cons (je_var (i := 5)) ja_nil)) je_int) ja_nil)) (je_var (i := 2))))) jss_nil)
  (jss_cons (js_set (i := 6) sc__law_number.nd rfl (by first | exact Or.inl rfl | exact Or.inr rfl) (je_bin op_modM (je_callTy call_intM rfl Y.n_int boot_int (ja_cons (je_var (i := 0)) ja_nil)) je_int))
  (jss_cons (js_set (i := 7) sc__law_number.nd rfl (by first | exact Or.inl rfl | exact Or.inr rfl) (je_bin (op_mulM rfl) (je_bin (op_addM rfl) (je_var (i := 6)) (je_bin (op_mulM rfl) je_int (je_var (i := 1)))) (je_bin (op_addM rfl) (je_bin (op_addM rfl) (je_var (i := 6)) (je_bin (op_mulM rfl) je_int (je_var (i := 1)))) je_int)))
  (jss_one (js_ret (je_bin op_modM (je_callTy call_intM rfl Y.n_int boot_int (ja_cons (je_callT (ok__law_draw Y) rfl tk (show Room 6 _ from hr.mono (by decide)) rfl (ja_cons (je_var (i := 7)) (ja_cons (je_bin (op_addM rfl) (je_bin op_modM (je_callTy call_intM rfl Y.n_int boot_int (ja_cons (je_var (i := 1)) ja_nil)) je_int) je_int) (ja_cons je_int ja_nil)))) ja_nil)) (je_var (i := 2)))))))))))
theorem ok__law_number (Y : Fx K mg) : CallT (GG K) P w mg base 7 "_law_number" m__law_number [] := by
  obtain ⟨fd, F⟩ := Y.d__law_number
  exact ⟨_, fd, _, [], [], Y.g__law_number, F.kp, fn__law_number Y F, ar_fn, F.bindsN (fun _ _ _ _ _ _ us hl => match us, hl with | [_, _, _], _ => rfl), .nil, fun _ _ => .nil⟩
abbrev st__law_next : Stmt := topS 16
def m__law_next : MF := fn 2 4 (sSeq (sSub (eVar 0) (eC (.int 2)) (e2 fAdd (e2D (dOwn2 fIx tb__getitem__3) (eVar 0) (eC (.int 2))) (eC (.int 1))))
  (sSeq (sSet 2 (e2 fDiv (e2D (dOwn2 fIx tb__getitem__3) (eVar 0) (eC (.int 2))) (eC (.int 12))))
  (sSeq (sSet 3 (e2 fAdd (eCall m__law_cell_at [] (aCons (e2D (dOwn2 fIx tb__getitem__3) (eVar 0) (eC (.int 0))) (aCons (e2 fAdd (e2D (dOwn2 fIx tb__getitem__3) (eVar 0) (eC (.int 1))) (eVar 2)) aNil))) (e2 fMul (eC (.int 31)) (eVar 2))))
  (sRet (eCall m__law_number [] (aCons (eVar 3) (aCons (e2 fAdd (e2 fMod (eN fInt (aCons (e2D (dOwn2 fIx tb__getitem__3) (eVar 0) (eC (.int 2))) aNil)) (eC (.int 12))) (eC (.int 1))) (aCons (eVar 1) aNil))))))))
theorem sc__law_next : FnScope ["_law_draw_here", "_law_bound", "_law_at", "_law_cell"] ["_law_draw_here", "_law_bound"] (defScope st__law_next) := ⟨rfl, rfl, rfl, by decide +kernel, rfl, by decide +kernel, by decide +kernel⟩
theorem fn__law_next (Y : Fx K mg) {f : Addr} {fd : FuncData} {dvs : List V} {kws : List (Str × V)} (F : FunD K "_law_next" "_law_next" (defArgs st__law_next) (defBody st__law_next) (defScope st__law_next) dvs kws f fd) : FnM (GG K) P w mg base 8 f fd ["_law_draw_here", "_law_bound"] m__law_next :=
  ok_fn (G := GG K) F sc__law_next fun cdv A outer s H E hr tk hp => (jss_cons (js_sub (je_var (i := 0)) je_int (je_bin (op_addM rfl) (je_ixD rfl tk (show Room 5 _ from hr.mono (by decide)) (ix_M rfl) (T_tb__getitem__3 Y) (je_var (i := 0)) je_int) je_int))
  (jss_cons (js_set (i := 2) sc__law_next.nd rfl (by first | exact Or.inl rfl | exact Or.inr rfl) (je_bin op_divM (je_ixD rfl tk (show Room 5 _ from hr.mono (by decide)) (ix_M rfl) (T_tb__getitem__3 Y) (je_var (i := 0)) je_int) je_int))
  (jss_cons (js_set (i := 3) sc__law_next.nd rfl (by first | exact Or.inl rfl | exact Or.inr rfl) (je_bin (op_addM rfl) (je_callT (ok__law_cell_at Y) rfl tk (show Room 6 _ from hr.mono (by decide)) rfl (ja_cons (je_ixD rfl tk (show Room 5 _ from hr.mono (by decide)) (ix_M rfl) (T_tb__getitem__3 Y) (je_var (i := 0)) je_int) (ja_cons (je_bin (op_addM rfl) (je_ixD rfl tk (show Room 5 _ from hr.mono (by decide)) (ix_M rfl) (T_tb__getitem__3 Y) (je_var (i := 0)) je_int) (je_var (i := 2))) ja_nil))) (je_bin (op_mulM rfl) je_int (je_var (i := 2)))))
  (jss_one (js_ret (je_callT (ok__law_number Y) rfl tk (show Room 7 _ from hr.mono (by decide)) rfl (ja_cons (je_var (i := 3)) (ja_cons (je_bin (op_addM rfl) (je_bin op_modM (je_callTy call_intM rfl Y.n_int boot_int (ja_cons (je_ixD rfl tk (show Room 5 _ from hr.mono (by decide)) (ix_M rfl) (T_tb__getitem__3 Y) (je_var (i := 0)) je_int) ja_nil)) je_int) je_int) (ja_cons (je_var (i := 1)) ja_nil)))))))))
theorem ok__law_next (Y : Fx K mg) : CallT (GG K) P w mg base 8 "_law_next" m__law_next [] := by
  obtain ⟨fd, F⟩ := Y.d__law_next
  exact ⟨_, fd, _, [], [], Y.g__law_next, F.kp, fn__law_next Y F, ar_fn, F.bindsN (fun _ _ _ _ _ _ us hl => match us, hl with | [_, _], _ => rfl), .nil, fun _ _ => .nil⟩
abbrev st__law_every : Stmt := topS 17
def m__law_every : MF := fn 1 4 (sSeq (sSet 1 (eLst aNil))
  (sSeq (sFor (iRng (aCons (eVar 0) aNil)) (.nm 2) (sSet 1 (e2 fAdd (eVar 1) (eOwn (eComp [3] (iRng (aCons (e2 fAdd (eVar 2) (eC (.int 1))) (aCons (eVar 0) aNil))) (.nm 3) (cOne tmYes (eTup (aCons (eVar 2) (aCons (eVar 3) aNil)))))))))
  (sRet (eVar 1))))
theorem sc__law_every : FnScope ["_law_many", "_law_found", "_law_one", "_law_other"] ["_law_many"] (defScope st__law_every) := ⟨rfl, rfl, rfl, by decide +kernel, rfl, by decide +kernel, by decide +kernel⟩
theorem fn__law_every (Y : Fx K mg) {f : Addr} {fd : FuncData} {dvs : List V} {kws : List (Str × V)} (F : FunD K "_law_every" "_law_every" (defArgs st__law_every) (defBody st__law_every) (defScope st__law_every) dvs kws f fd) : FnM (GG K) P w mg base 1 f fd ["_law_many"] m__law_every :=
  ok_fn (G := GG K) F sc__law_every fun cdv A outer s H E hr tk hp => (jss_cons (js_set (i := 1) sc__law_every.nd rfl (by first | exact Or.inl rfl | exact Or.inr rfl) (je_lst ja_nil))
  (jss_cons (js_for (t := (.nm 2)) hp rfl (ji_range1 rfl Y.n_range (ja_cons (je_var (i := 0)) ja_nil) rfl len1) (jg_name (i := 2) sc__law_every.nd rfl (by first | exact Or.inl rfl | exact Or.inr rfl)) (jss_one (js_set (i := 1) sc__law_every.nd rfl (by first | exact Or.inl rfl | exact Or.inr rfl) (je_bin (op_addM rfl) (je_var (i := 1)) (je_own (je_lc (own := [("_law_other", 3)]) (t := (.nm 3)) rfl sc__law_every.nd (ji_range2 rfl Y.n_range (ja_cons (je_bin (op_addM rfl) (je_var (i := 2)) je_int) (ja_cons (je_var (i := 0)) ja_nil)) rfl rfl len2) (blkOk_by (by show blkC ["_law_many", "_law_found", "_law_one", "_law_other"] (defScope st__law_every) _ _ = true; decide +kernel)) (fun s1 H1 C1 cl1 fp1 => (jg_name (i := 3) sc__law_every.nd rfl (by first | exact Or.inl rfl | exact Or.inr rfl))) (fun s1 H1 C1 cl1 fp1 => jts_nil) (fun s1 H1 C1 cl1 fp1 => (je_tup (ja_cons (je_var (i := 2)) (ja_cons (je_var (i := 3)) ja_nil))))))))))
  (jss_one (js_ret (je_var (i := 1))))))
theorem ok__law_every (Y : Fx K mg) : CallT (GG K) P w mg base 1 "_law_every" m__law_every [] := by
  obtain ⟨fd, F⟩ := Y.d__law_every
  exact ⟨_, fd, _, [], [], Y.g__law_every, F.kp, fn__law_every Y F, ar_fn, F.bindsN (fun _ _ _ _ _ _ us hl => match us, hl with | [_], _ => rfl), .nil, fun _ _ => .nil⟩
abbrev st__law_rivals : Stmt := topS 18
def m__law_rivals : MF := fn 2 5 (sSeq (sAsg (.tp [2, 3]) (eTup (aCons (e2 fAdd (eC (.int 1)) (eCall m__law_next [] (aCons (eVar 0) (aCons (eVar 1) aNil)))) (aCons (e2 fAdd (eC (.int 1)) (eCall m__law_next [] (aCons (eVar 0) (aCons (eC (.int 6)) aNil)))) aNil))))
  (sRet (eTup (aCons (eVar 2) (aCons (eUse uTup (eComp [4] (iSeq (eCall m__law_every [] (aCons (eVar 2) aNil))) (.nm 4) (cOne (toB (e2 fLt (eCall m__law_next [] (aCons (eVar 0) (aCons (eC (.int 7)) aNil))) (eVar 3))) (eVar 4)))) aNil)))))
theorem sc__law_rivals : FnScope ["_law_draw_here", "_law_most", "_law_many", "_law_dense", "_law_pair"] ["_law_draw_here", "_law_most"] (defScope st__law_rivals) := ⟨rfl, rfl, rfl, by decide +kernel, rfl, by decide +kernel, by decide +kernel⟩
theorem fn__law_rivals (Y : Fx K mg) {f : Addr} {fd : FuncData} {dvs : List V} {kws : List (Str × V)} (F : FunD K "_law_rivals" "_law_rivals" (defArgs st__law_rivals) (defBody st__law_rivals) (defScope st__law_rivals) dvs kws f fd) : FnM (GG K) P w mg base 9 f fd ["_law_draw_here", "_law_most"] m__law_rivals :=
  ok_fn (G := GG K) F sc__law_rivals fun cdv A outer s H E hr tk hp => (jss_cons (js_asg (t := (.tp [2, 3])) (je_tup (ja_cons (je_bin (op_addM rfl) je_int (je_callT (ok__law_next Y) rfl tk (show Room 8 _ from hr.mono (by decide)) rfl (ja_cons (je_var (i := 0)) (ja_cons (je_var (i := 1)) ja_nil)))) (ja_cons (je_bin (op_addM rfl) je_int (je_callT (ok__law_next Y) rfl tk (show Room 8 _ from hr.mono (by decide)) rfl (ja_cons (je_var (i := 0)) (ja_cons je_int ja_nil)))) ja_nil))) (jg_tup rfl rfl (jgs_cons (G := GG K) (jg_name (i := 2) sc__law_rivals.nd rfl (by first | exact Or.inl rfl | exact Or.inr rfl)) (jgs_cons (G := GG K) (jg_name (i := 3) sc__law_rivals.nd rfl (by first | exact Or.inl rfl | exact Or.inr rfl)) jgs_nil))))
  (jss_one (js_ret (je_tup (ja_cons (je_var (i := 2)) (ja_cons (je_useT use_tup rfl Y.n_tuple boot_tuple (je_lc (own := [("_law_pair", 4)]) (t := (.nm 4)) rfl sc__law_rivals.nd (ji_seq (je_callT (ok__law_every Y) rfl tk (show Room 1 _ from hr.mono (by decide)) rfl (ja_cons (je_var (i := 2)) ja_nil)) rfl) (blkOk_by (by show blkC ["_law_draw_here", "_law_most", "_law_many", "_law_dense", "_law_pair"] (defScope st__law_rivals) _ _ = true; decide +kernel)) (fun s1 H1 C1 cl1 fp1 => (jg_name (i := 4) sc__law_rivals.nd rfl (by first | exact Or.inl rfl | exact Or.inr rfl))) (fun s1 H1 C1 cl1 fp1 => jts_one (jt_cmp (op_ltM rfl hr.units) (je_callT (ok__law_next Y) rfl takes0 (show Room 8 _ from hr.mono (by decide)) rfl (ja_cons (je_var (i := 0)) (ja_cons je_int ja_nil))) (je_var (i := 3)))) (fun s1 H1 C1 cl1 fp1 => (je_var (i := 4))))) ja_nil))))))
theorem ok__law_rivals (Y : Fx K mg) : CallT (GG K) P w mg base 9 "_law_rivals" m__law_rivals [] := by
  obtain ⟨fd, F⟩ := Y.d__law_rivals
  exact ⟨_, fd, _, [], [], Y.g__law_rivals, F.kp, fn__law_rivals Y F, ar_fn, F.bindsN (fun _ _ _ _ _ _ us hl => match us, hl with | [_, _], _ => rfl), .nil, fun _ _ => .nil⟩
abbrev st__law_are : Stmt := topS 19
def m__law_are : MF := fn 3 3 (sRet (e2D (dIn fIn tb__contains__1 id) (eTup (aCons (eN fMin (aCons (eN fInt (aCons (eVar 1) aNil)) (aCons (eN fInt (aCons (eVar 2) aNil)) aNil))) (aCons (eN fMax (aCons (eN fInt (aCons (eVar 1) aNil)) (aCons (eN fInt (aCons (eVar 2) aNil)) aNil))) aNil))) (e2D (dOwn2 fIx tb__getitem__3) (eVar 0) (eC (.int 1)))))
theorem sc__law_are : FnScope ["_law_plain", "_law_one", "_law_other"] ["_law_plain", "_law_one", "_law_other"] (defScope st__law_are) := ⟨rfl, rfl, rfl, by decide +kernel, rfl, by decide +kernel, by decide +kernel⟩
theorem fn__law_are (Y : Fx K mg) {f : Addr} {fd : FuncData} {dvs : List V} {kws : List (Str × V)} (F : FunD K "_law_are" "_law_are" (defArgs st__law_are) (defBody st__law_are) (defScope st__law_are) dvs kws f fd) : FnM (GG K) P w mg base 6 f fd ["_law_plain", "_law_one", "_law_other"] m__law_are :=
  ok_fn (G := GG K) F sc__law_are fun cdv A outer s H E hr tk hp => (jss_one (js_ret (je_cmpD (cmp_in (.inl ⟨rfl, rfl⟩) rfl tk (show Room 3 _ from hr.mono (by decide)) (op_inM rfl hr) (T_tb__contains__1 Y)) (je_tup (ja_cons (je_callB (call_minM rfl) rfl Y.n_min boot_min (ja_cons (je_callTy call_intM rfl Y.n_int boot_int (ja_cons (je_var (i := 1)) ja_nil)) (ja_cons (je_callTy call_intM rfl Y.n_int boot_int (ja_cons (je_var (i := 2)) ja_nil)) ja_nil))) (ja_cons (je_callB (call_maxM rfl) rfl Y.n_max boot_max (ja_cons (je_callTy call_intM rfl Y.n_int boot_int (ja_cons (je_var (i := 1)) ja_nil)) (ja_cons (je_callTy call_intM rfl Y.n_int boot_int (ja_cons (je_var (i := 2)) ja_nil)) ja_nil))) ja_nil))) (je_ixD rfl tk (show Room 5 _ from hr.mono (by decide)) (ix_M rfl) (T_tb__getitem__3 Y) (je_var (i := 0)) je_int))))
theorem ok__law_are (Y : Fx K mg) : CallT (GG K) P w mg base 6 "_law_are" m__law_are [] := by
  obtain ⟨fd, F⟩ := Y.d__law_are
  exact ⟨_, fd, _, [], [], Y.g__law_are, F.kp, fn__law_are Y F, ar_fn, F.bindsN (fun _ _ _ _ _ _ us hl => match us, hl with | [_, _, _], _ => rfl), .nil, fun _ _ => .nil⟩
abbrev st__law_is_fine : Stmt := topS 20
def m__law_is_fine : MF := fn 2 8 (sSeq (sAsg (.tp [2, 3]) (eVar 1))
  (sSeq (sIf (tmOr (toB (e2D (dEq fNe tb__eq__2 nft not) (e1D (dLen tb__len__0) (eVar 0)) (eVar 2))) (tmOr (toB (e2D (dEq fNe tb__eq__2 nft not) (e1 (fFld ft_many) (eVar 0)) (eVar 2))) (toB (e2D (dEq fNe tb__eq__2 nft not) (e1 (fFld ft_pairs) (eVar 0)) (eVar 3))))) (sRet (eC (.bl false))) sNext)
  (sSeq (sFor (iRng (aCons (eVar 2) aNil)) (.nm 4) (sSeq (sIf (toB (e2D (dEq fNe tb__eq__2 nft not) (e2D (dOwn2 fIx tb__getitem__3) (eVar 0) (eVar 4)) (eOwn (eComp [5] (iRng (aCons (eVar 2) aNil)) (.nm 5) (cOne (tmAnd (toB (e2D (dEq fNe tb__eq__2 nft not) (eVar 5) (eVar 4))) (toB (eCall m__law_are [] (aCons (eVar 1) (aCons (eVar 4) (aCons (eVar 5) aNil)))))) (eVar 5)))))) (sRet (eC (.bl false))) sNext)
  (sFor (iRng (aCons (eVar 2) aNil)) (.nm 5) (sIf (toB (e2D (dEq fNe tb__eq__2 nft not) (e2D (dIn fIn tb__contains__1 id) (eTup (aCons (eVar 4) (aCons (eVar 5) aNil))) (eVar 0)) (eAnd (e2D (dEq fNe tb__eq__2 nft not) (eVar 4) (eVar 5)) (eCall m__law_are [] (aCons (eVar 1) (aCons (eVar 4) (aCons (eVar 5) aNil))))))) (sRet (eC (.bl false))) sNext))))
  (sSeq (sSet 6 (eLst (aCons (eC .non) (aCons (eC (.int 0)) (aCons (eTup aNil) (aCons (eTup (aCons (eC (.int 0)) aNil)) (aCons (eLst (aCons (eC (.int 0)) (aCons (eC (.int 1)) aNil))) (aCons (eTup (aCons (eC (.int 0)) (aCons (eVar 2) aNil))) (aCons (eTup (aCons (e1 fNeg (eC (.int 1))) (aCons (eC (.int 0)) aNil))) (aCons (eTup (aCons (eC (.bl false)) (aCons (eC (.int 1)) aNil))) (aCons (eTup (aCons (eC (.int 0)) (aCons (eC (.bl true)) aNil))) (aCons (eC (.str "01")) (aCons (eTup (aCons (eC (.int 0)) (aCons (eC (.int 1)) (aCons (eC (.int 2)) aNil)))) (aCons (eTup (aCons (eC .non) (aCons (eC (.int 1)) aNil))) aNil))))))))))))))
  (sSeq (sFor (iSeq (eVar 6)) (.nm 7) (sIf (toB (e2 fIsNot (e2D (dIn fIn tb__contains__1 id) (eVar 7) (eVar 0)) (eC (.bl false)))) (sRet (eC (.bl false))) sNext))
  (sRet (eC (.bl true))))))))
theorem sc__law_is_fine : FnScope ["_law_made", "_law_plain", "_law_many", "_law_pairs", "_law_one", "_law_other", "_law_some", "_law_thing"] ["_law_made", "_law_plain"] (defScope st__law_is_fine) := ⟨rfl, rfl, rfl, by decide +kernel, rfl, by decide +kernel, by decide +kernel⟩
theorem fn__law_is_fine (Y : Fx K mg) {f : Addr} {fd : FuncData} {dvs : List V} {kws : List (Str × V)} (F : FunD K "_law_is_fine" "_law_is_fine" (defArgs st__law_is_fine) (defBody st__law_is_fine) (defScope st__law_is_fine) dvs kws f fd) : FnM (GG K) P w mg base 7 f fd ["_law_made", "_law_plain"] m__law_is_fine :=
  ok_fn (G := GG K) F sc__law_is_fine fun cdv A outer s H E hr tk hp => (jss_cons (js_asg (t := (.tp [2, 3])) (je_var (i := 1)) (jg_tup rfl rfl (jgs_cons (G := GG K) (jg_name (i := 2) sc__law_is_fine.nd rfl (by first | exact Or.inl rfl | exact Or.inr rfl)) (jgs_cons (G := GG K) (jg_name (i := 3) sc__law_is_fine.nd rfl (by first | exact Or.inl rfl | exact Or.inr rfl)) jgs_nil))))
  (jss_cons (js_if (PW.pt (jw_or (jt_cmpD (cmp_ne rfl tk (show Room 2 _ from hr.mono (by decide)) (op_neM rfl hr.units) (T_tb__eq__2 Y) Y.nf (M_tb__eq__2 Y)) (je_lenD rfl tk (show Room 2 _ from hr.mono (by decide)) rfl Y.n_len (T_tb__len__0 Y) (je_var (i := 0))) (je_var (i := 2))) (jw_or (jt_cmpD (cmp_ne rfl tk (show Room 2 _ from hr.mono (by decide)) (op_neM rfl hr.units) (T_tb__eq__2 Y) Y.nf (M_tb__eq__2 Y)) (je_fld rfl Y.ft_many (je_var (i := 0))) (je_var (i := 2))) (jw_or1 (jt_cmpD (cmp_ne rfl tk (show Room 2 _ from hr.mono (by decide)) (op_neM rfl hr.units) (T_tb__eq__2 Y) Y.nf (M_tb__eq__2 Y)) (je_fld rfl Y.ft_pairs (je_var (i := 0))) (je_var (i := 3))))))) (jss_one (js_ret je_bl)) jss_nil)
  (jss_cons (js_for (t := (.nm 4)) hp rfl (ji_range1 rfl Y.n_range (ja_cons (je_var (i := 2)) ja_nil) rfl len1) (jg_name (i := 4) sc__law_is_fine.nd rfl (by first | exact Or.inl rfl | exact Or.inr rfl)) (jss_cons (js_if (jt_cmpD (cmp_ne rfl tk (show Room 2 _ from hr.mono (by decide)) (op_neM rfl hr.units) (T_tb__eq__2 Y) Y.nf (M_tb__eq__2 Y)) (je_ixD rfl tk (show Room 5 _ from hr.mono (by decide)) (ix_M rfl) (T_tb__getitem__3 Y) (je_var (i := 0)) (je_var (i := 4))) (je_own (je_lc (own := [("_law_other", 5)]) (t := (.nm 5)) rfl sc__law_is_fine.nd (ji_range1 rfl Y.n_range (ja_cons (je_var (i := 2)) ja_nil) rfl len1) (blkOk_by (by show blkC ["_law_made", "_law_plain", "_law_many", "_law_pairs", "_law_one", "_law_other", "_law_some", "_law_thing"] (defScope st__law_is_fine) _ _ = true; decide +kernel)) (fun s1 H1 C1 cl1 fp1 => (jg_name (i := 5) sc__law_is_fine.nd rfl (by first | exact Or.inl rfl | exact Or.inr rfl))) (fun s1 H1 C1 cl1 fp1 => jts_one (PW.pt (jw_and (jt_cmpD (cmp_ne rfl takes0 (show Room 2 _ from hr.mono (by decide)) (op_neM rfl hr.units) (T_tb__eq__2 Y) Y.nf (M_tb__eq__2 Y)) (je_var (i := 5)) (je_var (i := 4))) (jw_and1 (jt_val (je_callT (ok__law_are Y) rfl takes0 (show Room 6 _ from hr.mono (by decide)) rfl (ja_cons (je_var (i := 1)) (ja_cons (je_var (i := 4)) (ja_cons (je_var (i := 5)) ja_nil))))))))) (fun s1 H1 C1 cl1 fp1 => (je_var (i := 5)))))) (jss_one (js_ret je_bl)) jss_nil)
  (jss_one (js_for (t := (.nm 5)) hp rfl (ji_range1 rfl Y.n_range (ja_cons (je_var (i := 2)) ja_nil) rfl len1) (jg_name (i := 5) sc__law_is_fine.nd rfl (by first | exact Or.inl rfl | exact Or.inr rfl)) (jss_one (js_if (jt_cmpD (cmp_ne rfl tk (show Room 2 _ from hr.mono (by decide)) (op_neM rfl hr.units) (T_tb__eq__2 Y) Y.nf (M_tb__eq__2 Y)) (je_cmpD (cmp_in (.inl ⟨rfl, rfl⟩) rfl tk (show Room 3 _ from hr.mono (by decide)) (op_inM rfl hr) (T_tb__contains__1 Y)) (je_tup (ja_cons (je_var (i := 4)) (ja_cons (je_var (i := 5)) ja_nil))) (je_var (i := 0))) (je_and (je_cmpD (cmp_ne rfl tk (show Room 2 _ from hr.mono (by decide)) (op_neM rfl hr.units) (T_tb__eq__2 Y) Y.nf (M_tb__eq__2 Y)) (je_var (i := 4)) (je_var (i := 5))) (je_one (je_callT (ok__law_are Y) rfl tk (show Room 6 _ from hr.mono (by decide)) rfl (ja_cons (je_var (i := 1)) (ja_cons (je_var (i := 4)) (ja_cons (je_var (i := 5)) ja_nil))))))) (jss_one (js_ret je_bl)) jss_nil))))))
  (jss_cons (js_set (i := 6) sc__law_is_fine.nd rfl (by first | exact Or.inl rfl | exact Or.inr rfl) (je_lst (ja_cons je_non (ja_cons je_int (ja_cons (je_tup ja_nil) (ja_cons (je_tup (ja_cons je_int ja_nil)) (ja_cons (je_lst (ja_cons je_int (ja_cons je_int ja_nil))) (ja_cons (je_tup (ja_cons je_int (ja_cons (je_var (i := 2)) ja_nil))) (ja_cons (je_tup (ja_cons (je_un un_negM je_int) (ja_cons je_int ja_nil))) (ja_cons (je_tup (ja_cons je_bl (ja_cons je_int ja_nil))) (ja_cons (je_tup (ja_cons je_int (ja_cons je_bl ja_nil))) (ja_cons je_str (ja_cons (je_tup (ja_cons je_int (ja_cons je_int (ja_cons je_int ja_nil)))) (ja_cons (je_tup (ja_cons je_non (ja_cons je_int ja_nil))) ja_nil))))))))))))))
  (jss_cons (js_for (t := (.nm 7)) hp rfl (ji_seq (je_var (i := 6)) rfl) (jg_name (i := 7) sc__law_is_fine.nd rfl (by first | exact Or.inl rfl | exact Or.inr rfl)) (jss_one (js_if (jt_cmp op_isNotM (je_cmpD (cmp_in (.inl ⟨rfl, rfl⟩) rfl tk (show Room 3 _ from hr.mono (by decide)) (op_inM rfl hr) (T_tb__contains__1 Y)) (je_var (i := 7)) (je_var (i := 0))) je_bl) (jss_one (js_ret je_bl)) jss_nil)))
  (jss_one (js_ret je_bl)))))))
theorem ok__law_is_fine (Y : Fx K mg) : CallT (GG K) P w mg base 7 "_law_is_fine" m__law_is_fine [] := by
  obtain ⟨fd, F⟩ := Y.d__law_is_fine
  exact ⟨_, fd, _, [], [], Y.g__law_is_fine, F.kp, fn__law_is_fine Y F, ar_fn, F.bindsN (fun _ _ _ _ _ _ us hl => match us, hl with | [_, _], _ => rfl), .nil, fun _ _ => .nil⟩
def tb__or__5 : MT2 := fun c => match c with
  | 4 => some m_Rivals___or__
  | _ => none
theorem T_tb__or__5 (Y : Fx K mg) : ∀ c m, tb__or__5 c = some m → OwnM (GG K) P w mg base 6 c "__or__" m := by
  intro c m e
  match c, e with
  | 4, e => cases e; exact (own_Rivals___or__ Y).up (by decide)
theorem S_tb__or__5 (Y : Fx K mg) : ∀ c m, tb__or__5 c = some m → OwnM (GG K) P w mg base 6 c (PySem.dunder Operator.BitOr.info.2) m ∧ PySem.W.selfFirst K ((GG K).kap c) = true := by
  intro c m e
  refine ⟨by have z : PySem.dunder Operator.BitOr.info.2 = "__or__" := (by decide +kernel); rw [z]; exact T_tb__or__5 Y c m e, ?_⟩
  match c, e with
  | 4, e => exact Y.sf_Rivals
abbrev st__law_refuses : Stmt := topS 21
def m__law_refuses : MF := fn 2 4 (sSeq (sFor (iRng (aCons (eC (.int 2)) aNil)) (.nm 2) (sSeq (sTry xt_Unlike (sSeq (sSet 3 (eIf (toB (e2D (dEq fEq tb__eq__2 nft id) (eVar 2) (eC (.int 0)))) (e2D (dBin fNo tb__or__5) (eVar 0) (eVar 1)) (e2D (dBin fSub tb__sub__4) (eVar 0) (eVar 1))))
  (sIf (toB (e2D (dEq fNe tb__eq__2 nft not) (eVar 3) (eVar 0))) (sRet (eC (.bl false))) sNext)) sCont)
  (sRet (eC (.bl false)))))
  (sRet (eC (.bl true))))
theorem sc__law_refuses : FnScope ["_law_one", "_law_other", "_law_turn", "_law_found"] ["_law_one", "_law_other"] (defScope st__law_refuses) := ⟨rfl, rfl, rfl, by decide +kernel, rfl, by decide +kernel, by decide +kernel⟩
theorem fn__law_refuses (Y : Fx K mg) {f : Addr} {fd : FuncData} {dvs : List V} {kws : List (Str × V)} (F : FunD K "_law_refuses" "_law_refuses" (defArgs st__law_refuses) (defBody st__law_refuses) (defScope st__law_refuses) dvs kws f fd) : FnM (GG K) P w mg base 7 f fd ["_law_one", "_law_other"] m__law_refuses :=
  ok_fn (G := GG K) F sc__law_refuses fun cdv A outer s H E hr tk hp => (jss_cons (js_for (t := (.nm 2)) hp rfl (ji_range1 rfl Y.n_range (ja_cons je_int ja_nil) rfl len1) (jg_name (i := 2) sc__law_refuses.nd rfl (by first | exact Or.inl rfl | exact Or.inr rfl)) (jss_cons (js_try rfl rfl rfl ⟨rfl, by decide, .inl Y.x_Unlike.mg⟩ Y.xt_Unlike tk (fun W2 pn2 xe2 tk2 hp2 => (jss_cons (js_set (i := 3) sc__law_refuses.nd rfl (by first | exact Or.inl rfl | exact Or.inr rfl) (je_if (jt_cmpD (cmp_eq rfl tk2 (show Room 1 _ from hr.mono (by decide)) (op_eqM rfl hr.units) (T_tb__eq__2 Y) Y.nf) (je_var (i := 2)) je_int) (je_binD rfl tk2 (show Room 6 _ from hr.mono (by decide)) op_noM (S_tb__or__5 Y) (je_var (i := 0)) (je_var (i := 1))) (je_binD rfl tk2 (show Room 6 _ from hr.mono (by decide)) op_subM (S_tb__sub__4 Y) (je_var (i := 0)) (je_var (i := 1)))))
  (jss_one (js_if (jt_cmpD (cmp_ne rfl tk2 (show Room 2 _ from hr.mono (by decide)) (op_neM rfl hr.units) (T_tb__eq__2 Y) Y.nf (M_tb__eq__2 Y)) (je_var (i := 3)) (je_var (i := 0))) (jss_one (js_ret je_bl)) jss_nil)))) (fun a2 oe2 pn2 => (jss_one js_continue)))
  (jss_one (js_ret je_bl))))
  (jss_one (js_ret je_bl)))
theorem ok__law_refuses (Y : Fx K mg) : CallT (GG K) P w mg base 7 "_law_refuses" m__law_refuses [] := by
  obtain ⟨fd, F⟩ := Y.d__law_refuses
  exact ⟨_, fd, _, [], [], Y.g__law_refuses, F.kp, fn__law_refuses Y F, ar_fn, F.bindsN (fun _ _ _ _ _ _ us hl => match us, hl with | [_, _], _ => rfl), .nil, fun _ _ => .nil⟩
def tb__invert__6 : MT2 := fun c => match c with
  | 4 => some m_Rivals___invert__
  | _ => none
theorem T_tb__invert__6 (Y : Fx K mg) : ∀ c m, tb__invert__6 c = some m → OwnM (GG K) P w mg base 6 c "__invert__" m := by
  intro c m e
  match c, e with
  | 4, e => cases e; exact (own_Rivals___invert__ Y).up (by decide)
abbrev st_law : Stmt := topS 22
def m_law : MF := fn 1 14 (sSeq (sSet 1 (eLst (aCons (eCut (eVar 0) oNone (oSome (eC (.int 63)))) (aCons (eC (.int 0)) (aCons (eC (.int 0)) aNil)))))
  (sSeq (sFor (iRng (aCons (eC (.int 3)) aNil)) (.nm 2) (sSeq (sAsg (.tp [8, 9]) (eTup (aCons (eCall m__law_rivals [] (aCons (eVar 1) (aCons (eC (.int 8)) aNil))) (aCons (eCall m__law_rivals [] (aCons (eVar 1) (aCons (eC (.int 8)) aNil))) aNil))))
  (sSeq (sPar [10, 11] (aCons (eMake 4 m_Rivals___init__ [] (aCons (e2D (dOwn2 fIx tb__getitem__3) (eVar 8) (eC (.int 0))) (aCons (e2D (dOwn2 fIx tb__getitem__3) (eVar 8) (eC (.int 1))) aNil))) (aCons (eMake 4 m_Rivals___init__ [] (aCons (e2D (dOwn2 fIx tb__getitem__3) (eVar 9) (eC (.int 0))) (aCons (e2D (dOwn2 fIx tb__getitem__3) (eVar 9) (eC (.int 1))) aNil))) aNil)))
  (sSeq (sSet 3 (eCall m__law_every [] (aCons (e2D (dOwn2 fIx tb__getitem__3) (eVar 8) (eC (.int 0))) aNil)))
  (sSeq (sIf (tmOr (tmNot (toB (eCall m__law_is_fine [] (aCons (eVar 10) (aCons (eVar 8) aNil))))) (tmNot (toB (eCall m__law_is_fine [] (aCons (eVar 11) (aCons (eVar 9) aNil)))))) (sRet (eC (.bl false))) sNext)
  (sSeq (sIf (tmNot (toB (eCall m__law_is_fine [] (aCons (e1D (dOwn1 (fun _ _ => none) tb__invert__6) (eVar 10)) (aCons (eTup (aCons (e2D (dOwn2 fIx tb__getitem__3) (eVar 8) (eC (.int 0))) (aCons (eUse uTup (eComp [12] (iSeq (eVar 3)) (.nm 12) (cOne (toB (e2D (dIn fNotIn tb__contains__1 not) (eVar 12) (e2D (dOwn2 fIx tb__getitem__3) (eVar 8) (eC (.int 1))))) (eVar 12)))) aNil))) aNil))))) (sRet (eC (.bl false))) sNext)
  (sSeq (sIf (tmAnd (toB (e2D (dEq fNe tb__eq__2 nft not) (e2D (dOwn2 fIx tb__getitem__3) (eVar 8) (eC (.int 0))) (e2D (dOwn2 fIx tb__getitem__3) (eVar 9) (eC (.int 0))))) (tmNot (toB (eCall m__law_refuses [] (aCons (eVar 10) (aCons (eVar 11) aNil)))))) (sRet (eC (.bl false))) sNext)
  (sSeq (sSet 4 (eUse uTup (eComp [12] (iSeq (eVar 3)) (.nm 12) (cOne (toB (e2D (dIn fIn tb__contains__1 id) (eVar 12) (e2D (dOwn2 fIx tb__getitem__3) (eVar 9) (eC (.int 1))))) (eVar 12)))))
  (sSeq (sSet 5 (eMake 4 m_Rivals___init__ [] (aCons (e2D (dOwn2 fIx tb__getitem__3) (eVar 8) (eC (.int 0))) (aCons (eVar 4) aNil))))
  (sSeq (sIf (tmNot (toB (eCall m__law_is_fine [] (aCons (e2D (dBin fNo tb__or__5) (eVar 10) (eVar 5)) (aCons (eTup (aCons (e2D (dOwn2 fIx tb__getitem__3) (eVar 8) (eC (.int 0))) (aCons (eN fTup (aCons (eSortSet (e2 fAdd (e2D (dOwn2 fIx tb__getitem__3) (eVar 8) (eC (.int 1))) (eVar 4))) aNil)) aNil))) aNil))))) (sRet (eC (.bl false))) sNext)
  (sSeq (sIf (tmNot (toB (eCall m__law_is_fine [] (aCons (e2D (dBin fSub tb__sub__4) (eVar 10) (eVar 5)) (aCons (eTup (aCons (e2D (dOwn2 fIx tb__getitem__3) (eVar 8) (eC (.int 0))) (aCons (eUse uTup (eComp [12] (iSeq (e2D (dOwn2 fIx tb__getitem__3) (eVar 8) (eC (.int 1)))) (.nm 12) (cOne (toB (e2D (dIn fNotIn tb__contains__1 not) (eVar 12) (eVar 4))) (eVar 12)))) aNil))) aNil))))) (sRet (eC (.bl false))) sNext)
  (sSeq (sIf (tmOr (toB (e2D (dEq fNe tb__eq__2 nft not) (e2D (dEq fEq tb__eq__2 nft id) (eVar 10) (eVar 11)) (e2D (dEq fEq tb__eq__2 nft id) (eVar 8) (eVar 9)))) (toB (e2D (dEq fNe tb__eq__2 nft not) (eVar 10) (eMake 4 m_Rivals___init__ [] (aCons (e2D (dOwn2 fIx tb__getitem__3) (eVar 8) (eC (.int 0))) (aCons (e2D (dOwn2 fIx tb__getitem__3) (eVar 8) (eC (.int 1))) aNil)))))) (sRet (eC (.bl false))) sNext)
  (sSeq (sIf (tmNot (toB (eCall m__law_is_fine [] (aCons (eVar 10) (aCons (eVar 8) aNil))))) (sRet (eC (.bl false))) sNext)
  (sSeq (sSet 6 (e2 fAdd (eC (.int 3)) (eCall m__law_next [] (aCons (eVar 1) (aCons (eC (.int 6)) aNil)))))
  (sSeq (sSet 7 (eN fSorted (aCons (e2 fAdd (eOwn (eComp [13] (iRng (aCons (e2D (dBin fSub tb__sub__4) (eVar 6) (eC (.int 1))) aNil)) (.nm 13) (cOne tmYes (eTup (aCons (eVar 13) (aCons (e2 fAdd (eVar 13) (eC (.int 1))) aNil)))))) (eLst (aCons (eTup (aCons (eC (.int 0)) (aCons (e2D (dBin fSub tb__sub__4) (eVar 6) (eC (.int 1))) aNil))) aNil))) aNil)))
  (sIf (tmNot (toB (eCall m__law_is_fine [] (aCons (eCMeth 4 m_Rivals_circle (eC (.cst 4)) (aCons (eVar 6) aNil)) (aCons (eTup (aCons (eVar 6) (aCons (eN fTup (aCons (eVar 7) aNil)) aNil))) aNil))))) (sRet (eC (.bl false))) sNext))))))))))))))))
  (sRet (e2D (dEq fEq tb__eq__2 nft id) (e1 (fFld ft_pairs) (eMake 4 m_Rivals___init__ [(.tup [])] (aCons (e2 fAdd (eC (.int 1)) (eCall m__law_next [] (aCons (eVar 1) (aCons (eC (.int 8)) aNil)))) aNil))) (eTup aNil)))))
theorem sc_law : FnScope ["_law_script", "_law_draw_here", "_law_again", "_law_every_here", "_law_other", "_law_held", "_law_size", "_law_ring", "_law_plain", "_law_kin", "_law_made", "_law_late", "_law_pair", "_law_one"] ["_law_script"] (defScope st_law) := ⟨rfl, rfl, rfl, by decide +kernel, rfl, by decide +kernel, by decide +kernel⟩
theorem fn_law (Y : Fx K mg) {f : Addr} {fd : FuncData} {dvs : List V} {kws : List (Str × V)} (F : FunD K "law" "law" (defArgs st_law) (defBody st_law) (defScope st_law) dvs kws f fd) : FnM (GG K) P w mg base 10 f fd ["_law_script"] m_law :=
  ok_fn (G := GG K) F sc_law fun cdv A outer s H E hr tk hp => (jss_cons (js_set (i := 1) sc_law.nd rfl (by first | exact Or.inl rfl | exact Or.inr rfl) (je_lst (ja_cons (je_cut rfl (je_var (i := 0)) jo_none (jo_some je_int)) (ja_cons je_int (ja_cons je_int ja_nil)))))
  (jss_cons (js_for (t := (.nm 2)) hp rfl (ji_range1 rfl Y.n_range (ja_cons je_int ja_nil) rfl len1) (jg_name (i := 2) sc_law.nd rfl (by first | exact Or.inl rfl | exact Or.inr rfl)) (jss_cons (js_asg (t := (.tp [8, 9])) (je_tup (ja_cons (je_callT (ok__law_rivals Y) rfl tk (show Room 9 _ from hr.mono (by decide)) rfl (ja_cons (je_var (i := 1)) (ja_cons je_int ja_nil))) (ja_cons (je_callT (ok__law_rivals Y) rfl tk (show Room 9 _ from hr.mono (by decide)) rfl (ja_cons (je_var (i := 1)) (ja_cons je_int ja_nil))) ja_nil))) (jg_tup rfl rfl (jgs_cons (G := GG K) (jg_name (i := 8) sc_law.nd rfl (by first | exact Or.inl rfl | exact Or.inr rfl)) (jgs_cons (G := GG K) (jg_name (i := 9) sc_law.nd rfl (by first | exact Or.inl rfl | exact Or.inr rfl)) jgs_nil))))
  (jss_cons (js_par (i := 10) (j := 11) rfl sc_law.nd rfl rfl (by decide) rfl rfl (ja_cons (je_makeT (mk_Rivals___init__ Y) rfl tk (show Room 5 _ from hr.mono (by decide)) rfl (ja_cons (je_ixD rfl tk (show Room 5 _ from hr.mono (by decide)) (ix_M rfl) (T_tb__getitem__3 Y) (je_var (i := 8)) je_int) (ja_cons (je_ixD rfl tk (show Room 5 _ from hr.mono (by decide)) (ix_M rfl) (T_tb__getitem__3 Y) (je_var (i := 8)) je_int) ja_nil))) (ja_cons (je_makeT (mk_Rivals___init__ Y) rfl tk (show Room 5 _ from hr.mono (by decide)) rfl (ja_cons (je_ixD rfl tk (show Room 5 _ from hr.mono (by decide)) (ix_M rfl) (T_tb__getitem__3 Y) (je_var (i := 9)) je_int) (ja_cons (je_ixD rfl tk (show Room 5 _ from hr.mono (by decide)) (ix_M rfl) (T_tb__getitem__3 Y) (je_var (i := 9)) je_int) ja_nil))) ja_nil)) rfl)
  (jss_cons (js_set (i := 3) sc_law.nd rfl (by first | exact Or.inl rfl | exact Or.inr rfl) (je_callT (ok__law_every Y) rfl tk (show Room 1 _ from hr.mono (by decide)) rfl (ja_cons (je_ixD rfl tk (show Room 5 _ from hr.mono (by decide)) (ix_M rfl) (T_tb__getitem__3 Y) (je_var (i := 8)) je_int) ja_nil)))
  (jss_cons (js_if (PW.pt (jw_or (jt_not (jt_val (je_callT (ok__law_is_fine Y) rfl tk (show Room 7 _ from hr.mono (by decide)) rfl (ja_cons (je_var (i := 10)) (ja_cons (je_var (i := 8)) ja_nil))))) (jw_or1 (jt_not (jt_val (je_callT (ok__law_is_fine Y) rfl tk (show Room 7 _ from hr.mono (by decide)) rfl (ja_cons (je_var (i := 11)) (ja_cons (je_var (i := 9)) ja_nil)))))))) (jss_one (js_ret je_bl)) jss_nil)
  (jss_cons (js_if (jt_not (jt_val (je_callT (ok__law_is_fine Y) rfl tk (show Room 7 _ from hr.mono (by decide)) rfl (ja_cons (je_invD (t := tb__invert__6) rfl tk (show Room 6 _ from hr.mono (by decide)) (T_tb__invert__6 Y) (je_var (i := 10))) (ja_cons (je_tup (ja_cons (je_ixD rfl tk (show Room 5 _ from hr.mono (by decide)) (ix_M rfl) (T_tb__getitem__3 Y) (je_var (i := 8)) je_int) (ja_cons (je_useT use_tup rfl Y.n_tuple boot_tuple (je_lc (own := [("_law_pair", 12)]) (t := (.nm 12)) rfl sc_law.nd (ji_seq (je_var (i := 3)) rfl) (blkOk_by (by show blkC ["_law_script", "_law_draw_here", "_law_again", "_law_every_here", "_law_other", "_law_held", "_law_size", "_law_ring", "_law_plain", "_law_kin", "_law_made", "_law_late", "_law_pair", "_law_one"] (defScope st_law) _ _ = true; decide +kernel)) (fun s1 H1 C1 cl1 fp1 => (jg_name (i := 12) sc_law.nd rfl (by first | exact Or.inl rfl | exact Or.inr rfl))) (fun s1 H1 C1 cl1 fp1 => jts_one (jt_cmpD (cmp_in (.inr ⟨rfl, rfl⟩) rfl takes0 (show Room 3 _ from hr.mono (by decide)) (op_notInM rfl hr) (T_tb__contains__1 Y)) (je_var (i := 12)) (je_ixD rfl takes0 (show Room 5 _ from hr.mono (by decide)) (ix_M rfl) (T_tb__getitem__3 Y) (je_var (i := 8)) je_int))) (fun s1 H1 C1 cl1 fp1 => (je_var (i := 12))))) ja_nil))) ja_nil))))) (jss_one (js_ret je_bl)) jss_nil)
  (jss_cons (js_if (PW.pt (jw_and (jt_cmpD (cmp_ne rfl tk (show Room 2 _ from hr.mono (by decide)) (op_neM rfl hr.units) (T_tb__eq__2 Y) Y.nf (M_tb__eq__2 Y)) (je_ixD rfl tk (show Room 5 _ from hr.mono (by decide)) (ix_M rfl) (T_tb__getitem__3 Y) (je_var (i := 8)) je_int) (je_ixD rfl tk (show Room 5 _ from hr.mono (by decide)) (ix_M rfl) (T_tb__getitem__3 Y) (je_var (i := 9)) je_int)) (jw_and1 (jt_not (jt_val (je_callT (ok__law_refuses Y) rfl tk (show Room 7 _ from hr.mono (by decide)) rfl (ja_cons (je_var (i := 10)) (ja_cons (je_var (i := 11)) ja_nil)))))))) (jss_one (js_ret je_bl)) jss_nil)
  (jss_cons (js_set (i := 4) sc_law.nd rfl (by first | exact Or.inl rfl | exact Or.inr rfl) (je_useT use_tup rfl Y.n_tuple boot_tuple (je_lc (own := [("_law_pair", 12)]) (t := (.nm 12)) rfl sc_law.nd (ji_seq (je_var (i := 3)) rfl) (blkOk_by (by show blkC ["_law_script", "_law_draw_here", "_law_again", "_law_every_here", "_law_other", "_law_held", "_law_size", "_law_ring", "_law_plain", "_law_kin", "_law_made", "_law_late", "_law_pair", "_law_one"] (defScope st_law) _ _ = true; decide +kernel)) (fun s1 H1 C1 cl1 fp1 => (jg_name (i := 12) sc_law.nd rfl (by first | exact Or.inl rfl | exact Or.inr rfl))) (fun s1 H1 C1 cl1 fp1 => jts_one (jt_cmpD (cmp_in (.inl ⟨rfl, rfl⟩) rfl takes0 (show Room 3 _ from hr.mono (by decide)) (op_inM rfl hr) (T_tb__contains__1 Y)) (je_var (i := 12)) (je_ixD rfl takes0 (show Room 5 _ from hr.mono (by decide)) (ix_M rfl) (T_tb__getitem__3 Y) (je_var (i := 9)) je_int))) (fun s1 H1 C1 cl1 fp1 => (je_var (i := 12))))))
  (jss_cons (js_set (i := 5) sc_law.nd rfl (by first | exact Or.inl rfl | exact Or.inr rfl) (je_makeT (mk_Rivals___init__ Y) rfl tk (show Room 5 _ from hr.mono (by decide)) rfl (ja_cons (je_ixD rfl tk (show Room 5 _ from hr.mono (by decide)) (ix_M rfl) (T_tb__getitem__3 Y) (je_var (i := 8)) je_int) (ja_cons (je_var (i := 4)) ja_nil))))
  (jss_cons (js_if (jt_not (jt_val (je_callT (ok__law_is_fine Y) rfl tk (show Room 7 _ from hr.mono (by decide)) rfl (ja_cons (je_binD rfl tk (show Room 6 _ from hr.mono (by decide)) op_noM (S_tb__or__5 Y) (je_var (i := 10)) (je_var (i := 5))) (ja_cons (je_tup (ja_cons (je_ixD rfl tk (show Room 5 _ from hr.mono (by decide)) (ix_M rfl) (T_tb__getitem__3 Y) (je_var (i := 8)) je_int) (ja_cons (je_callTy (call_tupM rfl) rfl Y.n_tuple boot_tuple (ja_cons (je_sortset rfl rfl hr rfl Y.n_sorted rfl Y.n_set (je_bin (op_addM rfl) (je_ixD rfl tk (show Room 5 _ from hr.mono (by decide)) (ix_M rfl) (T_tb__getitem__3 Y) (je_var (i := 8)) je_int) (je_var (i := 4)))) ja_nil)) ja_nil))) ja_nil))))) (jss_one (js_ret je_bl)) jss_nil)
  (jss_cons (js_if (jt_not (jt_val (je_callT (ok__law_is_fine Y) rfl tk (show Room 7 _ from hr.mono (by decide)) rfl (ja_cons (je_binD rfl tk (show Room 6 _ from hr.mono (by decide)) op_subM (S_tb__sub__4 Y) (je_var (i := 10)) (je_var (i := 5))) (ja_cons (je_tup (ja_cons (je_ixD rfl tk (show Room 5 _ from hr.mono (by decide)) (ix_M rfl) (T_tb__getitem__3 Y) (je_var (i := 8)) je_int) (ja_cons (je_useT use_tup rfl Y.n_tuple boot_tuple (je_lc (own := [("_law_pair", 12)]) (t := (.nm 12)) rfl sc_law.nd (ji_seq (je_ixD rfl tk (show Room 5 _ from hr.mono (by decide)) (ix_M rfl) (T_tb__getitem__3 Y) (je_var (i := 8)) je_int) rfl) (blkOk_by (by show blkC ["_law_script", "_law_draw_here", "_law_again", "_law_every_here", "_law_other", "_law_held", "_law_size", "_law_ring", "_law_plain", "_law_kin", "_law_made", "_law_late", "_law_pair", "_law_one"] (defScope st_law) _ _ = true; decide +kernel)) (fun s1 H1 C1 cl1 fp1 => (jg_name (i := 12) sc_law.nd rfl (by first | exact Or.inl rfl | exact Or.inr rfl))) (fun s1 H1 C1 cl1 fp1 => jts_one (jt_cmpD (cmp_in (.inr ⟨rfl, rfl⟩) rfl takes0 (show Room 3 _ from hr.mono (by decide)) (op_notInM rfl hr) (T_tb__contains__1 Y)) (je_var (i := 12)) (je_var (i := 4)))) (fun s1 H1 C1 cl1 fp1 => (je_var (i := 12))))) ja_nil))) ja_nil))))) (jss_one (js_ret je_bl)) jss_nil)
  (jss_cons (js_if (PW.pt (jw_or (jt_cmpD (cmp_ne rfl tk (show Room 2 _ from hr.mono (by decide)) (op_neM rfl hr.units) (T_tb__eq__2 Y) Y.nf (M_tb__eq__2 Y)) (je_cmpD (cmp_eq rfl tk (show Room 1 _ from hr.mono (by decide)) (op_eqM rfl hr.units) (T_tb__eq__2 Y) Y.nf) (je_var (i := 10)) (je_var (i := 11))) (je_cmpD (cmp_eq rfl tk (show Room 1 _ from hr.mono (by decide)) (op_eqM rfl hr.units) (T_tb__eq__2 Y) Y.nf) (je_var (i := 8)) (je_var (i := 9)))) (jw_or1 (jt_cmpD (cmp_ne rfl tk (show Room 2 _ from hr.mono (by decide)) (op_neM rfl hr.units) (T_tb__eq__2 Y) Y.nf (M_tb__eq__2 Y)) (je_var (i := 10)) (je_makeT (mk_Rivals___init__ Y) rfl tk (show Room 5 _ from hr.mono (by decide)) rfl (ja_cons (je_ixD rfl tk (show Room 5 _ from hr.mono (by decide)) (ix_M rfl) (T_tb__getitem__3 Y) (je_var (i := 8)) je_int) (ja_cons (je_ixD rfl tk (show Room 5 _ from hr.mono (by decide)) (ix_M rfl) (T_tb__getitem__3 Y) (je_var (i := 8)) je_int) ja_nil))))))) (jss_one (js_ret je_bl)) jss_nil)
  (jss_cons (js_if (jt_not (jt_val (je_callT (ok__law_is_fine Y) rfl tk (show Room 7 _ from hr.mono (by decide)) rfl (ja_cons (je_var (i := 10)) (ja_cons (je_var (i := 8)) ja_nil))))) (jss_one (js_ret je_bl)) jss_nil)
  (jss_cons (js_set (i := 6) sc_law.nd rfl (by first | exact Or.inl rfl | exact Or.inr rfl) (je_bin (op_addM rfl) je_int (je_callT (ok__law_next Y) rfl tk (show Room 8 _ from hr.mono (by decide)) rfl (ja_cons (je_var (i := 1)) (ja_cons je_int ja_nil)))))
  (jss_cons (js_set (i := 7) sc_law.nd rfl (by first | exact Or.inl rfl | exact Or.inr rfl) (je_callB (call_sortedM rfl hr.units) rfl Y.n_sorted boot_sorted (ja_cons (je_bin (op_addM rfl) (je_own (je_lc (own := [("_law_one", 13)]) (t := (.nm 13)) rfl sc_law.nd (ji_range1 rfl Y.n_range (ja_cons (je_binD rfl tk (show Room 6 _ from hr.mono (by decide)) op_subM (S_tb__sub__4 Y) (je_var (i := 6)) je_int) ja_nil) rfl len1) (blkOk_by (by show blkC ["_law_script", "_law_draw_here", "_law_again", "_law_every_here", "_law_other", "_law_held", "_law_size", "_law_ring", "_law_plain", "_law_kin", "_law_made", "_law_late", "_law_pair", "_law_one"] (defScope st_law) _ _ = true; decide +kernel)) (fun s1 H1 C1 cl1 fp1 => (jg_name (i := 13) sc_law.nd rfl (by first | exact Or.inl rfl | exact Or.inr rfl))) (fun s1 H1 C1 cl1 fp1 => jts_nil) (fun s1 H1 C1 cl1 fp1 => (je_tup (ja_cons (je_var (i := 13)) (ja_cons (je_bin (op_addM rfl) (je_var (i := 13)) je_int) ja_nil)))))) (je_lst (ja_cons (je_tup (ja_cons je_int (ja_cons (je_binD rfl tk (show Room 6 _ from hr.mono (by decide)) op_subM (S_tb__sub__4 Y) (je_var (i := 6)) je_int) ja_nil))) ja_nil))) ja_nil)))
  (jss_one (js_if (jt_not (jt_val (je_callT (ok__law_is_fine Y) rfl tk (show Room 7 _ from hr.mono (by decide)) rfl (ja_cons (je_cmeth (cm_Rivals_circle Y) rfl (show Room 6 _ from hr.mono (by decide)) (je_gcst (c := 4) rfl Y.c_Rivals) (ja_cons (je_var (i := 6)) ja_nil)) (ja_cons (je_tup (ja_cons (je_var (i := 6)) (ja_cons (je_callTy (call_tupM rfl) rfl Y.n_tuple boot_tuple (ja_cons (je_var (i := 7)) ja_nil)) ja_nil))) ja_nil))))) (jss_one (js_ret je_bl)) jss_nil)))))))))))))))))
  (jss_one (js_ret (je_cmpD (cmp_eq rfl tk (show Room 1 _ from hr.mono (by decide)) (op_eqM rfl hr.units) (T_tb__eq__2 Y) Y.nf) (je_fld rfl Y.ft_pairs (je_makeT (mk_Rivals___init___d1 Y) rfl tk (show Room 5 _ from hr.mono (by decide)) rfl (ja_cons (je_bin (op_addM rfl) je_int (je_callT (ok__law_next Y) rfl tk (show Room 8 _ from hr.mono (by decide)) rfl (ja_cons (je_var (i := 1)) (ja_cons je_int ja_nil)))) ja_nil))) (je_tup ja_nil))))))
theorem ok_law (Y : Fx K mg) : CallT (GG K) P w mg base 10 "law" m_law [] := by
  obtain ⟨fd, F⟩ := Y.d_law
  exact ⟨_, fd, _, [], [], Y.g_law, F.kp, fn_law Y F, ar_fn, F.bindsN (fun _ _ _ _ _ _ us hl => match us, hl with | [_], _ => rfl), .nil, fun _ _ => .nil⟩
def fl : List FB := [fun K => (He.Fa.free "int").ok K,
  fun K => (He.Fa.free "isinstance").ok K,
  fun K => (He.Fa.free "bool").ok K,
  fun K => (He.Fa.free "tuple").ok K,
  fun K => (He.Fa.free "len").ok K,
  fun K => (He.Fa.free "all").ok K,
  fun K => (He.Fa.free "zip").ok K,
  fun K => (He.Fa.free "range").ok K,
  fun K => (He.Fa.free "sorted").ok K,
  fun K => (He.Fa.free "list").ok K,
  fun K => (He.Fa.free "max").ok K,
  fun K => (He.Fa.free "min").ok K,
  fun K => (He.Fa.free "set").ok K,
  fun K => (He.Fa.int "MOST_RIVALS" 8).ok K,
  fun K => (He.Fa.glo "Rivals").ok K,
  fun K => (He.Fa.exc "Unlike").ok K,
  fun K => (He.Fa.glo "Unlike").ok K,
  fun K => (He.Fa.exm "Unlike" "Unlike" true).ok K,
  sclsB (fun K => He.ga K "Rivals"),
  slot1B (fun K => He.ga K "Rivals") "many" 0,
  slot1B (fun K => He.ga K "Rivals") "pairs" 1,
  isiB (fun K => He.ga K "Rivals") (fun K => He.ga K "Rivals") true,
  fun K => (He.Fa.glo "is_number").ok K,
  fun K => (He.Fa.glo "is_pair").ok K,
  fun K => (He.Fa.glo "are_pairs").ok K,
  fun K => (He.Fa.glo "all_pairs").ok K,
  nilB (fun K => He.dflAt ("Rivals", some "__init__") 0 K),
  fun K => (He.Fa.mkr "Rivals").ok K,
  cmetB "Rivals" "circle",
  ownB "Rivals" "__len__",
  ownB "Rivals" "__contains__",
  ownB "Rivals" "__getitem__",
  ownB "Rivals" "__eq__",
  ownB "Rivals" "__or__",
  ownB "Rivals" "__sub__",
  ownB "Rivals" "__invert__",
  fun K => (He.Fa.glo "_law_cell_at").ok K,
  fun K => (He.Fa.glo "_law_draw").ok K,
  fun K => (He.Fa.glo "_law_number").ok K,
  fun K => (He.Fa.glo "_law_next").ok K,
  fun K => (He.Fa.glo "_law_every").ok K,
  fun K => (He.Fa.glo "_law_rivals").ok K,
  fun K => (He.Fa.glo "_law_are").ok K,
  fun K => (He.Fa.glo "_law_is_fine").ok K,
  fun K => (He.Fa.glo "_law_refuses").ok K,
  fun K => (He.Fa.glo "law").ok K,
  creadB "Rivals",
  fun K => PySem.W.notFirst K (He.ga K "Rivals") (.ref (He.ga K "Rivals")),
  neB "Rivals",
  fun K => PySem.W.selfFirst K (He.ga K "Rivals")]
def dl : List DefE := [⟨(fun K => He.fAd K ("is_number", none)), "is_number", "is_number", defArgs (topS 7), defBody (topS 7), defScope (topS 7), fun K => [], fun _ => []⟩,
  ⟨(fun K => He.fAd K ("is_pair", none)), "is_pair", "is_pair", defArgs (topS 8), defBody (topS 8), defScope (topS 8), fun K => [], fun _ => []⟩,
  ⟨(fun K => He.fAd K ("are_pairs", none)), "are_pairs", "are_pairs", defArgs (topS 9), defBody (topS 9), defScope (topS 9), fun K => [], fun _ => []⟩,
  ⟨(fun K => He.fAd K ("all_pairs", none)), "all_pairs", "all_pairs", defArgs (topS 10), defBody (topS 10), defScope (topS 10), fun K => [], fun _ => []⟩,
  ⟨(fun K => He.fAd K ("Rivals", some "__init__")), "__init__", "Rivals.__init__", defArgs (inS 11 1), defBody (inS 11 1), defScope (inS 11 1), fun K => [.ref (He.dflAt ("Rivals", some "__init__") 0 K)], fun _ => []⟩,
  ⟨(fun K => cmFn K "Rivals" "circle"), "circle", "Rivals.circle", defArgs (inS 11 2), defBody (inS 11 2), defScope (inS 11 2), fun K => [], fun _ => []⟩,
  ⟨(fun K => He.fAd K ("Rivals", some "__len__")), "__len__", "Rivals.__len__", defArgs (inS 11 3), defBody (inS 11 3), defScope (inS 11 3), fun K => [], fun _ => []⟩,
  ⟨(fun K => He.fAd K ("Rivals", some "__contains__")), "__contains__", "Rivals.__contains__", defArgs (inS 11 4), defBody (inS 11 4), defScope (inS 11 4), fun K => [], fun _ => []⟩,
  ⟨(fun K => He.fAd K ("Rivals", some "__getitem__")), "__getitem__", "Rivals.__getitem__", defArgs (inS 11 5), defBody (inS 11 5), defScope (inS 11 5), fun K => [], fun _ => []⟩,
  ⟨(fun K => He.fAd K ("Rivals", some "__eq__")), "__eq__", "Rivals.__eq__", defArgs (inS 11 7), defBody (inS 11 7), defScope (inS 11 7), fun K => [], fun _ => []⟩,
  ⟨(fun K => He.fAd K ("Rivals", some "__or__")), "__or__", "Rivals.__or__", defArgs (inS 11 8), defBody (inS 11 8), defScope (inS 11 8), fun K => [], fun _ => []⟩,
  ⟨(fun K => He.fAd K ("Rivals", some "__sub__")), "__sub__", "Rivals.__sub__", defArgs (inS 11 9), defBody (inS 11 9), defScope (inS 11 9), fun K => [], fun _ => []⟩,
  ⟨(fun K => He.fAd K ("Rivals", some "__invert__")), "__invert__", "Rivals.__invert__", defArgs (inS 11 10), defBody (inS 11 10), defScope (inS 11 10), fun K => [], fun _ => []⟩,
  ⟨(fun K => He.fAd K ("_law_cell_at", none)), "_law_cell_at", "_law_cell_at", defArgs (topS 13), defBody (topS 13), defScope (topS 13), fun K => [], fun _ => []⟩,
  ⟨(fun K => He.fAd K ("_law_draw", none)), "_law_draw", "_law_draw", defArgs (topS 14), defBody (topS 14), defScope (topS 14), fun K => [], fun _ => []⟩,
  ⟨(fun K => He.fAd K ("_law_number", none)), "_law_number", "_law_number", defArgs (topS 15), defBody (topS 15), defScope (topS 15), fun K => [], fun _ => []⟩,
  ⟨(fun K => He.fAd K ("_law_next", none)), "_law_next", "_law_next", defArgs (topS 16), defBody (topS 16), defScope (topS 16), fun K => [], fun _ => []⟩,
  ⟨(fun K => He.fAd K ("_law_every", none)), "_law_every", "_law_every", defArgs (topS 17), defBody (topS 17), defScope (topS 17), fun K => [], fun _ => []⟩,
  ⟨(fun K => He.fAd K ("_law_rivals", none)), "_law_rivals", "_law_rivals", defArgs (topS 18), defBody (topS 18), defScope (topS 18), fun K => [], fun _ => []⟩,
  ⟨(fun K => He.fAd K ("_law_are", none)), "_law_are", "_law_are", defArgs (topS 19), defBody (topS 19), defScope (topS 19), fun K => [], fun _ => []⟩,
  ⟨(fun K => He.fAd K ("_law_is_fine", none)), "_law_is_fine", "_law_is_fine", defArgs (topS 20), defBody (topS 20), defScope (topS 20), fun K => [], fun _ => []⟩,
  ⟨(fun K => He.fAd K ("_law_refuses", none)), "_law_refuses", "_law_refuses", defArgs (topS 21), defBody (topS 21), defScope (topS 21), fun K => [], fun _ => []⟩,
  ⟨(fun K => He.fAd K ("law", none)), "law", "law", defArgs (topS 22), defBody (topS 22), defScope (topS 22), fun K => [], fun _ => []⟩]
theorem fx {h : Heap} (X : K.In h) (G : h.Ns mainGlobals mg) (c : obsE fl dl K = valE dl) : Fx K mg where
  n_int := He.free_ok X G (says_fact c 0)
  n_isinstance := He.free_ok X G (says_fact c 1)
  n_bool := He.free_ok X G (says_fact c 2)
  n_tuple := He.free_ok X G (says_fact c 3)
  n_len := He.free_ok X G (says_fact c 4)
  n_all := He.free_ok X G (says_fact c 5)
  n_zip := He.free_ok X G (says_fact c 6)
  n_range := He.free_ok X G (says_fact c 7)
  n_sorted := He.free_ok X G (says_fact c 8)
  n_list := He.free_ok X G (says_fact c 9)
  n_max := He.free_ok X G (says_fact c 10)
  n_min := He.free_ok X G (says_fact c 11)
  n_set := He.free_ok X G (says_fact c 12)
  i_MOST_RIVALS := He.int_ok X G (says_fact c 13)
  c_Rivals := He.glo_ok X G (says_fact c 14)
  x_Unlike := ⟨He.glo_ok X G (says_fact c 16), (He.exc_ok (says_fact c 15)).1, (He.exc_ok (says_fact c 15)).2.1, (He.exc_ok (says_fact c 15)).2.2.1, (He.exc_ok (says_fact c 15)).2.2.2⟩
  xt_Unlike := ⟨fun n b e => match n, e with | 2, e => by cases e; exact He.exm_ok (says_fact c 17)⟩
  ft_many := ⟨fun n i e => match n, e with | 4, e => by cases e; exact ⟨sclsB_ok (C := (fun K => He.ga K "Rivals")) (says_fact c 18), slot1B_ok (C := (fun K => He.ga K "Rivals")) (says_fact c 19)⟩⟩
  ft_pairs := ⟨fun n i e => match n, e with | 4, e => by cases e; exact ⟨sclsB_ok (C := (fun K => He.ga K "Rivals")) (says_fact c 18), slot1B_ok (C := (fun K => He.ga K "Rivals")) (says_fact c 20)⟩⟩
  isi := ⟨fun n d b e => match n, d, e with | 4, 4, e => by cases e; exact ⟨sclsB_ok (C := (fun K => He.ga K "Rivals")) (says_fact c 18), (isiB_ok (C := (fun K => He.ga K "Rivals")) (D := (fun K => He.ga K "Rivals")) (says_fact c 21)).1, (isiB_ok (C := (fun K => He.ga K "Rivals")) (D := (fun K => He.ga K "Rivals")) (says_fact c 21)).2⟩⟩
  d_is_number := says_def c 0
  g_is_number := He.glo_ok X G (says_fact c 22)
  d_is_pair := says_def c 1
  g_is_pair := He.glo_ok X G (says_fact c 23)
  d_are_pairs := says_def c 2
  g_are_pairs := He.glo_ok X G (says_fact c 24)
  d_all_pairs := says_def c 3
  g_all_pairs := He.glo_ok X G (says_fact c 25)
  d_Rivals___init__ := says_def c 4
  e_Rivals___init___0 := nilB_ok (a := (fun K => He.dflAt ("Rivals", some "__init__") 0 K)) (says_fact c 26)
  mk_Rivals := He.mkr_ok (says_fact c 27)
  d_Rivals_circle := says_def c 5
  cm_Rivals_circle := cmetB_ok (says_fact c 28)
  d_Rivals___len__ := says_def c 6
  o_Rivals___len__ := ownB_ok (says_fact c 29)
  d_Rivals___contains__ := says_def c 7
  o_Rivals___contains__ := ownB_ok (says_fact c 30)
  d_Rivals___getitem__ := says_def c 8
  o_Rivals___getitem__ := ownB_ok (says_fact c 31)
  d_Rivals___eq__ := says_def c 9
  o_Rivals___eq__ := ownB_ok (says_fact c 32)
  d_Rivals___or__ := says_def c 10
  o_Rivals___or__ := ownB_ok (says_fact c 33)
  d_Rivals___sub__ := says_def c 11
  o_Rivals___sub__ := ownB_ok (says_fact c 34)
  d_Rivals___invert__ := says_def c 12
  o_Rivals___invert__ := ownB_ok (says_fact c 35)
  d__law_cell_at := says_def c 13
  g__law_cell_at := He.glo_ok X G (says_fact c 36)
  d__law_draw := says_def c 14
  g__law_draw := He.glo_ok X G (says_fact c 37)
  d__law_number := says_def c 15
  g__law_number := He.glo_ok X G (says_fact c 38)
  d__law_next := says_def c 16
  g__law_next := He.glo_ok X G (says_fact c 39)
  d__law_every := says_def c 17
  g__law_every := He.glo_ok X G (says_fact c 40)
  d__law_rivals := says_def c 18
  g__law_rivals := He.glo_ok X G (says_fact c 41)
  d__law_are := says_def c 19
  g__law_are := He.glo_ok X G (says_fact c 42)
  d__law_is_fine := says_def c 20
  g__law_is_fine := He.glo_ok X G (says_fact c 43)
  d__law_refuses := says_def c 21
  g__law_refuses := He.glo_ok X G (says_fact c 44)
  d_law := says_def c 22
  g_law := He.glo_ok X G (says_fact c 45)
  cr_Rivals := creadB_ok (says_fact c 46)
  nf := fun n m e => match n, m, e with | 4, 4, e => says_fact c 47
  ne_Rivals := neB_ok (says_fact c 48)
  sf_Rivals := says_fact c 49
end
abbrev R : PySem.W.OpenRow := PySem.W.OpenLaw.row PySem.Challenge.rw_registerrooms_k41_whole_rivals
abbrev hk : PySem.W.Hook := hookE 6 fl dl
def ob (s : PySem.W.SharedT) : Al := obsG 6 fl dl (HandSHeadRun.getT s)
theorem ob_eq (s : PySem.W.SharedT) : ob s = hk.obs s.abs := obsG_eq (HandSHeadRun.getT_eq s)
theorem run (w : World) : HandSHeadRun.RunEq R (PySem.W.view R.prog [22]) hk ob 20000 ["RoomError", "BadVariable", "Unlike", "BadRivals", "MOST_RIVALS", "is_number", "is_pair", "are_pairs", "all_pairs", "Rivals", "_law_cell_at", "_law_draw", "_law_number", "_law_next", "_law_every", "_law_rivals", "_law_are", "_law_is_fine", "_law_refuses"] w := by
  intro os
  kernel_rfl
end Lw
namespace Lw
open PySem CI
def dP (p : Int × Int) : PyData := .tuple [.int p.1, .int p.2]
def vP (P : List (Int × Int)) : Val := .tup (P.map valP)
theorem toD_valP (h : AH) (n : Nat) (p : Int × Int) : toD h (n + 2) (valP p) = some (dP p) := rfl
theorem mapO_valP (h : AH) (n : Nat) : ∀ P : List (Int × Int), mapO (toD h (n + 2)) (P.map valP) = some (P.map dP)
  | [] => rfl
  | p :: P => by
    rw [List.map_cons, mapO, toD_valP, mapO_valP h n P]
    rfl
theorem toD_vP (h : AH) (n : Nat) (P : List (Int × Int)) : toD h (n + 3) (vP P) = some (.tuple (P.map dP)) := by
  show (mapO (toD h (n + 2)) (P.map valP)).map PyData.tuple = _
  rw [mapO_valP]
  rfl
theorem canLay_P : ∀ P : List (Int × Int), PyData.canLayAll0 (P.map dP) = true
  | [] => rfl
  | p :: P => by
    show (PyData.canLay0 (dP p) && PyData.canLayAll0 (P.map dP)) = true
    rw [canLay_P P]
    rfl
theorem depth_P : ∀ P : List (Int × Int), PyData.depthAll (P.map dP) ≤ 2
  | [] => by decide
  | p :: P => by
    show max (PyData.depth (dP p)) (PyData.depthAll (P.map dP)) ≤ 2
    have := depth_P P
    have e : PyData.depth (dP p) ≤ 2 := (show (PyData.tuple [PyData.int 0, PyData.int 0]).depth ≤ 2 by decide)
    omega
theorem shaped_P (P : List (Int × Int)) : SeqAt.shaped (.tuple (P.map dP)) = true := by
  unfold SeqAt.shaped
  rw [Bool.and_eq_true]
  refine ⟨canLay_P P, decide_eq_true ?_⟩
  have := depth_P P
  show PyData.depthAll (P.map dP) + 1 ≤ 64
  omega
theorem shaped_LP (P : List (Int × Int)) : SeqAt.shaped (.list (P.map dP)) = true := by
  unfold SeqAt.shaped
  rw [Bool.and_eq_true]
  refine ⟨canLay_P P, decide_eq_true ?_⟩
  have := depth_P P
  show PyData.depthAll (P.map dP) + 1 ≤ 64
  omega
theorem shaped_p (p : Int × Int) : SeqAt.shaped (dP p) = true := rfl
theorem eqv_p (p q : Int × Int) : PyData.eqv (dP p) (dP q) = decide (p = q) := by
  show ((p.1 == q.1) && ((p.2 == q.2) && true)) = _
  by_cases h : p = q
  · subst h; simp
  · rw [decide_eq_false h]
    by_cases h1 : p.1 = q.1
    · by_cases h2 : p.2 = q.2
      · exact absurd (Prod.ext h1 h2) h
      · simp [h2]
    · simp [h1]
theorem any_P (p : Int × Int) : ∀ P : List (Int × Int), ((P.map dP).any fun z => PyData.eqv z (dP p)) = decide (p ∈ P)
  | [] => by simp
  | q :: P => by
    rw [List.map_cons, List.any_cons, any_P p P, eqv_p]
    by_cases h : q = p
    · simp [h]
    · have h' : ¬ p = q := fun e => h e.symm
      simp [h, h']
theorem inD_P (h : AH) (p : Int × Int) (P : List (Int × Int)) : inD (valP p) (vP P) h = some (decide (p ∈ P)) := by
  unfold inD
  rw [show toD h 66 (valP p) = some (dP p) from toD_valP h 64 p, show toD h 66 (vP P) = some (.tuple (P.map dP)) from toD_vP h 63 P]
  dsimp only
  rw [shaped_p, shaped_P, if_pos (by rfl), any_P]
theorem eqvAll_P : ∀ P Q : List (Int × Int), PyData.eqvAll (P.map dP) (Q.map dP) = decide (P = Q)
  | [], [] => by simp [PyData.eqvAll]
  | [], q :: Q => by simp [PyData.eqvAll]
  | p :: P, [] => by simp [PyData.eqvAll]
  | p :: P, q :: Q => by
    rw [List.map_cons, List.map_cons, PyData.eqvAll, eqvAll_P P Q, eqv_p]
    by_cases h : p = q
    · by_cases h2 : P = Q <;> simp [h, h2]
    · simp [h]
theorem eqD_P (h : AH) (P Q : List (Int × Int)) : eqD (vP P) (vP Q) h = some (decide (P = Q)) := by
  unfold eqD
  rw [show toD h 66 (vP P) = some (.tuple (P.map dP)) from toD_vP h 63 P, show toD h 66 (vP Q) = some (.tuple (Q.map dP)) from toD_vP h 63 Q]
  dsimp only
  rw [shaped_P, shaped_P, if_pos (by rfl), PyData.eqv, eqvAll_P]
theorem is_number_int (i lo hi : Int) (h : AH) : m_is_number [.int i, .int lo, .int hi] h = .ok (.bl (decide (lo ≤ i) && decide (i ≤ hi))) h := by
  have e1 : kitS "int" "int" = some true := by decide
  have e2 : kitS "int" "bool" = some false := by decide
  simp only [m_is_number, fn, startA, sRet, eAnd, eNot, eN, aCons, aNil, eVar, eC, fIsi, tyOf, eChain, fLe, fI, Res.bind, SR.ofE, endF, lift, List.length_cons, List.length_nil, if_true, List.map_cons, List.map_nil, List.replicate, Nat.sub_self, List.append_nil, List.getElem?_cons_zero, List.getElem?_cons_succ, e1, e2, Option.map_some, Bool.not_false]
  by_cases h1 : lo ≤ i
  · simp [h1, Res.bind, lift]
  · simp [h1, Res.bind, lift]
theorem compV_pure {t : Tgt} {body : ML} {env : AEnv} {h : AH} {c : Val → Bool} {g : Val → Val} {en : Val → AEnv} : ∀ {xs : List Val}, (∀ x ∈ xs, t.bind x env = some (en x) ∧ body (en x) h = .ok (if c x then [g x] else []) h) → compV t body env xs h = .ok ((xs.filter c).map g) h
  | [], _ => rfl
  | x :: xs, hx => by
    obtain ⟨h1, h2⟩ := hx x List.mem_cons_self
    unfold compV
    rw [h1]
    dsimp only
    rw [h2]
    simp only [Res.bind]
    rw [compV_pure (c := c) (g := g) (en := en) fun y hy => hx y (List.mem_cons_of_mem _ hy)]
    by_cases hc : c x = true
    · simp [hc, Res.bind]
    · simp [hc, Res.bind]
theorem compS_pure {t : Tgt} {body : ML} {env : AEnv} {h : AH} {r : Nat} {xs : List Val} (hr : h[r]? = some (.lst xs)) {c : Val → Bool} {g : Val → Val} {en : Val → AEnv} (hx : ∀ x ∈ xs, t.bind x env = some (en x) ∧ body (en x) h = .ok (if c x then [g x] else []) h) :
    ∀ (n i : Nat), xs.length ≤ i + n → compS t body env (.live r) n i h = .ok (((xs.drop i).filter c).map g) h := by
  intro n
  induction n with
  | zero =>
    intro i hl
    have e : xs[i]? = none := List.getElem?_eq_none (by omega)
    unfold compS
    simp only [Src.at, hr, e]
    rw [List.drop_eq_nil_of_le (by omega)]
    rfl
  | succ n ih =>
    intro i hl
    unfold compS
    simp only [Src.at, hr]
    cases e : xs[i]? with
    | none =>
      rw [List.drop_eq_nil_of_le (List.getElem?_eq_none_iff.mp e)]
      rfl
    | some x =>
      obtain ⟨hi, ex⟩ := List.getElem?_eq_some_iff.mp e
      obtain ⟨h1, h2⟩ := hx x (by rw [← ex]; exact List.getElem_mem hi)
      dsimp only
      rw [h1]
      dsimp only
      rw [h2]
      simp only [Res.bind]
      rw [ih (i + 1) (by omega), List.drop_eq_getElem_cons hi, ex]
      by_cases hc : c x = true
      · simp [hc, Res.bind]
      · simp [hc, Res.bind]
/-- [e for x in xs if c], xs known -/
theorem eComp_vals {vs : List Nat} {m : MI} {t : Tgt} {body : ML} {env : AEnv} {h h1 : AH} {xs : List Val} {c : Val → Bool} {g : Val → Val} {en : Val → AEnv} (hm : m env h = .ok (.vals xs) h1) (hl : xs.length ≤ 1000)
    (hx : ∀ x ∈ xs, t.bind x (wipeA env vs) = some (en x) ∧ body (en x) h1 = .ok (if c x then [g x] else []) h1) : eComp vs m t body env h = .ok ((xs.filter c).map g) h1 := by
  unfold eComp
  rw [hm]
  simp only [Res.bind, compA]
  rw [compV_pure hx]
  dsimp only
  rw [if_pos]
  rw [List.length_map]
  have := List.length_filter_le c xs
  omega
theorem eComp_live {vs : List Nat} {m : MI} {t : Tgt} {body : ML} {env : AEnv} {h h1 : AH} {r : Nat} {xs : List Val} {c : Val → Bool} {g : Val → Val} {en : Val → AEnv} (hm : m env h = .ok (.live r) h1) (hr : h1[r]? = some (.lst xs)) (hl : xs.length ≤ 1000)
    (hx : ∀ x ∈ xs, t.bind x (wipeA env vs) = some (en x) ∧ body (en x) h1 = .ok (if c x then [g x] else []) h1) : eComp vs m t body env h = .ok ((xs.filter c).map g) h1 := by
  unfold eComp
  rw [hm]
  simp only [Res.bind, compA]
  rw [compS_pure hr hx _ _ (by omega)]
  dsimp only
  rw [if_pos]
  · rfl
  · rw [List.length_map]
    have := List.length_filter_le c (xs.drop 0)
    rw [List.drop_zero] at this
    rw [List.drop_zero]
    omega
theorem all_map_bl (f : Val → Bool) (xs : List Val) : uAll (xs.map fun x => .bl (f x)) = some (.bl (xs.all f)) := by
  have : ∀ xs : List Val, bools (xs.map fun x => .bl (f x)) = some (xs.map f) := fun xs => by
    induction xs with
    | nil => rfl
    | cons x xs ih => rw [List.map_cons, bools, ih]; rfl
  unfold uAll
  rw [this]
  simp [List.all_map]
def isN (lo hi : Int) : Val → Bool
  | .int i => decide (lo ≤ i) && decide (i ≤ hi)
  | _ => false
theorem is_number_tup (xs : List Val) (lo hi : Int) (h : AH) : m_is_number [.tup xs, .int lo, .int hi] h = .ok (.bl false) h := by
  have e1 : kitS "tuple" "int" = some false := by decide
  simp only [m_is_number, fn, startA, sRet, eAnd, eNot, eN, aCons, aNil, eVar, eC, fIsi, tyOf, eChain, fLe, fI, Res.bind, SR.ofE, endF, lift, List.length_cons, List.length_nil, if_true, List.map_cons, List.map_nil, List.replicate, Nat.sub_self, List.append_nil, List.getElem?_cons_zero, List.getElem?_cons_succ, e1, Option.map_some]
theorem is_number_non (lo hi : Int) (h : AH) : m_is_number [.non, .int lo, .int hi] h = .ok (.bl false) h := by
  have e1 : kitS "NoneType" "int" = some false := by decide
  simp only [m_is_number, fn, startA, sRet, eAnd, eNot, eN, aCons, aNil, eVar, eC, fIsi, tyOf, eChain, fLe, fI, Res.bind, SR.ofE, endF, lift, List.length_cons, List.length_nil, if_true, List.map_cons, List.map_nil, List.replicate, Nat.sub_self, List.append_nil, List.getElem?_cons_zero, List.getElem?_cons_succ, e1, Option.map_some]
theorem is_number_bl (b : Bool) (lo hi : Int) (h : AH) : m_is_number [.bl b, .int lo, .int hi] h = .ok (.bl false) h := by
  have e1 : kitS "bool" "int" = some true := by decide
  have e2 : kitS "bool" "bool" = some true := by decide
  simp only [m_is_number, fn, startA, sRet, eAnd, eNot, eN, aCons, aNil, eVar, eC, fIsi, tyOf, eChain, fLe, fI, Res.bind, SR.ofE, endF, lift, List.length_cons, List.length_nil, if_true, List.map_cons, List.map_nil, List.replicate, Nat.sub_self, List.append_nil, List.getElem?_cons_zero, List.getElem?_cons_succ, e1, e2, Option.map_some, Bool.not_true]
def inR (n : Int) (p : Int × Int) : Bool := (decide (0 ≤ p.1) && decide (p.1 ≤ n - 1)) && (decide (0 ≤ p.2) && decide (p.2 ≤ n - 1))
theorem kit_tt : kitS "tuple" "tuple" = some true := by decide
theorem isi_tup (xs : List Val) (h : AH) : fIsi [.tup xs, .ty "tuple"] h = some (.bl true, h) := by simp [fn, startA, sRet, sSeq, sIf, sSet, sNext, sNever, sFldA, sAsg, sPar, eAnd, eOr, eNot, eIf, eN, e1, e2, e1D, e2D, eCall, eTup, eLst, eOwn, eUse, aCons, aNil, eVar, eC, toB, tmOr, tmAnd, tmNot, tmYes, Res.bind, Res.noex, SR.ofE, endF, lift, cOne, iSeq, wipeA, Tgt.bind, setAll, fSub, fAdd, fFld, fIsi, tyOf, kit_tt]
theorem len_tup (xs : List Val) (h : AH) : fLen [.tup xs] h = some (.int xs.length, h) := rfl
theorem ix_tup2 (a b : Val) (h : AH) : fIx (.tup [a, b]) (.int 0) h = some (a, h) ∧ fIx (.tup [a, b]) (.int 1) h = some (b, h) := ⟨rfl, rfl⟩
theorem all_pair (n : Int) (p : Int × Int) (env : AEnv) (h : AH) (m : ME) (hm : ∀ x, m (env.set 2 (some x)) h = .ok (.bl (isN 0 (n - 1) x)) h) : compV (.nm 2) (cOne tmYes m) env [.int p.1, .int p.2] h = .ok [.bl (isN 0 (n - 1) (.int p.1)), .bl (isN 0 (n - 1) (.int p.2))] h := by
  simp [fn, startA, sRet, sSeq, sIf, sSet, sNext, sNever, sFldA, sAsg, sPar, eAnd, eOr, eNot, eIf, eN, e1, e2, e1D, e2D, eCall, eTup, eLst, eOwn, eUse, aCons, aNil, eVar, eC, toB, tmOr, tmAnd, tmNot, tmYes, Res.bind, Res.noex, SR.ofE, endF, lift, cOne, iSeq, wipeA, Tgt.bind, setAll, fSub, fAdd, fFld, compV, hm]
theorem is_pair_ok (n : Int) (p : Int × Int) (h : AH) : m_is_pair [.int n, valP p] h = .ok (.bl (inR n p && decide (p.1 < p.2))) h := by
  unfold m_is_pair valP
  have e : fNe (.int 2) (.int 2) h = some (.bl false, h) := rfl
  simp [fn, startA, sRet, sSeq, sIf, sSet, sNext, sNever, sFldA, sAsg, sPar, eAnd, eOr, eNot, eIf, eN, e1, e2, e1D, e2D, eCall, eTup, eLst, eOwn, eUse, aCons, aNil, eVar, eC, toB, tmOr, tmAnd, tmNot, tmYes, Res.bind, Res.noex, SR.ofE, endF, lift, cOne, iSeq, wipeA, Tgt.bind, setAll, fSub, fAdd, fFld, isi_tup, len_tup, e, eComp, compA, compV, is_number_int, uAll, bools, (ix_tup2 _ _ h).1, (ix_tup2 _ _ h).2, fLt, inR]
  generalize (decide (0 ≤ p.1) && decide (p.1 ≤ n - 1)) = b1
  generalize (decide (0 ≤ p.2) && decide (p.2 ≤ n - 1)) = b2
  cases b1 <;> cases b2 <;> simp [fn, startA, sRet, sSeq, sIf, sSet, sNext, sNever, sFldA, sAsg, sPar, eAnd, eOr, eNot, eIf, eN, e1, e2, e1D, e2D, eCall, eTup, eLst, eOwn, eUse, aCons, aNil, eVar, eC, toB, tmOr, tmAnd, tmNot, tmYes, Res.bind, Res.noex, SR.ofE, endF, lift, cOne, iSeq, wipeA, Tgt.bind, setAll, fSub, fAdd, fFld]
/-- ascending pairs of variables below n -/
def lexP (p q : Int × Int) : Prop := p.1 < q.1 ∨ (p.1 = q.1 ∧ p.2 < q.2)
structure Good (n : Int) (P : List (Int × Int)) : Prop where
  asc : P.Pairwise lexP
  bd : ∀ p ∈ P, 0 ≤ p.1 ∧ p.1 < p.2 ∧ p.2 < n
  few : P.length ≤ 100
theorem lexLt_pair {p q : Int × Int} (h : lexP p q) : HT.lexLt [p.1, p.2] [q.1, q.2] = true := by
  rcases h with h | ⟨h1, h2⟩
  · unfold HT.lexLt
    by_cases e : p.1 = q.1
    · omega
    · simp [fn, startA, sRet, sSeq, sIf, sSet, sNext, sNever, sFldA, sAsg, sPar, eAnd, eOr, eNot, eIf, eN, e1, e2, e1D, e2D, eCall, eTup, eLst, eOwn, eUse, aCons, aNil, eVar, eC, toB, tmOr, tmAnd, tmNot, tmYes, Res.bind, Res.noex, SR.ofE, endF, lift, cOne, iSeq, wipeA, Tgt.bind, setAll, fSub, fAdd, fFld, e, h]
  · unfold HT.lexLt
    simp [fn, startA, sRet, sSeq, sIf, sSet, sNext, sNever, sFldA, sAsg, sPar, eAnd, eOr, eNot, eIf, eN, e1, e2, e1D, e2D, eCall, eTup, eLst, eOwn, eUse, aCons, aNil, eVar, eC, toB, tmOr, tmAnd, tmNot, tmYes, Res.bind, Res.noex, SR.ofE, endF, lift, cOne, iSeq, wipeA, Tgt.bind, setAll, fSub, fAdd, fFld, h1]
    unfold HT.lexLt
    by_cases e : p.2 = q.2
    · omega
    · simp [fn, startA, sRet, sSeq, sIf, sSet, sNext, sNever, sFldA, sAsg, sPar, eAnd, eOr, eNot, eIf, eN, e1, e2, e1D, e2D, eCall, eTup, eLst, eOwn, eUse, aCons, aNil, eVar, eC, toB, tmOr, tmAnd, tmNot, tmYes, Res.bind, Res.noex, SR.ofE, endF, lift, cOne, iSeq, wipeA, Tgt.bind, setAll, fSub, fAdd, fFld, e, h2]
theorem zip_asc : ∀ {P : List (Int × Int)}, P.Pairwise lexP → ∀ z ∈ zipT (P.map valP) ((P.map valP).drop 1), ∃ p q, z = .tup [valP p, valP q] ∧ lexP p q
  | [], _, z, hz => by simp [fn, startA, sRet, sSeq, sIf, sSet, sNext, sNever, sFldA, sAsg, sPar, eAnd, eOr, eNot, eIf, eN, e1, e2, e1D, e2D, eCall, eTup, eLst, eOwn, eUse, aCons, aNil, eVar, eC, toB, tmOr, tmAnd, tmNot, tmYes, Res.bind, Res.noex, SR.ofE, endF, lift, cOne, iSeq, wipeA, Tgt.bind, setAll, fSub, fAdd, fFld, zipT] at hz
  | [p], _, z, hz => by simp [fn, startA, sRet, sSeq, sIf, sSet, sNext, sNever, sFldA, sAsg, sPar, eAnd, eOr, eNot, eIf, eN, e1, e2, e1D, e2D, eCall, eTup, eLst, eOwn, eUse, aCons, aNil, eVar, eC, toB, tmOr, tmAnd, tmNot, tmYes, Res.bind, Res.noex, SR.ofE, endF, lift, cOne, iSeq, wipeA, Tgt.bind, setAll, fSub, fAdd, fFld, zipT] at hz
  | p :: q :: P, h, z, hz => by
    obtain ⟨h1, h2⟩ := List.pairwise_cons.mp h
    have hz' : z ∈ (.tup [valP p, valP q]) :: zipT ((q :: P).map valP) (((q :: P).map valP).drop 1) := hz
    rcases List.mem_cons.mp hz' with rfl | hz'
    · exact ⟨p, q, rfl, h1 q List.mem_cons_self⟩
    · exact zip_asc h2 z hz'
theorem zipT_len : ∀ xs ys : List Val, (zipT xs ys).length ≤ xs.length
  | [], ys => by simp [fn, startA, sRet, sSeq, sIf, sSet, sNext, sNever, sFldA, sAsg, sPar, eAnd, eOr, eNot, eIf, eN, e1, e2, e1D, e2D, eCall, eTup, eLst, eOwn, eUse, aCons, aNil, eVar, eC, toB, tmOr, tmAnd, tmNot, tmYes, Res.bind, Res.noex, SR.ofE, endF, lift, cOne, iSeq, wipeA, Tgt.bind, setAll, fSub, fAdd, fFld, zipT]
  | x :: xs, [] => by simp [fn, startA, sRet, sSeq, sIf, sSet, sNext, sNever, sFldA, sAsg, sPar, eAnd, eOr, eNot, eIf, eN, e1, e2, e1D, e2D, eCall, eTup, eLst, eOwn, eUse, aCons, aNil, eVar, eC, toB, tmOr, tmAnd, tmNot, tmYes, Res.bind, Res.noex, SR.ofE, endF, lift, cOne, iSeq, wipeA, Tgt.bind, setAll, fSub, fAdd, fFld, zipT]
  | x :: xs, y :: ys => by simp [fn, startA, sRet, sSeq, sIf, sSet, sNext, sNever, sFldA, sAsg, sPar, eAnd, eOr, eNot, eIf, eN, e1, e2, e1D, e2D, eCall, eTup, eLst, eOwn, eUse, aCons, aNil, eVar, eC, toB, tmOr, tmAnd, tmNot, tmYes, Res.bind, Res.noex, SR.ofE, endF, lift, cOne, iSeq, wipeA, Tgt.bind, setAll, fSub, fAdd, fFld, zipT]; exact zipT_len xs ys
theorem cut1 (xs : List Val) : cutA xs (some 1) none = xs.drop 1 := by
  unfold cutA
  have e : HT.sIx xs.length 0 (some 1) = min 1 xs.length := HT.sIx_nat _ _ 1
  rw [e, HT.sIx_none]
  cases xs with
  | nil => rfl
  | cons x xs => simp [fn, startA, sRet, sSeq, sIf, sSet, sNext, sNever, sFldA, sAsg, sPar, eAnd, eOr, eNot, eIf, eN, e1, e2, e1D, e2D, eCall, eTup, eLst, eOwn, eUse, aCons, aNil, eVar, eC, toB, tmOr, tmAnd, tmNot, tmYes, Res.bind, Res.noex, SR.ofE, endF, lift, cOne, iSeq, wipeA, Tgt.bind, setAll, fSub, fAdd, fFld]
theorem uAll_true {α : Type} (xs : List α) : uAll (xs.map fun _ => .bl true) = some (.bl true) := by
  have : ∀ xs : List α, bools (xs.map fun _ => .bl true) = some (xs.map fun _ => true) := fun xs => by
    induction xs with
    | nil => rfl
    | cons x xs ih => rw [List.map_cons, bools, ih]; rfl
  unfold uAll
  rw [this]
  simp [fn, startA, sRet, sSeq, sIf, sSet, sNext, sNever, sFldA, sAsg, sPar, eAnd, eOr, eNot, eIf, eN, e1, e2, e1D, e2D, eCall, eTup, eLst, eOwn, eUse, aCons, aNil, eVar, eC, toB, tmOr, tmAnd, tmNot, tmYes, Res.bind, Res.noex, SR.ofE, endF, lift, cOne, iSeq, wipeA, Tgt.bind, setAll, fSub, fAdd, fFld]
theorem are_pairs_ok {n : Int} {P : List (Int × Int)} (g : Good n P) (h : AH) : m_are_pairs [.int n, vP P] h = .ok (.bl true) h := by
  have c1 : eComp [2] (iSeq (eVar 1)) (.nm 2) (cOne tmYes (eCall m_is_pair [] (aCons (eVar 0) (aCons (eVar 2) aNil)))) [some (.int n), some (vP P), none, none, none] h = .ok (((P.map valP).filter fun _ => true).map fun _ => .bl true) h := by
    refine eComp_vals (xs := P.map valP) (en := fun x => [some (.int n), some (vP P), some x, none, none]) (by simp [fn, startA, sRet, sSeq, sIf, sSet, sNext, sNever, sFldA, sAsg, sPar, eAnd, eOr, eNot, eIf, eN, e1, e2, e1D, e2D, eCall, eTup, eLst, eOwn, eUse, aCons, aNil, eVar, eC, toB, tmOr, tmAnd, tmNot, tmYes, Res.bind, Res.noex, SR.ofE, endF, lift, cOne, iSeq, wipeA, Tgt.bind, setAll, fSub, fAdd, fFld, vP]) (by have := g.few; simp [fn, startA, sRet, sSeq, sIf, sSet, sNext, sNever, sFldA, sAsg, sPar, eAnd, eOr, eNot, eIf, eN, e1, e2, e1D, e2D, eCall, eTup, eLst, eOwn, eUse, aCons, aNil, eVar, eC, toB, tmOr, tmAnd, tmNot, tmYes, Res.bind, Res.noex, SR.ofE, endF, lift, cOne, iSeq, wipeA, Tgt.bind, setAll, fSub, fAdd, fFld]; omega) fun x hx => ?_
    obtain ⟨p, hp, rfl⟩ := List.mem_map.mp hx
    obtain ⟨b1, b2, b3⟩ := g.bd p hp
    refine ⟨rfl, ?_⟩
    have e : (inR n p && decide (p.1 < p.2)) = true := by
      unfold inR
      simp [fn, startA, sRet, sSeq, sIf, sSet, sNext, sNever, sFldA, sAsg, sPar, eAnd, eOr, eNot, eIf, eN, e1, e2, e1D, e2D, eCall, eTup, eLst, eOwn, eUse, aCons, aNil, eVar, eC, toB, tmOr, tmAnd, tmNot, tmYes, Res.bind, Res.noex, SR.ofE, endF, lift, cOne, iSeq, wipeA, Tgt.bind, setAll, fSub, fAdd, fFld]
      omega
    simp [fn, startA, sRet, sSeq, sIf, sSet, sNext, sNever, sFldA, sAsg, sPar, eAnd, eOr, eNot, eIf, eN, e1, e2, e1D, e2D, eCall, eTup, eLst, eOwn, eUse, aCons, aNil, eVar, eC, toB, tmOr, tmAnd, tmNot, tmYes, Res.bind, Res.noex, SR.ofE, endF, lift, cOne, iSeq, wipeA, Tgt.bind, setAll, fSub, fAdd, fFld, is_pair_ok, e]
  have c2 : eComp [3, 4] (iZip (aCons (eVar 1) (aCons (eCut (eVar 1) (oSome (eC (.int 1))) oNone) aNil))) (.tp [3, 4]) (cOne tmYes (e2 fLt (eVar 3) (eVar 4))) [some (.int n), some (vP P), none, none, none] h = .ok (((zipT (P.map valP) ((P.map valP).drop 1)).filter fun _ => true).map fun _ => .bl true) h := by
    refine eComp_vals (en := fun z => match z with | .tup [x, y] => [some (.int n), some (vP P), none, some x, some y] | _ => []) ?_ (by have := zipT_len (P.map valP) ((P.map valP).drop 1); have := g.few; simp [fn, startA, sRet, sSeq, sIf, sSet, sNext, sNever, sFldA, sAsg, sPar, eAnd, eOr, eNot, eIf, eN, e1, e2, e1D, e2D, eCall, eTup, eLst, eOwn, eUse, aCons, aNil, eVar, eC, toB, tmOr, tmAnd, tmNot, tmYes, Res.bind, Res.noex, SR.ofE, endF, lift, cOne, iSeq, wipeA, Tgt.bind, setAll, fSub, fAdd, fFld] at *; omega) fun x hx => ?_
    · simp [fn, startA, sRet, sSeq, sIf, sSet, sNext, sNever, sFldA, sAsg, sPar, eAnd, eOr, eNot, eIf, eN, e1, e2, e1D, e2D, eCall, eTup, eLst, eOwn, eUse, aCons, aNil, eVar, eC, toB, tmOr, tmAnd, tmNot, tmYes, Res.bind, Res.noex, SR.ofE, endF, lift, cOne, iSeq, wipeA, Tgt.bind, setAll, fSub, fAdd, fFld, iZip, eCut, oSome, oNone, vP, fCut, cut1]
    · obtain ⟨p, q, rfl, hl⟩ := zip_asc g.asc x hx
      refine ⟨rfl, ?_⟩
      have e := lexLt_pair hl
      simp [fn, startA, sRet, sSeq, sIf, sSet, sNext, sNever, sFldA, sAsg, sPar, eAnd, eOr, eNot, eIf, eN, e1, e2, e1D, e2D, eCall, eTup, eLst, eOwn, eUse, aCons, aNil, eVar, eC, toB, tmOr, tmAnd, tmNot, tmYes, Res.bind, Res.noex, SR.ofE, endF, lift, cOne, iSeq, wipeA, Tgt.bind, setAll, fSub, fAdd, fFld, fLt, valP, intsA, e]
  unfold m_are_pairs
  simp only [fn, List.length_cons, List.length_nil, if_true, startA, List.map_cons, List.map_nil]
  show endF (sSeq _ _ [some (.int n), some (vP P), none, none, none] h) = _
  simp [fn, startA, sRet, sSeq, sIf, sSet, sNext, sNever, sFldA, sAsg, sPar, eAnd, eOr, eNot, eIf, eN, e1, e2, e1D, e2D, eCall, eTup, eLst, eOwn, eUse, aCons, aNil, eVar, eC, toB, tmOr, tmAnd, tmNot, tmYes, Res.bind, Res.noex, SR.ofE, endF, lift, cOne, iSeq, wipeA, Tgt.bind, setAll, fSub, fAdd, fFld, c1, c2, uAll_true, isi_tup, vP]
  rw [show (Val.tup (List.map valP P)) = vP P from rfl]
  simp [fn, startA, sRet, sSeq, sIf, sSet, sNext, sNever, sFldA, sAsg, sPar, eAnd, eOr, eNot, eIf, eN, e1, e2, e1D, e2D, eCall, eTup, eLst, eOwn, eUse, aCons, aNil, eVar, eC, toB, tmOr, tmAnd, tmNot, tmYes, Res.bind, Res.noex, SR.ofE, endF, lift, cOne, iSeq, wipeA, Tgt.bind, setAll, fSub, fAdd, fFld, c1, c2, uAll_true, isi_tup]
def Ob (h : AH) (r : Nat) (n : Int) (P : List (Int × Int)) : Prop := ∃ d, h[r]? = some (.obj 4 d [some (.int n), some (vP P)])
theorem Ob.up {h : AH} {r : Nat} {n : Int} {P : List (Int × Int)} (o : Ob h r n P) (l : AH) : Ob (h ++ l) r n P := by
  obtain ⟨d, e⟩ := o
  exact ⟨d, by rw [List.getElem?_append_left (List.getElem?_eq_some_iff.mp e).1]; exact e⟩
theorem Ob.many {h : AH} {r : Nat} {n : Int} {P : List (Int × Int)} (o : Ob h r n P) : fFld ft_many (.ref r) h = some (.int n, h) := by
  obtain ⟨d, e⟩ := o
  simp [fn, startA, sRet, sSeq, sIf, sSet, sNext, sNever, sFldA, sAsg, sPar, eAnd, eOr, eNot, eIf, eN, e1, e2, e1D, e2D, eCall, eTup, eLst, eOwn, eUse, aCons, aNil, eVar, eC, toB, tmOr, tmAnd, tmNot, tmYes, Res.bind, Res.noex, SR.ofE, endF, lift, cOne, iSeq, wipeA, Tgt.bind, setAll, fSub, fAdd, fFld, fFld, objAt, e, ft_many]
theorem Ob.pairs {h : AH} {r : Nat} {n : Int} {P : List (Int × Int)} (o : Ob h r n P) : fFld ft_pairs (.ref r) h = some (vP P, h) := by
  obtain ⟨d, e⟩ := o
  simp [fn, startA, sRet, sSeq, sIf, sSet, sNext, sNever, sFldA, sAsg, sPar, eAnd, eOr, eNot, eIf, eN, e1, e2, e1D, e2D, eCall, eTup, eLst, eOwn, eUse, aCons, aNil, eVar, eC, toB, tmOr, tmAnd, tmNot, tmYes, Res.bind, Res.noex, SR.ofE, endF, lift, cOne, iSeq, wipeA, Tgt.bind, setAll, fSub, fAdd, fFld, fFld, objAt, e, ft_pairs]
theorem Ob.cls {h : AH} {r : Nat} {n : Int} {P : List (Int × Int)} (o : Ob h r n P) : clsOf (.ref r) h = some 4 := by
  obtain ⟨d, e⟩ := o
  simp [fn, startA, sRet, sSeq, sIf, sSet, sNext, sNever, sFldA, sAsg, sPar, eAnd, eOr, eNot, eIf, eN, e1, e2, e1D, e2D, eCall, eTup, eLst, eOwn, eUse, aCons, aNil, eVar, eC, toB, tmOr, tmAnd, tmNot, tmYes, Res.bind, Res.noex, SR.ofE, endF, lift, cOne, iSeq, wipeA, Tgt.bind, setAll, fSub, fAdd, fFld, clsOf, objAt, e]
def mkH (h : AH) (n : Int) (P : List (Int × Int)) : AH := h ++ [.junk] ++ [.obj 4 h.length [some (.int n), some (vP P)]]
theorem mk_Ob (h : AH) (n : Int) (P : List (Int × Int)) : Ob (mkH h n P) (h.length + 1) n P := ⟨h.length, by
  unfold mkH
  rw [List.getElem?_append_right (by simp [fn, startA, sRet, sSeq, sIf, sSet, sNext, sNever, sFldA, sAsg, sPar, eAnd, eOr, eNot, eIf, eN, e1, e2, e1D, e2D, eCall, eTup, eLst, eOwn, eUse, aCons, aNil, eVar, eC, toB, tmOr, tmAnd, tmNot, tmYes, Res.bind, Res.noex, SR.ofE, endF, lift, cOne, iSeq, wipeA, Tgt.bind, setAll, fSub, fAdd, fFld])]
  simp [fn, startA, sRet, sSeq, sIf, sSet, sNext, sNever, sFldA, sAsg, sPar, eAnd, eOr, eNot, eIf, eN, e1, e2, e1D, e2D, eCall, eTup, eLst, eOwn, eUse, aCons, aNil, eVar, eC, toB, tmOr, tmAnd, tmNot, tmYes, Res.bind, Res.noex, SR.ofE, endF, lift, cOne, iSeq, wipeA, Tgt.bind, setAll, fSub, fAdd, fFld]⟩
theorem set_end : ∀ (l : List AObj) (a b : AObj), (l ++ [a]).set l.length b = l ++ [b]
  | [], _, _ => rfl
  | x :: l, a, b => by
    show x :: (l ++ [a]).set l.length b = _
    rw [set_end l a b]
    rfl
theorem init_ok {n : Int} {P : List (Int × Int)} (g : Good n P) (h1 : 1 ≤ n) (h8 : n ≤ 8) (h : AH) : m_Rivals___init__ [.ref (h.length + 1), .int n, vP P] (h ++ [.junk] ++ [.obj 4 h.length []]) = .ok .non (mkH h n P) := by
  have q1 : (h ++ [.junk] ++ [.obj 4 h.length []])[h.length + 1]? = some (AObj.obj 4 h.length []) := by
    rw [List.getElem?_append_right (by simp [fn, startA, sRet, sSeq, sIf, sSet, sNext, sNever, sFldA, sAsg, sPar, eAnd, eOr, eNot, eIf, eN, e1, e2, e1D, e2D, eCall, eTup, eLst, eOwn, eUse, aCons, aNil, eVar, eC, toB, tmOr, tmAnd, tmNot, tmYes, Res.bind, Res.noex, SR.ofE, endF, lift, cOne, iSeq, wipeA, Tgt.bind, setAll, fSub, fAdd, fFld])]
    simp [fn, startA, sRet, sSeq, sIf, sSet, sNext, sNever, sFldA, sAsg, sPar, eAnd, eOr, eNot, eIf, eN, e1, e2, e1D, e2D, eCall, eTup, eLst, eOwn, eUse, aCons, aNil, eVar, eC, toB, tmOr, tmAnd, tmNot, tmYes, Res.bind, Res.noex, SR.ofE, endF, lift, cOne, iSeq, wipeA, Tgt.bind, setAll, fSub, fAdd, fFld]
  have q2 : ∀ fs gs, (h ++ [AObj.junk] ++ [AObj.obj 4 h.length fs]).set (h.length + 1) (.obj 4 h.length gs) = h ++ [.junk] ++ [.obj 4 h.length gs] := fun fs gs => by
    have z := set_end (h ++ [AObj.junk]) (.obj 4 h.length fs) (.obj 4 h.length gs)
    rw [List.length_append] at z
    exact z
  have q3 : (h ++ [.junk] ++ [.obj 4 h.length [some (.int n)]])[h.length + 1]? = some (AObj.obj 4 h.length [some (.int n)]) := by
    rw [List.getElem?_append_right (by simp [fn, startA, sRet, sSeq, sIf, sSet, sNext, sNever, sFldA, sAsg, sPar, eAnd, eOr, eNot, eIf, eN, e1, e2, e1D, e2D, eCall, eTup, eLst, eOwn, eUse, aCons, aNil, eVar, eC, toB, tmOr, tmAnd, tmNot, tmYes, Res.bind, Res.noex, SR.ofE, endF, lift, cOne, iSeq, wipeA, Tgt.bind, setAll, fSub, fAdd, fFld])]
    simp [fn, startA, sRet, sSeq, sIf, sSet, sNext, sNever, sFldA, sAsg, sPar, eAnd, eOr, eNot, eIf, eN, e1, e2, e1D, e2D, eCall, eTup, eLst, eOwn, eUse, aCons, aNil, eVar, eC, toB, tmOr, tmAnd, tmNot, tmYes, Res.bind, Res.noex, SR.ofE, endF, lift, cOne, iSeq, wipeA, Tgt.bind, setAll, fSub, fAdd, fFld]
  have q4 : putA 0 (.int n) [] = [some (.int n)] := rfl
  have q5 : putA 1 (vP P) [some (.int n)] = [some (.int n), some (vP P)] := rfl
  have q6 : (decide ((1 : Int) ≤ n) && decide (n ≤ 8)) = true := by simp [fn, startA, sRet, sSeq, sIf, sSet, sNext, sNever, sFldA, sAsg, sPar, eAnd, eOr, eNot, eIf, eN, e1, e2, e1D, e2D, eCall, eTup, eLst, eOwn, eUse, aCons, aNil, eVar, eC, toB, tmOr, tmAnd, tmNot, tmYes, Res.bind, Res.noex, SR.ofE, endF, lift, cOne, iSeq, wipeA, Tgt.bind, setAll, fSub, fAdd, fFld]; omega
  have c1 : setF ft_many (.ref (h.length + 1)) (.int n) (h ++ [.junk] ++ [.obj 4 h.length []]) = some (h ++ [.junk] ++ [.obj 4 h.length [some (.int n)]]) := by
    simp only [setF, objAt, q1, ft_many, q4, q2]
  have c2 : setF ft_pairs (.ref (h.length + 1)) (vP P) (h ++ [.junk] ++ [.obj 4 h.length [some (.int n)]]) = some (mkH h n P) := by
    simp only [setF, objAt, q3, ft_pairs, q5, q2, mkH]
  unfold m_Rivals___init__
  generalize h ++ [.junk] ++ [.obj 4 h.length []] = hA at *
  generalize h ++ [.junk] ++ [.obj 4 h.length [some (.int n)]] = hB at *
  simp [fn, startA, sRet, sSeq, sIf, sSet, sNext, sNever, sFldA, sAsg, sPar, eAnd, eOr, eNot, eIf, eN, e1, e2, e1D, e2D, eCall, eTup, eLst, eOwn, eUse, aCons, aNil, eVar, eC, toB, tmOr, tmAnd, tmNot, tmYes, Res.bind, Res.noex, SR.ofE, endF, lift, cOne, iSeq, wipeA, Tgt.bind, setAll, fSub, fAdd, fFld, is_number_int, q6, are_pairs_ok g, c1, c2]
theorem make_ok {n : Int} {P : List (Int × Int)} (g : Good n P) (h1 : 1 ≤ n) (h8 : n ≤ 8) {as : MA} {env : AEnv} {h h' : AH} {ds : List Val} (ha : as env h = .ok [.int n, vP P] h') : eMake 4 m_Rivals___init__ [] as env h = .ok (.ref (h'.length + 1)) (mkH h' n P) := by
  unfold eMake
  rw [ha]
  simp only [Res.bind, List.append_nil]
  rw [init_ok g h1 h8 h']
def has (P : List (Int × Int)) (n : Int) (p : Int × Int) : Bool := inR n p && (decide (p ∈ P) || decide ((p.2, p.1) ∈ P))
theorem len2_tup (a b : Val) (h : AH) : dLen tb__len__0 (.tup [a, b]) h = .ok (.int 2) h := rfl
theorem ne22 (h : AH) : fNe (.int 2) (.int 2) h = some (.bl false, h) := rfl
theorem contains_ok {h : AH} {r : Nat} {n : Int} {P : List (Int × Int)} (o : Ob h r n P) (p : Int × Int) : m_Rivals___contains__ [.ref r, valP p] h = .ok (.bl (has P n p)) h := by
  have q1 : fIn (valP p) (vP P) h = some (.bl (decide (p ∈ P)), h) := by unfold fIn; rw [inD_P]; rfl
  have q2 : fIn (valP (p.2, p.1)) (vP P) h = some (.bl (decide ((p.2, p.1) ∈ P)), h) := by unfold fIn; rw [inD_P]; rfl
  have q3 : fRev (valP p) h = some (valP (p.2, p.1), h) := rfl
  unfold m_Rivals___contains__
  have c1 : eComp [2] (iSeq (eVar 1)) (.nm 2) (cOne tmYes (eCall m_is_number [] (aCons (eVar 2) (aCons (eC (.int 0)) (aCons (e2 fSub (e1 (fFld ft_many) (eVar 0)) (eC (.int 1))) aNil))))) [some (.ref r), some (valP p), none] h = .ok [.bl (decide (0 ≤ p.1) && decide (p.1 ≤ n - 1)), .bl (decide (0 ≤ p.2) && decide (p.2 ≤ n - 1))] h := by
    unfold valP
    simp [fn, startA, sRet, sSeq, sIf, sSet, sNext, sNever, sFldA, sAsg, sPar, eAnd, eOr, eNot, eIf, eN, e1, e2, e1D, e2D, eCall, eTup, eLst, eOwn, eUse, aCons, aNil, eVar, eC, toB, tmOr, tmAnd, tmNot, tmYes, Res.bind, Res.noex, SR.ofE, endF, lift, cOne, iSeq, wipeA, Tgt.bind, setAll, fSub, fAdd, eComp, compA, compV, is_number_int, o.many]
  have q4 : fIsi [valP p, .ty "tuple"] h = some (.bl true, h) := isi_tup _ _
  have q5 : dLen tb__len__0 (valP p) h = .ok (.int 2) h := rfl
  unfold has inR
  generalize (decide (0 ≤ p.1) && decide (p.1 ≤ n - 1)) = b1 at c1 ⊢
  generalize (decide (0 ≤ p.2) && decide (p.2 ≤ n - 1)) = b2 at c1 ⊢
  generalize decide (p ∈ P) = b3 at q1 ⊢
  generalize decide ((p.2, p.1) ∈ P) = b4 at q2 ⊢
  cases b1 <;> cases b2 <;> cases b3 <;> cases b4 <;> simp [fn, startA, sRet, sSeq, sIf, sSet, sNext, sNever, sFldA, sAsg, sPar, eAnd, eOr, eNot, eIf, eN, e1, e2, e1D, e2D, eCall, eTup, eLst, eOwn, eUse, aCons, aNil, eVar, eC, toB, tmOr, tmAnd, tmNot, tmYes, Res.bind, Res.noex, SR.ofE, endF, lift, cOne, iSeq, wipeA, Tgt.bind, setAll, fSub, fAdd, o.many, o.pairs, q1, q2, q3, q4, q5, ne22, c1, uAll, bools]
theorem in_ob {h : AH} {r : Nat} {n : Int} {P : List (Int × Int)} (o : Ob h r n P) (f : F2) (g : Bool → Bool) (v : Val) : dIn f tb__contains__1 g v (.ref r) h = asB (m_Rivals___contains__ [.ref r, v] h) g := by
  unfold dIn
  rw [o.cls]
  rfl
theorem in_p {h : AH} {r : Nat} {n : Int} {P : List (Int × Int)} (o : Ob h r n P) (f : F2) (g : Bool → Bool) (p : Int × Int) : dIn f tb__contains__1 g (valP p) (.ref r) h = .ok (.bl (g (has P n p))) h := by
  rw [in_ob o, contains_ok o]
  rfl
theorem in_vP (h : AH) (p : Int × Int) (P : List (Int × Int)) : dIn fIn tb__contains__1 id (valP p) (vP P) h = .ok (.bl (decide (p ∈ P))) h := by
  show lift (fIn (valP p) (vP P) h) = _
  unfold fIn
  rw [inD_P]
  rfl
theorem notin_vP (h : AH) (p : Int × Int) (P : List (Int × Int)) : dIn fNotIn tb__contains__1 not (valP p) (vP P) h = .ok (.bl (!decide (p ∈ P))) h := by
  show lift (fNotIn (valP p) (vP P) h) = _
  unfold fNotIn
  rw [inD_P]
  rfl
/-- what is no pair of variables -/
theorem contains_not {h : AH} {r : Nat} {v : Val} {S : String} (hS : tyOf v h = some S) (hk : kitS S "tuple" = some false) : m_Rivals___contains__ [.ref r, v] h = .ok (.bl false) h := by
  unfold m_Rivals___contains__
  simp [fn, startA, sRet, sSeq, sIf, sSet, sNext, sNever, sFldA, sAsg, sPar, eAnd, eOr, eNot, eIf, eN, e1, e2, e1D, e2D, eCall, eTup, eLst, eOwn, eUse, aCons, aNil, eVar, eC, toB, tmOr, tmAnd, tmNot, tmYes, Res.bind, Res.noex, SR.ofE, endF, lift, cOne, iSeq, wipeA, Tgt.bind, setAll, fSub, fAdd, fFld, fIsi, hS, hk]
theorem contains_len {h : AH} {r : Nat} {xs : List Val} (hl : (xs.length : Int) ≠ 2) : m_Rivals___contains__ [.ref r, .tup xs] h = .ok (.bl false) h := by
  have e5 : dLen tb__len__0 (.tup xs) h = .ok (.int xs.length) h := rfl
  have e6 : fNe (.int xs.length) (.int 2) h = some (.bl true, h) := by
    show some (Val.bl (!decide ((xs.length : Int) = 2)), h) = _
    rw [decide_eq_false hl]
    rfl
  unfold m_Rivals___contains__
  simp [fn, startA, sRet, sSeq, sIf, sSet, sNext, sNever, sFldA, sAsg, sPar, eAnd, eOr, eNot, eIf, eN, e1, e2, e1D, e2D, eCall, eTup, eLst, eOwn, eUse, aCons, aNil, eVar, eC, toB, tmOr, tmAnd, tmNot, tmYes, Res.bind, Res.noex, SR.ofE, endF, lift, cOne, iSeq, wipeA, Tgt.bind, setAll, fSub, fAdd, fFld, isi_tup, e5, e6]
theorem contains_two {h : AH} {r : Nat} {n : Int} {P : List (Int × Int)} (o : Ob h r n P) {a b : Val} {x y : Bool} (ha : m_is_number [a, .int 0, .int (n - 1)] h = .ok (.bl x) h) (hb : m_is_number [b, .int 0, .int (n - 1)] h = .ok (.bl y) h) (hxy : (x && y) = false) : m_Rivals___contains__ [.ref r, .tup [a, b]] h = .ok (.bl false) h := by
  unfold m_Rivals___contains__
  have c1 : eComp [2] (iSeq (eVar 1)) (.nm 2) (cOne tmYes (eCall m_is_number [] (aCons (eVar 2) (aCons (eC (.int 0)) (aCons (e2 fSub (e1 (fFld ft_many) (eVar 0)) (eC (.int 1))) aNil))))) [some (.ref r), some (.tup [a, b]), none] h = .ok [.bl x, .bl y] h := by
    simp [fn, startA, sRet, sSeq, sIf, sSet, sNext, sNever, sFldA, sAsg, sPar, eAnd, eOr, eNot, eIf, eN, e1, e2, e1D, e2D, eCall, eTup, eLst, eOwn, eUse, aCons, aNil, eVar, eC, toB, tmOr, tmAnd, tmNot, tmYes, Res.bind, Res.noex, SR.ofE, endF, lift, cOne, iSeq, wipeA, Tgt.bind, setAll, fSub, fAdd, eComp, compA, compV, ha, hb, o.many]
  simp [fn, startA, sRet, sSeq, sIf, sSet, sNext, sNever, sFldA, sAsg, sPar, eAnd, eOr, eNot, eIf, eN, e1, e2, e1D, e2D, eCall, eTup, eLst, eOwn, eUse, aCons, aNil, eVar, eC, toB, tmOr, tmAnd, tmNot, tmYes, Res.bind, Res.noex, SR.ofE, endF, lift, cOne, iSeq, wipeA, Tgt.bind, setAll, fSub, fAdd, isi_tup, len2_tup, ne22, c1, uAll, bools, hxy]
end Lw
namespace Lw
open PySem CI
theorem loop_ix {t : Tgt} {body : MS} {Inv : Nat → AEnv → AH → Prop} : ∀ {xs : List Val} (k : Nat), (∀ i x, xs[i]? = some x → ∀ env h, Inv (k + i) env h → ∃ e1 env' h', t.bind x env = some e1 ∧ (body e1 h = .nx env' h' ∨ body e1 h = .ct env' h') ∧ Inv (k + i + 1) env' h') →
    ∀ env h, Inv k env h → ∃ env' h', loopV t body xs env h = .nx env' h' ∧ Inv (k + xs.length) env' h'
  | [], k, _, env, h, hi => ⟨env, h, rfl, hi⟩
  | x :: xs, k, hx, env, h, hi => by
    obtain ⟨f1, env', h', q1, q2, q3⟩ := hx 0 x rfl env h hi
    obtain ⟨env2, h2, q4, q5⟩ := loop_ix (xs := xs) (k + 1) (fun i y hy env h hi => by
      have := hx (i + 1) y hy env h (by rw [show k + (i + 1) = k + 1 + i by omega]; exact hi)
      rw [show k + (i + 1) + 1 = k + 1 + i + 1 by omega] at this
      exact this) env' h' q3
    refine ⟨env2, h2, ?_, by rw [List.length_cons, show k + (xs.length + 1) = k + 1 + xs.length by omega]; exact q5⟩
    unfold loopV
    rw [q1]
    dsimp only
    rcases q2 with q2 | q2 <;> rw [q2] <;> exact q4
def rgv (n : Int) : List Val := (List.range n.toNat).map fun k => Val.int (0 + (k : Nat))
theorem iRng1 {a : ME} {env : AEnv} {h h1 : AH} {n : Int} (ha : a env h = .ok (.int n) h1) (h0 : 0 ≤ n) (h8 : n ≤ 1000) : iRng (aCons a aNil) env h = .ok (.vals (rgv n)) h1 := by
  simp only [iRng, aCons, aNil, ha, Res.bind]
  rw [if_pos ⟨by omega, by omega⟩]
  rfl
def rg2 (i n : Int) : List Val := (List.range (n - i).toNat).map fun k => Val.int (i + (k : Nat))
theorem iRng2 {a b : ME} {env : AEnv} {h h1 h2 : AH} {i n : Int} (ha : a env h = .ok (.int i) h1) (hb : b env h1 = .ok (.int n) h2) (h0 : 0 ≤ n) (h8 : n ≤ 1000) (i0 : 0 ≤ i) (i8 : i ≤ 1000) : iRng (aCons a (aCons b aNil)) env h = .ok (.vals (rg2 i n)) h2 := by
  simp only [iRng, aCons, aNil, ha, hb, Res.bind]
  rw [if_pos ⟨by omega, by omega, by omega, by omega⟩]
  rfl
theorem rgv_len {n : Int} (h8 : n ≤ 1000) : (rgv n).length ≤ 1000 := by simp [fn, startA, sRet, sSeq, sIf, sSet, sNext, sNever, sFldA, sAsg, sPar, eAnd, eOr, eNot, eIf, eN, e1, e2, e1D, e2D, eCall, eTup, eLst, eOwn, eUse, aCons, aNil, eVar, eC, toB, tmOr, tmAnd, tmNot, tmYes, Res.bind, Res.noex, SR.ofE, endF, lift, cOne, iSeq, wipeA, Tgt.bind, setAll, fSub, fAdd, rgv]; omega
theorem rg2_len {i n : Int} (i0 : 0 ≤ i) (h8 : n ≤ 1000) : (rg2 i n).length ≤ 1000 := by simp [fn, startA, sRet, sSeq, sIf, sSet, sNext, sNever, sFldA, sAsg, sPar, eAnd, eOr, eNot, eIf, eN, e1, e2, e1D, e2D, eCall, eTup, eLst, eOwn, eUse, aCons, aNil, eVar, eC, toB, tmOr, tmAnd, tmNot, tmYes, Res.bind, Res.noex, SR.ofE, endF, lift, cOne, iSeq, wipeA, Tgt.bind, setAll, fSub, fAdd, rg2]; omega
theorem rgv_mem {n : Int} {x : Val} (h : x ∈ rgv n) : ∃ j : Int, x = .int j ∧ 0 ≤ j ∧ j < n := by
  obtain ⟨k, hk, rfl⟩ := List.mem_map.mp h
  have := List.mem_range.mp hk
  exact ⟨_, rfl, by omega, by omega⟩
def row (n : Int) (i : Nat) : List (Int × Int) := (List.range (n - ((i : Int) + 1)).toNat).map fun k => ((i : Int), ((i : Int) + 1) + (k : Nat))
def evTo (n : Int) (m : Nat) : List (Int × Int) := (List.range m).flatMap fun i => row n i
def evI (n : Int) : List (Int × Int) := evTo n n.toNat
theorem ev_good : ∀ k : Nat, k ≤ 8 → Good (k : Int) (evI (k : Int)) := by
  intro k hk
  have : ∀ k : Fin 9, ((evI ((k : Nat) : Int)).Pairwise (fun p q => p.1 < q.1 ∨ (p.1 = q.1 ∧ p.2 < q.2))) ∧ (∀ p ∈ evI ((k : Nat) : Int), 0 ≤ p.1 ∧ p.1 < p.2 ∧ p.2 < ((k : Nat) : Int)) ∧ (evI ((k : Nat) : Int)).length ≤ 28 := by decide +kernel
  obtain ⟨h1, h2, h3⟩ := this ⟨k, by omega⟩
  exact ⟨h1, h2, Nat.le_trans h3 (by decide)⟩
theorem Good.ev {n : Int} (h1 : 1 ≤ n) (h8 : n ≤ 8) : Good n (evI n) ∧ (evI n).length ≤ 28 := by
  obtain ⟨k, rfl⟩ : ∃ k : Nat, n = k := ⟨n.toNat, by omega⟩
  refine ⟨ev_good k (by omega), ?_⟩
  have : ∀ k : Fin 9, (evI ((k : Nat) : Int)).length ≤ 28 := by decide +kernel
  exact this ⟨k, by omega⟩
theorem Good.sub {n : Int} {P Q : List (Int × Int)} (g : Good n P) (h : Q.Sublist P) : Good n Q := ⟨g.asc.sublist h, fun p hp => g.bd p (h.subset hp), Nat.le_trans h.length_le g.few⟩
theorem ev_mem {n : Int} (p : Int × Int) (h0 : 0 ≤ p.1) (h1 : p.1 < p.2) (h2 : p.2 < n) : p ∈ evI n := by
  obtain ⟨a, b⟩ := p
  unfold evI evTo row
  simp only [List.mem_flatMap, List.mem_range, List.mem_map]
  dsimp only at h0 h1 h2
  exact ⟨a.toNat, by omega, (b - (a + 1)).toNat, by omega, by simp [fn, startA, sRet, sSeq, sIf, sSet, sNext, sNever, sFldA, sAsg, sPar, eAnd, eOr, eNot, eIf, eN, e1, e2, e1D, e2D, eCall, eTup, eLst, eOwn, eUse, aCons, aNil, eVar, eC, toB, tmOr, tmAnd, tmNot, tmYes, Res.bind, Res.noex, SR.ofE, endF, lift, cOne, iSeq, wipeA, Tgt.bind, setAll, fSub, fAdd]; omega⟩
theorem all_pairs_ok {n : Int} (h1 : 1 ≤ n) (h8 : n ≤ 8) (h : AH) : m_all_pairs [.int n] h = .ok (.ref h.length) (h ++ [.lst ((evI n).map valP)]) := by
  have : n = 1 ∨ n = 2 ∨ n = 3 ∨ n = 4 ∨ n = 5 ∨ n = 6 ∨ n = 7 ∨ n = 8 := by omega
  rcases this with rfl | rfl | rfl | rfl | rfl | rfl | rfl | rfl <;> kernel_rfl
theorem every_ok {n : Int} (h1 : 1 ≤ n) (h8 : n ≤ 8) (h : AH) : ∃ l r, m__law_every [.int n] h = .ok (.ref r) (h ++ l) ∧ (h ++ l)[r]? = some (.lst ((evI n).map valP)) := by
  have key := loop_ix (t := .nm 2) (body := sSet 1 (e2 fAdd (eVar 1) (eOwn (eComp [3] (iRng (aCons (e2 fAdd (eVar 2) (eC (.int 1))) (aCons (eVar 0) aNil))) (.nm 3) (cOne tmYes (eTup (aCons (eVar 2) (aCons (eVar 3) aNil))))))))
    (Inv := fun i env h' => ∃ l r a b, h' = h ++ l ∧ env = [some (.int n), some (.ref r), a, b] ∧ h'[r]? = some (.lst ((evTo n i).map valP)) ∧ (evTo n i).length ≤ 8 * i) (xs := rgv n) 0 (fun i x hx env h' hi => by
      obtain ⟨l, r, a, b, rfl, rfl, hr, hlen⟩ := hi
      obtain ⟨hlt, hx⟩ := List.getElem?_eq_some_iff.mp hx
      have hx : x = .int i := by rw [← hx]; simp [fn, startA, sRet, sSeq, sIf, sSet, sNext, sNever, sFldA, sAsg, sPar, eAnd, eOr, eNot, eIf, eN, e1, e2, e1D, e2D, eCall, eTup, eLst, eOwn, eUse, aCons, aNil, eVar, eC, toB, tmOr, tmAnd, tmNot, tmYes, Res.bind, Res.noex, SR.ofE, endF, lift, cOne, iSeq, wipeA, Tgt.bind, setAll, fSub, fAdd, rgv]
      subst hx
      have hin : (i : Int) < n := by simp [fn, startA, sRet, sSeq, sIf, sSet, sNext, sNever, sFldA, sAsg, sPar, eAnd, eOr, eNot, eIf, eN, e1, e2, e1D, e2D, eCall, eTup, eLst, eOwn, eUse, aCons, aNil, eVar, eC, toB, tmOr, tmAnd, tmNot, tmYes, Res.bind, Res.noex, SR.ofE, endF, lift, cOne, iSeq, wipeA, Tgt.bind, setAll, fSub, fAdd, rgv] at hlt; omega
      have c1 : eComp [3] (iRng (aCons (e2 fAdd (eVar 2) (eC (.int 1))) (aCons (eVar 0) aNil))) (.nm 3) (cOne tmYes (eTup (aCons (eVar 2) (aCons (eVar 3) aNil)))) [some (.int n), some (.ref r), some (.int i), b] (h ++ l) = .ok (((rg2 ((i : Int) + 1) n).filter fun _ => true).map fun x => .tup [.int i, x]) (h ++ l) := by
        refine eComp_vals (en := fun x => [some (.int n), some (.ref r), some (.int i), some x]) (iRng2 (i := (i : Int) + 1) (n := n) (h1 := h ++ l) (by simp [fn, startA, sRet, sSeq, sIf, sSet, sNext, sNever, sFldA, sAsg, sPar, eAnd, eOr, eNot, eIf, eN, e1, e2, e1D, e2D, eCall, eTup, eLst, eOwn, eUse, aCons, aNil, eVar, eC, toB, tmOr, tmAnd, tmNot, tmYes, Res.bind, Res.noex, SR.ofE, endF, lift, cOne, iSeq, wipeA, Tgt.bind, setAll, fSub, fAdd]) (by simp [fn, startA, sRet, sSeq, sIf, sSet, sNext, sNever, sFldA, sAsg, sPar, eAnd, eOr, eNot, eIf, eN, e1, e2, e1D, e2D, eCall, eTup, eLst, eOwn, eUse, aCons, aNil, eVar, eC, toB, tmOr, tmAnd, tmNot, tmYes, Res.bind, Res.noex, SR.ofE, endF, lift, cOne, iSeq, wipeA, Tgt.bind, setAll, fSub, fAdd]) (by omega) (by omega) (by omega) (by omega)) (rg2_len (by omega) (by omega)) fun x hx => ⟨rfl, by simp [fn, startA, sRet, sSeq, sIf, sSet, sNext, sNever, sFldA, sAsg, sPar, eAnd, eOr, eNot, eIf, eN, e1, e2, e1D, e2D, eCall, eTup, eLst, eOwn, eUse, aCons, aNil, eVar, eC, toB, tmOr, tmAnd, tmNot, tmYes, Res.bind, Res.noex, SR.ofE, endF, lift, cOne, iSeq, wipeA, Tgt.bind, setAll, fSub, fAdd]⟩
      have c2 : ((rg2 ((i : Int) + 1) n).filter fun _ => true).map (fun x => Val.tup [.int i, x]) = (row n i).map valP := by
        rw [List.filter_eq_self.mpr (fun _ _ => rfl)]
        unfold rg2 row valP
        rw [List.map_map, List.map_map]
        rfl
      rw [c2] at c1
      have c3 : (h ++ l ++ [AObj.lst ((row n i).map valP)])[r]? = some (.lst ((evTo n (0 + i)).map valP)) := by
        rw [List.getElem?_append_left (List.getElem?_eq_some_iff.mp hr).1]
        exact hr
      have c4 : (h ++ l ++ [AObj.lst ((row n i).map valP)])[(h ++ l).length]? = some (.lst ((row n i).map valP)) := by simp [fn, startA, sRet, sSeq, sIf, sSet, sNext, sNever, sFldA, sAsg, sPar, eAnd, eOr, eNot, eIf, eN, e1, e2, e1D, e2D, eCall, eTup, eLst, eOwn, eUse, aCons, aNil, eVar, eC, toB, tmOr, tmAnd, tmNot, tmYes, Res.bind, Res.noex, SR.ofE, endF, lift, cOne, iSeq, wipeA, Tgt.bind, setAll, fSub, fAdd]
      have rl : (row n i).length ≤ 8 := by simp [fn, startA, sRet, sSeq, sIf, sSet, sNext, sNever, sFldA, sAsg, sPar, eAnd, eOr, eNot, eIf, eN, e1, e2, e1D, e2D, eCall, eTup, eLst, eOwn, eUse, aCons, aNil, eVar, eC, toB, tmOr, tmAnd, tmNot, tmYes, Res.bind, Res.noex, SR.ofE, endF, lift, cOne, iSeq, wipeA, Tgt.bind, setAll, fSub, fAdd, row]; omega
      have c5 : evTo n (0 + i + 1) = evTo n (0 + i) ++ row n i := by
        unfold evTo
        rw [List.range_succ, List.flatMap_append]
        simp [fn, startA, sRet, sSeq, sIf, sSet, sNext, sNever, sFldA, sAsg, sPar, eAnd, eOr, eNot, eIf, eN, e1, e2, e1D, e2D, eCall, eTup, eLst, eOwn, eUse, aCons, aNil, eVar, eC, toB, tmOr, tmAnd, tmNot, tmYes, Res.bind, Res.noex, SR.ofE, endF, lift, cOne, iSeq, wipeA, Tgt.bind, setAll, fSub, fAdd]
      have c6 : fAdd (.ref r) (.ref (h ++ l).length) (h ++ l ++ [AObj.lst ((row n i).map valP)]) = some (.ref ((h ++ l).length + 1), h ++ l ++ [AObj.lst ((row n i).map valP)] ++ [.lst ((evTo n (0 + i + 1)).map valP)]) := by
        unfold fAdd
        simp only [c3, c4]
        rw [if_pos (by simp [fn, startA, sRet, sSeq, sIf, sSet, sNext, sNever, sFldA, sAsg, sPar, eAnd, eOr, eNot, eIf, eN, e1, e2, e1D, e2D, eCall, eTup, eLst, eOwn, eUse, aCons, aNil, eVar, eC, toB, tmOr, tmAnd, tmNot, tmYes, Res.bind, Res.noex, SR.ofE, endF, lift, cOne, iSeq, wipeA, Tgt.bind, setAll, fSub, fAdd]; simp [fn, startA, sRet, sSeq, sIf, sSet, sNext, sNever, sFldA, sAsg, sPar, eAnd, eOr, eNot, eIf, eN, e1, e2, e1D, e2D, eCall, eTup, eLst, eOwn, eUse, aCons, aNil, eVar, eC, toB, tmOr, tmAnd, tmNot, tmYes, Res.bind, Res.noex, SR.ofE, endF, lift, cOne, iSeq, wipeA, Tgt.bind, setAll, fSub, fAdd] at hlen; omega), c5, List.map_append]
        simp [fn, startA, sRet, sSeq, sIf, sSet, sNext, sNever, sFldA, sAsg, sPar, eAnd, eOr, eNot, eIf, eN, e1, e2, e1D, e2D, eCall, eTup, eLst, eOwn, eUse, aCons, aNil, eVar, eC, toB, tmOr, tmAnd, tmNot, tmYes, Res.bind, Res.noex, SR.ofE, endF, lift, cOne, iSeq, wipeA, Tgt.bind, setAll, fSub, fAdd, Nat.add_assoc]
      refine ⟨_, [some (.int n), some (.ref ((h ++ l).length + 1)), some (.int i), b], h ++ (l ++ [AObj.lst ((row n i).map valP), .lst ((evTo n (0 + i + 1)).map valP)]), rfl, .inl ?_, l ++ [AObj.lst ((row n i).map valP), .lst ((evTo n (0 + i + 1)).map valP)], (h ++ l).length + 1, some (.int i), b, rfl, rfl, ?_, ?_⟩
      · have c1' := c1
        simp only [sSet, e2, eOwn, eVar, Res.bind, SR.ofE, List.set_cons_succ, List.set_cons_zero, List.getElem?_cons_succ, List.getElem?_cons_zero]
        rw [c1']
        simp only [Res.bind]
        rw [c6]
        simp [fn, startA, sRet, sSeq, sIf, sSet, sNext, sNever, sFldA, sAsg, sPar, eAnd, eOr, eNot, eIf, eN, e1, e2, e1D, e2D, eCall, eTup, eLst, eOwn, eUse, aCons, aNil, eVar, eC, toB, tmOr, tmAnd, tmNot, tmYes, Res.bind, Res.noex, SR.ofE, endF, lift, cOne, iSeq, wipeA, Tgt.bind, setAll, fSub, fAdd, lift]
      · rw [← List.append_assoc, List.getElem?_append_right (by omega)]
        simp [fn, startA, sRet, sSeq, sIf, sSet, sNext, sNever, sFldA, sAsg, sPar, eAnd, eOr, eNot, eIf, eN, e1, e2, e1D, e2D, eCall, eTup, eLst, eOwn, eUse, aCons, aNil, eVar, eC, toB, tmOr, tmAnd, tmNot, tmYes, Res.bind, Res.noex, SR.ofE, endF, lift, cOne, iSeq, wipeA, Tgt.bind, setAll, fSub, fAdd]
      · rw [c5, List.length_append]
        omega) [some (.int n), some (.ref h.length), none, none] (h ++ [.lst []]) ⟨[.lst []], h.length, none, none, rfl, rfl, by simp [fn, startA, sRet, sSeq, sIf, sSet, sNext, sNever, sFldA, sAsg, sPar, eAnd, eOr, eNot, eIf, eN, e1, e2, e1D, e2D, eCall, eTup, eLst, eOwn, eUse, aCons, aNil, eVar, eC, toB, tmOr, tmAnd, tmNot, tmYes, Res.bind, Res.noex, SR.ofE, endF, lift, cOne, iSeq, wipeA, Tgt.bind, setAll, fSub, fAdd, evTo], by simp [fn, startA, sRet, sSeq, sIf, sSet, sNext, sNever, sFldA, sAsg, sPar, eAnd, eOr, eNot, eIf, eN, e1, e2, e1D, e2D, eCall, eTup, eLst, eOwn, eUse, aCons, aNil, eVar, eC, toB, tmOr, tmAnd, tmNot, tmYes, Res.bind, Res.noex, SR.ofE, endF, lift, cOne, iSeq, wipeA, Tgt.bind, setAll, fSub, fAdd, evTo]⟩
  obtain ⟨env', h', q1, l, r, a, b, rfl, rfl, q4, q5⟩ := key
  refine ⟨l, r, ?_, ?_⟩
  · unfold m__law_every
    have q6 : iRng (aCons (eVar 0) aNil) [some (.int n), some (.ref h.length), none, none] (h ++ [.lst []]) = .ok (.vals (rgv n)) (h ++ [.lst []]) := iRng1 (by simp [fn, startA, sRet, sSeq, sIf, sSet, sNext, sNever, sFldA, sAsg, sPar, eAnd, eOr, eNot, eIf, eN, e1, e2, e1D, e2D, eCall, eTup, eLst, eOwn, eUse, aCons, aNil, eVar, eC, toB, tmOr, tmAnd, tmNot, tmYes, Res.bind, Res.noex, SR.ofE, endF, lift, cOne, iSeq, wipeA, Tgt.bind, setAll, fSub, fAdd]) (by omega) (by omega)
    simp only [fn, List.length_cons, List.length_nil, if_true, startA, List.map_cons, List.map_nil]
    show endF (sSeq (sSet 1 (eLst aNil)) _ [some (.int n), none, none, none] h) = _
    simp only [sSeq, sSet, eLst, aNil, Res.bind, SR.ofE, List.length_nil, List.set_cons_succ, List.set_cons_zero, sFor]
    simp only [show (0 ≤ 100000) = True from by simp [fn, startA, sRet, sSeq, sIf, sSet, sNext, sNever, sFldA, sAsg, sPar, eAnd, eOr, eNot, eIf, eN, e1, e2, e1D, e2D, eCall, eTup, eLst, eOwn, eUse, aCons, aNil, eVar, eC, toB, tmOr, tmAnd, tmNot, tmYes, Res.bind, Res.noex, SR.ofE, endF, lift, cOne, iSeq, wipeA, Tgt.bind, setAll, fSub, fAdd], if_true, q6, loopA]
    rw [q1]
    simp [fn, startA, sRet, sSeq, sIf, sSet, sNext, sNever, sFldA, sAsg, sPar, eAnd, eOr, eNot, eIf, eN, e1, e2, e1D, e2D, eCall, eTup, eLst, eOwn, eUse, aCons, aNil, eVar, eC, toB, tmOr, tmAnd, tmNot, tmYes, Res.bind, Res.noex, SR.ofE, endF, lift, cOne, iSeq, wipeA, Tgt.bind, setAll, fSub, fAdd]
  · rw [q4]
    have : (rgv n).length = n.toNat := by simp [fn, startA, sRet, sSeq, sIf, sSet, sNext, sNever, sFldA, sAsg, sPar, eAnd, eOr, eNot, eIf, eN, e1, e2, e1D, e2D, eCall, eTup, eLst, eOwn, eUse, aCons, aNil, eVar, eC, toB, tmOr, tmAnd, tmNot, tmYes, Res.bind, Res.noex, SR.ofE, endF, lift, cOne, iSeq, wipeA, Tgt.bind, setAll, fSub, fAdd, rgv]
    rw [Nat.zero_add, this]
    rfl
theorem len_ok {h : AH} {r : Nat} {n : Int} {P : List (Int × Int)} (o : Ob h r n P) (h1 : 1 ≤ n) (h8 : n ≤ 8) : dLen tb__len__0 (.ref r) h = .ok (.int n) (h ++ [.lst (rgA 0 n)]) := by
  have c1 : m_Rivals___len__ [.ref r] h = .ok (.int n) (h ++ [.lst (rgA 0 n)]) := by
    have q1 : fLen [.ref h.length] (h ++ [.lst (rgA 0 n)]) = some (.int n, h ++ [.lst (rgA 0 n)]) := by
      simp [fn, startA, sRet, sSeq, sIf, sSet, sNext, sNever, sFldA, sAsg, sPar, eAnd, eOr, eNot, eIf, eN, e1, e2, e1D, e2D, eCall, eTup, eLst, eOwn, eUse, aCons, aNil, eVar, eC, toB, tmOr, tmAnd, tmNot, tmYes, Res.bind, Res.noex, SR.ofE, endF, lift, cOne, iSeq, wipeA, Tgt.bind, setAll, fSub, fAdd, fLen, items, rgA]
      omega
    unfold m_Rivals___len__
    simp [fn, startA, sRet, sSeq, sIf, sSet, sNext, sNever, sFldA, sAsg, sPar, eAnd, eOr, eNot, eIf, eN, e1, e2, e1D, e2D, eCall, eTup, eLst, eOwn, eUse, aCons, aNil, eVar, eC, toB, tmOr, tmAnd, tmNot, tmYes, Res.bind, Res.noex, SR.ofE, endF, lift, cOne, iSeq, wipeA, Tgt.bind, setAll, fSub, fAdd, eLstRg, o.many]
    rw [if_pos ⟨by omega, by omega⟩]
    simp [fn, startA, sRet, sSeq, sIf, sSet, sNext, sNever, sFldA, sAsg, sPar, eAnd, eOr, eNot, eIf, eN, e1, e2, e1D, e2D, eCall, eTup, eLst, eOwn, eUse, aCons, aNil, eVar, eC, toB, tmOr, tmAnd, tmNot, tmYes, Res.bind, Res.noex, SR.ofE, endF, lift, cOne, iSeq, wipeA, Tgt.bind, setAll, fSub, fAdd, q1]
  unfold dLen
  rw [o.cls]
  show (m_Rivals___len__ [.ref r] h).bind _ = _
  rw [c1]
  simp only [Res.bind]
  rw [if_pos ⟨by omega, by omega⟩]
def cI (P : List (Int × Int)) (n i : Int) : Val → Bool
  | .int j => has P n (i, j)
  | _ => false
theorem getitem_ok {h : AH} {r : Nat} {n i : Int} {P : List (Int × Int)} (o : Ob h r n P) (h1 : 1 ≤ n) (h8 : n ≤ 8) (i0 : 0 ≤ i) (i1 : i < n) : dOwn2 fIx tb__getitem__3 (.ref r) (.int i) h = .ok (.ref h.length) (h ++ [.lst ((rgv n).filter (cI P n i))]) := by
  have q1 : (decide ((0 : Int) ≤ i) && decide (i ≤ n - 1)) = true := by simp [fn, startA, sRet, sSeq, sIf, sSet, sNext, sNever, sFldA, sAsg, sPar, eAnd, eOr, eNot, eIf, eN, e1, e2, e1D, e2D, eCall, eTup, eLst, eOwn, eUse, aCons, aNil, eVar, eC, toB, tmOr, tmAnd, tmNot, tmYes, Res.bind, Res.noex, SR.ofE, endF, lift, cOne, iSeq, wipeA, Tgt.bind, setAll, fSub, fAdd]; omega
  have c1 : eComp [2] (iRng (aCons (e1 (fFld ft_many) (eVar 0)) aNil)) (.nm 2) (cOne (toB (e2D (dIn fIn tb__contains__1 id) (eTup (aCons (eVar 1) (aCons (eVar 2) aNil))) (eVar 0))) (eVar 2)) [some (.ref r), some (.int i), none] h = .ok (((rgv n).filter (cI P n i)).map id) h := by
    refine eComp_vals (en := fun x => [some (.ref r), some (.int i), some x]) (iRng1 (n := n) (h1 := h) (by simp [fn, startA, sRet, sSeq, sIf, sSet, sNext, sNever, sFldA, sAsg, sPar, eAnd, eOr, eNot, eIf, eN, e1, e2, e1D, e2D, eCall, eTup, eLst, eOwn, eUse, aCons, aNil, eVar, eC, toB, tmOr, tmAnd, tmNot, tmYes, Res.bind, Res.noex, SR.ofE, endF, lift, cOne, iSeq, wipeA, Tgt.bind, setAll, fSub, fAdd, o.many]) (by omega) (by omega)) (rgv_len (by omega)) fun x hx => ⟨rfl, ?_⟩
    obtain ⟨j, rfl, j0, j1⟩ := rgv_mem hx
    have q2 : dIn fIn tb__contains__1 id (.tup [.int i, .int j]) (.ref r) h = .ok (.bl (has P n (i, j))) h := in_p o fIn id (i, j)
    simp [fn, startA, sRet, sSeq, sIf, sSet, sNext, sNever, sFldA, sAsg, sPar, eAnd, eOr, eNot, eIf, eN, e1, e2, e1D, e2D, eCall, eTup, eLst, eOwn, eUse, aCons, aNil, eVar, eC, toB, tmOr, tmAnd, tmNot, tmYes, Res.bind, Res.noex, SR.ofE, endF, lift, cOne, iSeq, wipeA, Tgt.bind, setAll, fSub, fAdd, q2, cI]
    by_cases z : has P n (i, j) = true <;> simp [fn, startA, sRet, sSeq, sIf, sSet, sNext, sNever, sFldA, sAsg, sPar, eAnd, eOr, eNot, eIf, eN, e1, e2, e1D, e2D, eCall, eTup, eLst, eOwn, eUse, aCons, aNil, eVar, eC, toB, tmOr, tmAnd, tmNot, tmYes, Res.bind, Res.noex, SR.ofE, endF, lift, cOne, iSeq, wipeA, Tgt.bind, setAll, fSub, fAdd, z]
  have c2 : m_Rivals___getitem__ [.ref r, .int i] h = .ok (.ref h.length) (h ++ [.lst ((rgv n).filter (cI P n i))]) := by
    rw [List.map_id] at c1
    unfold m_Rivals___getitem__
    simp [fn, startA, sRet, sSeq, sIf, sSet, sNext, sNever, sFldA, sAsg, sPar, eAnd, eOr, eNot, eIf, eN, e1, e2, e1D, e2D, eCall, eTup, eLst, eOwn, eUse, aCons, aNil, eVar, eC, toB, tmOr, tmAnd, tmNot, tmYes, Res.bind, Res.noex, SR.ofE, endF, lift, cOne, iSeq, wipeA, Tgt.bind, setAll, fSub, fAdd, o.many, is_number_int, q1, c1]
  unfold dOwn2
  rw [o.cls]
  exact c2
theorem fEq_np (h : AH) (n m : Int) (P Q : List (Int × Int)) : fEq (.tup [.int n, vP P]) (.tup [.int m, vP Q]) h = some (.bl (decide ((n, P) = (m, Q))), h) := by
  have q1 : ∀ (n : Int) P, toD h 66 (.tup [.int n, vP P]) = some (.tuple [.int n, .tuple (P.map dP)]) := fun n P => by
    show (mapO (toD h 65) [.int n, vP P]).map PyData.tuple = _
    rw [mapO, mapO, mapO, show toD h 65 (vP P) = some (.tuple (P.map dP)) from toD_vP h 62 P]
    rfl
  have q2 : ∀ (n : Int) (P : List (Int × Int)), SeqAt.shaped (.tuple [.int n, .tuple (P.map dP)]) = true := fun n P => by
    have z1 := canLay_P P
    have z2 := depth_P P
    unfold SeqAt.shaped
    rw [Bool.and_eq_true]
    refine ⟨?_, decide_eq_true ?_⟩
    · show (true && (PyData.canLayAll0 (P.map dP) && true)) = true
      rw [z1]
      rfl
    · show max 0 (max (PyData.depthAll (P.map dP) + 1) 0) + 1 ≤ 64
      omega
  show (eqD _ _ h).map _ = _
  unfold eqD
  rw [q1, q1]
  dsimp only
  rw [q2, q2, if_pos (by rfl)]
  show some (Val.bl ((n == m) && (PyData.eqvAll (P.map dP) (Q.map dP) && true)), h) = _
  rw [eqvAll_P]
  by_cases z : n = m
  · by_cases y : P = Q <;> simp [fn, startA, sRet, sSeq, sIf, sSet, sNext, sNever, sFldA, sAsg, sPar, eAnd, eOr, eNot, eIf, eN, e1, e2, e1D, e2D, eCall, eTup, eLst, eOwn, eUse, aCons, aNil, eVar, eC, toB, tmOr, tmAnd, tmNot, tmYes, Res.bind, Res.noex, SR.ofE, endF, lift, cOne, iSeq, wipeA, Tgt.bind, setAll, fSub, fAdd, z, y]
  · simp [fn, startA, sRet, sSeq, sIf, sSet, sNext, sNever, sFldA, sAsg, sPar, eAnd, eOr, eNot, eIf, eN, e1, e2, e1D, e2D, eCall, eTup, eLst, eOwn, eUse, aCons, aNil, eVar, eC, toB, tmOr, tmAnd, tmNot, tmYes, Res.bind, Res.noex, SR.ofE, endF, lift, cOne, iSeq, wipeA, Tgt.bind, setAll, fSub, fAdd, z]
theorem eq_ok {h : AH} {r s : Nat} {n m : Int} {P Q : List (Int × Int)} (o : Ob h r n P) (o2 : Ob h s m Q) (f : F2) (g : Bool → Bool) : dEq f tb__eq__2 nft g (.ref r) (.ref s) h = .ok (.bl (g (decide ((n, P) = (m, Q))))) h := by
  have q1 : fIsO itab [.ref s, .cst 4] h = some (.bl true, h) := by
    unfold fIsO
    dsimp only
    rw [o2.cls]
    rfl
  have c1 : m_Rivals___eq__ [.ref r, .ref s] h = .ok (.bl (decide ((n, P) = (m, Q)))) h := by
    unfold m_Rivals___eq__
    simp [fn, startA, sRet, sSeq, sIf, sSet, sNext, sNever, sFldA, sAsg, sPar, eAnd, eOr, eNot, eIf, eN, e1, e2, e1D, e2D, eCall, eTup, eLst, eOwn, eUse, aCons, aNil, eVar, eC, toB, tmOr, tmAnd, tmNot, tmYes, Res.bind, Res.noex, SR.ofE, endF, lift, cOne, iSeq, wipeA, Tgt.bind, setAll, fSub, fAdd, q1, o.many, o.pairs, o2.many, o2.pairs, fEq_np]
  unfold dEq
  rw [o.cls, o2.cls]
  show (if nft 4 4 = true then asB (m_Rivals___eq__ [.ref r, .ref s] h) g else .stuck) = _
  rw [if_pos (by decide), c1]
  rfl
theorem ne_int (h : AH) (n m : Int) : dEq fNe tb__eq__2 nft not (.int n) (.int m) h = .ok (.bl (!decide (n = m))) h := rfl
theorem eq_int (h : AH) (n m : Int) : dEq fEq tb__eq__2 nft id (.int n) (.int m) h = .ok (.bl (decide (n = m))) h := rfl
theorem ne_P (h : AH) (P Q : List (Int × Int)) : dEq fNe tb__eq__2 nft not (vP P) (vP Q) h = .ok (.bl (!decide (P = Q))) h := by
  show lift ((eqD (vP P) (vP Q) h).map _) = _
  rw [eqD_P]
  rfl
theorem eq_np (h : AH) (n m : Int) (P Q : List (Int × Int)) : dEq fEq tb__eq__2 nft id (.tup [.int n, vP P]) (.tup [.int m, vP Q]) h = .ok (.bl (decide ((n, P) = (m, Q)))) h := by
  show lift (fEq _ _ h) = _
  rw [fEq_np]
  rfl
end Lw
namespace Lw
open PySem CI
def cV (f : Int × Int → Bool) : Val → Bool
  | .tup [.int a, .int b] => f (a, b)
  | _ => false
theorem filter_cV (f : Int × Int → Bool) : ∀ P : List (Int × Int), (P.map valP).filter (cV f) = (P.filter f).map valP
  | [] => rfl
  | p :: P => by
    rw [List.map_cons, List.filter_cons, List.filter_cons, filter_cV f P]
    show (if f p = true then _ else _) = _
    by_cases z : f p = true <;> simp [fn, startA, sRet, sSeq, sIf, sSet, sNext, sNever, sFldA, sAsg, sPar, eAnd, eOr, eNot, eIf, eN, e1, e2, e1D, e2D, eCall, eTup, eLst, eOwn, eUse, aCons, aNil, eVar, eC, toB, tmOr, tmAnd, tmNot, tmYes, Res.bind, Res.noex, SR.ofE, endF, lift, cOne, iSeq, wipeA, Tgt.bind, setAll, fSub, fAdd, z]
theorem at_new (h : AH) (o : AObj) : (h ++ [o])[h.length]? = some o := by simp [fn, startA, sRet, sSeq, sIf, sSet, sNext, sNever, sFldA, sAsg, sPar, eAnd, eOr, eNot, eIf, eN, e1, e2, e1D, e2D, eCall, eTup, eLst, eOwn, eUse, aCons, aNil, eVar, eC, toB, tmOr, tmAnd, tmNot, tmYes, Res.bind, Res.noex, SR.ofE, endF, lift, cOne, iSeq, wipeA, Tgt.bind, setAll, fSub, fAdd]
theorem tup_P (P : List (Int × Int)) : uTup (P.map valP) = some (vP P) := rfl
theorem ev_len {n : Int} (h1 : 1 ≤ n) (h8 : n ≤ 8) : ((evI n).map valP).length ≤ 1000 := by
  have := (Good.ev h1 h8).2
  simp [fn, startA, sRet, sSeq, sIf, sSet, sNext, sNever, sFldA, sAsg, sPar, eAnd, eOr, eNot, eIf, eN, e1, e2, e1D, e2D, eCall, eTup, eLst, eOwn, eUse, aCons, aNil, eVar, eC, toB, tmOr, tmAnd, tmNot, tmYes, Res.bind, Res.noex, SR.ofE, endF, lift, cOne, iSeq, wipeA, Tgt.bind, setAll, fSub, fAdd]
  omega
theorem or_ok {h : AH} {r s : Nat} {n : Int} {P Q : List (Int × Int)} (o : Ob h r n P) (o2 : Ob h s n Q) (h1 : 1 ≤ n) (h8 : n ≤ 8) :
    ∃ l, m_Rivals___or__ [.ref r, .ref s] h = .ok (.ref (h.length + 2)) (h ++ l) ∧ Ob (h ++ l) (h.length + 2) n ((evI n).filter fun p => has P n p || has Q n p) := by
  have hev := Good.ev h1 h8
  have q0 := o.up [.lst ((evI n).map valP)]
  have q1 := o2.up [.lst ((evI n).map valP)]
  have c1 : eComp [2] (iSeq (eCall m_all_pairs [] (aCons (e1 (fFld ft_many) (eVar 0)) aNil))) (.nm 2) (cOne (tmOr (toB (e2D (dIn fIn tb__contains__1 id) (eVar 2) (eVar 0))) (toB (e2D (dIn fIn tb__contains__1 id) (eVar 2) (eVar 1)))) (eVar 2)) [some (.ref r), some (.ref s), none] h =
      .ok ((((evI n).map valP).filter (cV fun p => has P n p || has Q n p)).map id) (h ++ [.lst ((evI n).map valP)]) := by
    refine eComp_live (r := h.length) (xs := (evI n).map valP) (en := fun x => [some (.ref r), some (.ref s), some x]) ?_ (at_new _ _) (ev_len h1 h8) fun x hx => ⟨rfl, ?_⟩
    · simp [fn, startA, sRet, sSeq, sIf, sSet, sNext, sNever, sFldA, sAsg, sPar, eAnd, eOr, eNot, eIf, eN, e1, e2, e1D, e2D, eCall, eTup, eLst, eOwn, eUse, aCons, aNil, eVar, eC, toB, tmOr, tmAnd, tmNot, tmYes, Res.bind, Res.noex, SR.ofE, endF, lift, cOne, iSeq, wipeA, Tgt.bind, setAll, fSub, fAdd, o.many, all_pairs_ok h1 h8]
    · obtain ⟨p, hp, rfl⟩ := List.mem_map.mp hx
      have z1 := in_p q0 fIn id p
      have z2 := in_p q1 fIn id p
      simp only [cOne, tmOr, toB, e2D, eVar, Res.bind, Res.noex, List.getElem?_cons_succ, List.getElem?_cons_zero, z1, z2, id]
      show _ = Res.ok (if (has P n p || has Q n p) = true then [id (valP p)] else []) _
      cases has P n p <;> cases has Q n p <;> simp [fn, startA, sRet, sSeq, sIf, sSet, sNext, sNever, sFldA, sAsg, sPar, eAnd, eOr, eNot, eIf, eN, e1, e2, e1D, e2D, eCall, eTup, eLst, eOwn, eUse, aCons, aNil, eVar, eC, toB, tmOr, tmAnd, tmNot, tmYes, Res.bind, Res.noex, SR.ofE, endF, lift, cOne, iSeq, wipeA, Tgt.bind, setAll, fSub, fAdd]
  rw [List.map_id, filter_cV] at c1
  have gd : Good n ((evI n).filter fun p => has P n p || has Q n p) := hev.1.sub List.filter_sublist
  have c2 : eMake 4 m_Rivals___init__ [] (aCons (e1 (fFld ft_many) (eVar 0)) (aCons (eUse uTup (eComp [2] (iSeq (eCall m_all_pairs [] (aCons (e1 (fFld ft_many) (eVar 0)) aNil))) (.nm 2) (cOne (tmOr (toB (e2D (dIn fIn tb__contains__1 id) (eVar 2) (eVar 0))) (toB (e2D (dIn fIn tb__contains__1 id) (eVar 2) (eVar 1)))) (eVar 2)))) aNil)) [some (.ref r), some (.ref s), none] h = _ :=
    make_ok gd h1 h8 (ds := []) (h' := h ++ [.lst ((evI n).map valP)]) (by
      simp only [aCons, e1, eVar, List.getElem?_cons_succ, List.getElem?_cons_zero, Res.bind, lift, o.many, eUse, c1, tup_P, aNil])
  refine ⟨[.lst ((evI n).map valP), .junk, .obj 4 (h.length + 1) [some (.int n), some (vP ((evI n).filter fun p => has P n p || has Q n p))]], ?_, ?_⟩
  · unfold m_Rivals___or__
    simp only [fn, List.length_cons, List.length_nil, if_true, startA, List.map_cons, List.map_nil]
    show endF (sSeq _ _ [some (.ref r), some (.ref s), none] h) = _
    simp only [sSeq, sIf, toB, e2D, e1, eVar, List.getElem?_cons_succ, List.getElem?_cons_zero, Res.bind, lift, o.many, o2.many, ne_int, decide_true, Bool.not_true, SR.ofE, sNext, sRet]
    simp only [Bool.false_eq_true, if_false]
    rw [c2]
    simp [fn, startA, sRet, sSeq, sIf, sSet, sNext, sNever, sFldA, sAsg, sPar, eAnd, eOr, eNot, eIf, eN, e1, e2, e1D, e2D, eCall, eTup, eLst, eOwn, eUse, aCons, aNil, eVar, eC, toB, tmOr, tmAnd, tmNot, tmYes, Res.bind, Res.noex, SR.ofE, endF, lift, cOne, iSeq, wipeA, Tgt.bind, setAll, fSub, fAdd, mkH]
  · have z := mk_Ob (h ++ [.lst ((evI n).map valP)]) n ((evI n).filter fun p => has P n p || has Q n p)
    unfold mkH at z
    simpa [fn, startA, sRet, sSeq, sIf, sSet, sNext, sNever, sFldA, sAsg, sPar, eAnd, eOr, eNot, eIf, eN, e1, e2, e1D, e2D, eCall, eTup, eLst, eOwn, eUse, aCons, aNil, eVar, eC, toB, tmOr, tmAnd, tmNot, tmYes, Res.bind, Res.noex, SR.ofE, endF, lift, cOne, iSeq, wipeA, Tgt.bind, setAll, fSub, fAdd] using z
theorem invert_ok {h : AH} {r : Nat} {n : Int} {P : List (Int × Int)} (o : Ob h r n P) (h1 : 1 ≤ n) (h8 : n ≤ 8) :
    ∃ l, dOwn1 (fun _ _ => none) tb__invert__6 (.ref r) h = .ok (.ref (h.length + 2)) (h ++ l) ∧ Ob (h ++ l) (h.length + 2) n ((evI n).filter fun p => !has P n p) := by
  have hev := Good.ev h1 h8
  have q0 := o.up [.lst ((evI n).map valP)]
  have c1 : eComp [1] (iSeq (eCall m_all_pairs [] (aCons (e1 (fFld ft_many) (eVar 0)) aNil))) (.nm 1) (cOne (toB (e2D (dIn fNotIn tb__contains__1 not) (eVar 1) (eVar 0))) (eVar 1)) [some (.ref r), none] h =
      .ok ((((evI n).map valP).filter (cV fun p => !has P n p)).map id) (h ++ [.lst ((evI n).map valP)]) := by
    refine eComp_live (r := h.length) (xs := (evI n).map valP) (en := fun x => [some (.ref r), some x]) ?_ (at_new _ _) (ev_len h1 h8) fun x hx => ⟨rfl, ?_⟩
    · simp [fn, startA, sRet, sSeq, sIf, sSet, sNext, sNever, sFldA, sAsg, sPar, eAnd, eOr, eNot, eIf, eN, e1, e2, e1D, e2D, eCall, eTup, eLst, eOwn, eUse, aCons, aNil, eVar, eC, toB, tmOr, tmAnd, tmNot, tmYes, Res.bind, Res.noex, SR.ofE, endF, lift, cOne, iSeq, wipeA, Tgt.bind, setAll, fSub, fAdd, o.many, all_pairs_ok h1 h8]
    · obtain ⟨p, hp, rfl⟩ := List.mem_map.mp hx
      have z1 := in_p q0 fNotIn not p
      simp only [cOne, toB, e2D, eVar, Res.bind, Res.noex, List.getElem?_cons_succ, List.getElem?_cons_zero, z1]
      show _ = Res.ok (if (!has P n p) = true then [id (valP p)] else []) _
      cases has P n p <;> simp [fn, startA, sRet, sSeq, sIf, sSet, sNext, sNever, sFldA, sAsg, sPar, eAnd, eOr, eNot, eIf, eN, e1, e2, e1D, e2D, eCall, eTup, eLst, eOwn, eUse, aCons, aNil, eVar, eC, toB, tmOr, tmAnd, tmNot, tmYes, Res.bind, Res.noex, SR.ofE, endF, lift, cOne, iSeq, wipeA, Tgt.bind, setAll, fSub, fAdd]
  rw [List.map_id, filter_cV] at c1
  have gd : Good n ((evI n).filter fun p => !has P n p) := hev.1.sub List.filter_sublist
  have c2 : eMake 4 m_Rivals___init__ [] (aCons (e1 (fFld ft_many) (eVar 0)) (aCons (eUse uTup (eComp [1] (iSeq (eCall m_all_pairs [] (aCons (e1 (fFld ft_many) (eVar 0)) aNil))) (.nm 1) (cOne (toB (e2D (dIn fNotIn tb__contains__1 not) (eVar 1) (eVar 0))) (eVar 1)))) aNil)) [some (.ref r), none] h = _ :=
    make_ok gd h1 h8 (ds := []) (h' := h ++ [.lst ((evI n).map valP)]) (by
      simp only [aCons, e1, eVar, List.getElem?_cons_succ, List.getElem?_cons_zero, Res.bind, lift, o.many, eUse, c1, tup_P, aNil])
  refine ⟨[.lst ((evI n).map valP), .junk, .obj 4 (h.length + 1) [some (.int n), some (vP ((evI n).filter fun p => !has P n p))]], ?_, ?_⟩
  · unfold dOwn1
    rw [o.cls]
    show m_Rivals___invert__ [.ref r] h = _
    unfold m_Rivals___invert__
    simp only [fn, List.length_cons, List.length_nil, if_true, startA, List.map_cons, List.map_nil]
    show endF (sRet _ [some (.ref r), none] h) = _
    simp only [sRet, c2, SR.ofE]
    simp [fn, startA, sRet, sSeq, sIf, sSet, sNext, sNever, sFldA, sAsg, sPar, eAnd, eOr, eNot, eIf, eN, e1, e2, e1D, e2D, eCall, eTup, eLst, eOwn, eUse, aCons, aNil, eVar, eC, toB, tmOr, tmAnd, tmNot, tmYes, Res.bind, Res.noex, SR.ofE, endF, lift, cOne, iSeq, wipeA, Tgt.bind, setAll, fSub, fAdd, mkH]
  · have z := mk_Ob (h ++ [.lst ((evI n).map valP)]) n ((evI n).filter fun p => !has P n p)
    unfold mkH at z
    simpa [fn, startA, sRet, sSeq, sIf, sSet, sNext, sNever, sFldA, sAsg, sPar, eAnd, eOr, eNot, eIf, eN, e1, e2, e1D, e2D, eCall, eTup, eLst, eOwn, eUse, aCons, aNil, eVar, eC, toB, tmOr, tmAnd, tmNot, tmYes, Res.bind, Res.noex, SR.ofE, endF, lift, cOne, iSeq, wipeA, Tgt.bind, setAll, fSub, fAdd] using z
theorem sub_ok {h : AH} {r s : Nat} {n : Int} {P Q : List (Int × Int)} (o : Ob h r n P) (o2 : Ob h s n Q) (g : Good n P) (h1 : 1 ≤ n) (h8 : n ≤ 8) :
    ∃ l, m_Rivals___sub__ [.ref r, .ref s] h = .ok (.ref (h.length + 1)) (h ++ l) ∧ Ob (h ++ l) (h.length + 1) n (P.filter fun p => !has Q n p) := by
  have c1 : eComp [2] (iSeq (e1 (fFld ft_pairs) (eVar 0))) (.nm 2) (cOne (toB (e2D (dIn fNotIn tb__contains__1 not) (eVar 2) (eVar 1))) (eVar 2)) [some (.ref r), some (.ref s), none] h =
      .ok (((P.map valP).filter (cV fun p => !has Q n p)).map id) h := by
    refine eComp_vals (xs := P.map valP) (en := fun x => [some (.ref r), some (.ref s), some x]) ?_ (by have := g.few; simp [fn, startA, sRet, sSeq, sIf, sSet, sNext, sNever, sFldA, sAsg, sPar, eAnd, eOr, eNot, eIf, eN, e1, e2, e1D, e2D, eCall, eTup, eLst, eOwn, eUse, aCons, aNil, eVar, eC, toB, tmOr, tmAnd, tmNot, tmYes, Res.bind, Res.noex, SR.ofE, endF, lift, cOne, iSeq, wipeA, Tgt.bind, setAll, fSub, fAdd]; omega) fun x hx => ⟨rfl, ?_⟩
    · simp [fn, startA, sRet, sSeq, sIf, sSet, sNext, sNever, sFldA, sAsg, sPar, eAnd, eOr, eNot, eIf, eN, e1, e2, e1D, e2D, eCall, eTup, eLst, eOwn, eUse, aCons, aNil, eVar, eC, toB, tmOr, tmAnd, tmNot, tmYes, Res.bind, Res.noex, SR.ofE, endF, lift, cOne, iSeq, wipeA, Tgt.bind, setAll, fSub, fAdd, o.pairs, vP]
    · obtain ⟨p, hp, rfl⟩ := List.mem_map.mp hx
      have z1 := in_p o2 fNotIn not p
      simp only [cOne, toB, e2D, eVar, Res.bind, Res.noex, List.getElem?_cons_succ, List.getElem?_cons_zero, z1]
      show _ = Res.ok (if (!has Q n p) = true then [id (valP p)] else []) _
      cases has Q n p <;> simp [fn, startA, sRet, sSeq, sIf, sSet, sNext, sNever, sFldA, sAsg, sPar, eAnd, eOr, eNot, eIf, eN, e1, e2, e1D, e2D, eCall, eTup, eLst, eOwn, eUse, aCons, aNil, eVar, eC, toB, tmOr, tmAnd, tmNot, tmYes, Res.bind, Res.noex, SR.ofE, endF, lift, cOne, iSeq, wipeA, Tgt.bind, setAll, fSub, fAdd]
  rw [List.map_id, filter_cV] at c1
  have gd : Good n (P.filter fun p => !has Q n p) := g.sub List.filter_sublist
  have c2 : eMake 4 m_Rivals___init__ [] (aCons (e1 (fFld ft_many) (eVar 0)) (aCons (eUse uTup (eComp [2] (iSeq (e1 (fFld ft_pairs) (eVar 0))) (.nm 2) (cOne (toB (e2D (dIn fNotIn tb__contains__1 not) (eVar 2) (eVar 1))) (eVar 2)))) aNil)) [some (.ref r), some (.ref s), none] h = _ :=
    make_ok gd h1 h8 (ds := []) (h' := h) (by
      simp only [aCons, e1, eVar, List.getElem?_cons_succ, List.getElem?_cons_zero, Res.bind, lift, o.many, eUse, c1, tup_P, aNil])
  refine ⟨[.junk, .obj 4 h.length [some (.int n), some (vP (P.filter fun p => !has Q n p))]], ?_, ?_⟩
  · unfold m_Rivals___sub__
    simp only [fn, List.length_cons, List.length_nil, if_true, startA, List.map_cons, List.map_nil]
    show endF (sSeq _ _ [some (.ref r), some (.ref s), none] h) = _
    simp only [sSeq, sIf, toB, e2D, e1, eVar, List.getElem?_cons_succ, List.getElem?_cons_zero, Res.bind, lift, o.many, o2.many, ne_int, decide_true, Bool.not_true, SR.ofE, sNext, sRet]
    simp only [Bool.false_eq_true, if_false]
    rw [c2]
    simp [fn, startA, sRet, sSeq, sIf, sSet, sNext, sNever, sFldA, sAsg, sPar, eAnd, eOr, eNot, eIf, eN, e1, e2, e1D, e2D, eCall, eTup, eLst, eOwn, eUse, aCons, aNil, eVar, eC, toB, tmOr, tmAnd, tmNot, tmYes, Res.bind, Res.noex, SR.ofE, endF, lift, cOne, iSeq, wipeA, Tgt.bind, setAll, fSub, fAdd, mkH]
  · have z := mk_Ob h n (P.filter fun p => !has Q n p)
    unfold mkH at z
    simpa [fn, startA, sRet, sSeq, sIf, sSet, sNext, sNever, sFldA, sAsg, sPar, eAnd, eOr, eNot, eIf, eN, e1, e2, e1D, e2D, eCall, eTup, eLst, eOwn, eUse, aCons, aNil, eVar, eC, toB, tmOr, tmAnd, tmNot, tmYes, Res.bind, Res.noex, SR.ofE, endF, lift, cOne, iSeq, wipeA, Tgt.bind, setAll, fSub, fAdd] using z
theorem bin_ob {h : AH} {r s : Nat} {n m : Int} {P Q : List (Int × Int)} (o : Ob h r n P) (o2 : Ob h s m Q) (f : F2) (t : MT2) : dBin f t (.ref r) (.ref s) h = dOwn2 f t (.ref r) (.ref s) h := by
  unfold dBin
  rw [o.cls, o2.cls]
  simp [fn, startA, sRet, sSeq, sIf, sSet, sNext, sNever, sFldA, sAsg, sPar, eAnd, eOr, eNot, eIf, eN, e1, e2, e1D, e2D, eCall, eTup, eLst, eOwn, eUse, aCons, aNil, eVar, eC, toB, tmOr, tmAnd, tmNot, tmYes, Res.bind, Res.noex, SR.ofE, endF, lift, cOne, iSeq, wipeA, Tgt.bind, setAll, fSub, fAdd]
theorem or_ex {h : AH} {r s : Nat} {n m : Int} {P Q : List (Int × Int)} (o : Ob h r n P) (o2 : Ob h s m Q) (hn : n ≠ m) : dBin fNo tb__or__5 (.ref r) (.ref s) h = .ex ⟨2, none⟩ h := by
  rw [bin_ob o o2]
  unfold dOwn2
  rw [o.cls]
  show m_Rivals___or__ [.ref r, .ref s] h = _
  unfold m_Rivals___or__
  simp [fn, startA, sRet, sSeq, sIf, sSet, sNext, sNever, sFldA, sAsg, sPar, eAnd, eOr, eNot, eIf, eN, e1, e2, e1D, e2D, eCall, eTup, eLst, eOwn, eUse, aCons, aNil, eVar, eC, toB, tmOr, tmAnd, tmNot, tmYes, Res.bind, Res.noex, SR.ofE, endF, lift, cOne, iSeq, wipeA, Tgt.bind, setAll, fSub, fAdd, o.many, o2.many, ne_int, hn, sRaise0]
theorem sub_ex {h : AH} {r s : Nat} {n m : Int} {P Q : List (Int × Int)} (o : Ob h r n P) (o2 : Ob h s m Q) (hn : n ≠ m) : dBin fSub tb__sub__4 (.ref r) (.ref s) h = .ex ⟨2, none⟩ h := by
  rw [bin_ob o o2]
  unfold dOwn2
  rw [o.cls]
  show m_Rivals___sub__ [.ref r, .ref s] h = _
  unfold m_Rivals___sub__
  simp [fn, startA, sRet, sSeq, sIf, sSet, sNext, sNever, sFldA, sAsg, sPar, eAnd, eOr, eNot, eIf, eN, e1, e2, e1D, e2D, eCall, eTup, eLst, eOwn, eUse, aCons, aNil, eVar, eC, toB, tmOr, tmAnd, tmNot, tmYes, Res.bind, Res.noex, SR.ofE, endF, lift, cOne, iSeq, wipeA, Tgt.bind, setAll, fSub, fAdd, o.many, o2.many, ne_int, hn, sRaise0]
theorem refuses_ok {h : AH} {r s : Nat} {n m : Int} {P Q : List (Int × Int)} (o : Ob h r n P) (o2 : Ob h s m Q) (hn : n ≠ m) : m__law_refuses [.ref r, .ref s] h = .ok (.bl true) h := by
  have q1 := or_ex o o2 hn
  have q2 := sub_ex o o2 hn
  unfold m__law_refuses
  simp [fn, startA, sRet, sSeq, sIf, sSet, sNext, sNever, sFldA, sAsg, sPar, eAnd, eOr, eNot, eIf, eN, e1, e2, e1D, e2D, eCall, eTup, eLst, eOwn, eUse, aCons, aNil, eVar, eC, toB, tmOr, tmAnd, tmNot, tmYes, Res.bind, Res.noex, SR.ofE, endF, lift, cOne, iSeq, wipeA, Tgt.bind, setAll, fSub, fAdd, sFor, iRng, loopA, loopV, List.range, List.range.loop, sTry, eq_int, q1, q2, xt_Unlike, noexS, sCont]
end Lw
namespace Lw
open PySem CI
def plV (n : Int) (P : List (Int × Int)) : Val := .tup [.int n, vP P]
def areB (P : List (Int × Int)) (i j : Int) : Bool := decide (((if j < i then j else i), (if j > i then j else i)) ∈ P)
theorem ix_pl (n : Int) (P : List (Int × Int)) (h : AH) : dOwn2 fIx tb__getitem__3 (plV n P) (.int 1) h = .ok (vP P) h ∧ dOwn2 fIx tb__getitem__3 (plV n P) (.int 0) h = .ok (.int n) h := ⟨rfl, rfl⟩
theorem are_ok (n : Int) (P : List (Int × Int)) (i j : Int) (h : AH) : m__law_are [plV n P, .int i, .int j] h = .ok (.bl (areB P i j)) h := by
  have z := in_vP h ((if j < i then j else i), (if j > i then j else i)) P
  unfold valP at z
  unfold m__law_are areB
  simp [fn, startA, sRet, sSeq, sIf, sSet, sNext, sNever, sFldA, sAsg, sPar, eAnd, eOr, eNot, eIf, eN, e1, e2, e1D, e2D, eCall, eTup, eLst, eOwn, eUse, aCons, aNil, eVar, eC, toB, tmOr, tmAnd, tmNot, tmYes, Res.bind, Res.noex, SR.ofE, endF, lift, cOne, iSeq, wipeA, Tgt.bind, setAll, fSub, fAdd, fMin, fMax, fInt, (ix_pl n P h).1] at *
  simp [fn, startA, sRet, sSeq, sIf, sSet, sNext, sNever, sFldA, sAsg, sPar, eAnd, eOr, eNot, eIf, eN, e1, e2, e1D, e2D, eCall, eTup, eLst, eOwn, eUse, aCons, aNil, eVar, eC, toB, tmOr, tmAnd, tmNot, tmYes, Res.bind, Res.noex, SR.ofE, endF, lift, cOne, iSeq, wipeA, Tgt.bind, setAll, fSub, fAdd, z]
theorem has_are {n : Int} {P : List (Int × Int)} (g : Good n P) {i j : Int} (i0 : 0 ≤ i) (i1 : i < n) (j0 : 0 ≤ j) (j1 : j < n) : has P n (i, j) = (!decide (j = i) && areB P i j) := by
  have q1 : inR n (i, j) = true := by unfold inR; simp [fn, startA, sRet, sSeq, sIf, sSet, sNext, sNever, sFldA, sAsg, sPar, eAnd, eOr, eNot, eIf, eN, e1, e2, e1D, e2D, eCall, eTup, eLst, eOwn, eUse, aCons, aNil, eVar, eC, toB, tmOr, tmAnd, tmNot, tmYes, Res.bind, Res.noex, SR.ofE, endF, lift, cOne, iSeq, wipeA, Tgt.bind, setAll, fSub, fAdd]; omega
  unfold has areB
  rw [q1, Bool.true_and]
  have no : ∀ a b : Int, b ≤ a → (a, b) ∉ P := fun a b hab hm => by
    have := g.bd _ hm
    simp [fn, startA, sRet, sSeq, sIf, sSet, sNext, sNever, sFldA, sAsg, sPar, eAnd, eOr, eNot, eIf, eN, e1, e2, e1D, e2D, eCall, eTup, eLst, eOwn, eUse, aCons, aNil, eVar, eC, toB, tmOr, tmAnd, tmNot, tmYes, Res.bind, Res.noex, SR.ofE, endF, lift, cOne, iSeq, wipeA, Tgt.bind, setAll, fSub, fAdd] at this
    omega
  rcases Int.lt_trichotomy i j with z | z | z
  · have e1 : ¬ j < i := by omega
    have e2 : j > i := z
    have e3 : ¬ j = i := by omega
    rw [if_neg e1, if_pos e2, decide_eq_false e3, decide_eq_false (no j i (by omega))]
    simp [fn, startA, sRet, sSeq, sIf, sSet, sNext, sNever, sFldA, sAsg, sPar, eAnd, eOr, eNot, eIf, eN, e1, e2, e1D, e2D, eCall, eTup, eLst, eOwn, eUse, aCons, aNil, eVar, eC, toB, tmOr, tmAnd, tmNot, tmYes, Res.bind, Res.noex, SR.ofE, endF, lift, cOne, iSeq, wipeA, Tgt.bind, setAll, fSub, fAdd]
  · subst z
    rw [decide_eq_false (no i i (by omega))]
    simp [fn, startA, sRet, sSeq, sIf, sSet, sNext, sNever, sFldA, sAsg, sPar, eAnd, eOr, eNot, eIf, eN, e1, e2, e1D, e2D, eCall, eTup, eLst, eOwn, eUse, aCons, aNil, eVar, eC, toB, tmOr, tmAnd, tmNot, tmYes, Res.bind, Res.noex, SR.ofE, endF, lift, cOne, iSeq, wipeA, Tgt.bind, setAll, fSub, fAdd]
  · have e2 : ¬ j > i := by omega
    have e3 : ¬ j = i := by omega
    rw [if_pos z, if_neg e2, decide_eq_false e3, decide_eq_false (no i j (by omega))]
    simp [fn, startA, sRet, sSeq, sIf, sSet, sNext, sNever, sFldA, sAsg, sPar, eAnd, eOr, eNot, eIf, eN, e1, e2, e1D, e2D, eCall, eTup, eLst, eOwn, eUse, aCons, aNil, eVar, eC, toB, tmOr, tmAnd, tmNot, tmYes, Res.bind, Res.noex, SR.ofE, endF, lift, cOne, iSeq, wipeA, Tgt.bind, setAll, fSub, fAdd]
def cJ (P : List (Int × Int)) (i : Int) : Val → Bool
  | .int j => !decide (j = i) && areB P i j
  | _ => false
theorem toD_ints (h : AH) (xs : List Val) (hx : ∀ x ∈ xs, ∃ i, x = .int i) (n : Nat) : ∃ ds, mapO (toD h (n + 1)) xs = some ds ∧ PyData.canLayAll0 ds = true ∧ PyData.depthAll ds ≤ 0 := by
  induction xs with
  | nil => exact ⟨[], rfl, rfl, Nat.le_refl _⟩
  | cons x xs ih =>
    obtain ⟨i, rfl⟩ := hx x List.mem_cons_self
    obtain ⟨ds, h1, h2, h3⟩ := ih fun y hy => hx y (List.mem_cons_of_mem _ hy)
    refine ⟨.int i :: ds, ?_, ?_, ?_⟩
    · rw [mapO, h1]
      rfl
    · show (true && PyData.canLayAll0 ds) = true
      rw [h2]
      rfl
    · show max 0 (PyData.depthAll ds) ≤ 0
      omega
theorem ne_list {h : AH} {a b : Nat} {xs : List Val} (ha : h[a]? = some (.lst xs)) (hb : h[b]? = some (.lst xs)) (hx : ∀ x ∈ xs, ∃ i, x = .int i) : dEq fNe tb__eq__2 nft not (.ref a) (.ref b) h = .ok (.bl false) h := by
  obtain ⟨ds, h1, h2, h3⟩ := toD_ints h xs hx 64
  have q1 : toD h 66 (.ref a) = some (.list ds) := by
    show (match h[a]? with | some (.lst xs) => (mapO (toD h 65) xs).map PyData.list | _ => none) = _
    rw [ha]
    dsimp only
    rw [h1]
    rfl
  have q2 : toD h 66 (.ref b) = some (.list ds) := by
    show (match h[b]? with | some (.lst xs) => (mapO (toD h 65) xs).map PyData.list | _ => none) = _
    rw [hb]
    dsimp only
    rw [h1]
    rfl
  have q3 : SeqAt.shaped (.list ds) = true := by
    unfold SeqAt.shaped
    rw [Bool.and_eq_true]
    refine ⟨h2, decide_eq_true ?_⟩
    show PyData.depthAll ds + 1 ≤ 64
    omega
  have q4 : PyData.eqv (.list ds) (.list ds) = true := SeqAt.eqv_refl _ h2
  have q5 : clsOf (.ref a) h = none := by
    unfold clsOf objAt
    dsimp only
    rw [ha]
  unfold dEq
  rw [q5]
  show lift ((eqD (.ref a) (.ref b) h).map _) = _
  unfold eqD
  rw [q1, q2]
  dsimp only
  rw [q3, if_pos (by rfl), q4]
  rfl
theorem ne_bl (h : AH) (b : Bool) : dEq fNe tb__eq__2 nft not (.bl b) (.bl b) h = .ok (.bl false) h := by
  cases b <;> rfl
/-- a loop over a list that stands -/
theorem loopS_live {t : Tgt} {body : MS} {h : AH} {r : Nat} {xs : List Val} (hr : h[r]? = some (.lst xs)) {Inv : AEnv → Prop} (hx : ∀ x ∈ xs, ∀ env, Inv env → ∃ f1 env', t.bind x env = some f1 ∧ body f1 h = .nx env' h ∧ Inv env') :
    ∀ (n i : Nat), xs.length ≤ i + n → ∀ env, Inv env → ∃ env', loopS t body (.live r) n i env h = .nx env' h ∧ Inv env' := by
  intro n
  induction n with
  | zero =>
    intro i hl env hi
    have e : xs[i]? = none := List.getElem?_eq_none (by omega)
    refine ⟨env, ?_, hi⟩
    unfold loopS
    simp only [Src.at, hr, e]
  | succ n ih =>
    intro i hl env hi
    unfold loopS
    simp only [Src.at, hr]
    cases e : xs[i]? with
    | none => exact ⟨env, rfl, hi⟩
    | some x =>
      obtain ⟨hlt, ex⟩ := List.getElem?_eq_some_iff.mp e
      obtain ⟨f1, env', q1, q2, q3⟩ := hx x (by rw [← ex]; exact List.getElem_mem hlt) env hi
      obtain ⟨env2, q4, q5⟩ := ih (i + 1) (by omega) env' q3
      refine ⟨env2, ?_, q5⟩
      dsimp only
      rw [q1]
      dsimp only
      rw [q2]
      exact q4
def things (n : Int) (k : Nat) : List Val := [.non, .int 0, .tup [], .tup [.int 0], .ref k, .tup [.int 0, .int n], .tup [.int (-1), .int 0], .tup [.bl false, .int 1], .tup [.int 0, .bl true], .str "01", .tup [.int 0, .int 1, .int 2], .tup [.non, .int 1]]
theorem odd_ok {h : AH} {r k : Nat} {n : Int} {P : List (Int × Int)} {xs : List Val} (o : Ob h r n P) (h1 : 1 ≤ n) (hk : h[k]? = some (.lst xs)) : ∀ x ∈ things n k, dIn fIn tb__contains__1 id x (.ref r) h = .ok (.bl false) h := by
  intro x hx
  rw [in_ob o]
  have fin : m_Rivals___contains__ [.ref r, x] h = .ok (.bl false) h → asB (m_Rivals___contains__ [.ref r, x] h) id = .ok (.bl false) h := fun e => by rw [e]; rfl
  refine fin ?_
  have f1 : (decide ((0 : Int) ≤ 0) && decide ((0 : Int) ≤ n - 1)) = true := by simp [fn, startA, sRet, sSeq, sIf, sSet, sNext, sNever, sFldA, sAsg, sPar, eAnd, eOr, eNot, eIf, eN, e1, e2, e1D, e2D, eCall, eTup, eLst, eOwn, eUse, aCons, aNil, eVar, eC, toB, tmOr, tmAnd, tmNot, tmYes, Res.bind, Res.noex, SR.ofE, endF, lift, cOne, iSeq, wipeA, Tgt.bind, setAll, fSub, fAdd]; omega
  have f2 : (decide ((0 : Int) ≤ n) && decide (n ≤ n - 1)) = false := by simp [fn, startA, sRet, sSeq, sIf, sSet, sNext, sNever, sFldA, sAsg, sPar, eAnd, eOr, eNot, eIf, eN, e1, e2, e1D, e2D, eCall, eTup, eLst, eOwn, eUse, aCons, aNil, eVar, eC, toB, tmOr, tmAnd, tmNot, tmYes, Res.bind, Res.noex, SR.ofE, endF, lift, cOne, iSeq, wipeA, Tgt.bind, setAll, fSub, fAdd]; omega
  have f3 : (decide ((0 : Int) ≤ -1) && decide ((-1 : Int) ≤ n - 1)) = false := by simp [fn, startA, sRet, sSeq, sIf, sSet, sNext, sNever, sFldA, sAsg, sPar, eAnd, eOr, eNot, eIf, eN, e1, e2, e1D, e2D, eCall, eTup, eLst, eOwn, eUse, aCons, aNil, eVar, eC, toB, tmOr, tmAnd, tmNot, tmYes, Res.bind, Res.noex, SR.ofE, endF, lift, cOne, iSeq, wipeA, Tgt.bind, setAll, fSub, fAdd]
  unfold things at hx
  simp only [List.mem_cons, List.not_mem_nil, or_false] at hx
  rcases hx with rfl | rfl | rfl | rfl | rfl | rfl | rfl | rfl | rfl | rfl | rfl | rfl
  · exact contains_not (S := "NoneType") rfl (by decide)
  · exact contains_not (S := "int") rfl (by decide)
  · exact contains_len (by decide)
  · exact contains_len (by decide)
  · exact contains_not (S := "list") (by unfold tyOf; dsimp only; rw [hk]) (by decide)
  · exact contains_two o (is_number_int 0 0 (n - 1) h) (is_number_int n 0 (n - 1) h) (by rw [f2, Bool.and_false])
  · exact contains_two o (is_number_int (-1) 0 (n - 1) h) (is_number_int 0 0 (n - 1) h) (by rw [f3, Bool.false_and])
  · exact contains_two o (is_number_bl false 0 (n - 1) h) (is_number_int 1 0 (n - 1) h) (by rw [Bool.false_and])
  · exact contains_two o (is_number_int 0 0 (n - 1) h) (is_number_bl true 0 (n - 1) h) (by rw [Bool.and_false])
  · exact contains_not (S := "str") rfl (by decide)
  · exact contains_len (by decide)
  · exact contains_two o (is_number_non 0 (n - 1) h) (is_number_int 1 0 (n - 1) h) (by rw [Bool.false_and])
theorem odd_step {W : AH} {x : Val} {r : Nat} {c1 c2 c3 c4 c5 c6 : Option Val} (z : dIn fIn tb__contains__1 id x (.ref r) W = .ok (.bl false) W) : sIf (toB (e2 fIsNot (e2D (dIn fIn tb__contains__1 id) (eVar 7) (eVar 0)) (eC (.bl false)))) (sRet (eC (.bl false))) sNext [some (.ref r), c1, c2, c3, c4, c5, c6, some x] W = .nx [some (.ref r), c1, c2, c3, c4, c5, c6, some x] W := by
  simp [fn, startA, sRet, sSeq, sIf, sSet, sNext, sNever, sFldA, sAsg, sPar, eAnd, eOr, eNot, eIf, eN, e1, e2, e1D, e2D, eCall, eTup, eLst, eOwn, eUse, aCons, aNil, eVar, eC, toB, tmOr, tmAnd, tmNot, tmYes, Res.bind, Res.noex, SR.ofE, endF, lift, cOne, iSeq, wipeA, Tgt.bind, setAll, fSub, fAdd, z, fIsNot]
theorem things_step {W : AH} {r : Nat} {n : Int} {c1 c3 c4 c5 : Option Val} : sSet 6 (eLst (aCons (eC .non) (aCons (eC (.int 0)) (aCons (eTup aNil) (aCons (eTup (aCons (eC (.int 0)) aNil)) (aCons (eLst (aCons (eC (.int 0)) (aCons (eC (.int 1)) aNil))) (aCons (eTup (aCons (eC (.int 0)) (aCons (eVar 2) aNil))) (aCons (eTup (aCons (e1 fNeg (eC (.int 1))) (aCons (eC (.int 0)) aNil))) (aCons (eTup (aCons (eC (.bl false)) (aCons (eC (.int 1)) aNil))) (aCons (eTup (aCons (eC (.int 0)) (aCons (eC (.bl true)) aNil))) (aCons (eC (.str "01")) (aCons (eTup (aCons (eC (.int 0)) (aCons (eC (.int 1)) (aCons (eC (.int 2)) aNil)))) (aCons (eTup (aCons (eC .non) (aCons (eC (.int 1)) aNil))) aNil))))))))))))) [some (.ref r), c1, some (.int n), c3, c4, c5, none, none] W = .nx [some (.ref r), c1, some (.int n), c3, c4, c5, some (.ref (W.length + 1)), none] (W ++ [.lst [.int 0, .int 1]] ++ [.lst (things n W.length)]) := by
  simp [fn, startA, sRet, sSeq, sIf, sSet, sNext, sNever, sFldA, sAsg, sPar, eAnd, eOr, eNot, eIf, eN, e1, e2, e1D, e2D, eCall, eTup, eLst, eOwn, eUse, aCons, aNil, eVar, eC, toB, tmOr, tmAnd, tmNot, tmYes, Res.bind, Res.noex, SR.ofE, endF, lift, cOne, iSeq, wipeA, Tgt.bind, setAll, fSub, fAdd, things, fNeg]
theorem is_fine_ok {h : AH} {r : Nat} {n : Int} {P : List (Int × Int)} (o : Ob h r n P) (g : Good n P) (h1 : 1 ≤ n) (h8 : n ≤ 8) : ∃ l, m__law_is_fine [.ref r, plV n P] h = .ok (.bl true) (h ++ l) := by
  have allI : ∀ c x, x ∈ (rgv n).filter c → ∃ i, x = .int i := fun c x hx => by
    obtain ⟨j, e, _⟩ := rgv_mem (List.mem_filter.mp hx).1
    exact ⟨j, e⟩
  -- the loops
  have key := loop_ix (t := .nm 4) (body := (sSeq (sIf (toB (e2D (dEq fNe tb__eq__2 nft not) (e2D (dOwn2 fIx tb__getitem__3) (eVar 0) (eVar 4)) (eOwn (eComp [5] (iRng (aCons (eVar 2) aNil)) (.nm 5) (cOne (tmAnd (toB (e2D (dEq fNe tb__eq__2 nft not) (eVar 5) (eVar 4))) (toB (eCall m__law_are [] (aCons (eVar 1) (aCons (eVar 4) (aCons (eVar 5) aNil)))))) (eVar 5)))))) (sRet (eC (.bl false))) sNext)
    (sFor (iRng (aCons (eVar 2) aNil)) (.nm 5) (sIf (toB (e2D (dEq fNe tb__eq__2 nft not) (e2D (dIn fIn tb__contains__1 id) (eTup (aCons (eVar 4) (aCons (eVar 5) aNil))) (eVar 0)) (eAnd (e2D (dEq fNe tb__eq__2 nft not) (eVar 4) (eVar 5)) (eCall m__law_are [] (aCons (eVar 1) (aCons (eVar 4) (aCons (eVar 5) aNil))))))) (sRet (eC (.bl false))) sNext))))
    (Inv := fun _ env h' => ∃ l a b, h' = h ++ l ∧ env = [some (.ref r), some (plV n P), some (.int n), some (vP P), a, b, none, none]) (xs := rgv n) 0 (fun k x hx env h' hi => by
      obtain ⟨l, a, b, rfl, rfl⟩ := hi
      obtain ⟨i, rfl, i0, i1⟩ := rgv_mem (List.mem_of_getElem? hx)
      have o1 := o.up l
      have g1 := getitem_ok o1 h1 h8 i0 i1
      have c1 : ∀ hh : AH, eComp [5] (iRng (aCons (eVar 2) aNil)) (.nm 5) (cOne (tmAnd (toB (e2D (dEq fNe tb__eq__2 nft not) (eVar 5) (eVar 4))) (toB (eCall m__law_are [] (aCons (eVar 1) (aCons (eVar 4) (aCons (eVar 5) aNil)))))) (eVar 5)) [some (.ref r), some (plV n P), some (.int n), some (vP P), some (.int i), b, none, none] hh = .ok (((rgv n).filter (cJ P i)).map id) hh := fun hh => by
        refine eComp_vals (en := fun x => [some (.ref r), some (plV n P), some (.int n), some (vP P), some (.int i), some x, none, none]) (iRng1 (n := n) (h1 := hh) (by simp [fn, startA, sRet, sSeq, sIf, sSet, sNext, sNever, sFldA, sAsg, sPar, eAnd, eOr, eNot, eIf, eN, e1, e2, e1D, e2D, eCall, eTup, eLst, eOwn, eUse, aCons, aNil, eVar, eC, toB, tmOr, tmAnd, tmNot, tmYes, Res.bind, Res.noex, SR.ofE, endF, lift, cOne, iSeq, wipeA, Tgt.bind, setAll, fSub, fAdd]) (by omega) (by omega)) (rgv_len (by omega)) fun x hx => ⟨rfl, ?_⟩
        obtain ⟨j, rfl, j0, j1⟩ := rgv_mem hx
        simp only [cOne, tmAnd, toB, e2D, eVar, Res.bind, Res.noex, List.getElem?_cons_succ, List.getElem?_cons_zero, ne_int, eCall, aCons, aNil, List.append_nil, are_ok]
        show _ = Res.ok (if (!decide (j = i) && areB P i j) = true then [id (Val.int j)] else []) hh
        generalize decide (j = i) = b1
        generalize areB P i j = b2
        cases b1 <;> cases b2 <;> simp [fn, startA, sRet, sSeq, sIf, sSet, sNext, sNever, sFldA, sAsg, sPar, eAnd, eOr, eNot, eIf, eN, e1, e2, e1D, e2D, eCall, eTup, eLst, eOwn, eUse, aCons, aNil, eVar, eC, toB, tmOr, tmAnd, tmNot, tmYes, Res.bind, Res.noex, SR.ofE, endF, lift, cOne, iSeq, wipeA, Tgt.bind, setAll, fSub, fAdd]
      have cc : (rgv n).filter (cJ P i) = (rgv n).filter (cI P n i) := by
        refine List.filter_congr fun x hx => ?_
        obtain ⟨j, rfl, j0, j1⟩ := rgv_mem hx
        exact (has_are g i0 i1 j0 j1).symm
      have c2 := c1 (h ++ l ++ [.lst ((rgv n).filter (cI P n i))])
      rw [List.map_id, cc] at c2
      have ne := ne_list (h := h ++ l ++ [.lst ((rgv n).filter (cI P n i))] ++ [.lst ((rgv n).filter (cI P n i))]) (a := (h ++ l).length) (b := (h ++ l ++ [AObj.lst ((rgv n).filter (cI P n i))]).length) (xs := (rgv n).filter (cI P n i))
        (by rw [List.getElem?_append_left (by simp [fn, startA, sRet, sSeq, sIf, sSet, sNext, sNever, sFldA, sAsg, sPar, eAnd, eOr, eNot, eIf, eN, e1, e2, e1D, e2D, eCall, eTup, eLst, eOwn, eUse, aCons, aNil, eVar, eC, toB, tmOr, tmAnd, tmNot, tmYes, Res.bind, Res.noex, SR.ofE, endF, lift, cOne, iSeq, wipeA, Tgt.bind, setAll, fSub, fAdd])]; simp [fn, startA, sRet, sSeq, sIf, sSet, sNext, sNever, sFldA, sAsg, sPar, eAnd, eOr, eNot, eIf, eN, e1, e2, e1D, e2D, eCall, eTup, eLst, eOwn, eUse, aCons, aNil, eVar, eC, toB, tmOr, tmAnd, tmNot, tmYes, Res.bind, Res.noex, SR.ofE, endF, lift, cOne, iSeq, wipeA, Tgt.bind, setAll, fSub, fAdd]) (by simp [fn, startA, sRet, sSeq, sIf, sSet, sNext, sNever, sFldA, sAsg, sPar, eAnd, eOr, eNot, eIf, eN, e1, e2, e1D, e2D, eCall, eTup, eLst, eOwn, eUse, aCons, aNil, eVar, eC, toB, tmOr, tmAnd, tmNot, tmYes, Res.bind, Res.noex, SR.ofE, endF, lift, cOne, iSeq, wipeA, Tgt.bind, setAll, fSub, fAdd]) (allI _)
      obtain ⟨l2, hl2⟩ : ∃ l2 : AH, h ++ l ++ [.lst ((rgv n).filter (cI P n i))] ++ [.lst ((rgv n).filter (cI P n i))] = h ++ l2 := ⟨l ++ [.lst ((rgv n).filter (cI P n i))] ++ [.lst ((rgv n).filter (cI P n i))], by simp [fn, startA, sRet, sSeq, sIf, sSet, sNext, sNever, sFldA, sAsg, sPar, eAnd, eOr, eNot, eIf, eN, e1, e2, e1D, e2D, eCall, eTup, eLst, eOwn, eUse, aCons, aNil, eVar, eC, toB, tmOr, tmAnd, tmNot, tmYes, Res.bind, Res.noex, SR.ofE, endF, lift, cOne, iSeq, wipeA, Tgt.bind, setAll, fSub, fAdd]⟩
      have o2 := o.up l2
      have inn := loop_ix (t := .nm 5) (body := sIf (toB (e2D (dEq fNe tb__eq__2 nft not) (e2D (dIn fIn tb__contains__1 id) (eTup (aCons (eVar 4) (aCons (eVar 5) aNil))) (eVar 0)) (eAnd (e2D (dEq fNe tb__eq__2 nft not) (eVar 4) (eVar 5)) (eCall m__law_are [] (aCons (eVar 1) (aCons (eVar 4) (aCons (eVar 5) aNil))))))) (sRet (eC (.bl false))) sNext)
        (Inv := fun _ env h' => h' = h ++ l2 ∧ ∃ b, env = [some (.ref r), some (plV n P), some (.int n), some (vP P), some (.int i), b, none, none]) (xs := rgv n) 0 (fun k x hx env h' hi => by
          obtain ⟨rfl, b, rfl⟩ := hi
          obtain ⟨j, rfl, j0, j1⟩ := rgv_mem (List.mem_of_getElem? hx)
          refine ⟨_, [some (.ref r), some (plV n P), some (.int n), some (vP P), some (.int i), some (.int j), none, none], h ++ l2, rfl, .inl ?_, rfl, _, rfl⟩
          have z1 : dIn fIn tb__contains__1 id (.tup [.int i, .int j]) (.ref r) (h ++ l2) = .ok (.bl (has P n (i, j))) (h ++ l2) := in_p o2 fIn id (i, j)
          rw [has_are g i0 i1 j0 j1] at z1
          have z2 : decide (i = j) = decide (j = i) := by
            by_cases z : i = j
            · simp [fn, startA, sRet, sSeq, sIf, sSet, sNext, sNever, sFldA, sAsg, sPar, eAnd, eOr, eNot, eIf, eN, e1, e2, e1D, e2D, eCall, eTup, eLst, eOwn, eUse, aCons, aNil, eVar, eC, toB, tmOr, tmAnd, tmNot, tmYes, Res.bind, Res.noex, SR.ofE, endF, lift, cOne, iSeq, wipeA, Tgt.bind, setAll, fSub, fAdd, z]
            · have z' : ¬ j = i := fun e => z e.symm
              simp [fn, startA, sRet, sSeq, sIf, sSet, sNext, sNever, sFldA, sAsg, sPar, eAnd, eOr, eNot, eIf, eN, e1, e2, e1D, e2D, eCall, eTup, eLst, eOwn, eUse, aCons, aNil, eVar, eC, toB, tmOr, tmAnd, tmNot, tmYes, Res.bind, Res.noex, SR.ofE, endF, lift, cOne, iSeq, wipeA, Tgt.bind, setAll, fSub, fAdd, z, z']
          have z3 : dEq fNe tb__eq__2 nft not (.int i) (.int j) (h ++ l2) = .ok (.bl (!decide (j = i))) (h ++ l2) := by rw [ne_int, z2]
          have z4 := are_ok n P i j (h ++ l2)
          generalize decide (j = i) = b1 at z1 z3
          generalize areB P i j = b2 at z1 z4
          cases b1 <;> cases b2 <;> simp [fn, startA, sRet, sSeq, sIf, sSet, sNext, sNever, sFldA, sAsg, sPar, eAnd, eOr, eNot, eIf, eN, e1, e2, e1D, e2D, eCall, eTup, eLst, eOwn, eUse, aCons, aNil, eVar, eC, toB, tmOr, tmAnd, tmNot, tmYes, Res.bind, Res.noex, SR.ofE, endF, lift, cOne, iSeq, wipeA, Tgt.bind, setAll, fSub, fAdd] at z1 z3 <;> simp [fn, startA, sRet, sSeq, sIf, sSet, sNext, sNever, sFldA, sAsg, sPar, eAnd, eOr, eNot, eIf, eN, e1, e2, e1D, e2D, eCall, eTup, eLst, eOwn, eUse, aCons, aNil, eVar, eC, toB, tmOr, tmAnd, tmNot, tmYes, Res.bind, Res.noex, SR.ofE, endF, lift, cOne, iSeq, wipeA, Tgt.bind, setAll, fSub, fAdd, z1, z3, z4, ne_bl]) [some (.ref r), some (plV n P), some (.int n), some (vP P), some (.int i), b, none, none] (h ++ l2) ⟨rfl, b, rfl⟩
      obtain ⟨env3, h3, w1, rfl, b3, rfl⟩ := inn
      refine ⟨_, [some (.ref r), some (plV n P), some (.int n), some (vP P), some (.int i), b3, none, none], h ++ l2, rfl, .inl ?_, l2, _, b3, rfl, rfl⟩
      have w2 : iRng (aCons (eVar 2) aNil) [some (.ref r), some (plV n P), some (.int n), some (vP P), some (.int i), b, none, none] (h ++ l2) = .ok (.vals (rgv n)) (h ++ l2) := iRng1 (by simp [fn, startA, sRet, sSeq, sIf, sSet, sNext, sNever, sFldA, sAsg, sPar, eAnd, eOr, eNot, eIf, eN, e1, e2, e1D, e2D, eCall, eTup, eLst, eOwn, eUse, aCons, aNil, eVar, eC, toB, tmOr, tmAnd, tmNot, tmYes, Res.bind, Res.noex, SR.ofE, endF, lift, cOne, iSeq, wipeA, Tgt.bind, setAll, fSub, fAdd]) (by omega) (by omega)
      rw [hl2] at ne
      simp only [sSeq, sIf, toB, e2D, eVar, Res.bind, List.set_cons_succ, List.set_cons_zero, List.getElem?_cons_succ, List.getElem?_cons_zero, g1, eOwn, c2, hl2, ne, SR.ofE, sNext, Bool.false_eq_true, if_false, sFor, w2, loopA, w1]) [some (.ref r), some (plV n P), some (.int n), some (vP P), none, none, none, none] (h ++ [.lst (rgA 0 n)]) ⟨[.lst (rgA 0 n)], none, none, rfl, rfl⟩
  obtain ⟨env', h', w1, l, a, b, rfl, rfl⟩ := key
  have o0 := o.up [.lst (rgA 0 n)]
  have o3 := o.up (l ++ [.lst [.int 0, .int 1]] ++ [.lst (things n (h ++ l).length)])
  have odd := odd_ok (k := (h ++ l).length) (xs := [.int 0, .int 1]) o3 h1 (by
    rw [← List.append_assoc, ← List.append_assoc, List.getElem?_append_left (by simp [fn, startA, sRet, sSeq, sIf, sSet, sNext, sNever, sFldA, sAsg, sPar, eAnd, eOr, eNot, eIf, eN, e1, e2, e1D, e2D, eCall, eTup, eLst, eOwn, eUse, aCons, aNil, eVar, eC, toB, tmOr, tmAnd, tmNot, tmYes, Res.bind, Res.noex, SR.ofE, endF, lift, cOne, iSeq, wipeA, Tgt.bind, setAll, fSub, fAdd])]
    simp [fn, startA, sRet, sSeq, sIf, sSet, sNext, sNever, sFldA, sAsg, sPar, eAnd, eOr, eNot, eIf, eN, e1, e2, e1D, e2D, eCall, eTup, eLst, eOwn, eUse, aCons, aNil, eVar, eC, toB, tmOr, tmAnd, tmNot, tmYes, Res.bind, Res.noex, SR.ofE, endF, lift, cOne, iSeq, wipeA, Tgt.bind, setAll, fSub, fAdd])
  have hr6 : (h ++ (l ++ [.lst [.int 0, .int 1]] ++ [.lst (things n (h ++ l).length)]))[(h ++ l).length + 1]? = some (.lst (things n (h ++ l).length)) := by
    rw [← List.append_assoc, ← List.append_assoc]
    have e : (h ++ l ++ [AObj.lst [.int 0, .int 1]]).length = (h ++ l).length + 1 := List.length_append
    rw [← e]
    exact at_new _ _
  have last := loopS_live (t := .nm 7) (body := sIf (toB (e2 fIsNot (e2D (dIn fIn tb__contains__1 id) (eVar 7) (eVar 0)) (eC (.bl false)))) (sRet (eC (.bl false))) sNext) hr6 (Inv := fun env => ∃ x, env = [some (.ref r), some (plV n P), some (.int n), some (vP P), a, b, some (.ref ((h ++ l).length + 1)), x]) (fun x hx env hi => by
    obtain ⟨y, rfl⟩ := hi
    refine ⟨_, [some (.ref r), some (plV n P), some (.int n), some (vP P), a, b, some (.ref ((h ++ l).length + 1)), some x], rfl, ?_, _, rfl⟩
    exact odd_step (odd x hx)) 100000 0 (by simp [fn, startA, sRet, sSeq, sIf, sSet, sNext, sNever, sFldA, sAsg, sPar, eAnd, eOr, eNot, eIf, eN, e1, e2, e1D, e2D, eCall, eTup, eLst, eOwn, eUse, aCons, aNil, eVar, eC, toB, tmOr, tmAnd, tmNot, tmYes, Res.bind, Res.noex, SR.ofE, endF, lift, cOne, iSeq, wipeA, Tgt.bind, setAll, fSub, fAdd, things]) [some (.ref r), some (plV n P), some (.int n), some (vP P), a, b, some (.ref ((h ++ l).length + 1)), none] ⟨none, rfl⟩
  obtain ⟨env9, w3, x9, rfl⟩ := last
  refine ⟨l ++ [.lst [.int 0, .int 1]] ++ [.lst (things n (h ++ l).length)], ?_⟩
  have w4 : iRng (aCons (eVar 2) aNil) [some (.ref r), some (plV n P), some (.int n), some (vP P), none, none, none, none] (h ++ [.lst (rgA 0 n)]) = .ok (.vals (rgv n)) (h ++ [.lst (rgA 0 n)]) := iRng1 (by simp [fn, startA, sRet, sSeq, sIf, sSet, sNext, sNever, sFldA, sAsg, sPar, eAnd, eOr, eNot, eIf, eN, e1, e2, e1D, e2D, eCall, eTup, eLst, eOwn, eUse, aCons, aNil, eVar, eC, toB, tmOr, tmAnd, tmNot, tmYes, Res.bind, Res.noex, SR.ofE, endF, lift, cOne, iSeq, wipeA, Tgt.bind, setAll, fSub, fAdd]) (by omega) (by omega)
  have w5 := len_ok o h1 h8
  unfold m__law_is_fine
  simp only [fn, List.length_cons, List.length_nil, if_true, startA, List.map_cons, List.map_nil]
  show endF (sSeq _ _ [some (.ref r), some (plV n P), none, none, none, none, none, none] h) = _
  rw [sSeq]
  have s1 : sAsg (.tp [2, 3]) (eVar 1) [some (.ref r), some (plV n P), none, none, none, none, none, none] h = .nx [some (.ref r), some (plV n P), some (.int n), some (vP P), none, none, none, none] h := rfl
  rw [s1]
  dsimp only
  rw [sSeq]
  have s2 : sIf (tmOr (toB (e2D (dEq fNe tb__eq__2 nft not) (e1D (dLen tb__len__0) (eVar 0)) (eVar 2))) (tmOr (toB (e2D (dEq fNe tb__eq__2 nft not) (e1 (fFld ft_many) (eVar 0)) (eVar 2))) (toB (e2D (dEq fNe tb__eq__2 nft not) (e1 (fFld ft_pairs) (eVar 0)) (eVar 3))))) (sRet (eC (.bl false))) sNext [some (.ref r), some (plV n P), some (.int n), some (vP P), none, none, none, none] h = .nx [some (.ref r), some (plV n P), some (.int n), some (vP P), none, none, none, none] (h ++ [.lst (rgA 0 n)]) := by
    simp [fn, startA, sRet, sSeq, sIf, sSet, sNext, sNever, sFldA, sAsg, sPar, eAnd, eOr, eNot, eIf, eN, e1, e2, e1D, e2D, eCall, eTup, eLst, eOwn, eUse, aCons, aNil, eVar, eC, toB, tmOr, tmAnd, tmNot, tmYes, Res.bind, Res.noex, SR.ofE, endF, lift, cOne, iSeq, wipeA, Tgt.bind, setAll, fSub, fAdd, w5, ne_int, o0.many, o0.pairs, ne_P]
  rw [s2]
  dsimp only
  rw [sSeq]
  simp only [sFor, w4, SR.ofE, loopA]
  rw [w1]
  dsimp only
  rw [sSeq]
  rw [things_step]
  dsimp only
  rw [sSeq]
  have s4 : sFor (iSeq (eVar 6)) (.nm 7) (sIf (toB (e2 fIsNot (e2D (dIn fIn tb__contains__1 id) (eVar 7) (eVar 0)) (eC (.bl false)))) (sRet (eC (.bl false))) sNext) [some (.ref r), some (plV n P), some (.int n), some (vP P), a, b, some (.ref ((h ++ l).length + 1)), none] (h ++ l ++ [.lst [.int 0, .int 1]] ++ [.lst (things n (h ++ l).length)]) = .nx [some (.ref r), some (plV n P), some (.int n), some (vP P), a, b, some (.ref ((h ++ l).length + 1)), x9] (h ++ (l ++ [.lst [.int 0, .int 1]] ++ [.lst (things n (h ++ l).length)])) := by
    rw [List.append_assoc, List.append_assoc, ← List.append_assoc l]
    have z : iSeq (eVar 6) [some (.ref r), some (plV n P), some (.int n), some (vP P), a, b, some (.ref ((h ++ l).length + 1)), none] (h ++ (l ++ [.lst [.int 0, .int 1]] ++ [.lst (things n (h ++ l).length)])) = .ok (.live ((h ++ l).length + 1)) (h ++ (l ++ [.lst [.int 0, .int 1]] ++ [.lst (things n (h ++ l).length)])) := by
      simp only [iSeq, eVar, List.getElem?_cons_succ, List.getElem?_cons_zero, Res.bind, hr6]
    simp only [sFor, z, SR.ofE, loopA]
    exact w3
  rw [s4]
  rfl
end Lw
namespace Lw
open PySem CI
theorem lg {x : Int} (h : x.natAbs < 2 ^ 100) : x.natAbs.log2 < 101 := by
  by_cases z : x.natAbs = 0
  · rw [z]; decide
  · have := (Nat.log2_lt z).mpr (show x.natAbs < 2 ^ 101 by omega)
    exact this
theorem sub_int (h : AH) (a b : Int) : dBin fSub tb__sub__4 (.int a) (.int b) h = .ok (.int (a - b)) h := rfl
theorem mul_ok (h : AH) {a b : Int} (ha : a.natAbs < 2 ^ 100) (hb : b.natAbs < 2 ^ 100) : fMul (.int a) (.int b) h = some (.int (a * b), h) := by
  have := lg ha
  have := lg hb
  exact if_pos (by omega)
theorem mod_ok (h : AH) {a b : Int} (hb : 0 < b) : fMod (.int a) (.int b) h = some (.int (a % b), h) := if_pos hb
def primes : List Val := [.int 1000003, .int 1000033, .int 1000037, .int 1000039, .int 1000081, .int 1000099, .int 1000117, .int 1000121, .int 1000133, .int 1000151, .int 1000159, .int 1000171, .int 1000183, .int 1000187, .int 1000193, .int 1000199]
theorem prime_at (h : AH) {k : Int} (h1 : 1 ≤ k) (h2 : k ≤ 9) : ∃ p : Int, 0 < p ∧ dOwn2 fIx tb__getitem__3 (.tup primes) (.int (k % 16)) h = .ok (.int p) h := by
  have : k = 1 ∨ k = 2 ∨ k = 3 ∨ k = 4 ∨ k = 5 ∨ k = 6 ∨ k = 7 ∨ k = 8 ∨ k = 9 := by omega
  rcases this with rfl | rfl | rfl | rfl | rfl | rfl | rfl | rfl | rfl <;> exact ⟨_, by decide, rfl⟩
theorem draw_ok (h : AH) {c k b : Int} (hc : c.natAbs < 2 ^ 100) (h1 : 1 ≤ k) (h2 : k ≤ 9) (hb : 0 < b) : ∃ v : Int, 0 ≤ v ∧ v < b ∧ m__law_draw [.int c, .int k, .int b] h = .ok (.int v) h := by
  obtain ⟨p, hp, e⟩ := prime_at h h1 h2
  refine ⟨(c * 48271 + k * 69621) % p % b, Int.emod_nonneg _ (by omega), Int.emod_lt_of_pos _ hb, ?_⟩
  have q1 := mul_ok h (a := c) (b := 48271) hc (by decide)
  have q2 := mul_ok h (a := k) (b := 69621) (by omega) (by decide)
  have q3 := mod_ok h (a := k) (b := 16) (by decide)
  unfold m__law_draw
  unfold primes at e
  simp [fn, startA, sRet, sSeq, sIf, sSet, sNext, sNever, sFldA, sAsg, sPar, eAnd, eOr, eNot, eIf, eN, e1, e2, e1D, e2D, eCall, eTup, eLst, eOwn, eUse, aCons, aNil, eVar, eC, toB, tmOr, tmAnd, tmNot, tmYes, Res.bind, Res.noex, SR.ofE, endF, lift, cOne, iSeq, wipeA, Tgt.bind, setAll, fSub, fAdd, q1, q2, q3, e, fInt, mod_ok h hp, mod_ok h hb]
theorem pow_log : ∀ i : Fin 25, ((1009 : Int) ^ (i : Nat)).natAbs.log2 + 9 < 1000 ∧ 0 < (1009 : Int) ^ (i : Nat) := by decide +kernel
theorem number_ok (h : AH) {c k b : Int} (h1 : 1 ≤ k) (h2 : k ≤ 12) (hb : 0 < b) : ∃ v : Int, 0 ≤ v ∧ v < b ∧ m__law_number [.int c, .int k, .int b] h = .ok (.int v) h := by
  have key := loop_ix (t := .nm 4) (body := sSet 3 (e2 fMul (eVar 3) (eC (.int 1009)))) (Inv := fun i env h' => h' = h ∧ i ≤ 24 ∧ ∃ a, env = [some (.int c), some (.int k), some (.int b), some (.int ((1009 : Int) ^ i)), a, none, none, none]) (xs := rgv k) 0 (fun i x hx env h' hi => by
    obtain ⟨rfl, hi, a, rfl⟩ := hi
    obtain ⟨hlt, hx⟩ := List.getElem?_eq_some_iff.mp hx
    have hl : i < 12 := by simp [fn, startA, sRet, sSeq, sIf, sSet, sNext, sNever, sFldA, sAsg, sPar, eAnd, eOr, eNot, eIf, eN, e1, e2, e1D, e2D, eCall, eTup, eLst, eOwn, eUse, aCons, aNil, eVar, eC, toB, tmOr, tmAnd, tmNot, tmYes, Res.bind, Res.noex, SR.ofE, endF, lift, cOne, iSeq, wipeA, Tgt.bind, setAll, fSub, fAdd, rgv] at hlt; omega
    refine ⟨_, [some (.int c), some (.int k), some (.int b), some (.int ((1009 : Int) ^ (0 + i + 1))), some x, none, none, none], h', rfl, .inl ?_, rfl, by omega, _, rfl⟩
    have q : fMul (.int ((1009 : Int) ^ (0 + i))) (.int 1009) h' = some (.int ((1009 : Int) ^ (0 + i + 1)), h') := by
      have := (pow_log ⟨0 + i, by omega⟩).1
      have l9 : (1009 : Int).natAbs.log2 = 9 := by decide
      rw [Int.pow_succ]
      refine if_pos ?_
      rw [l9]
      dsimp only at this
      omega
    simp only [Nat.zero_add] at q ⊢
    simp [fn, startA, sRet, sSeq, sIf, sSet, sNext, sNever, sFldA, sAsg, sPar, eAnd, eOr, eNot, eIf, eN, e1, e2, e1D, e2D, eCall, eTup, eLst, eOwn, eUse, aCons, aNil, eVar, eC, toB, tmOr, tmAnd, tmNot, tmYes, Res.bind, Res.noex, SR.ofE, endF, lift, cOne, iSeq, wipeA, Tgt.bind, setAll, fSub, fAdd, q]) [some (.int c), some (.int k), some (.int b), some (.int 1), none, none, none, none] h ⟨rfl, by omega, none, by simp [fn, startA, sRet, sSeq, sIf, sSet, sNext, sNever, sFldA, sAsg, sPar, eAnd, eOr, eNot, eIf, eN, e1, e2, e1D, e2D, eCall, eTup, eLst, eOwn, eUse, aCons, aNil, eVar, eC, toB, tmOr, tmAnd, tmNot, tmYes, Res.bind, Res.noex, SR.ofE, endF, lift, cOne, iSeq, wipeA, Tgt.bind, setAll, fSub, fAdd]⟩
  obtain ⟨env', h', w1, rfl, hle, a, rfl⟩ := key
  have hlen : 0 + (rgv k).length ≤ 24 := hle
  obtain ⟨p1, p2⟩ := pow_log ⟨0 + (rgv k).length, by omega⟩
  dsimp only at p1 p2
  have kk : k % 24 = k := Int.emod_eq_of_lt (by omega) (by omega)
  have q1 := mod_ok h' (a := k) (b := 24) (by decide)
  rw [kk] at q1
  have w2 : iRng (aCons (e2 fMod (eN fInt (aCons (eVar 1) aNil)) (eC (.int 24))) aNil) [some (.int c), some (.int k), some (.int b), some (.int 1), none, none, none, none] h' = .ok (.vals (rgv k)) h' := iRng1 (by simp [fn, startA, sRet, sSeq, sIf, sSet, sNext, sNever, sFldA, sAsg, sPar, eAnd, eOr, eNot, eIf, eN, e1, e2, e1D, e2D, eCall, eTup, eLst, eOwn, eUse, aCons, aNil, eVar, eC, toB, tmOr, tmAnd, tmNot, tmYes, Res.bind, Res.noex, SR.ofE, endF, lift, cOne, iSeq, wipeA, Tgt.bind, setAll, fSub, fAdd, fInt, q1]) (by omega) (by omega)
  have q2 : fPow (.int 10) (.int 18) h' = some (.int ((10 : Int) ^ 18), h') := rfl
  have q3 : ∀ x : Int, fDiv (.int x) (.int ((1009 : Int) ^ (0 + (rgv k).length))) h' = some (.int (x / (1009 : Int) ^ (0 + (rgv k).length)), h') := fun x => if_pos ⟨p2, by omega⟩
  have q4 := mod_ok h' (a := c) (b := 1000003) (by decide)
  have s0 : 0 ≤ c % 1000003 := Int.emod_nonneg _ (by decide)
  have s1 : c % 1000003 < 1000003 := Int.emod_lt_of_pos _ (by decide)
  have q5 := mul_ok h' (a := 977) (b := k) (by decide) (by omega)
  have q6 := mul_ok h' (a := 31) (b := k) (by decide) (by omega)
  have bl : ((c % 1000003 + 977 * k) * (c % 1000003 + 31 * k + 5)).natAbs < 2 ^ 100 := by
    have z1 : (c % 1000003 + 977 * k).natAbs < 2 ^ 30 := by omega
    have z2 : (c % 1000003 + 31 * k + 5).natAbs < 2 ^ 30 := by omega
    rw [Int.natAbs_mul]
    calc _ ≤ 2 ^ 30 * 2 ^ 30 := Nat.mul_le_mul (Nat.le_of_lt z1) (Nat.le_of_lt z2)
      _ < 2 ^ 100 := by decide
  have q7 := mul_ok h' (a := c % 1000003 + 977 * k) (b := c % 1000003 + 31 * k + 5) (by omega) (by omega)
  have q8 := mod_ok h' (a := k) (b := 9) (by decide)
  have k9 : 0 ≤ k % 9 := Int.emod_nonneg _ (by decide)
  have k9' : k % 9 < 9 := Int.emod_lt_of_pos _ (by decide)
  obtain ⟨v, v0, v1, q9⟩ := draw_ok h' (c := (c % 1000003 + 977 * k) * (c % 1000003 + 31 * k + 5)) (k := k % 9 + 1) (b := 999983) bl (by omega) (by omega) (by decide)
  have q10 := mod_ok h' (a := v) (b := b) hb
  by_cases hr : 0 < (c - (10 : Int) ^ 18) / (1009 : Int) ^ (0 + (rgv k).length)
  · have q11 := mod_ok h' (a := (c - (10 : Int) ^ 18) / (1009 : Int) ^ (0 + (rgv k).length)) (b := 1009) (by decide)
    have q12 := mod_ok h' (a := (c - (10 : Int) ^ 18) / (1009 : Int) ^ (0 + (rgv k).length) % 1009) (b := b) hb
    refine ⟨(c - (10 : Int) ^ 18) / (1009 : Int) ^ (0 + (rgv k).length) % 1009 % b, Int.emod_nonneg _ (by omega), Int.emod_lt_of_pos _ hb, ?_⟩
    unfold m__law_number
    generalize hD : (c - (10 : Int) ^ 18) / (1009 : Int) ^ (0 + (rgv k).length) = D at *
    have q3' := q3 (c - 10 ^ 18)
    rw [hD] at q3'
    simp only [fn, List.length_cons, List.length_nil, if_true, startA, List.map_cons, List.map_nil]
    show endF (sSeq _ _ [some (.int c), some (.int k), some (.int b), none, none, none, none, none] h') = _
    simp only [sSeq, sSet, eC, SR.ofE, List.set_cons_succ, List.set_cons_zero, sFor, w2, loopA]
    rw [w1]
    simp only [e2, e2D, eVar, List.getElem?_cons_succ, List.getElem?_cons_zero, Res.bind, q2, lift, sub_int, q3', List.set_cons_succ, List.set_cons_zero]
    simp only [Nat.zero_add] at q3'
    rw [show (10 : Int) ^ 18 = 1000000000000000000 by decide] at q3'
    simp [fn, startA, sRet, sSeq, sIf, sSet, sNext, sNever, sFldA, sAsg, sPar, eAnd, eOr, eNot, eIf, eN, e1, e2, e1D, e2D, eCall, eTup, eLst, eOwn, eUse, aCons, aNil, eVar, eC, toB, tmOr, tmAnd, tmNot, tmYes, Res.bind, Res.noex, SR.ofE, endF, lift, cOne, iSeq, wipeA, Tgt.bind, setAll, fSub, fAdd, fGt, fI, hr, fInt, q2, sub_int, q3', q11, q12]
  · refine ⟨v % b, Int.emod_nonneg _ (by omega), Int.emod_lt_of_pos _ hb, ?_⟩
    unfold m__law_number
    generalize hD : (c - (10 : Int) ^ 18) / (1009 : Int) ^ (0 + (rgv k).length) = D at *
    have q3' := q3 (c - 10 ^ 18)
    rw [hD] at q3'
    simp only [fn, List.length_cons, List.length_nil, if_true, startA, List.map_cons, List.map_nil]
    show endF (sSeq _ _ [some (.int c), some (.int k), some (.int b), none, none, none, none, none] h') = _
    simp only [sSeq, sSet, eC, SR.ofE, List.set_cons_succ, List.set_cons_zero, sFor, w2, loopA]
    rw [w1]
    simp only [e2, e2D, eVar, List.getElem?_cons_succ, List.getElem?_cons_zero, Res.bind, q2, lift, sub_int, q3', List.set_cons_succ, List.set_cons_zero]
    simp only [Nat.zero_add] at q3'
    rw [show (10 : Int) ^ 18 = 1000000000000000000 by decide] at q3'
    simp [fn, startA, sRet, sSeq, sIf, sSet, sNext, sNever, sFldA, sAsg, sPar, eAnd, eOr, eNot, eIf, eN, e1, e2, e1D, e2D, eCall, eTup, eLst, eOwn, eUse, aCons, aNil, eVar, eC, toB, tmOr, tmAnd, tmNot, tmYes, Res.bind, Res.noex, SR.ofE, endF, lift, cOne, iSeq, wipeA, Tgt.bind, setAll, fSub, fAdd, fGt, fI, hr, fInt, q2, sub_int, q3', q4, q5, q6, q7, q8, q9, q10]
/-- the draws' list -/
structure Dr (h : AH) (cs : List Int) (k : Nat) : Prop where
  at_ : h[1]? = some (.lst [.ref 0, .int 0, .int k])
  cl : h[0]? = some (.lst (cs.map .int))
  few : cs.length ≤ 1000
theorem Dr.up {h : AH} {cs : List Int} {k : Nat} (d : Dr h cs k) (l : AH) : Dr (h ++ l) cs k := by
  refine ⟨?_, ?_, d.few⟩
  · rw [List.getElem?_append_left (List.getElem?_eq_some_iff.mp d.at_).1]; exact d.at_
  · rw [List.getElem?_append_left (List.getElem?_eq_some_iff.mp d.cl).1]; exact d.cl
def nxH (h : AH) (k : Nat) : AH := h.set 1 (.lst [.ref 0, .int 0, .int ((k : Int) + 1)])
theorem Dr.nx {h : AH} {cs : List Int} {k : Nat} (d : Dr h cs k) : Dr (nxH h k) cs (k + 1) := by
  refine ⟨?_, ?_, d.few⟩
  · unfold nxH
    rw [List.getElem?_set_self (List.getElem?_eq_some_iff.mp d.at_).1]
    push_cast
    rfl
  · unfold nxH
    rw [List.getElem?_set_ne (by decide)]
    exact d.cl
theorem Ob.nx {h : AH} {cs : List Int} {k r : Nat} {n : Int} {P : List (Int × Int)} (o : Ob h r n P) (d : Dr h cs k) : Ob (nxH h k) r n P := by
  obtain ⟨x, e⟩ := o
  refine ⟨x, ?_⟩
  have : r ≠ 1 := fun z => by rw [z, d.at_] at e; cases e
  unfold nxH
  rw [List.getElem?_set_ne (Ne.symm this)]
  exact e
theorem cell_ok {h : AH} {cs : List Int} {k : Nat} (d : Dr h cs k) {j : Int} (j0 : 0 ≤ j) : ∃ c : Int, m__law_cell_at [.ref 0, .int j] h = .ok (.int c) h := by
  have q1 : dLen tb__len__0 (.ref 0) h = .ok (.int cs.length) h := by
    unfold dLen clsOf objAt
    dsimp only
    rw [d.cl]
    simp [fn, startA, sRet, sSeq, sIf, sSet, sNext, sNever, sFldA, sAsg, sPar, eAnd, eOr, eNot, eIf, eN, e1, e2, e1D, e2D, eCall, eTup, eLst, eOwn, eUse, aCons, aNil, eVar, eC, toB, tmOr, tmAnd, tmNot, tmYes, Res.bind, Res.noex, SR.ofE, endF, lift, cOne, iSeq, wipeA, Tgt.bind, setAll, fSub, fAdd, fLen, items, d.cl]
  have q0 : clsOf (.ref 0) h = none := by
    unfold clsOf objAt
    dsimp only
    rw [d.cl]
  by_cases hj : j < cs.length
  · have q2 : dOwn2 fIx tb__getitem__3 (.ref 0) (.int j) h = .ok (.int (cs[j.toNat]'(by omega))) h := by
      unfold dOwn2
      rw [q0]
      simp only [fIx, items, d.cl]
      have : L2.atI (cs.map Val.int) j = some (.int (cs[j.toNat]'(by omega))) := by
        unfold L2.atI L2.ixN
        rw [if_pos j0, if_pos (by simpa [fn, startA, sRet, sSeq, sIf, sSet, sNext, sNever, sFldA, sAsg, sPar, eAnd, eOr, eNot, eIf, eN, e1, e2, e1D, e2D, eCall, eTup, eLst, eOwn, eUse, aCons, aNil, eVar, eC, toB, tmOr, tmAnd, tmNot, tmYes, Res.bind, Res.noex, SR.ofE, endF, lift, cOne, iSeq, wipeA, Tgt.bind, setAll, fSub, fAdd] using hj)]
        simp [fn, startA, sRet, sSeq, sIf, sSet, sNext, sNever, sFldA, sAsg, sPar, eAnd, eOr, eNot, eIf, eN, e1, e2, e1D, e2D, eCall, eTup, eLst, eOwn, eUse, aCons, aNil, eVar, eC, toB, tmOr, tmAnd, tmNot, tmYes, Res.bind, Res.noex, SR.ofE, endF, lift, cOne, iSeq, wipeA, Tgt.bind, setAll, fSub, fAdd]
      rw [this]
      rfl
    refine ⟨cs[j.toNat]'(by omega), ?_⟩
    unfold m__law_cell_at
    simp [fn, startA, sRet, sSeq, sIf, sSet, sNext, sNever, sFldA, sAsg, sPar, eAnd, eOr, eNot, eIf, eN, e1, e2, e1D, e2D, eCall, eTup, eLst, eOwn, eUse, aCons, aNil, eVar, eC, toB, tmOr, tmAnd, tmNot, tmYes, Res.bind, Res.noex, SR.ofE, endF, lift, cOne, iSeq, wipeA, Tgt.bind, setAll, fSub, fAdd, q1, fLt, hj, q2]
  · refine ⟨0, ?_⟩
    unfold m__law_cell_at
    simp [fn, startA, sRet, sSeq, sIf, sSet, sNext, sNever, sFldA, sAsg, sPar, eAnd, eOr, eNot, eIf, eN, e1, e2, e1D, e2D, eCall, eTup, eLst, eOwn, eUse, aCons, aNil, eVar, eC, toB, tmOr, tmAnd, tmNot, tmYes, Res.bind, Res.noex, SR.ofE, endF, lift, cOne, iSeq, wipeA, Tgt.bind, setAll, fSub, fAdd, q1, fLt, hj]
theorem next_ok {h : AH} {cs : List Int} {k : Nat} (d : Dr h cs k) {b : Int} (hb : 0 < b) (hk : k ≤ 100000) : ∃ v : Int, 0 ≤ v ∧ v < b ∧ m__law_next [.ref 1, .int b] h = .ok (.int v) (nxH h k) := by
  have d2 := d.nx
  have ix : ∀ {h : AH} {k : Nat}, Dr h cs k → dOwn2 fIx tb__getitem__3 (.ref 1) (.int 2) h = .ok (.int k) h ∧ dOwn2 fIx tb__getitem__3 (.ref 1) (.int 0) h = .ok (.ref 0) h ∧ dOwn2 fIx tb__getitem__3 (.ref 1) (.int 1) h = .ok (.int 0) h := fun {h k} d => by
    have q0 : clsOf (.ref 1) h = none := by
      unfold clsOf objAt
      dsimp only
      rw [d.at_]
    refine ⟨?_, ?_, ?_⟩ <;> unfold dOwn2 <;> rw [q0] <;> simp only [fIx, items, d.at_] <;> rfl
  obtain ⟨i1, _, _⟩ := ix d
  obtain ⟨j1, j2, j3⟩ := ix d2
  have e1 : ((k + 1 : Nat) : Int) = (k : Int) + 1 := by push_cast; rfl
  rw [e1] at j1
  have q1 : fDiv (.int ((k : Int) + 1)) (.int 12) (nxH h k) = some (.int (((k : Int) + 1) / 12), nxH h k) := rfl
  have p0 : 0 ≤ ((k : Int) + 1) / 12 := Int.ediv_nonneg (by omega) (by decide)
  have p1 : ((k : Int) + 1) / 12 ≤ 100001 := by omega
  obtain ⟨c, q2⟩ := cell_ok d2 (j := 0 + ((k : Int) + 1) / 12) (by omega)
  have q3 := mul_ok (nxH h k) (a := 31) (b := ((k : Int) + 1) / 12) (by decide) (by omega)
  have q4 := mod_ok (nxH h k) (a := (k : Int) + 1) (b := 12) (by decide)
  have m0 : 0 ≤ ((k : Int) + 1) % 12 := Int.emod_nonneg _ (by decide)
  have m1 : ((k : Int) + 1) % 12 < 12 := Int.emod_lt_of_pos _ (by decide)
  obtain ⟨v, v0, v1, q5⟩ := number_ok (nxH h k) (c := c + 31 * (((k : Int) + 1) / 12)) (k := ((k : Int) + 1) % 12 + 1) (b := b) (by omega) (by omega) hb
  refine ⟨v, v0, v1, ?_⟩
  have st : setL (.ref 1) (.int 2) (.int ((k : Int) + 1)) h = some (nxH h k) := by
    unfold setL
    simp only [d.at_]
    rfl
  unfold m__law_next
  simp only [Int.zero_add] at q2
  simp [fn, startA, sRet, sSeq, sIf, sSet, sNext, sNever, sFldA, sAsg, sPar, eAnd, eOr, eNot, eIf, eN, e1, e2, e1D, e2D, eCall, eTup, eLst, eOwn, eUse, aCons, aNil, eVar, eC, toB, tmOr, tmAnd, tmNot, tmYes, Res.bind, Res.noex, SR.ofE, endF, lift, cOne, iSeq, wipeA, Tgt.bind, setAll, fSub, fAdd, sSub, i1, st, j1, j2, j3, q1, q2, q3, q4, q5, fInt]
end Lw
namespace Lw
open PySem CI
def Kp (h h' : AH) : Prop := ∀ r n P, Ob h r n P → Ob h' r n P
theorem Kp.app (h l : AH) : Kp h (h ++ l) := fun r n P o => o.up l
theorem Kp.nx {h : AH} {cs : List Int} {k : Nat} (d : Dr h cs k) : Kp h (nxH h k) := fun r n P o => o.nx d
theorem Kp.trans {a b c : AH} (x : Kp a b) (y : Kp b c) : Kp a c := fun r n P o => y r n P (x r n P o)
theorem compS_st {t : Tgt} {body : ML} {env : AEnv} {r : Nat} {xs : List Val} {Inv : Nat → AH → Prop} (hr : ∀ i h, Inv i h → h[r]? = some (.lst xs)) (hx : ∀ x ∈ xs, ∀ i h, i < xs.length → Inv i h → ∃ f1, ∃ b : Bool, ∃ h', t.bind x env = some f1 ∧ body f1 h = .ok (if b then [x] else []) h' ∧ Inv (i + 1) h') :
    ∀ (n i : Nat) (h : AH), xs.length ≤ i + n → i ≤ xs.length → Inv i h → ∃ ys h', compS t body env (.live r) n i h = .ok ys h' ∧ ys.Sublist (xs.drop i) ∧ Inv xs.length h' := by
  intro n
  induction n with
  | zero =>
    intro i h hl hle hi
    have e : xs[i]? = none := List.getElem?_eq_none (by omega)
    refine ⟨[], h, ?_, List.nil_sublist _, by rw [show xs.length = i by omega]; exact hi⟩
    unfold compS
    simp only [Src.at, hr i h hi, e]
  | succ n ih =>
    intro i h hl hle hi
    unfold compS
    simp only [Src.at, hr i h hi]
    cases e : xs[i]? with
    | none =>
      have := List.getElem?_eq_none_iff.mp e
      exact ⟨[], h, rfl, List.nil_sublist _, by rw [show xs.length = i by omega]; exact hi⟩
    | some x =>
      obtain ⟨hlt, ex⟩ := List.getElem?_eq_some_iff.mp e
      obtain ⟨f1, b, h', q1, q2, q3⟩ := hx x (by rw [← ex]; exact List.getElem_mem hlt) i h hlt hi
      obtain ⟨ys, h2, q4, q5, q6⟩ := ih (i + 1) h' (by omega) (by omega) q3
      refine ⟨(if b then [x] else []) ++ ys, h2, ?_, ?_, q6⟩
      · dsimp only
        rw [q1]
        dsimp only
        rw [q2]
        simp only [Res.bind]
        rw [q4]
      · rw [List.drop_eq_getElem_cons hlt, ex]
        cases b with
        | true => exact q5.cons₂ x
        | false => exact q5.cons x
theorem rivals_ok {h : AH} {cs : List Int} {k : Nat} (d : Dr h cs k) (hk : k ≤ 10000) : ∃ n P h' k', m__law_rivals [.ref 1, .int 8] h = .ok (plV n P) h' ∧ Dr h' cs k' ∧ k' ≤ k + 30 ∧ 1 ≤ n ∧ n ≤ 8 ∧ P.Sublist (evI n) ∧ Kp h h' := by
  obtain ⟨v, v0, v1, q1⟩ := next_ok d (b := 8) (by decide) (by omega)
  have d1 := d.nx
  obtain ⟨u, u0, u1, q2⟩ := next_ok d1 (b := 6) (by decide) (by omega)
  have d2 := d1.nx
  obtain ⟨l, r, q3, q4⟩ := every_ok (n := 1 + v) (by omega) (by omega) (nxH (nxH h k) (k + 1))
  have d3 := d2.up l
  have hlen := (Good.ev (n := 1 + v) (by omega) (by omega)).2
  have cs_ := compS_st (t := .nm 4) (body := cOne (toB (e2 fLt (eCall m__law_next [] (aCons (eVar 0) (aCons (eC (.int 7)) aNil))) (eVar 3))) (eVar 4)) (env := [some (.ref 1), some (.int 8), some (.int (1 + v)), some (.int (1 + u)), none]) (r := r) (xs := (evI (1 + v)).map valP)
    (Inv := fun i hh => Dr hh cs (k + 2 + i) ∧ hh[r]? = some (.lst ((evI (1 + v)).map valP)) ∧ Kp (nxH (nxH h k) (k + 1) ++ l) hh) (fun i hh hi => hi.2.1) (fun x hx i hh hlt hi => by
      obtain ⟨dd, hr, kp⟩ := hi
      have hlt' : i < 28 := by simp [fn, startA, sRet, sSeq, sIf, sSet, sNext, sNever, sFldA, sAsg, sPar, eAnd, eOr, eNot, eIf, eN, e1, e2, e1D, e2D, eCall, eTup, eLst, eOwn, eUse, aCons, aNil, eVar, eC, toB, tmOr, tmAnd, tmNot, tmYes, Res.bind, Res.noex, SR.ofE, endF, lift, cOne, iSeq, wipeA, Tgt.bind, setAll, fSub, fAdd] at hlt; omega
      obtain ⟨w, w0, w1, z1⟩ := next_ok dd (b := 7) (by decide) (by omega)
      refine ⟨[some (.ref 1), some (.int 8), some (.int (1 + v)), some (.int (1 + u)), some x], decide (w < 1 + u), nxH hh (k + 2 + i), rfl, ?_, dd.nx, ?_, kp.trans (Kp.nx dd)⟩
      · simp [fn, startA, sRet, sSeq, sIf, sSet, sNext, sNever, sFldA, sAsg, sPar, eAnd, eOr, eNot, eIf, eN, e1, e2, e1D, e2D, eCall, eTup, eLst, eOwn, eUse, aCons, aNil, eVar, eC, toB, tmOr, tmAnd, tmNot, tmYes, Res.bind, Res.noex, SR.ofE, endF, lift, cOne, iSeq, wipeA, Tgt.bind, setAll, fSub, fAdd, z1, fLt]
        by_cases z : w < 1 + u <;> simp [fn, startA, sRet, sSeq, sIf, sSet, sNext, sNever, sFldA, sAsg, sPar, eAnd, eOr, eNot, eIf, eN, e1, e2, e1D, e2D, eCall, eTup, eLst, eOwn, eUse, aCons, aNil, eVar, eC, toB, tmOr, tmAnd, tmNot, tmYes, Res.bind, Res.noex, SR.ofE, endF, lift, cOne, iSeq, wipeA, Tgt.bind, setAll, fSub, fAdd, z]
      · have : r ≠ 1 := fun z => by
          rw [z, dd.at_] at hr
          injection hr with hr
          injection hr with hr
          have hr2 : ([.ref 0, .int 0, .int ((k + 2 + i : Nat) : Int)] : List Val) = (evI (1 + v)).map valP := hr
          cases ev : evI (1 + v) with
          | nil => rw [ev] at hr2; cases hr2
          | cons p ps => rw [ev] at hr2; cases hr2
        unfold nxH
        rw [List.getElem?_set_ne (Ne.symm this)]
        exact hr) 100000 0 (nxH (nxH h k) (k + 1) ++ l) (by simp [fn, startA, sRet, sSeq, sIf, sSet, sNext, sNever, sFldA, sAsg, sPar, eAnd, eOr, eNot, eIf, eN, e1, e2, e1D, e2D, eCall, eTup, eLst, eOwn, eUse, aCons, aNil, eVar, eC, toB, tmOr, tmAnd, tmNot, tmYes, Res.bind, Res.noex, SR.ofE, endF, lift, cOne, iSeq, wipeA, Tgt.bind, setAll, fSub, fAdd]; omega) (by omega) ⟨d3, q4, fun r n P o => o⟩
  obtain ⟨ys, h2, z1, z2, d4, _, kp⟩ := cs_
  rw [List.drop_zero] at z2
  obtain ⟨P, hP, rfl⟩ := List.sublist_map_iff.mp z2
  have pl : P.length ≤ 28 := Nat.le_trans hP.length_le hlen
  refine ⟨1 + v, P, h2, _, ?_, d4, by simp [fn, startA, sRet, sSeq, sIf, sSet, sNext, sNever, sFldA, sAsg, sPar, eAnd, eOr, eNot, eIf, eN, e1, e2, e1D, e2D, eCall, eTup, eLst, eOwn, eUse, aCons, aNil, eVar, eC, toB, tmOr, tmAnd, tmNot, tmYes, Res.bind, Res.noex, SR.ofE, endF, lift, cOne, iSeq, wipeA, Tgt.bind, setAll, fSub, fAdd]; omega, by omega, by omega, hP, ((Kp.nx d).trans (Kp.nx d1)).trans ((Kp.app _ l).trans kp)⟩
  have c1 : eComp [4] (iSeq (eCall m__law_every [] (aCons (eVar 2) aNil))) (.nm 4) (cOne (toB (e2 fLt (eCall m__law_next [] (aCons (eVar 0) (aCons (eC (.int 7)) aNil))) (eVar 3))) (eVar 4)) [some (.ref 1), some (.int 8), some (.int (1 + v)), some (.int (1 + u)), none] (nxH (nxH h k) (k + 1)) = .ok (P.map valP) h2 := by
    unfold eComp
    have m1 : iSeq (eCall m__law_every [] (aCons (eVar 2) aNil)) [some (.ref 1), some (.int 8), some (.int (1 + v)), some (.int (1 + u)), none] (nxH (nxH h k) (k + 1)) = .ok (.live r) (nxH (nxH h k) (k + 1) ++ l) := by
      simp only [iSeq, eCall, aCons, aNil, eVar, Res.bind, List.getElem?_cons_succ, List.getElem?_cons_zero, List.append_nil, q3, q4]
    rw [m1]
    simp only [Res.bind, compA, wipeA]
    show (match compS _ _ [some (.ref 1), some (.int 8), some (.int (1 + v)), some (.int (1 + u)), none] _ _ _ _ with | .ok xs h2 => if xs.length ≤ 100000 then Res.ok xs h2 else .stuck | _ => .stuck) = _
    rw [z1]
    dsimp only
    rw [if_pos (by simp [fn, startA, sRet, sSeq, sIf, sSet, sNext, sNever, sFldA, sAsg, sPar, eAnd, eOr, eNot, eIf, eN, e1, e2, e1D, e2D, eCall, eTup, eLst, eOwn, eUse, aCons, aNil, eVar, eC, toB, tmOr, tmAnd, tmNot, tmYes, Res.bind, Res.noex, SR.ofE, endF, lift, cOne, iSeq, wipeA, Tgt.bind, setAll, fSub, fAdd]; omega)]
  unfold m__law_rivals plV
  simp [fn, startA, sRet, sSeq, sIf, sSet, sNext, sNever, sFldA, sAsg, sPar, eAnd, eOr, eNot, eIf, eN, e1, e2, e1D, e2D, eCall, eTup, eLst, eOwn, eUse, aCons, aNil, eVar, eC, toB, tmOr, tmAnd, tmNot, tmYes, Res.bind, Res.noex, SR.ofE, endF, lift, cOne, iSeq, wipeA, Tgt.bind, setAll, fSub, fAdd, q1, q2, c1, tup_P]
theorem pairsA_map : ∀ P : List (Int × Int), (∀ p ∈ P, InB p) → pairsA (P.map valP) = some P
  | [], _ => rfl
  | p :: P, h => by
    rw [List.map_cons, pairsA, pairsA_map P fun q hq => h q (List.mem_cons_of_mem _ hq)]
    have : pairA (valP p) = some p := by
      have hp : 0 ≤ p.1 ∧ p.1 < 64 ∧ 0 ≤ p.2 ∧ p.2 < 64 := h p List.mem_cons_self
      show (if 0 ≤ p.1 ∧ p.1 < 64 ∧ 0 ≤ p.2 ∧ p.2 < 64 then some (p.1, p.2) else none) = some p
      rw [if_pos hp]
    rw [this]
def ring0 (s : Int) : List (Int × Int) := (List.range (s - 1).toNat).map (fun k => ((0 : Int) + (k : Nat), (0 : Int) + (k : Nat) + 1)) ++ [(0, s - 1)]
def ringP (s : Int) : List (Int × Int) := sortP (ring0 s)
theorem ring_good : ∀ k : Fin 6, (((ringP (3 + (k : Nat))).Pairwise (fun p q => p.1 < q.1 ∨ (p.1 = q.1 ∧ p.2 < q.2))) ∧ (∀ p ∈ ringP (3 + (k : Nat)), 0 ≤ p.1 ∧ p.1 < p.2 ∧ p.2 < (3 + (k : Nat) : Int)) ∧ (ringP (3 + (k : Nat))).length ≤ 28) ∧ (∀ p ∈ ring0 (3 + (k : Nat)), 0 ≤ p.1 ∧ p.1 < 64 ∧ 0 ≤ p.2 ∧ p.2 < 64) ∧ (ring0 (3 + (k : Nat))).length < 64 := by decide +kernel
theorem ring_ok {s : Int} (h3 : 3 ≤ s) (h8 : s ≤ 8) : Good s (ringP s) ∧ (∀ p ∈ ring0 s, InB p) ∧ (ring0 s).length < 64 := by
  obtain ⟨k, hk, rfl⟩ : ∃ k : Nat, k < 6 ∧ s = 3 + k := ⟨(s - 3).toNat, by omega, by omega⟩
  obtain ⟨⟨h1, h2, h4⟩, h5, h6⟩ := ring_good ⟨k, hk⟩
  exact ⟨⟨h1, h2, Nat.le_trans h4 (by decide)⟩, h5, h6⟩
theorem ring_eval {s : Int} (h3 : 3 ≤ s) (h8 : s ≤ 8) {v : Nat} {ms : ME} {env : AEnv} {en : Val → AEnv} (he : ∀ x, (wipeA env [v]).set v (some x) = en x) (hv : ∀ x, (en x)[v]? = some (some x)) (hm : ∀ h, ms env h = .ok (.int (s - 1)) h) (h : AH) :
    ∃ l, eN fSorted (aCons (e2 fAdd (eOwn (eComp [v] (iRng (aCons ms aNil)) (.nm v) (cOne tmYes (eTup (aCons (eVar v) (aCons (e2 fAdd (eVar v) (eC (.int 1))) aNil)))))) (eLst (aCons (eTup (aCons (eC (.int 0)) (aCons ms aNil))) aNil))) aNil) env h = .ok (.ref (h.length + 3)) (h ++ l) ∧ (h ++ l)[h.length + 3]? = some (.lst ((ringP s).map valP)) := by
  obtain ⟨g, b1, b2⟩ := ring_ok h3 h8
  have c1 : eComp [v] (iRng (aCons ms aNil)) (.nm v) (cOne tmYes (eTup (aCons (eVar v) (aCons (e2 fAdd (eVar v) (eC (.int 1))) aNil)))) env h = .ok (((rgv (s - 1)).filter fun _ => true).map fun x => match x with | .int i => valP (i, i + 1) | x => x) h := by
    refine eComp_vals (en := en) (iRng1 (hm h) (by omega) (by omega)) (rgv_len (by omega)) fun x hx => ⟨?_, ?_⟩
    · show some ((wipeA env [v]).set v (some x)) = _
      rw [he]
    · obtain ⟨j, rfl, _, _⟩ := rgv_mem hx
      simp [fn, startA, sRet, sSeq, sIf, sSet, sNext, sNever, sFldA, sAsg, sPar, eAnd, eOr, eNot, eIf, eN, e1, e2, e1D, e2D, eCall, eTup, eLst, eOwn, eUse, aCons, aNil, eVar, eC, toB, tmOr, tmAnd, tmNot, tmYes, Res.bind, Res.noex, SR.ofE, endF, lift, cOne, iSeq, wipeA, Tgt.bind, setAll, fSub, fAdd, hv, valP]
  have c2 : (((rgv (s - 1)).filter fun _ => true).map fun x => match x with | .int i => valP (i, i + 1) | x => x) = ((List.range (s - 1).toNat).map (fun k => ((0 : Int) + (k : Nat), (0 : Int) + (k : Nat) + 1))).map valP := by
    rw [List.filter_eq_self.mpr (fun _ _ => rfl)]
    unfold rgv
    rw [List.map_map, List.map_map]
    rfl
  rw [c2] at c1
  generalize hL : ((List.range (s - 1).toNat).map (fun k => ((0 : Int) + (k : Nat), (0 : Int) + (k : Nat) + 1))) = L1 at c1
  have r0 : ring0 s = L1 ++ [(0, s - 1)] := by unfold ring0; rw [hL]
  refine ⟨[.lst (L1.map valP), .lst [valP (0, s - 1)], .lst ((ring0 s).map valP), .lst ((ringP s).map valP)], ?_, ?_⟩
  · have a1 : (h ++ [AObj.lst (L1.map valP)] ++ [.lst [valP (0, s - 1)]])[h.length]? = some (.lst (L1.map valP)) := by
      rw [List.getElem?_append_left (by simp [fn, startA, sRet, sSeq, sIf, sSet, sNext, sNever, sFldA, sAsg, sPar, eAnd, eOr, eNot, eIf, eN, e1, e2, e1D, e2D, eCall, eTup, eLst, eOwn, eUse, aCons, aNil, eVar, eC, toB, tmOr, tmAnd, tmNot, tmYes, Res.bind, Res.noex, SR.ofE, endF, lift, cOne, iSeq, wipeA, Tgt.bind, setAll, fSub, fAdd])]
      simp [fn, startA, sRet, sSeq, sIf, sSet, sNext, sNever, sFldA, sAsg, sPar, eAnd, eOr, eNot, eIf, eN, e1, e2, e1D, e2D, eCall, eTup, eLst, eOwn, eUse, aCons, aNil, eVar, eC, toB, tmOr, tmAnd, tmNot, tmYes, Res.bind, Res.noex, SR.ofE, endF, lift, cOne, iSeq, wipeA, Tgt.bind, setAll, fSub, fAdd]
    have a2 : (h ++ [AObj.lst (L1.map valP)] ++ [.lst [valP (0, s - 1)]])[h.length + 1]? = some (.lst [valP (0, s - 1)]) := by
      have e : (h ++ [AObj.lst (L1.map valP)]).length = h.length + 1 := List.length_append
      rw [← e]
      exact at_new _ _
    have a3 : fAdd (.ref h.length) (.ref (h.length + 1)) (h ++ [AObj.lst (L1.map valP)] ++ [.lst [valP (0, s - 1)]]) = some (.ref (h.length + 2), h ++ [AObj.lst (L1.map valP)] ++ [.lst [valP (0, s - 1)]] ++ [.lst ((ring0 s).map valP)]) := by
      unfold fAdd
      simp only [a1, a2]
      have : L1.length < 64 := by rw [r0] at b2; simp [fn, startA, sRet, sSeq, sIf, sSet, sNext, sNever, sFldA, sAsg, sPar, eAnd, eOr, eNot, eIf, eN, e1, e2, e1D, e2D, eCall, eTup, eLst, eOwn, eUse, aCons, aNil, eVar, eC, toB, tmOr, tmAnd, tmNot, tmYes, Res.bind, Res.noex, SR.ofE, endF, lift, cOne, iSeq, wipeA, Tgt.bind, setAll, fSub, fAdd] at b2; omega
      rw [if_pos (by simp [fn, startA, sRet, sSeq, sIf, sSet, sNext, sNever, sFldA, sAsg, sPar, eAnd, eOr, eNot, eIf, eN, e1, e2, e1D, e2D, eCall, eTup, eLst, eOwn, eUse, aCons, aNil, eVar, eC, toB, tmOr, tmAnd, tmNot, tmYes, Res.bind, Res.noex, SR.ofE, endF, lift, cOne, iSeq, wipeA, Tgt.bind, setAll, fSub, fAdd]; omega), r0]
      simp [fn, startA, sRet, sSeq, sIf, sSet, sNext, sNever, sFldA, sAsg, sPar, eAnd, eOr, eNot, eIf, eN, e1, e2, e1D, e2D, eCall, eTup, eLst, eOwn, eUse, aCons, aNil, eVar, eC, toB, tmOr, tmAnd, tmNot, tmYes, Res.bind, Res.noex, SR.ofE, endF, lift, cOne, iSeq, wipeA, Tgt.bind, setAll, fSub, fAdd]
    have a4 : (h ++ [AObj.lst (L1.map valP)] ++ [.lst [valP (0, s - 1)]] ++ [.lst ((ring0 s).map valP)])[h.length + 2]? = some (.lst ((ring0 s).map valP)) := by
      have e : (h ++ [AObj.lst (L1.map valP)] ++ [AObj.lst [valP (0, s - 1)]]).length = h.length + 2 := by simp [fn, startA, sRet, sSeq, sIf, sSet, sNext, sNever, sFldA, sAsg, sPar, eAnd, eOr, eNot, eIf, eN, e1, e2, e1D, e2D, eCall, eTup, eLst, eOwn, eUse, aCons, aNil, eVar, eC, toB, tmOr, tmAnd, tmNot, tmYes, Res.bind, Res.noex, SR.ofE, endF, lift, cOne, iSeq, wipeA, Tgt.bind, setAll, fSub, fAdd]
      rw [← e]
      exact at_new _ _
    have a5 : fSorted [.ref (h.length + 2)] (h ++ [AObj.lst (L1.map valP)] ++ [.lst [valP (0, s - 1)]] ++ [.lst ((ring0 s).map valP)]) = some (.ref (h.length + 3), h ++ [AObj.lst (L1.map valP)] ++ [.lst [valP (0, s - 1)]] ++ [.lst ((ring0 s).map valP)] ++ [.lst ((ringP s).map valP)]) := by
      unfold fSorted
      simp only [a4, pairsA_map _ b1]
      rw [if_pos b2]
      simp [fn, startA, sRet, sSeq, sIf, sSet, sNext, sNever, sFldA, sAsg, sPar, eAnd, eOr, eNot, eIf, eN, e1, e2, e1D, e2D, eCall, eTup, eLst, eOwn, eUse, aCons, aNil, eVar, eC, toB, tmOr, tmAnd, tmNot, tmYes, Res.bind, Res.noex, SR.ofE, endF, lift, cOne, iSeq, wipeA, Tgt.bind, setAll, fSub, fAdd, ringP]
    have a6 : eLst (aCons (eTup (aCons (eC (.int 0)) (aCons ms aNil))) aNil) env (h ++ [.lst (L1.map valP)]) = .ok (.ref (h.length + 1)) (h ++ [.lst (L1.map valP)] ++ [.lst [valP (0, s - 1)]]) := by
      simp [fn, startA, sRet, sSeq, sIf, sSet, sNext, sNever, sFldA, sAsg, sPar, eAnd, eOr, eNot, eIf, eN, e1, e2, e1D, e2D, eCall, eTup, eLst, eOwn, eUse, aCons, aNil, eVar, eC, toB, tmOr, tmAnd, tmNot, tmYes, Res.bind, Res.noex, SR.ofE, endF, lift, cOne, iSeq, wipeA, Tgt.bind, setAll, fSub, fAdd, hm, valP]
    simp only [eN, aCons, e2, eOwn, c1, Res.bind, a6, a3, lift, aNil, a5]
    simp [fn, startA, sRet, sSeq, sIf, sSet, sNext, sNever, sFldA, sAsg, sPar, eAnd, eOr, eNot, eIf, eN, e1, e2, e1D, e2D, eCall, eTup, eLst, eOwn, eUse, aCons, aNil, eVar, eC, toB, tmOr, tmAnd, tmNot, tmYes, Res.bind, Res.noex, SR.ofE, endF, lift, cOne, iSeq, wipeA, Tgt.bind, setAll, fSub, fAdd]
  · have e : (h ++ [AObj.lst (L1.map valP)] ++ [AObj.lst [valP (0, s - 1)]] ++ [AObj.lst ((ring0 s).map valP)]).length = h.length + 3 := by simp [fn, startA, sRet, sSeq, sIf, sSet, sNext, sNever, sFldA, sAsg, sPar, eAnd, eOr, eNot, eIf, eN, e1, e2, e1D, e2D, eCall, eTup, eLst, eOwn, eUse, aCons, aNil, eVar, eC, toB, tmOr, tmAnd, tmNot, tmYes, Res.bind, Res.noex, SR.ofE, endF, lift, cOne, iSeq, wipeA, Tgt.bind, setAll, fSub, fAdd]
    rw [← e]
    have := at_new (h ++ [AObj.lst (L1.map valP)] ++ [.lst [valP (0, s - 1)]] ++ [.lst ((ring0 s).map valP)]) (.lst ((ringP s).map valP))
    simpa [fn, startA, sRet, sSeq, sIf, sSet, sNext, sNever, sFldA, sAsg, sPar, eAnd, eOr, eNot, eIf, eN, e1, e2, e1D, e2D, eCall, eTup, eLst, eOwn, eUse, aCons, aNil, eVar, eC, toB, tmOr, tmAnd, tmNot, tmYes, Res.bind, Res.noex, SR.ofE, endF, lift, cOne, iSeq, wipeA, Tgt.bind, setAll, fSub, fAdd] using this
theorem circle_ok {s : Int} (h3 : 3 ≤ s) (h8 : s ≤ 8) (h : AH) : ∃ l r, m_Rivals_circle [.cst 4, .int s] h = .ok (.ref r) (h ++ l) ∧ Ob (h ++ l) r s (ringP s) := by
  obtain ⟨l, q1, q2⟩ := ring_eval h3 h8 (v := 2) (ms := e2 fSub (eVar 1) (eC (.int 1))) (env := [some (.cst 4), some (.int s), none]) (en := fun x => [some (.cst 4), some (.int s), some x]) (fun _ => rfl) (fun _ => rfl) (fun h => by simp [fn, startA, sRet, sSeq, sIf, sSet, sNext, sNever, sFldA, sAsg, sPar, eAnd, eOr, eNot, eIf, eN, e1, e2, e1D, e2D, eCall, eTup, eLst, eOwn, eUse, aCons, aNil, eVar, eC, toB, tmOr, tmAnd, tmNot, tmYes, Res.bind, Res.noex, SR.ofE, endF, lift, cOne, iSeq, wipeA, Tgt.bind, setAll, fSub, fAdd]) h
  have g := (ring_ok h3 h8).1
  have tp : fTup [.ref (h.length + 3)] (h ++ l) = some (vP (ringP s), h ++ l) := by
    unfold fTup
    simp only [items, q2]
    rfl
  have c2 := make_ok g (by omega) (by omega) (ds := []) (as := aCons (eVar 1) (aCons (eN fTup (aCons (eN fSorted (aCons (e2 fAdd (eOwn (eComp [2] (iRng (aCons (e2 fSub (eVar 1) (eC (.int 1))) aNil)) (.nm 2) (cOne tmYes (eTup (aCons (eVar 2) (aCons (e2 fAdd (eVar 2) (eC (.int 1))) aNil)))))) (eLst (aCons (eTup (aCons (eC (.int 0)) (aCons (e2 fSub (eVar 1) (eC (.int 1))) aNil))) aNil))) aNil)) aNil)) aNil)) (env := [some (.cst 4), some (.int s), none]) (h := h) (h' := h ++ l) (by
    have z : ∀ m : ME, m [some (.cst 4), some (.int s), none] h = .ok (.ref (h.length + 3)) (h ++ l) → aCons (eVar 1) (aCons (eN fTup (aCons m aNil)) aNil) [some (.cst 4), some (.int s), none] h = .ok [.int s, vP (ringP s)] (h ++ l) := fun m e => by
      simp [fn, startA, sRet, sSeq, sIf, sSet, sNext, sNever, sFldA, sAsg, sPar, eAnd, eOr, eNot, eIf, eN, e1, e2, e1D, e2D, eCall, eTup, eLst, eOwn, eUse, aCons, aNil, eVar, eC, toB, tmOr, tmAnd, tmNot, tmYes, Res.bind, Res.noex, SR.ofE, endF, lift, cOne, iSeq, wipeA, Tgt.bind, setAll, fSub, fAdd, e, tp]
    exact z _ q1)
  refine ⟨l ++ [.junk, .obj 4 (h ++ l).length [some (.int s), some (vP (ringP s))]], (h ++ l).length + 1, ?_, ?_⟩
  · have e6 : (decide ((3 : Int) ≤ s) && decide (s ≤ 8)) = true := by simp [fn, startA, sRet, sSeq, sIf, sSet, sNext, sNever, sFldA, sAsg, sPar, eAnd, eOr, eNot, eIf, eN, e1, e2, e1D, e2D, eCall, eTup, eLst, eOwn, eUse, aCons, aNil, eVar, eC, toB, tmOr, tmAnd, tmNot, tmYes, Res.bind, Res.noex, SR.ofE, endF, lift, cOne, iSeq, wipeA, Tgt.bind, setAll, fSub, fAdd]; omega
    unfold m_Rivals_circle
    simp only [fn, List.length_cons, List.length_nil, if_true, startA, List.map_cons, List.map_nil]
    show endF (sSeq _ _ [some (.cst 4), some (.int s), none] h) = _
    have s1 : sIf (tmNot (toB (eCall m_is_number [] (aCons (eVar 1) (aCons (eC (.int 3)) (aCons (eC (.int 8)) aNil)))))) sNever sNext [some (.cst 4), some (.int s), none] h = .nx [some (.cst 4), some (.int s), none] h := by
      simp [fn, startA, sRet, sSeq, sIf, sSet, sNext, sNever, sFldA, sAsg, sPar, eAnd, eOr, eNot, eIf, eN, e1, e2, e1D, e2D, eCall, eTup, eLst, eOwn, eUse, aCons, aNil, eVar, eC, toB, tmOr, tmAnd, tmNot, tmYes, Res.bind, Res.noex, SR.ofE, endF, lift, cOne, iSeq, wipeA, Tgt.bind, setAll, fSub, fAdd, is_number_int, e6]
    rw [sSeq, s1]
    simp only [sRet, eMakeV, eVar, List.getElem?_cons_zero, Res.bind, if_true, c2, SR.ofE, endF]
    simp [fn, startA, sRet, sSeq, sIf, sSet, sNext, sNever, sFldA, sAsg, sPar, eAnd, eOr, eNot, eIf, eN, e1, e2, e1D, e2D, eCall, eTup, eLst, eOwn, eUse, aCons, aNil, eVar, eC, toB, tmOr, tmAnd, tmNot, tmYes, Res.bind, Res.noex, SR.ofE, endF, lift, cOne, iSeq, wipeA, Tgt.bind, setAll, fSub, fAdd, mkH]
  · have z := mk_Ob (h ++ l) s (ringP s)
    unfold mkH at z
    simpa [fn, startA, sRet, sSeq, sIf, sSet, sNext, sNever, sFldA, sAsg, sPar, eAnd, eOr, eNot, eIf, eN, e1, e2, e1D, e2D, eCall, eTup, eLst, eOwn, eUse, aCons, aNil, eVar, eC, toB, tmOr, tmAnd, tmNot, tmYes, Res.bind, Res.noex, SR.ofE, endF, lift, cOne, iSeq, wipeA, Tgt.bind, setAll, fSub, fAdd] using z
end Lw
namespace Lw
open PySem CI
theorem has_good {n : Int} {P : List (Int × Int)} (g : Good n P) {p : Int × Int} (h0 : 0 ≤ p.1) (h1 : p.1 < p.2) (h2 : p.2 < n) : has P n p = decide (p ∈ P) := by
  have q1 : inR n p = true := by unfold inR; simp [fn, startA, sRet, sSeq, sIf, sSet, sNext, sNever, sFldA, sAsg, sPar, eAnd, eOr, eNot, eIf, eN, e1, e2, e1D, e2D, eCall, eTup, eLst, eOwn, eUse, aCons, aNil, eVar, eC, toB, tmOr, tmAnd, tmNot, tmYes, Res.bind, Res.noex, SR.ofE, endF, lift, cOne, iSeq, wipeA, Tgt.bind, setAll, fSub, fAdd]; omega
  have q2 : (p.2, p.1) ∉ P := fun hm => by have := g.bd _ hm; simp [fn, startA, sRet, sSeq, sIf, sSet, sNext, sNever, sFldA, sAsg, sPar, eAnd, eOr, eNot, eIf, eN, e1, e2, e1D, e2D, eCall, eTup, eLst, eOwn, eUse, aCons, aNil, eVar, eC, toB, tmOr, tmAnd, tmNot, tmYes, Res.bind, Res.noex, SR.ofE, endF, lift, cOne, iSeq, wipeA, Tgt.bind, setAll, fSub, fAdd] at this; omega
  unfold has
  rw [q1, decide_eq_false q2]
  simp [fn, startA, sRet, sSeq, sIf, sSet, sNext, sNever, sFldA, sAsg, sPar, eAnd, eOr, eNot, eIf, eN, e1, e2, e1D, e2D, eCall, eTup, eLst, eOwn, eUse, aCons, aNil, eVar, eC, toB, tmOr, tmAnd, tmNot, tmYes, Res.bind, Res.noex, SR.ofE, endF, lift, cOne, iSeq, wipeA, Tgt.bind, setAll, fSub, fAdd]
theorem lex_key {p q : Int × Int} (hp : InB p) (hq : InB q) (h : lexP p q) : keyP p ≤ keyP q := by
  obtain ⟨a, b⟩ := p
  obtain ⟨c, d⟩ := q
  simp only [InB, lexP, keyP] at *
  omega
theorem Good.inb {n : Int} {P : List (Int × Int)} (g : Good n P) (h8 : n ≤ 8) : ∀ p ∈ P, InB p := fun p hp => by
  have := g.bd p hp
  unfold InB
  omega
theorem Good.sorted {n : Int} {P : List (Int × Int)} (g : Good n P) (h8 : n ≤ 8) : P.Pairwise (fun a b => keyP a ≤ keyP b) := by
  have := g.asc
  exact List.Pairwise.imp_of_mem (fun {a b} ha hb h => lex_key (g.inb h8 a ha) (g.inb h8 b hb) h) this
theorem Good.nodup {n : Int} {P : List (Int × Int)} (g : Good n P) : P.Nodup := g.asc.imp fun {a b} h e => by
  subst e
  unfold lexP at h
  omega
theorem join_eq {n : Int} {P O : List (Int × Int)} (gP : Good n P) (gO : Good n O) (h1 : 1 ≤ n) (h8 : n ≤ 8) : sortP (ddP (P ++ O)) = (evI n).filter fun p => has P n p || has O n p := by
  have ge := (Good.ev h1 h8).1
  have gf : Good n ((evI n).filter fun p => has P n p || has O n p) := ge.sub List.filter_sublist
  refine sorted_eq (fun p hp => ?_) ((sortP_perm _).trans (nodup_perm (ddP_nodup _) gf.nodup fun p => ?_)) (sortP_sorted _) (gf.sorted h8)
  · have := ddP_mem.mp ((sortP_perm _).mem_iff.mp hp)
    rcases List.mem_append.mp this with z | z
    · exact gP.inb h8 p z
    · exact gO.inb h8 p z
  · rw [ddP_mem, List.mem_append, List.mem_filter]
    constructor
    · intro z
      have b : 0 ≤ p.1 ∧ p.1 < p.2 ∧ p.2 < n := by
        rcases z with z | z
        · exact gP.bd p z
        · exact gO.bd p z
      refine ⟨ev_mem p b.1 b.2.1 b.2.2, ?_⟩
      rw [has_good gP b.1 b.2.1 b.2.2, has_good gO b.1 b.2.1 b.2.2]
      simpa [fn, startA, sRet, sSeq, sIf, sSet, sNext, sNever, sFldA, sAsg, sPar, eAnd, eOr, eNot, eIf, eN, e1, e2, e1D, e2D, eCall, eTup, eLst, eOwn, eUse, aCons, aNil, eVar, eC, toB, tmOr, tmAnd, tmNot, tmYes, Res.bind, Res.noex, SR.ofE, endF, lift, cOne, iSeq, wipeA, Tgt.bind, setAll, fSub, fAdd] using z
    · rintro ⟨z1, z2⟩
      have b := ge.bd p z1
      rw [has_good gP b.1 b.2.1 b.2.2, has_good gO b.1 b.2.1 b.2.2] at z2
      simpa [fn, startA, sRet, sSeq, sIf, sSet, sNext, sNever, sFldA, sAsg, sPar, eAnd, eOr, eNot, eIf, eN, e1, e2, e1D, e2D, eCall, eTup, eLst, eOwn, eUse, aCons, aNil, eVar, eC, toB, tmOr, tmAnd, tmNot, tmYes, Res.bind, Res.noex, SR.ofE, endF, lift, cOne, iSeq, wipeA, Tgt.bind, setAll, fSub, fAdd] using z2
theorem fine_call {h h' : AH} {env : AEnv} {a b : ME} {r : Nat} {n : Int} {P : List (Int × Int)} (ha : ∃ h1, a env h = .ok (.ref r) h1 ∧ b env h1 = .ok (plV n P) h') (o : Ob h' r n P) (g : Good n P) (h1 : 1 ≤ n) (h8 : n ≤ 8) : ∃ l, toB (eCall m__law_is_fine [] (aCons a (aCons b aNil))) env h = .ok true (h' ++ l) := by
  obtain ⟨hh, q1, q2⟩ := ha
  obtain ⟨l, q3⟩ := is_fine_ok o g h1 h8
  exact ⟨l, by simp [fn, startA, sRet, sSeq, sIf, sSet, sNext, sNever, sFldA, sAsg, sPar, eAnd, eOr, eNot, eIf, eN, e1, e2, e1D, e2D, eCall, eTup, eLst, eOwn, eUse, aCons, aNil, eVar, eC, toB, tmOr, tmAnd, tmNot, tmYes, Res.bind, Res.noex, SR.ofE, endF, lift, cOne, iSeq, wipeA, Tgt.bind, setAll, fSub, fAdd, q1, q2, q3]⟩
theorem not_if {c : MT} {env : AEnv} {h h' : AH} (q : c env h = .ok true h') : sIf (tmNot c) (sRet (eC (.bl false))) sNext env h = .nx env h' := by
  simp [fn, startA, sRet, sSeq, sIf, sSet, sNext, sNever, sFldA, sAsg, sPar, eAnd, eOr, eNot, eIf, eN, e1, e2, e1D, e2D, eCall, eTup, eLst, eOwn, eUse, aCons, aNil, eVar, eC, toB, tmOr, tmAnd, tmNot, tmYes, Res.bind, Res.noex, SR.ofE, endF, lift, cOne, iSeq, wipeA, Tgt.bind, setAll, fSub, fAdd, q]
theorem pl0 {env : AEnv} {i : Nat} {n : Int} {P : List (Int × Int)} (he : env[i]? = some (some (plV n P))) (h : AH) : e2D (dOwn2 fIx tb__getitem__3) (eVar i) (eC (.int 0)) env h = .ok (.int n) h := by
  simp only [e2D, eVar, he, eC, Res.bind]
  exact (ix_pl n P h).2
theorem pl1 {env : AEnv} {i : Nat} {n : Int} {P : List (Int × Int)} (he : env[i]? = some (some (plV n P))) (h : AH) : e2D (dOwn2 fIx tb__getitem__3) (eVar i) (eC (.int 1)) env h = .ok (vP P) h := by
  simp only [e2D, eVar, he, eC, Res.bind]
  exact (ix_pl n P h).1
theorem mk_pl {env : AEnv} {i : Nat} {n : Int} {P : List (Int × Int)} (he : env[i]? = some (some (plV n P))) (g : Good n P) (h1 : 1 ≤ n) (h8 : n ≤ 8) (h : AH) : eMake 4 m_Rivals___init__ [] (aCons (e2D (dOwn2 fIx tb__getitem__3) (eVar i) (eC (.int 0))) (aCons (e2D (dOwn2 fIx tb__getitem__3) (eVar i) (eC (.int 1))) aNil)) env h = .ok (.ref (h.length + 1)) (mkH h n P) :=
  make_ok g h1 h8 (ds := []) (by simp only [aCons, pl0 he, pl1 he, Res.bind, aNil])
theorem mkH_app (h : AH) (n : Int) (P : List (Int × Int)) : ∃ l, mkH h n P = h ++ l := ⟨[.junk, .obj 4 h.length [some (.int n), some (vP P)]], by simp [fn, startA, sRet, sSeq, sIf, sSet, sNext, sNever, sFldA, sAsg, sPar, eAnd, eOr, eNot, eIf, eN, e1, e2, e1D, e2D, eCall, eTup, eLst, eOwn, eUse, aCons, aNil, eVar, eC, toB, tmOr, tmAnd, tmNot, tmYes, Res.bind, Res.noex, SR.ofE, endF, lift, cOne, iSeq, wipeA, Tgt.bind, setAll, fSub, fAdd, mkH]⟩
/-- a tuple of some of a list's pairs -/
theorem pick_live {env : AEnv} {v i r : Nat} {P : List (Int × Int)} {c : MT} {f : Int × Int → Bool} {h : AH} {en : Val → AEnv} (hi : env[i]? = some (some (.ref r))) (hr : h[r]? = some (.lst (P.map valP))) (hl : P.length ≤ 1000) (he : ∀ x, (wipeA env [v]).set v (some x) = en x) (hv : ∀ x, (en x)[v]? = some (some x))
    (hc : ∀ p ∈ P, c (en (valP p)) h = .ok (f p) h) : eUse uTup (eComp [v] (iSeq (eVar i)) (.nm v) (cOne c (eVar v))) env h = .ok (vP (P.filter f)) h := by
  have c1 : eComp [v] (iSeq (eVar i)) (.nm v) (cOne c (eVar v)) env h = .ok (((P.map valP).filter (cV f)).map id) h := by
    refine eComp_live (r := r) (en := en) (by simp only [iSeq, eVar, hi, Res.bind, hr]) hr (by simpa [fn, startA, sRet, sSeq, sIf, sSet, sNext, sNever, sFldA, sAsg, sPar, eAnd, eOr, eNot, eIf, eN, e1, e2, e1D, e2D, eCall, eTup, eLst, eOwn, eUse, aCons, aNil, eVar, eC, toB, tmOr, tmAnd, tmNot, tmYes, Res.bind, Res.noex, SR.ofE, endF, lift, cOne, iSeq, wipeA, Tgt.bind, setAll, fSub, fAdd] using hl) fun x hx => ⟨?_, ?_⟩
    · show some ((wipeA env [v]).set v (some x)) = _
      rw [he]
    · obtain ⟨p, hp, rfl⟩ := List.mem_map.mp hx
      simp only [cOne, hc p hp, Res.noex, Res.bind, eVar, hv]
      show _ = Res.ok (if f p = true then [id (valP p)] else []) h
      by_cases z : f p = true <;> simp [fn, startA, sRet, sSeq, sIf, sSet, sNext, sNever, sFldA, sAsg, sPar, eAnd, eOr, eNot, eIf, eN, e1, e2, e1D, e2D, eCall, eTup, eLst, eOwn, eUse, aCons, aNil, eVar, eC, toB, tmOr, tmAnd, tmNot, tmYes, Res.bind, Res.noex, SR.ofE, endF, lift, cOne, iSeq, wipeA, Tgt.bind, setAll, fSub, fAdd, z]
  rw [List.map_id, filter_cV] at c1
  simp only [eUse, c1, Res.bind, tup_P]
theorem pick_vals {env : AEnv} {v : Nat} {m : ME} {P : List (Int × Int)} {c : MT} {f : Int × Int → Bool} {h : AH} {en : Val → AEnv} (hi : m env h = .ok (vP P) h) (hl : P.length ≤ 1000) (he : ∀ x, (wipeA env [v]).set v (some x) = en x) (hv : ∀ x, (en x)[v]? = some (some x))
    (hc : ∀ p ∈ P, c (en (valP p)) h = .ok (f p) h) : eUse uTup (eComp [v] (iSeq m) (.nm v) (cOne c (eVar v))) env h = .ok (vP (P.filter f)) h := by
  have c1 : eComp [v] (iSeq m) (.nm v) (cOne c (eVar v)) env h = .ok (((P.map valP).filter (cV f)).map id) h := by
    refine eComp_vals (xs := P.map valP) (en := en) (by simp only [iSeq, hi, Res.bind, vP]) (by simpa [fn, startA, sRet, sSeq, sIf, sSet, sNext, sNever, sFldA, sAsg, sPar, eAnd, eOr, eNot, eIf, eN, e1, e2, e1D, e2D, eCall, eTup, eLst, eOwn, eUse, aCons, aNil, eVar, eC, toB, tmOr, tmAnd, tmNot, tmYes, Res.bind, Res.noex, SR.ofE, endF, lift, cOne, iSeq, wipeA, Tgt.bind, setAll, fSub, fAdd] using hl) fun x hx => ⟨?_, ?_⟩
    · show some ((wipeA env [v]).set v (some x)) = _
      rw [he]
    · obtain ⟨p, hp, rfl⟩ := List.mem_map.mp hx
      simp only [cOne, hc p hp, Res.noex, Res.bind, eVar, hv]
      show _ = Res.ok (if f p = true then [id (valP p)] else []) h
      by_cases z : f p = true <;> simp [fn, startA, sRet, sSeq, sIf, sSet, sNext, sNever, sFldA, sAsg, sPar, eAnd, eOr, eNot, eIf, eN, e1, e2, e1D, e2D, eCall, eTup, eLst, eOwn, eUse, aCons, aNil, eVar, eC, toB, tmOr, tmAnd, tmNot, tmYes, Res.bind, Res.noex, SR.ofE, endF, lift, cOne, iSeq, wipeA, Tgt.bind, setAll, fSub, fAdd, z]
  rw [List.map_id, filter_cV] at c1
  simp only [eUse, c1, Res.bind, tup_P]
end Lw
namespace Lw
open PySem CI
def part0 : MS := (sAsg (.tp [8, 9]) (eTup (aCons (eCall m__law_rivals [] (aCons (eVar 1) (aCons (eC (.int 8)) aNil))) (aCons (eCall m__law_rivals [] (aCons (eVar 1) (aCons (eC (.int 8)) aNil))) aNil))))
def part1 : MS := (sPar [10, 11] (aCons (eMake 4 m_Rivals___init__ [] (aCons (e2D (dOwn2 fIx tb__getitem__3) (eVar 8) (eC (.int 0))) (aCons (e2D (dOwn2 fIx tb__getitem__3) (eVar 8) (eC (.int 1))) aNil))) (aCons (eMake 4 m_Rivals___init__ [] (aCons (e2D (dOwn2 fIx tb__getitem__3) (eVar 9) (eC (.int 0))) (aCons (e2D (dOwn2 fIx tb__getitem__3) (eVar 9) (eC (.int 1))) aNil))) aNil)))
def part2 : MS := (sSet 3 (eCall m__law_every [] (aCons (e2D (dOwn2 fIx tb__getitem__3) (eVar 8) (eC (.int 0))) aNil)))
def part3 : MS := (sIf (tmOr (tmNot (toB (eCall m__law_is_fine [] (aCons (eVar 10) (aCons (eVar 8) aNil))))) (tmNot (toB (eCall m__law_is_fine [] (aCons (eVar 11) (aCons (eVar 9) aNil)))))) (sRet (eC (.bl false))) sNext)
def part4 : MS := (sIf (tmNot (toB (eCall m__law_is_fine [] (aCons (e1D (dOwn1 (fun _ _ => none) tb__invert__6) (eVar 10)) (aCons (eTup (aCons (e2D (dOwn2 fIx tb__getitem__3) (eVar 8) (eC (.int 0))) (aCons (eUse uTup (eComp [12] (iSeq (eVar 3)) (.nm 12) (cOne (toB (e2D (dIn fNotIn tb__contains__1 not) (eVar 12) (e2D (dOwn2 fIx tb__getitem__3) (eVar 8) (eC (.int 1))))) (eVar 12)))) aNil))) aNil))))) (sRet (eC (.bl false))) sNext)
def part5 : MS := (sIf (tmAnd (toB (e2D (dEq fNe tb__eq__2 nft not) (e2D (dOwn2 fIx tb__getitem__3) (eVar 8) (eC (.int 0))) (e2D (dOwn2 fIx tb__getitem__3) (eVar 9) (eC (.int 0))))) (tmNot (toB (eCall m__law_refuses [] (aCons (eVar 10) (aCons (eVar 11) aNil)))))) (sRet (eC (.bl false))) sNext)
def part6 : MS := (sSet 4 (eUse uTup (eComp [12] (iSeq (eVar 3)) (.nm 12) (cOne (toB (e2D (dIn fIn tb__contains__1 id) (eVar 12) (e2D (dOwn2 fIx tb__getitem__3) (eVar 9) (eC (.int 1))))) (eVar 12)))))
def part7 : MS := (sSet 5 (eMake 4 m_Rivals___init__ [] (aCons (e2D (dOwn2 fIx tb__getitem__3) (eVar 8) (eC (.int 0))) (aCons (eVar 4) aNil))))
def part8 : MS := (sIf (tmNot (toB (eCall m__law_is_fine [] (aCons (e2D (dBin fNo tb__or__5) (eVar 10) (eVar 5)) (aCons (eTup (aCons (e2D (dOwn2 fIx tb__getitem__3) (eVar 8) (eC (.int 0))) (aCons (eN fTup (aCons (eSortSet (e2 fAdd (e2D (dOwn2 fIx tb__getitem__3) (eVar 8) (eC (.int 1))) (eVar 4))) aNil)) aNil))) aNil))))) (sRet (eC (.bl false))) sNext)
def part9 : MS := (sIf (tmNot (toB (eCall m__law_is_fine [] (aCons (e2D (dBin fSub tb__sub__4) (eVar 10) (eVar 5)) (aCons (eTup (aCons (e2D (dOwn2 fIx tb__getitem__3) (eVar 8) (eC (.int 0))) (aCons (eUse uTup (eComp [12] (iSeq (e2D (dOwn2 fIx tb__getitem__3) (eVar 8) (eC (.int 1)))) (.nm 12) (cOne (toB (e2D (dIn fNotIn tb__contains__1 not) (eVar 12) (eVar 4))) (eVar 12)))) aNil))) aNil))))) (sRet (eC (.bl false))) sNext)
def part10 : MS := (sIf (tmOr (toB (e2D (dEq fNe tb__eq__2 nft not) (e2D (dEq fEq tb__eq__2 nft id) (eVar 10) (eVar 11)) (e2D (dEq fEq tb__eq__2 nft id) (eVar 8) (eVar 9)))) (toB (e2D (dEq fNe tb__eq__2 nft not) (eVar 10) (eMake 4 m_Rivals___init__ [] (aCons (e2D (dOwn2 fIx tb__getitem__3) (eVar 8) (eC (.int 0))) (aCons (e2D (dOwn2 fIx tb__getitem__3) (eVar 8) (eC (.int 1))) aNil)))))) (sRet (eC (.bl false))) sNext)
def part11 : MS := (sIf (tmNot (toB (eCall m__law_is_fine [] (aCons (eVar 10) (aCons (eVar 8) aNil))))) (sRet (eC (.bl false))) sNext)
def part12 : MS := (sSet 6 (e2 fAdd (eC (.int 3)) (eCall m__law_next [] (aCons (eVar 1) (aCons (eC (.int 6)) aNil)))))
def part13 : MS := (sSet 7 (eN fSorted (aCons (e2 fAdd (eOwn (eComp [13] (iRng (aCons (e2D (dBin fSub tb__sub__4) (eVar 6) (eC (.int 1))) aNil)) (.nm 13) (cOne tmYes (eTup (aCons (eVar 13) (aCons (e2 fAdd (eVar 13) (eC (.int 1))) aNil)))))) (eLst (aCons (eTup (aCons (eC (.int 0)) (aCons (e2D (dBin fSub tb__sub__4) (eVar 6) (eC (.int 1))) aNil))) aNil))) aNil)))
def part14 : MS := (sIf (tmNot (toB (eCall m__law_is_fine [] (aCons (eCMeth 4 m_Rivals_circle (eC (.cst 4)) (aCons (eVar 6) aNil)) (aCons (eTup (aCons (eVar 6) (aCons (eN fTup (aCons (eVar 7) aNil)) aNil))) aNil))))) (sRet (eC (.bl false))) sNext)
def bodyL : MS := (sSeq part0 (sSeq part1 (sSeq part2 (sSeq part3 (sSeq part4 (sSeq part5 (sSeq part6 (sSeq part7 (sSeq part8 (sSeq part9 (sSeq part10 (sSeq part11 (sSeq part12 (sSeq part13 part14))))))))))))))
abbrev EV (s0 x2 c3 c4 c5 c6 c7 c8 c9 c10 c11 c12 c13 : Option Val) : AEnv := [s0, some (.ref 1), x2, c3, c4, c5, c6, c7, c8, c9, c10, c11, c12, c13]
section
variable {s0 x2 c3 c4 c5 c6 c7 c8 c9 c10 c11 c12 c13 : Option Val} {h : AH} {cs : List Int} {k : Nat} {n m : Int} {P Q O : List (Int × Int)} {r1 r2 r3 r5 : Nat}
theorem st0 (d : Dr h cs k) (hk : k ≤ 5000) : ∃ n P m Q h' k', part0 (EV s0 x2 c3 c4 c5 c6 c7 c8 c9 c10 c11 c12 c13) h = .nx (EV s0 x2 c3 c4 c5 c6 c7 (some (plV n P)) (some (plV m Q)) c10 c11 c12 c13) h' ∧ Dr h' cs k' ∧ k' ≤ k + 60 ∧ 1 ≤ n ∧ n ≤ 8 ∧ Good n P ∧ 1 ≤ m ∧ m ≤ 8 ∧ Good m Q := by
  obtain ⟨n, P, hA, kA, q1, dA, ka, n1, n8, sP, _⟩ := rivals_ok d (by omega)
  obtain ⟨m, Q, hB, kB, q2, dB, kb, m1, m8, sQ, _⟩ := rivals_ok dA (by omega)
  exact ⟨n, P, m, Q, hB, kB, by unfold part0; simp [fn, startA, sRet, sSeq, sIf, sSet, sNext, sNever, sFldA, sAsg, sPar, eAnd, eOr, eNot, eIf, eN, e1, e2, e1D, e2D, eCall, eTup, eLst, eOwn, eUse, aCons, aNil, eVar, eC, toB, tmOr, tmAnd, tmNot, tmYes, Res.bind, Res.noex, SR.ofE, endF, lift, cOne, iSeq, wipeA, Tgt.bind, setAll, fSub, fAdd, q1, q2], dB, by omega, n1, n8, (Good.ev n1 n8).1.sub sP, m1, m8, (Good.ev m1 m8).1.sub sQ⟩
theorem st1 (gP : Good n P) (n1 : 1 ≤ n) (n8 : n ≤ 8) (gQ : Good m Q) (m1 : 1 ≤ m) (m8 : m ≤ 8) : ∃ l r1 r2, part1 (EV s0 x2 c3 c4 c5 c6 c7 (some (plV n P)) (some (plV m Q)) c10 c11 c12 c13) h = .nx (EV s0 x2 c3 c4 c5 c6 c7 (some (plV n P)) (some (plV m Q)) (some (.ref r1)) (some (.ref r2)) c12 c13) (h ++ l) ∧ Ob (h ++ l) r1 n P ∧ Ob (h ++ l) r2 m Q := by
  obtain ⟨l1, e1'⟩ := mkH_app h n P
  obtain ⟨l2, e2'⟩ := mkH_app (mkH h n P) m Q
  refine ⟨l1 ++ l2, h.length + 1, (mkH h n P).length + 1, ?_, ?_, ?_⟩
  · rw [← List.append_assoc, ← e1', ← e2']
    unfold part1
    simp only [sPar, aCons, aNil, mk_pl (env := EV s0 x2 c3 c4 c5 c6 c7 (some (plV n P)) (some (plV m Q)) c10 c11 c12 c13) (i := 8) rfl gP n1 n8, mk_pl (env := EV s0 x2 c3 c4 c5 c6 c7 (some (plV n P)) (some (plV m Q)) c10 c11 c12 c13) (i := 9) rfl gQ m1 m8, Res.bind, SR.ofE]
    rfl
  · rw [← List.append_assoc, ← e1']
    exact (mk_Ob h n P).up l2
  · rw [← List.append_assoc, ← e1', ← e2']
    exact mk_Ob _ m Q
theorem st2 (n1 : 1 ≤ n) (n8 : n ≤ 8) : ∃ l r3, part2 (EV s0 x2 c3 c4 c5 c6 c7 (some (plV n P)) c9 c10 c11 c12 c13) h = .nx (EV s0 x2 (some (.ref r3)) c4 c5 c6 c7 (some (plV n P)) c9 c10 c11 c12 c13) (h ++ l) ∧ (h ++ l)[r3]? = some (.lst ((evI n).map valP)) := by
  obtain ⟨l, r, q1, q2⟩ := every_ok n1 n8 h
  refine ⟨l, r, ?_, q2⟩
  unfold part2
  simp only [sSet, eCall, aCons, aNil, pl0 (env := EV s0 x2 c3 c4 c5 c6 c7 (some (plV n P)) c9 c10 c11 c12 c13) (i := 8) rfl, Res.bind, List.append_nil, q1, SR.ofE]
  rfl
theorem st3 (oP : Ob h r1 n P) (gP : Good n P) (n1 : 1 ≤ n) (n8 : n ≤ 8) (oQ : Ob h r2 m Q) (gQ : Good m Q) (m1 : 1 ≤ m) (m8 : m ≤ 8) : ∃ l, part3 (EV s0 x2 c3 c4 c5 c6 c7 (some (plV n P)) (some (plV m Q)) (some (.ref r1)) (some (.ref r2)) c12 c13) h = .nx (EV s0 x2 c3 c4 c5 c6 c7 (some (plV n P)) (some (plV m Q)) (some (.ref r1)) (some (.ref r2)) c12 c13) (h ++ l) := by
  obtain ⟨l1, q1⟩ := is_fine_ok oP gP n1 n8
  obtain ⟨l2, q2⟩ := is_fine_ok (oQ.up l1) gQ m1 m8
  refine ⟨l1 ++ l2, ?_⟩
  rw [← List.append_assoc]
  unfold part3
  simp [fn, startA, sRet, sSeq, sIf, sSet, sNext, sNever, sFldA, sAsg, sPar, eAnd, eOr, eNot, eIf, eN, e1, e2, e1D, e2D, eCall, eTup, eLst, eOwn, eUse, aCons, aNil, eVar, eC, toB, tmOr, tmAnd, tmNot, tmYes, Res.bind, Res.noex, SR.ofE, endF, lift, cOne, iSeq, wipeA, Tgt.bind, setAll, fSub, fAdd, q1, q2]
theorem st4 (oP : Ob h r1 n P) (gP : Good n P) (n1 : 1 ≤ n) (n8 : n ≤ 8) (hr : h[r3]? = some (.lst ((evI n).map valP))) : ∃ l, part4 (EV s0 x2 (some (.ref r3)) c4 c5 c6 c7 (some (plV n P)) c9 (some (.ref r1)) c11 c12 c13) h = .nx (EV s0 x2 (some (.ref r3)) c4 c5 c6 c7 (some (plV n P)) c9 (some (.ref r1)) c11 c12 c13) (h ++ l) := by
  obtain ⟨l1, q1, o1⟩ := invert_ok oP n1 n8
  have ge := (Good.ev n1 n8).1
  have eqf : ((evI n).filter fun p => !has P n p) = (evI n).filter fun p => !decide (p ∈ P) := List.filter_congr fun p hp => by
    have b := ge.bd p hp
    rw [has_good gP b.1 b.2.1 b.2.2]
  rw [eqf] at o1
  have gd : Good n ((evI n).filter fun p => !decide (p ∈ P)) := ge.sub List.filter_sublist
  have hr' : (h ++ l1)[r3]? = some (.lst ((evI n).map valP)) := by rw [List.getElem?_append_left (List.getElem?_eq_some_iff.mp hr).1]; exact hr
  have pk := pick_live (env := EV s0 x2 (some (.ref r3)) c4 c5 c6 c7 (some (plV n P)) c9 (some (.ref r1)) c11 c12 c13) (v := 12) (i := 3) (r := r3) (P := evI n) (h := h ++ l1) (c := toB (e2D (dIn fNotIn tb__contains__1 not) (eVar 12) (e2D (dOwn2 fIx tb__getitem__3) (eVar 8) (eC (.int 1))))) (f := fun p => !decide (p ∈ P))
    (en := fun x => EV s0 x2 (some (.ref r3)) c4 c5 c6 c7 (some (plV n P)) c9 (some (.ref r1)) c11 (some x) c13) rfl hr' (by have := ge.few; omega) (fun _ => rfl) (fun _ => rfl) (fun p hp => by
      simp only [toB, e2D, eVar, Res.bind, pl1 (env := EV s0 x2 (some (.ref r3)) c4 c5 c6 c7 (some (plV n P)) c9 (some (.ref r1)) c11 (some (valP p)) c13) (i := 8) rfl]
      have := notin_vP (h ++ l1) p P
      have z := (ix_pl n P (h ++ l1)).1
      simp [fn, startA, sRet, sSeq, sIf, sSet, sNext, sNever, sFldA, sAsg, sPar, eAnd, eOr, eNot, eIf, eN, e1, e2, e1D, e2D, eCall, eTup, eLst, eOwn, eUse, aCons, aNil, eVar, eC, toB, tmOr, tmAnd, tmNot, tmYes, Res.bind, Res.noex, SR.ofE, endF, lift, cOne, iSeq, wipeA, Tgt.bind, setAll, fSub, fAdd, this, z])
  obtain ⟨l2, q2⟩ := fine_call (env := EV s0 x2 (some (.ref r3)) c4 c5 c6 c7 (some (plV n P)) c9 (some (.ref r1)) c11 c12 c13) (h := h) (h' := h ++ l1) (a := e1D (dOwn1 (fun _ _ => none) tb__invert__6) (eVar 10))
    (b := eTup (aCons (e2D (dOwn2 fIx tb__getitem__3) (eVar 8) (eC (.int 0))) (aCons (eUse uTup (eComp [12] (iSeq (eVar 3)) (.nm 12) (cOne (toB (e2D (dIn fNotIn tb__contains__1 not) (eVar 12) (e2D (dOwn2 fIx tb__getitem__3) (eVar 8) (eC (.int 1))))) (eVar 12)))) aNil))) ⟨h ++ l1, q1, by
      simp only [eTup, aCons, aNil, pl0 (env := EV s0 x2 (some (.ref r3)) c4 c5 c6 c7 (some (plV n P)) c9 (some (.ref r1)) c11 c12 c13) (i := 8) rfl, Res.bind, pk]
      rfl⟩ o1 gd n1 n8
  refine ⟨l1 ++ l2, ?_⟩
  rw [← List.append_assoc]
  unfold part4
  exact not_if q2
theorem st5 (oP : Ob h r1 n P) (oQ : Ob h r2 m Q) : part5 (EV s0 x2 c3 c4 c5 c6 c7 (some (plV n P)) (some (plV m Q)) (some (.ref r1)) (some (.ref r2)) c12 c13) h = .nx (EV s0 x2 c3 c4 c5 c6 c7 (some (plV n P)) (some (plV m Q)) (some (.ref r1)) (some (.ref r2)) c12 c13) h := by
  have z1 := (ix_pl n P h).2
  have z2 := (ix_pl m Q h).2
  unfold part5
  by_cases hn : n = m
  · subst hn
    simp [fn, startA, sRet, sSeq, sIf, sSet, sNext, sNever, sFldA, sAsg, sPar, eAnd, eOr, eNot, eIf, eN, e1, e2, e1D, e2D, eCall, eTup, eLst, eOwn, eUse, aCons, aNil, eVar, eC, toB, tmOr, tmAnd, tmNot, tmYes, Res.bind, Res.noex, SR.ofE, endF, lift, cOne, iSeq, wipeA, Tgt.bind, setAll, fSub, fAdd, z1, z2, ne_int]
  · simp [fn, startA, sRet, sSeq, sIf, sSet, sNext, sNever, sFldA, sAsg, sPar, eAnd, eOr, eNot, eIf, eN, e1, e2, e1D, e2D, eCall, eTup, eLst, eOwn, eUse, aCons, aNil, eVar, eC, toB, tmOr, tmAnd, tmNot, tmYes, Res.bind, Res.noex, SR.ofE, endF, lift, cOne, iSeq, wipeA, Tgt.bind, setAll, fSub, fAdd, z1, z2, ne_int, hn, refuses_ok oP oQ hn]
theorem st6 (n1 : 1 ≤ n) (n8 : n ≤ 8) (hr : h[r3]? = some (.lst ((evI n).map valP))) : part6 (EV s0 x2 (some (.ref r3)) c4 c5 c6 c7 c8 (some (plV m Q)) c10 c11 c12 c13) h = .nx (EV s0 x2 (some (.ref r3)) (some (vP ((evI n).filter fun p => decide (p ∈ Q)))) c5 c6 c7 c8 (some (plV m Q)) c10 c11 c12 c13) h := by
  have ge := (Good.ev n1 n8).1
  have pk := pick_live (env := EV s0 x2 (some (.ref r3)) c4 c5 c6 c7 c8 (some (plV m Q)) c10 c11 c12 c13) (v := 12) (i := 3) (r := r3) (P := evI n) (h := h) (c := toB (e2D (dIn fIn tb__contains__1 id) (eVar 12) (e2D (dOwn2 fIx tb__getitem__3) (eVar 9) (eC (.int 1))))) (f := fun p => decide (p ∈ Q))
    (en := fun x => EV s0 x2 (some (.ref r3)) c4 c5 c6 c7 c8 (some (plV m Q)) c10 c11 (some x) c13) rfl hr (by have := ge.few; omega) (fun _ => rfl) (fun _ => rfl) (fun p hp => by
      have := in_vP h p Q
      have z := (ix_pl m Q h).1
      simp [fn, startA, sRet, sSeq, sIf, sSet, sNext, sNever, sFldA, sAsg, sPar, eAnd, eOr, eNot, eIf, eN, e1, e2, e1D, e2D, eCall, eTup, eLst, eOwn, eUse, aCons, aNil, eVar, eC, toB, tmOr, tmAnd, tmNot, tmYes, Res.bind, Res.noex, SR.ofE, endF, lift, cOne, iSeq, wipeA, Tgt.bind, setAll, fSub, fAdd, this, z])
  unfold part6
  simp only [sSet, pk, SR.ofE]
  rfl
theorem st7 (gO : Good n O) (n1 : 1 ≤ n) (n8 : n ≤ 8) : ∃ l r5, part7 (EV s0 x2 c3 (some (vP O)) c5 c6 c7 (some (plV n P)) c9 c10 c11 c12 c13) h = .nx (EV s0 x2 c3 (some (vP O)) (some (.ref r5)) c6 c7 (some (plV n P)) c9 c10 c11 c12 c13) (h ++ l) ∧ Ob (h ++ l) r5 n O := by
  obtain ⟨l1, e1'⟩ := mkH_app h n O
  refine ⟨l1, h.length + 1, ?_, by rw [← e1']; exact mk_Ob h n O⟩
  rw [← e1']
  have q := make_ok gO n1 n8 (ds := []) (as := aCons (e2D (dOwn2 fIx tb__getitem__3) (eVar 8) (eC (.int 0))) (aCons (eVar 4) aNil)) (env := EV s0 x2 c3 (some (vP O)) c5 c6 c7 (some (plV n P)) c9 c10 c11 c12 c13) (h := h) (h' := h) (by
    simp only [aCons, pl0 (env := EV s0 x2 c3 (some (vP O)) c5 c6 c7 (some (plV n P)) c9 c10 c11 c12 c13) (i := 8) rfl, Res.bind, aNil, eVar]
    rfl)
  unfold part7
  simp only [sSet, q, SR.ofE]
  rfl
theorem st8 (oP : Ob h r1 n P) (gP : Good n P) (oO : Ob h r5 n O) (gO : Good n O) (n1 : 1 ≤ n) (n8 : n ≤ 8) : ∃ l, part8 (EV s0 x2 c3 (some (vP O)) (some (.ref r5)) c6 c7 (some (plV n P)) c9 (some (.ref r1)) c11 c12 c13) h = .nx (EV s0 x2 c3 (some (vP O)) (some (.ref r5)) c6 c7 (some (plV n P)) c9 (some (.ref r1)) c11 c12 c13) (h ++ l) := by
  obtain ⟨l1, q1, o1⟩ := or_ok oP oO n1 n8
  rw [← join_eq gP gO n1 n8] at o1
  have gd : Good n (sortP (ddP (P ++ O))) := by rw [join_eq gP gO n1 n8]; exact (Good.ev n1 n8).1.sub List.filter_sublist
  have lP : P.length ≤ 28 := by
    have z : P.Sublist P := List.Sublist.refl _
    have nd := gP.nodup
    have sub : ∀ p ∈ P, p ∈ evI n := fun p hp => ev_mem p (gP.bd p hp).1 (gP.bd p hp).2.1 (gP.bd p hp).2.2
    exact Nat.le_trans (List.Nodup.length_le_of_subset nd sub) (Good.ev n1 n8).2
  have lO : O.length ≤ 28 := by
    have nd := gO.nodup
    have sub : ∀ p ∈ O, p ∈ evI n := fun p hp => ev_mem p (gO.bd p hp).1 (gO.bd p hp).2.1 (gO.bd p hp).2.2
    exact Nat.le_trans (List.Nodup.length_le_of_subset nd sub) (Good.ev n1 n8).2
  have hin : ∀ p ∈ P ++ O, InB p := fun p hp => by
    rcases List.mem_append.mp hp with z | z
    · exact gP.inb n8 p z
    · exact gO.inb n8 p z
  have a1 : fAdd (vP P) (vP O) (h ++ l1) = some (.tup ((P ++ O).map valP), h ++ l1) := by
    show (if (P.map valP).length + (O.map valP).length ≤ 100000 then some (Val.tup (P.map valP ++ O.map valP), h ++ l1) else none) = _
    rw [if_pos (by simp [fn, startA, sRet, sSeq, sIf, sSet, sNext, sNever, sFldA, sAsg, sPar, eAnd, eOr, eNot, eIf, eN, e1, e2, e1D, e2D, eCall, eTup, eLst, eOwn, eUse, aCons, aNil, eVar, eC, toB, tmOr, tmAnd, tmNot, tmYes, Res.bind, Res.noex, SR.ofE, endF, lift, cOne, iSeq, wipeA, Tgt.bind, setAll, fSub, fAdd]; omega), List.map_append]
  have a2 : eSortSet (e2 fAdd (e2D (dOwn2 fIx tb__getitem__3) (eVar 8) (eC (.int 1))) (eVar 4)) (EV s0 x2 c3 (some (vP O)) (some (.ref r5)) c6 c7 (some (plV n P)) c9 (some (.ref r1)) c11 c12 c13) (h ++ l1) = .ok (.ref (h ++ l1).length) (h ++ l1 ++ [.lst ((sortP (ddP (P ++ O))).map valP)]) := by
    have z : e2 fAdd (e2D (dOwn2 fIx tb__getitem__3) (eVar 8) (eC (.int 1))) (eVar 4) (EV s0 x2 c3 (some (vP O)) (some (.ref r5)) c6 c7 (some (plV n P)) c9 (some (.ref r1)) c11 c12 c13) (h ++ l1) = .ok (.tup ((P ++ O).map valP)) (h ++ l1) := by
      simp only [e2, pl1 (env := EV s0 x2 c3 (some (vP O)) (some (.ref r5)) c6 c7 (some (plV n P)) c9 (some (.ref r1)) c11 c12 c13) (i := 8) rfl, Res.bind, eVar]
      show (lift (fAdd (vP P) (vP O) (h ++ l1))) = _
      rw [a1]
      rfl
    unfold eSortSet
    rw [z]
    simp only [Res.bind, pairsA_map _ hin]
    rw [if_pos (by simp [fn, startA, sRet, sSeq, sIf, sSet, sNext, sNever, sFldA, sAsg, sPar, eAnd, eOr, eNot, eIf, eN, e1, e2, e1D, e2D, eCall, eTup, eLst, eOwn, eUse, aCons, aNil, eVar, eC, toB, tmOr, tmAnd, tmNot, tmYes, Res.bind, Res.noex, SR.ofE, endF, lift, cOne, iSeq, wipeA, Tgt.bind, setAll, fSub, fAdd]; omega)]
  have a3 : fTup [.ref (h ++ l1).length] (h ++ l1 ++ [.lst ((sortP (ddP (P ++ O))).map valP)]) = some (vP (sortP (ddP (P ++ O))), h ++ l1 ++ [.lst ((sortP (ddP (P ++ O))).map valP)]) := by
    unfold fTup
    simp only [items, at_new]
    rfl
  obtain ⟨l2, q2⟩ := fine_call (env := EV s0 x2 c3 (some (vP O)) (some (.ref r5)) c6 c7 (some (plV n P)) c9 (some (.ref r1)) c11 c12 c13) (h := h) (h' := h ++ l1 ++ [.lst ((sortP (ddP (P ++ O))).map valP)]) (a := e2D (dBin fNo tb__or__5) (eVar 10) (eVar 5))
    (b := eTup (aCons (e2D (dOwn2 fIx tb__getitem__3) (eVar 8) (eC (.int 0))) (aCons (eN fTup (aCons (eSortSet (e2 fAdd (e2D (dOwn2 fIx tb__getitem__3) (eVar 8) (eC (.int 1))) (eVar 4))) aNil)) aNil))) ⟨h ++ l1, by
      show dBin fNo tb__or__5 (.ref r1) (.ref r5) h = _
      rw [bin_ob oP oO]
      unfold dOwn2
      rw [oP.cls]
      exact q1, by
      simp only [eTup, aCons, aNil, eN, pl0 (env := EV s0 x2 c3 (some (vP O)) (some (.ref r5)) c6 c7 (some (plV n P)) c9 (some (.ref r1)) c11 c12 c13) (i := 8) rfl, Res.bind, a2, a3, lift]
      rfl⟩ (o1.up _) gd n1 n8
  refine ⟨l1 ++ [.lst ((sortP (ddP (P ++ O))).map valP)] ++ l2, ?_⟩
  rw [← List.append_assoc, ← List.append_assoc]
  unfold part8
  exact not_if q2
theorem st9 (oP : Ob h r1 n P) (gP : Good n P) (oO : Ob h r5 n O) (gO : Good n O) (n1 : 1 ≤ n) (n8 : n ≤ 8) : ∃ l, part9 (EV s0 x2 c3 (some (vP O)) (some (.ref r5)) c6 c7 (some (plV n P)) c9 (some (.ref r1)) c11 c12 c13) h = .nx (EV s0 x2 c3 (some (vP O)) (some (.ref r5)) c6 c7 (some (plV n P)) c9 (some (.ref r1)) c11 c12 c13) (h ++ l) := by
  obtain ⟨l1, q1, o1⟩ := sub_ok oP oO gP n1 n8
  have eqf : (P.filter fun p => !has O n p) = P.filter fun p => !decide (p ∈ O) := List.filter_congr fun p hp => by
    have b := gP.bd p hp
    rw [has_good gO b.1 b.2.1 b.2.2]
  rw [eqf] at o1
  have gd : Good n (P.filter fun p => !decide (p ∈ O)) := gP.sub List.filter_sublist
  have pk := pick_vals (env := EV s0 x2 c3 (some (vP O)) (some (.ref r5)) c6 c7 (some (plV n P)) c9 (some (.ref r1)) c11 c12 c13) (v := 12) (m := e2D (dOwn2 fIx tb__getitem__3) (eVar 8) (eC (.int 1))) (P := P) (h := h ++ l1) (c := toB (e2D (dIn fNotIn tb__contains__1 not) (eVar 12) (eVar 4))) (f := fun p => !decide (p ∈ O))
    (en := fun x => EV s0 x2 c3 (some (vP O)) (some (.ref r5)) c6 c7 (some (plV n P)) c9 (some (.ref r1)) c11 (some x) c13) (pl1 rfl _) (by have := gP.few; omega) (fun _ => rfl) (fun _ => rfl) (fun p hp => by
      have := notin_vP (h ++ l1) p O
      simp [fn, startA, sRet, sSeq, sIf, sSet, sNext, sNever, sFldA, sAsg, sPar, eAnd, eOr, eNot, eIf, eN, e1, e2, e1D, e2D, eCall, eTup, eLst, eOwn, eUse, aCons, aNil, eVar, eC, toB, tmOr, tmAnd, tmNot, tmYes, Res.bind, Res.noex, SR.ofE, endF, lift, cOne, iSeq, wipeA, Tgt.bind, setAll, fSub, fAdd, this])
  obtain ⟨l2, q2⟩ := fine_call (env := EV s0 x2 c3 (some (vP O)) (some (.ref r5)) c6 c7 (some (plV n P)) c9 (some (.ref r1)) c11 c12 c13) (h := h) (h' := h ++ l1) (a := e2D (dBin fSub tb__sub__4) (eVar 10) (eVar 5))
    (b := eTup (aCons (e2D (dOwn2 fIx tb__getitem__3) (eVar 8) (eC (.int 0))) (aCons (eUse uTup (eComp [12] (iSeq (e2D (dOwn2 fIx tb__getitem__3) (eVar 8) (eC (.int 1)))) (.nm 12) (cOne (toB (e2D (dIn fNotIn tb__contains__1 not) (eVar 12) (eVar 4))) (eVar 12)))) aNil))) ⟨h ++ l1, by
      show dBin fSub tb__sub__4 (.ref r1) (.ref r5) h = _
      rw [bin_ob oP oO]
      unfold dOwn2
      rw [oP.cls]
      exact q1, by
      simp only [eTup, aCons, aNil, pl0 (env := EV s0 x2 c3 (some (vP O)) (some (.ref r5)) c6 c7 (some (plV n P)) c9 (some (.ref r1)) c11 c12 c13) (i := 8) rfl, Res.bind, pk]
      rfl⟩ o1 gd n1 n8
  refine ⟨l1 ++ l2, ?_⟩
  rw [← List.append_assoc]
  unfold part9
  exact not_if q2
theorem st10 (oP : Ob h r1 n P) (gP : Good n P) (n1 : 1 ≤ n) (n8 : n ≤ 8) (oQ : Ob h r2 m Q) : ∃ l, part10 (EV s0 x2 c3 c4 c5 c6 c7 (some (plV n P)) (some (plV m Q)) (some (.ref r1)) (some (.ref r2)) c12 c13) h = .nx (EV s0 x2 c3 c4 c5 c6 c7 (some (plV n P)) (some (plV m Q)) (some (.ref r1)) (some (.ref r2)) c12 c13) (h ++ l) := by
  obtain ⟨l1, e1'⟩ := mkH_app h n P
  refine ⟨l1, ?_⟩
  rw [← e1']
  have a1 := eq_ok oP oQ fEq id
  have a2 := eq_np h n m P Q
  have a3 := mk_pl (env := EV s0 x2 c3 c4 c5 c6 c7 (some (plV n P)) (some (plV m Q)) (some (.ref r1)) (some (.ref r2)) c12 c13) (i := 8) rfl gP n1 n8 h
  have oP' : Ob (mkH h n P) r1 n P := by rw [e1']; exact oP.up l1
  have a4 := eq_ok oP' (mk_Ob h n P) fNe not
  rw [decide_eq_true rfl] at a4
  have b1 : toB (e2D (dEq fNe tb__eq__2 nft not) (e2D (dEq fEq tb__eq__2 nft id) (eVar 10) (eVar 11)) (e2D (dEq fEq tb__eq__2 nft id) (eVar 8) (eVar 9))) (EV s0 x2 c3 c4 c5 c6 c7 (some (plV n P)) (some (plV m Q)) (some (.ref r1)) (some (.ref r2)) c12 c13) h = .ok false h := by
    have z1 : e2D (dEq fEq tb__eq__2 nft id) (eVar 10) (eVar 11) (EV s0 x2 c3 c4 c5 c6 c7 (some (plV n P)) (some (plV m Q)) (some (.ref r1)) (some (.ref r2)) c12 c13) h = .ok (.bl (decide ((n, P) = (m, Q)))) h := a1
    have z2 : e2D (dEq fEq tb__eq__2 nft id) (eVar 8) (eVar 9) (EV s0 x2 c3 c4 c5 c6 c7 (some (plV n P)) (some (plV m Q)) (some (.ref r1)) (some (.ref r2)) c12 c13) h = .ok (.bl (decide ((n, P) = (m, Q)))) h := a2
    unfold toB
    rw [e2D, z1]
    simp only [Res.bind]
    rw [z2]
    simp only [ne_bl]
  have b2 : toB (e2D (dEq fNe tb__eq__2 nft not) (eVar 10) (eMake 4 m_Rivals___init__ [] (aCons (e2D (dOwn2 fIx tb__getitem__3) (eVar 8) (eC (.int 0))) (aCons (e2D (dOwn2 fIx tb__getitem__3) (eVar 8) (eC (.int 1))) aNil)))) (EV s0 x2 c3 c4 c5 c6 c7 (some (plV n P)) (some (plV m Q)) (some (.ref r1)) (some (.ref r2)) c12 c13) h = .ok false (mkH h n P) := by
    unfold toB
    rw [e2D]
    have z : eVar 10 (EV s0 x2 c3 c4 c5 c6 c7 (some (plV n P)) (some (plV m Q)) (some (.ref r1)) (some (.ref r2)) c12 c13) h = .ok (.ref r1) h := rfl
    rw [z]
    simp only [Res.bind]
    rw [a3]
    simp only [a4]
    rfl
  unfold part10
  simp only [sIf, tmOr, b1, b2, Res.bind, SR.ofE, sNext, Bool.false_eq_true, if_false]
theorem st11 (oP : Ob h r1 n P) (gP : Good n P) (n1 : 1 ≤ n) (n8 : n ≤ 8) : ∃ l, part11 (EV s0 x2 c3 c4 c5 c6 c7 (some (plV n P)) c9 (some (.ref r1)) c11 c12 c13) h = .nx (EV s0 x2 c3 c4 c5 c6 c7 (some (plV n P)) c9 (some (.ref r1)) c11 c12 c13) (h ++ l) := by
  obtain ⟨l, q⟩ := fine_call (env := EV s0 x2 c3 c4 c5 c6 c7 (some (plV n P)) c9 (some (.ref r1)) c11 c12 c13) (h := h) (h' := h) (a := eVar 10) (b := eVar 8) ⟨h, rfl, rfl⟩ oP gP n1 n8
  exact ⟨l, not_if q⟩
theorem st12 (d : Dr h cs k) (hk : k ≤ 10000) : ∃ s : Int, 3 ≤ s ∧ s ≤ 8 ∧ part12 (EV s0 x2 c3 c4 c5 c6 c7 c8 c9 c10 c11 c12 c13) h = .nx (EV s0 x2 c3 c4 c5 (some (.int s)) c7 c8 c9 c10 c11 c12 c13) (nxH h k) := by
  obtain ⟨v, v0, v1, q⟩ := next_ok d (b := 6) (by decide) (by omega)
  exact ⟨3 + v, by omega, by omega, by unfold part12; simp [fn, startA, sRet, sSeq, sIf, sSet, sNext, sNever, sFldA, sAsg, sPar, eAnd, eOr, eNot, eIf, eN, e1, e2, e1D, e2D, eCall, eTup, eLst, eOwn, eUse, aCons, aNil, eVar, eC, toB, tmOr, tmAnd, tmNot, tmYes, Res.bind, Res.noex, SR.ofE, endF, lift, cOne, iSeq, wipeA, Tgt.bind, setAll, fSub, fAdd, q]⟩
theorem st13 {s : Int} (h3 : 3 ≤ s) (h8 : s ≤ 8) : ∃ l r7, part13 (EV s0 x2 c3 c4 c5 (some (.int s)) c7 c8 c9 c10 c11 c12 c13) h = .nx (EV s0 x2 c3 c4 c5 (some (.int s)) (some (.ref r7)) c8 c9 c10 c11 c12 c13) (h ++ l) ∧ (h ++ l)[r7]? = some (.lst ((ringP s).map valP)) := by
  obtain ⟨l, q1, q2⟩ := ring_eval h3 h8 (v := 13) (ms := e2D (dBin fSub tb__sub__4) (eVar 6) (eC (.int 1))) (env := EV s0 x2 c3 c4 c5 (some (.int s)) c7 c8 c9 c10 c11 c12 c13) (en := fun x => EV s0 x2 c3 c4 c5 (some (.int s)) c7 c8 c9 c10 c11 c12 (some x)) (fun _ => rfl) (fun _ => rfl) (fun h => rfl) h
  refine ⟨l, h.length + 3, ?_, q2⟩
  unfold part13
  rw [sSet, q1]
  rfl
theorem st14 {s : Int} {r7 : Nat} (h3 : 3 ≤ s) (h8 : s ≤ 8) (hr : h[r7]? = some (.lst ((ringP s).map valP))) : ∃ l, part14 (EV s0 x2 c3 c4 c5 (some (.int s)) (some (.ref r7)) c8 c9 c10 c11 c12 c13) h = .nx (EV s0 x2 c3 c4 c5 (some (.int s)) (some (.ref r7)) c8 c9 c10 c11 c12 c13) (h ++ l) := by
  obtain ⟨l1, r, q1, o1⟩ := circle_ok h3 h8 h
  have g := (ring_ok h3 h8).1
  have hr' : (h ++ l1)[r7]? = some (.lst ((ringP s).map valP)) := by rw [List.getElem?_append_left (List.getElem?_eq_some_iff.mp hr).1]; exact hr
  have tp : fTup [.ref r7] (h ++ l1) = some (vP (ringP s), h ++ l1) := by
    unfold fTup
    simp only [items, hr']
    rfl
  obtain ⟨l2, q2⟩ := fine_call (env := EV s0 x2 c3 c4 c5 (some (.int s)) (some (.ref r7)) c8 c9 c10 c11 c12 c13) (h := h) (h' := h ++ l1) (a := eCMeth 4 m_Rivals_circle (eC (.cst 4)) (aCons (eVar 6) aNil)) (b := eTup (aCons (eVar 6) (aCons (eN fTup (aCons (eVar 7) aNil)) aNil))) ⟨h ++ l1, by
      simp only [eCMeth, eC, Res.bind, if_true, aCons, aNil, eVar]
      show (m_Rivals_circle [.cst 4, .int s] h).noex = _
      rw [q1]
      rfl, by
      simp only [eTup, aCons, aNil, eN, eVar, Res.bind]
      show Res.bind (Res.bind (Res.bind (lift (fTup [.ref r7] (h ++ l1))) _) _) _ = _
      rw [tp]
      rfl⟩ o1 g (by omega) (by omega)
  refine ⟨l1 ++ l2, ?_⟩
  rw [← List.append_assoc]
  unfold part14
  exact not_if q2
end
end Lw
namespace Lw
open PySem CI
theorem seq_nx {a b : MS} {env env' : AEnv} {h h' : AH} (q : a env h = .nx env' h') : sSeq a b env h = b env' h' := by
  unfold sSeq
  rw [q]
theorem turn_ok {s0 x2 c3 c4 c5 c6 c7 c8 c9 c10 c11 c12 c13 : Option Val} {h : AH} {cs : List Int} {k : Nat} (d : Dr h cs k) (hk : k ≤ 5000) : ∃ y2 d3 d4 d5 d6 d7 d8 d9 d10 d11 d12 d13 h' k', bodyL (EV s0 x2 c3 c4 c5 c6 c7 c8 c9 c10 c11 c12 c13) h = .nx (EV s0 y2 d3 d4 d5 d6 d7 d8 d9 d10 d11 d12 d13) h' ∧ Dr h' cs k' ∧ k' ≤ k + 61 := by
  obtain ⟨n, P, m, Q, h0, k0, a0, dA, ka, n1, n8, gP, m1, m8, gQ⟩ := st0 (s0 := s0) (x2 := x2) (c3 := c3) (c4 := c4) (c5 := c5) (c6 := c6) (c7 := c7) (c8 := c8) (c9 := c9) (c10 := c10) (c11 := c11) (c12 := c12) (c13 := c13) d hk
  obtain ⟨l1, r1, r2, a1, oP, oQ⟩ := st1 (s0 := s0) (x2 := x2) (c3 := c3) (c4 := c4) (c5 := c5) (c6 := c6) (c7 := c7) (c10 := c10) (c11 := c11) (c12 := c12) (c13 := c13) (h := h0) gP n1 n8 gQ m1 m8
  have d1 := dA.up l1
  obtain ⟨l2, r3, a2, hr⟩ := st2 (s0 := s0) (x2 := x2) (c3 := c3) (c4 := c4) (c5 := c5) (c6 := c6) (c7 := c7) (c9 := some (plV m Q)) (c10 := some (.ref r1)) (c11 := some (.ref r2)) (c12 := c12) (c13 := c13) (P := P) (h := h0 ++ l1) n1 n8
  have d2 := d1.up l2
  have oP2 := oP.up l2
  have oQ2 := oQ.up l2
  generalize h0 ++ l1 ++ l2 = hh2 at *
  obtain ⟨l3, a3⟩ := st3 (s0 := s0) (x2 := x2) (c3 := some (.ref r3)) (c4 := c4) (c5 := c5) (c6 := c6) (c7 := c7) (c12 := c12) (c13 := c13) oP2 gP n1 n8 oQ2 gQ m1 m8
  have d3 := d2.up l3
  have oP3 := oP2.up l3
  have oQ3 := oQ2.up l3
  have hr3 : (hh2 ++ l3)[r3]? = some (.lst ((evI n).map valP)) := by rw [List.getElem?_append_left (List.getElem?_eq_some_iff.mp hr).1]; exact hr
  generalize hh2 ++ l3 = hh3 at *
  obtain ⟨l4, a4⟩ := st4 (s0 := s0) (x2 := x2) (c4 := c4) (c5 := c5) (c6 := c6) (c7 := c7) (c9 := some (plV m Q)) (c11 := some (.ref r2)) (c12 := c12) (c13 := c13) oP3 gP n1 n8 hr3
  have d4 := d3.up l4
  have oP4 := oP3.up l4
  have oQ4 := oQ3.up l4
  have hr4 : (hh3 ++ l4)[r3]? = some (.lst ((evI n).map valP)) := by rw [List.getElem?_append_left (List.getElem?_eq_some_iff.mp hr3).1]; exact hr3
  generalize hh3 ++ l4 = hh4 at *
  have a5 := st5 (s0 := s0) (x2 := x2) (c3 := some (.ref r3)) (c4 := c4) (c5 := c5) (c6 := c6) (c7 := c7) (c12 := c12) (c13 := c13) oP4 oQ4
  have a6 := st6 (s0 := s0) (x2 := x2) (c4 := c4) (c5 := c5) (c6 := c6) (c7 := c7) (c8 := some (plV n P)) (c10 := some (.ref r1)) (c11 := some (.ref r2)) (c12 := c12) (c13 := c13) (m := m) (Q := Q) n1 n8 hr4
  have gO : Good n ((evI n).filter fun p => decide (p ∈ Q)) := (Good.ev n1 n8).1.sub List.filter_sublist
  generalize hO : ((evI n).filter fun p => decide (p ∈ Q)) = O at *
  obtain ⟨l7, r5, a7, oO⟩ := st7 (s0 := s0) (x2 := x2) (c3 := some (.ref r3)) (c5 := c5) (c6 := c6) (c7 := c7) (P := P) (c9 := some (plV m Q)) (c10 := some (.ref r1)) (c11 := some (.ref r2)) (c12 := c12) (c13 := c13) (h := hh4) gO n1 n8
  have d7 := d4.up l7
  have oP7 := oP4.up l7
  have oQ7 := oQ4.up l7
  generalize hh4 ++ l7 = hh7 at *
  obtain ⟨l8, a8⟩ := st8 (s0 := s0) (x2 := x2) (c3 := some (.ref r3)) (c6 := c6) (c7 := c7) (c9 := some (plV m Q)) (c11 := some (.ref r2)) (c12 := c12) (c13 := c13) oP7 gP oO gO n1 n8
  have d8 := d7.up l8
  have oP8 := oP7.up l8
  have oQ8 := oQ7.up l8
  have oO8 := oO.up l8
  generalize hh7 ++ l8 = hh8 at *
  obtain ⟨l9, a9⟩ := st9 (s0 := s0) (x2 := x2) (c3 := some (.ref r3)) (c6 := c6) (c7 := c7) (c9 := some (plV m Q)) (c11 := some (.ref r2)) (c12 := c12) (c13 := c13) oP8 gP oO8 gO n1 n8
  have d9 := d8.up l9
  have oP9 := oP8.up l9
  have oQ9 := oQ8.up l9
  generalize hh8 ++ l9 = hh9 at *
  obtain ⟨l10, a10⟩ := st10 (s0 := s0) (x2 := x2) (c3 := some (.ref r3)) (c4 := some (vP O)) (c5 := some (.ref r5)) (c6 := c6) (c7 := c7) (c12 := c12) (c13 := c13) oP9 gP n1 n8 oQ9
  have d10 := d9.up l10
  have oP10 := oP9.up l10
  generalize hh9 ++ l10 = hh10 at *
  obtain ⟨l11, a11⟩ := st11 (s0 := s0) (x2 := x2) (c3 := some (.ref r3)) (c4 := some (vP O)) (c5 := some (.ref r5)) (c6 := c6) (c7 := c7) (c9 := some (plV m Q)) (c11 := some (.ref r2)) (c12 := c12) (c13 := c13) oP10 gP n1 n8
  have d11 := d10.up l11
  generalize hh10 ++ l11 = hh11 at *
  obtain ⟨s, h3, h8, a12⟩ := st12 (s0 := s0) (x2 := x2) (c3 := some (.ref r3)) (c4 := some (vP O)) (c5 := some (.ref r5)) (c6 := c6) (c7 := c7) (c8 := some (plV n P)) (c9 := some (plV m Q)) (c10 := some (.ref r1)) (c11 := some (.ref r2)) (c12 := c12) (c13 := c13) d11 (by omega)
  have d12 := d11.nx
  generalize nxH hh11 k0 = hh12 at *
  obtain ⟨l13, r7, a13, hr7⟩ := st13 (s0 := s0) (x2 := x2) (c3 := some (.ref r3)) (c4 := some (vP O)) (c5 := some (.ref r5)) (c7 := c7) (c8 := some (plV n P)) (c9 := some (plV m Q)) (c10 := some (.ref r1)) (c11 := some (.ref r2)) (c12 := c12) (c13 := c13) (h := hh12) h3 h8
  have d13 := d12.up l13
  generalize hh12 ++ l13 = hh13 at *
  obtain ⟨l14, a14⟩ := st14 (s0 := s0) (x2 := x2) (c3 := some (.ref r3)) (c4 := some (vP O)) (c5 := some (.ref r5)) (c8 := some (plV n P)) (c9 := some (plV m Q)) (c10 := some (.ref r1)) (c11 := some (.ref r2)) (c12 := c12) (c13 := c13) h3 h8 hr7
  refine ⟨x2, some (.ref r3), some (vP O), some (.ref r5), some (.int s), some (.ref r7), some (plV n P), some (plV m Q), some (.ref r1), some (.ref r2), c12, c13, _, k0 + 1, ?_, d13.up l14, by omega⟩
  unfold bodyL
  rw [seq_nx a0, seq_nx a1, seq_nx a2, seq_nx a3, seq_nx a4, seq_nx a5, seq_nx a6, seq_nx a7, seq_nx a8, seq_nx a9, seq_nx a10, seq_nx a11, seq_nx a12, seq_nx a13]
  exact a14
theorem cut63 (xs : List Val) : cutA xs none (some 63) = xs.take 63 := by
  unfold cutA
  have e : HT.sIx xs.length xs.length (some 63) = min 63 xs.length := HT.sIx_nat _ _ 63
  rw [e, HT.sIx_none]
  simp [fn, startA, sRet, sSeq, sIf, sSet, sNext, sNever, sFldA, sAsg, sPar, eAnd, eOr, eNot, eIf, eN, e1, e2, e1D, e2D, eCall, eTup, eLst, eOwn, eUse, aCons, aNil, eVar, eC, toB, tmOr, tmAnd, tmNot, tmYes, Res.bind, Res.noex, SR.ofE, endF, lift, cOne, iSeq, wipeA, Tgt.bind, setAll, fSub, fAdd]
theorem law_true (ns : List Int) (hn : ns.length ≤ 63) : ∃ h', m_law [scriptA ns] [] = .ok (.bl true) h' := by
  have ct : cutA (ns.map Val.int) none (some 63) = ns.map Val.int := by
    rw [cut63, List.take_of_length_le (by simpa [fn, startA, sRet, sSeq, sIf, sSet, sNext, sNever, sFldA, sAsg, sPar, eAnd, eOr, eNot, eIf, eN, e1, e2, e1D, e2D, eCall, eTup, eLst, eOwn, eUse, aCons, aNil, eVar, eC, toB, tmOr, tmAnd, tmNot, tmYes, Res.bind, Res.noex, SR.ofE, endF, lift, cOne, iSeq, wipeA, Tgt.bind, setAll, fSub, fAdd] using hn)]
  have key := loop_ix (t := .nm 2) (body := bodyL) (Inv := fun i env h' => ∃ k c2 c3 c4 c5 c6 c7 c8 c9 c10 c11 c12 c13, Dr h' ns k ∧ k ≤ 61 * i ∧ env = EV (some (scriptA ns)) c2 c3 c4 c5 c6 c7 c8 c9 c10 c11 c12 c13) (xs := rgv 3) 0 (fun i x hx env h' hi => by
    obtain ⟨k, c2, c3, c4, c5, c6, c7, c8, c9, c10, c11, c12, c13, d, hk, rfl⟩ := hi
    have hlt := (List.getElem?_eq_some_iff.mp hx).1
    have hlt : i < 3 := by simpa [fn, startA, sRet, sSeq, sIf, sSet, sNext, sNever, sFldA, sAsg, sPar, eAnd, eOr, eNot, eIf, eN, e1, e2, e1D, e2D, eCall, eTup, eLst, eOwn, eUse, aCons, aNil, eVar, eC, toB, tmOr, tmAnd, tmNot, tmYes, Res.bind, Res.noex, SR.ofE, endF, lift, cOne, iSeq, wipeA, Tgt.bind, setAll, fSub, fAdd, rgv] using hlt
    obtain ⟨y2, d3, d4, d5, d6, d7, d8, d9, d10, d11, d12, d13, h2, k2, q1, q2, q3⟩ := turn_ok (s0 := some (scriptA ns)) (x2 := some x) (c3 := c3) (c4 := c4) (c5 := c5) (c6 := c6) (c7 := c7) (c8 := c8) (c9 := c9) (c10 := c10) (c11 := c11) (c12 := c12) (c13 := c13) d (by omega)
    exact ⟨EV (some (scriptA ns)) (some x) c3 c4 c5 c6 c7 c8 c9 c10 c11 c12 c13, _, h2, rfl, .inl q1, k2, _, _, _, _, _, _, _, _, _, _, _, _, q2, by omega, rfl⟩) (EV (some (scriptA ns)) none none none none none none none none none none none none) [.lst (ns.map Val.int), .lst [.ref 0, .int 0, .int 0]] ⟨0, _, _, _, _, _, _, _, _, _, _, _, _, ⟨rfl, rfl, by omega⟩, by omega, rfl⟩
  obtain ⟨env', h', w1, k, c2, c3, c4, c5, c6, c7, c8, c9, c10, c11, c12, c13, d, hk, rfl⟩ := key
  have hk : k ≤ 1000 := by simp [fn, startA, sRet, sSeq, sIf, sSet, sNext, sNever, sFldA, sAsg, sPar, eAnd, eOr, eNot, eIf, eN, e1, e2, e1D, e2D, eCall, eTup, eLst, eOwn, eUse, aCons, aNil, eVar, eC, toB, tmOr, tmAnd, tmNot, tmYes, Res.bind, Res.noex, SR.ofE, endF, lift, cOne, iSeq, wipeA, Tgt.bind, setAll, fSub, fAdd, rgv] at hk; omega
  obtain ⟨v, v0, v1, q1⟩ := next_ok d (b := 8) (by decide) (by omega)
  have g0 : Good (1 + v) [] := ⟨.nil, (fun p hp => by cases hp), Nat.zero_le _⟩
  have q2 := init_ok g0 (by omega) (by omega) (nxH h' k)
  have q3 := (mk_Ob (nxH h' k) (1 + v) []).pairs
  refine ⟨mkH (nxH h' k) (1 + v) [], ?_⟩
  unfold m_law
  simp only [fn, List.length_cons, List.length_nil, if_true, startA, List.map_cons, List.map_nil]
  show endF (sSeq _ (sSeq (sFor (iRng (aCons (eC (.int 3)) aNil)) (.nm 2) bodyL) _) [some (scriptA ns), none, none, none, none, none, none, none, none, none, none, none, none, none] []) = _
  have s1 : sSet 1 (eLst (aCons (eCut (eVar 0) oNone (oSome (eC (.int 63)))) (aCons (eC (.int 0)) (aCons (eC (.int 0)) aNil)))) [some (scriptA ns), none, none, none, none, none, none, none, none, none, none, none, none, none] [] = .nx (EV (some (scriptA ns)) none none none none none none none none none none none none) [.lst (ns.map Val.int), .lst [.ref 0, .int 0, .int 0]] := by
    simp [fn, startA, sRet, sSeq, sIf, sSet, sNext, sNever, sFldA, sAsg, sPar, eAnd, eOr, eNot, eIf, eN, e1, e2, e1D, e2D, eCall, eTup, eLst, eOwn, eUse, aCons, aNil, eVar, eC, toB, tmOr, tmAnd, tmNot, tmYes, Res.bind, Res.noex, SR.ofE, endF, lift, cOne, iSeq, wipeA, Tgt.bind, setAll, fSub, fAdd, eCut, oNone, oSome, scriptA, fCut, ct]
  rw [seq_nx s1]
  have s2 : sFor (iRng (aCons (eC (.int 3)) aNil)) (.nm 2) bodyL (EV (some (scriptA ns)) none none none none none none none none none none none none) [.lst (ns.map Val.int), .lst [.ref 0, .int 0, .int 0]] = .nx (EV (some (scriptA ns)) c2 c3 c4 c5 c6 c7 c8 c9 c10 c11 c12 c13) h' := by
    have z : iRng (aCons (eC (.int 3)) aNil) (EV (some (scriptA ns)) none none none none none none none none none none none none) [.lst (ns.map Val.int), .lst [.ref 0, .int 0, .int 0]] = .ok (.vals (rgv 3)) [.lst (ns.map Val.int), .lst [.ref 0, .int 0, .int 0]] := iRng1 rfl (by decide) (by decide)
    simp only [sFor, z, SR.ofE, loopA]
    exact w1
  rw [seq_nx s2]
  have s3 : eMake 4 m_Rivals___init__ [(.tup [])] (aCons (e2 fAdd (eC (.int 1)) (eCall m__law_next [] (aCons (eVar 1) (aCons (eC (.int 8)) aNil)))) aNil) (EV (some (scriptA ns)) c2 c3 c4 c5 c6 c7 c8 c9 c10 c11 c12 c13) h' = .ok (.ref ((nxH h' k).length + 1)) (mkH (nxH h' k) (1 + v) []) := by
    have z : aCons (e2 fAdd (eC (.int 1)) (eCall m__law_next [] (aCons (eVar 1) (aCons (eC (.int 8)) aNil)))) aNil (EV (some (scriptA ns)) c2 c3 c4 c5 c6 c7 c8 c9 c10 c11 c12 c13) h' = .ok [.int (1 + v)] (nxH h' k) := by
      simp [fn, startA, sRet, sSeq, sIf, sSet, sNext, sNever, sFldA, sAsg, sPar, eAnd, eOr, eNot, eIf, eN, e1, e2, e1D, e2D, eCall, eTup, eLst, eOwn, eUse, aCons, aNil, eVar, eC, toB, tmOr, tmAnd, tmNot, tmYes, Res.bind, Res.noex, SR.ofE, endF, lift, cOne, iSeq, wipeA, Tgt.bind, setAll, fSub, fAdd, q1]
    unfold eMake
    rw [z]
    simp only [Res.bind]
    have e : ([Val.int (1 + v)] ++ [Val.tup []]) = [.int (1 + v), vP []] := rfl
    rw [e, q2]
  have s4 : e1 (fFld ft_pairs) (eMake 4 m_Rivals___init__ [(.tup [])] (aCons (e2 fAdd (eC (.int 1)) (eCall m__law_next [] (aCons (eVar 1) (aCons (eC (.int 8)) aNil)))) aNil)) (EV (some (scriptA ns)) c2 c3 c4 c5 c6 c7 c8 c9 c10 c11 c12 c13) h' = .ok (vP []) (mkH (nxH h' k) (1 + v) []) := by
    rw [e1, s3]
    simp only [Res.bind, q3, lift]
  simp only [sRet, e2D]
  rw [s4]
  have s5 : dEq fEq tb__eq__2 nft id (vP []) (.tup []) (mkH (nxH h' k) (1 + v) []) = .ok (.bl true) (mkH (nxH h' k) (1 + v) []) := by
    rfl
  simp [fn, startA, sRet, sSeq, sIf, sSet, sNext, sNever, sFldA, sAsg, sPar, eAnd, eOr, eNot, eIf, eN, e1, e2, e1D, e2D, eCall, eTup, eLst, eOwn, eUse, aCons, aNil, eVar, eC, toB, tmOr, tmAnd, tmNot, tmYes, Res.bind, Res.noex, SR.ofE, endF, lift, cOne, iSeq, wipeA, Tgt.bind, setAll, fSub, fAdd, s5]
end Lw
namespace Lw
open PySem PySem.Spec PyProof.Rows L2 CI
theorem facts {P : Program} {w : World} {K : PySem.W.Frag} {h : Heap} {mg : Str → Option Value} {f : Addr} (X : K.In h) (G : h.Ns mainGlobals mg) (hfa : mg ("law" : Str) = some (.ref f)) (c : obsE fl dl K = valE dl) :
    ∃ fd : FuncData, (∀ (s : Shared) (v : Value), BindsTo s fd ⟨[v], []⟩ [("_law_script", v)]) ∧ ∀ base : Heap, K.In base → base.Ns mainGlobals mg → FnM (GG K) P w mg base 10 f fd ["_law_script"] m_law := by
  have Y := fx X G c
  obtain ⟨fd, F⟩ := Y.d_law
  have e := hfa.symm.trans Y.g_law
  cases e
  have b := FunD.bindsA (ps := ["_law_script"]) F fun _ _ _ _ _ _ us hl => match us, hl with | [_], _ => rfl
  exact ⟨fd, fun s v => b s [v] rfl, fun base _ _ => fn_law Y F⟩
end Lw
open PySem PySem.W PySem.Calls PyProof.Rows
theorem PySem.Challenge.cw_registerrooms_k41_whole_rivals_holds : PySem.Challenge.rw_registerrooms_k41_whole_rivals.Holds := by
  w_on; o_law
  refine HandSHeadRun.head_any (r := OpenLaw.row PySem.Challenge.rw_registerrooms_k41_whole_rivals) (q := view (OpenLaw.row PySem.Challenge.rw_registerrooms_k41_whole_rivals).prog [22]) (H := Lw.hk) (ob := Lw.ob) (M := 20000) (loose := ["RoomError", "BadVariable", "Unlike", "BadRivals", "MOST_RIVALS", "is_number", "is_pair", "are_pairs", "all_pairs", "Rivals", "_law_cell_at", "_law_draw", "_law_number", "_law_next", "_law_every", "_law_rivals", "_law_are", "_law_is_fine", "_law_refuses"]) (d := HandSHeadRun.topDef (OpenLaw.row PySem.Challenge.rw_registerrooms_k41_whole_rivals).prog 22) (kwd := []) Lw.ob_eq
    (by kernel_rfl) (fun s => by kernel_rfl) Lw.run (by kernel_rfl) (by kernel_rfl) (by kernel_rfl) (by rfl) (by first | assumption | decide +kernel) (by decide +kernel) ⟨rfl, rfl, rfl, rfl, rfl, by decide +kernel⟩ ?hw ?hc
  case hw => w_witness2
  case hc =>
    refine CI.walk_w (l := PySem.Challenge.rw_registerrooms_k41_whole_rivals) (n := 63) (k := 10) (x := "_law_script") (CX := fun w => L2.CX (PySem.Challenge.rw_registerrooms_k41_whole_rivals).prog w) rfl (by decide) (by kernel_rfl) ⟨rfl, by decide, by decide⟩ ?F (fun w H s e s' z => CI.cx_no H s e s' z)
    intro w mg fa h Y G hmg0
    obtain ⟨K, KX, c⟩ := Y
    have hmg : mg ("law" : PySem.Str) = some (.ref fa) := by
      have e : (HandSHeadRun.topDef (OpenLaw.row PySem.Challenge.rw_registerrooms_k41_whole_rivals).prog 22).name = ("law" : PySem.Str) := by kernel_rfl
      rw [← e]
      exact hmg0
    obtain ⟨fd, hb, hF⟩ := Lw.facts (P := (PySem.Challenge.rw_registerrooms_k41_whole_rivals).prog) (w := w) KX G hmg c
    exact ⟨K, fd, CI.spM (Lw.GG K) 1 Lw.m_law, KX, hb, fun H a ns hl hO hS => CI.sp_law (G := Lw.GG K) hO hS (Lw.law_true ns hl), hF⟩
