import PyProof.Rows.All
import Wide.All
import OpenK.AllK
import Wide.FinOn
import HandS.ForMost
import HandS.ForExc
import HandS.IsInst
import HandS.Small
import HandS.TryMany
import HandS.TupAny
import HandS.TupMul
import HandS.Style
import HandS.Zip
import HandS.Wide
import HandS.Deep
import HandS.EndBits
import HandS.ExcInit
import HandS.ExcField
import HandS.Conv
import KE.KMinKey
import HandS.SortKw
import PySem.Challenge.RW_everylength_k03_whole_forms_from_rows
set_option Elab.async false
set_option linter.all false
set_option maxRecDepth 100000
/-! Mp: mini Python. Values by value, mutable lists in a small heap; each combinator is sound for the machine (by HandS's rules). -/
namespace Mp
open PySem PySem.Spec PyProof.Rows L2
abbrev St := L2.St

/-- the built-in classes that are asked for -/
inductive Ty where
  | non | bl | int | str | tup | lst | dct
  deriving DecidableEq
def Ty.nm : Ty → String
  | .non => "NoneType" | .bl => "bool" | .int => "int" | .str => "str" | .tup => "tuple" | .lst => "list" | .dct => "dict"
/-- a value: tuples and frozen lists by value; `fz`: a list that is only read (the script); `ref`: a list that may change -/
inductive Val where
  | non | bl (b : Bool) | int (i : Int) | str (s : Str) | tup (l : List Val) | lst (l : List Val) | fz (l : List Val) | ref (n : Nat) | ty (t : Ty)
inductive Ob where
  | lst (l : List Val)
abbrev Hh := List Ob
abbrev Env := List (Option Val)
/-- the program's error classes by number; 0 is the base of all -/
def xNms : List Str := (["LengthError", "BadText", "NoArc", "NoAxiom", "NoExpression", "NoExpressions", "NoFlags", "NoForm", "NoForms", "NoLength", "NoLevels", "NoLot", "NoNet", "NoNode", "NoNumber", "NoOrder", "NoPacks", "NoPair", "NoPaper", "NoPath", "NoPlan", "NoRank", "NoRate", "NoRow", "NoScheme", "NoSet", "NoSheet", "NoStations", "NoStep", "NoTable", "NoTale", "NoTime", "NoTimed", "NoToken", "NoTrip", "NoTrips", "NoTwins", "NoWalk", "NoWinding", "NoWord", "NotCut", "TooMany"] : List String).map Str.ofString
def xNm (n : Nat) : Str := xNms.getD n "?"
def xSub (a c : Nat) : Bool := decide (a = c) || decide (c = 0)
structure Ex where
  cls : Nat
  fs : List (Str × Val)

mutual
def Val.bel (n : Nat) : Val → Bool
  | .tup l => belL n l
  | .lst l => belL n l
  | .fz l => belL n l
  | .ref k => decide (k < n)
  | .non => true
  | .bl _ => true
  | .int _ => true
  | .str _ => true
  | .ty _ => true
def belL (n : Nat) : List Val → Bool
  | [] => true
  | v :: l => v.bel n && belL n l
end
def Ob.bel (n : Nat) : Ob → Bool
  | .lst l => belL n l

/-! ### results -/
inductive R (α : Type) where
  | ok (a : α) (h : Hh) | exc (e : Ex) (h : Hh) | bad
abbrev Out (β : Type) {α : Type} (_ : α → Hh → R β) : Type := R β
def R.bnd {α β : Type} (r : R α) (f : α → Hh → R β) : Out β f := match r with
  | .ok a h => f a h
  | .exc e h => .exc e h
  | .bad => .bad
@[simp] theorem R.bnd_ok {α β : Type} (a : α) (h : Hh) (f : α → Hh → R β) : (R.ok a h).bnd f = f a h := rfl
@[simp] theorem R.bnd_exc {α β : Type} (e : Ex) (h : Hh) (f : α → Hh → R β) : (R.exc e h : R α).bnd f = .exc e h := rfl
@[simp] theorem R.bnd_bad {α β : Type} (f : α → Hh → R β) : (R.bad : R α).bnd f = .bad := rfl
abbrev Ev := Env → Hh → R Val
abbrev Tv := Env → Hh → R Bool
abbrev Av := Env → Hh → R (List Val)
inductive SR where
  | nx (e : Env) (h : Hh) | rt (v : Val) (h : Hh) | bk (e : Env) (h : Hh) | ct (e : Env) (h : Hh) | exc (x : Ex) (e : Env) (h : Hh) | bad
abbrev Sv := Env → Hh → SR

/-! ### the relation with the abstract heap -/
/-- ρ: the machine's addresses of the small heap's lists; β: further addresses that may change -/
structure Tr where
  ρ : List Addr
  β : List Addr
def Tr.ban (T : Tr) (a : Addr) : Prop := a ∈ T.ρ ∨ a ∈ T.β
/-- a tuple of the written part -/
def WrT (K : PySem.W.Frag) (a : Addr) (xs : List V) : Prop :=
  ∃ (o : Obj) (its : Array Value) (n : Nat), K.lookup a = some o ∧ o.cls = .type "tuple" ∧ o.data = .seq its n ∧ its.size ≤ sizeLine ∧ Vals xs its.toList
/-- a list of the written part -/
def WrL (K : PySem.W.Frag) (a : Addr) (xs : List V) : Prop :=
  ∃ (o : Obj) (its : Array Value) (n : Nat), K.lookup a = some o ∧ o.cls = .type "list" ∧ o.dict = none ∧ o.data = .seq its n ∧ its.size ≤ sizeLine ∧ Vals xs its.toList
mutual
inductive RepV (K : PySem.W.Frag) (H : Hp) (T : Tr) : Val → V → Prop
  | non : RepV K H T .non .non
  | bl (b : Bool) : RepV K H T (.bl b) (.bl b)
  | int (i : Int) : RepV K H T (.int i) (.int i)
  | str (s : Str) : RepV K H T (.str s) (.str s)
  | ty (t : Ty) : RepV K H T (.ty t) (.ty t.nm)
  | tup {a : Addr} {xs : List V} {vs : List Val} (h : (¬ T.ban a ∧ H a = some (.tup xs)) ∨ WrT K a xs) (r : RepL K H T vs xs) : RepV K H T (.tup vs) (.ref a)
  | lst {a : Addr} {xs : List V} {vs : List Val} (b : ¬ T.ban a) (h : H a = some (.lst xs)) (r : RepL K H T vs xs) : RepV K H T (.lst vs) (.ref a)
  | fz {a : Addr} {xs : List V} {vs : List Val} (h : (¬ T.ban a ∧ ∃ o, H a = some (.frz o (.lst xs))) ∨ WrL K a xs) (r : RepL K H T vs xs) : RepV K H T (.fz vs) (.ref a)
  | ref {n : Nat} {a : Addr} (h : T.ρ[n]? = some a) : RepV K H T (.ref n) (.ref a)
inductive RepL (K : PySem.W.Frag) (H : Hp) (T : Tr) : List Val → List V → Prop
  | nil : RepL K H T [] []
  | cons {v : Val} {x : V} {vs : List Val} {xs : List V} (h : RepV K H T v x) (r : RepL K H T vs xs) : RepL K H T (v :: vs) (x :: xs)
end

structure Step (T : Tr) (H : Hp) (T' : Tr) (H' : Hp) : Prop where
  ext : ∃ δ, T'.ρ = T.ρ ++ δ ∧ ∀ b ∈ δ, H b = none
  same : ∃ ε, T'.β = ε ++ T.β ∧ ∀ b ∈ ε, H b = none
  frm : ∀ b o, H b = some o → b ∉ T.ρ → H' b = some o
  liv : ∀ b, H b ≠ none → H' b ≠ none
theorem Step.refl (T : Tr) (H : Hp) : Step T H T H := ⟨⟨[], by simp, by simp⟩, ⟨[], rfl, by simp⟩, fun _ _ h _ => h, fun _ h => h⟩
theorem Step.trans {T T1 T2 : Tr} {H H1 H2 : Hp} (a : Step T H T1 H1) (b : Step T1 H1 T2 H2) : Step T H T2 H2 := by
  obtain ⟨δ, e1, f1⟩ := a.ext
  obtain ⟨δ2, e2, f2⟩ := b.ext
  obtain ⟨ε, e3, f3⟩ := a.same
  obtain ⟨ε2, e4, f4⟩ := b.same
  refine ⟨⟨δ ++ δ2, by rw [e2, e1, List.append_assoc], fun c hc => ?_⟩, ⟨ε2 ++ ε, by rw [e4, e3, List.append_assoc], fun c hc => ?_⟩, fun c o h n => ?_, fun c h => b.liv c (a.liv c h)⟩
  rotate_left
  · rcases List.mem_append.mp hc with h | h
    · by_cases q : H c = none
      · exact q
      · exact absurd (f4 c h) (a.liv c q)
    · exact f3 c h
  rotate_right
  · rcases List.mem_append.mp hc with h | h
    · exact f1 c h
    · by_cases q : H c = none
      · exact q
      · exact absurd (f2 c h) (a.liv c q)
  · refine b.frm c o (a.frm c o h n) fun q => ?_
    rw [e1] at q
    rcases List.mem_append.mp q with q | q
    · exact n q
    · rw [f1 c q] at h; cases h
theorem Step.ban {T T' : Tr} {H H' : Hp} (s : Step T H T' H') {a : Addr} (h : H a ≠ none) : T'.ban a → T.ban a := by
  obtain ⟨δ, e1, f1⟩ := s.ext
  rintro (q | q)
  · rw [e1] at q
    rcases List.mem_append.mp q with q | q
    · exact .inl q
    · exact absurd (f1 a q) h
  · obtain ⟨ε, e2, f2⟩ := s.same
    rw [e2] at q
    rcases List.mem_append.mp q with q | q
    · exact absurd (f2 a q) h
    · exact .inr q
mutual
theorem RepV.step {K : PySem.W.Frag} {T T' : Tr} {H H' : Hp} (s : Step T H T' H') : ∀ {v : Val} {x : V}, RepV K H T v x → RepV K H' T' v x
  | _, _, .non => .non
  | _, _, .bl b => .bl b
  | _, _, .int b => .int b
  | _, _, .str b => .str b
  | _, _, .ty b => .ty b
  | _, _, .tup (.inl ⟨n, h⟩) r => .tup (.inl ⟨fun q => n (s.ban (by rw [h]; simp) q), s.frm _ _ h fun q => n (.inl q)⟩) (r.step s)
  | _, _, .tup (.inr h) r => .tup (.inr h) (r.step s)
  | _, _, .lst n h r => .lst (fun q => n (s.ban (by rw [h]; simp) q)) (s.frm _ _ h fun q => n (.inl q)) (r.step s)
  | _, _, .fz (.inl ⟨n, o, h⟩) r => .fz (.inl ⟨fun q => n (s.ban (by rw [h]; simp) q), o, s.frm _ _ h fun q => n (.inl q)⟩) (r.step s)
  | _, _, .fz (.inr h) r => .fz (.inr h) (r.step s)
  | _, _, .ref (n := n) h => .ref (by
      obtain ⟨δ, e, _⟩ := s.ext
      rw [e, List.getElem?_append_left (List.getElem?_eq_some_iff.mp h).1]; exact h)
theorem RepL.step {K : PySem.W.Frag} {T T' : Tr} {H H' : Hp} (s : Step T H T' H') : ∀ {vs : List Val} {xs : List V}, RepL K H T vs xs → RepL K H' T' vs xs
  | _, _, .nil => .nil
  | _, _, .cons h r => .cons (h.step s) (r.step s)
end
section
variable {K : PySem.W.Frag} {T : Tr} {H : Hp}
theorem RepL.length : ∀ {vs : List Val} {xs : List V}, RepL K H T vs xs → xs.length = vs.length
  | _, _, .nil => rfl
  | _, _, .cons _ r => by simp [r.length]
theorem RepL.get : ∀ {vs : List Val} {xs : List V} {i : Nat} {v : Val}, RepL K H T vs xs → vs[i]? = some v → ∃ x, xs[i]? = some x ∧ RepV K H T v x
  | _, _, _, _, .nil, e => by simp at e
  | _, _, 0, _, .cons h _, e => by simp at e; subst e; exact ⟨_, rfl, h⟩
  | _, _, i + 1, v, .cons _ r, e => by
    obtain ⟨x, h1, h2⟩ := r.get (i := i) (v := v) (by simpa using e)
    exact ⟨x, by simpa using h1, h2⟩
theorem RepL.append : ∀ {vs ws : List Val} {xs ys : List V}, RepL K H T vs xs → RepL K H T ws ys → RepL K H T (vs ++ ws) (xs ++ ys)
  | _, _, _, _, .nil, s => s
  | _, _, _, _, .cons h r, s => .cons h (r.append s)
theorem RepL.take : ∀ {vs : List Val} {xs : List V} (n : Nat), RepL K H T vs xs → RepL K H T (vs.take n) (xs.take n)
  | _, _, 0, _ => .nil
  | _, _, _ + 1, .nil => .nil
  | _, _, n + 1, .cons h r => .cons h (r.take n)
theorem RepL.drop : ∀ {vs : List Val} {xs : List V} (n : Nat), RepL K H T vs xs → RepL K H T (vs.drop n) (xs.drop n)
  | _, _, 0, r => r
  | _, _, _ + 1, .nil => .nil
  | _, _, n + 1, .cons _ r => r.drop n
theorem RepL.set {v : Val} {x : V} (h : RepV K H T v x) : ∀ {vs : List Val} {xs : List V} (n : Nat), RepL K H T vs xs → RepL K H T (vs.set n v) (xs.set n x)
  | _, _, _, .nil => .nil
  | _, _, 0, .cons _ r => .cons h r
  | _, _, n + 1, .cons q r => .cons q (r.set h n)
theorem RepL.rep {v : Val} {x : V} (h : RepV K H T v x) : ∀ n, RepL K H T (List.replicate n v) (List.replicate n x)
  | 0 => .nil
  | n + 1 => .cons h (RepL.rep h n)
theorem RepL.ints : ∀ ns : List Int, RepL K H T (ns.map Val.int) (ns.map V.int)
  | [] => .nil
  | n :: r => .cons (.int n) (RepL.ints r)
theorem RepL.dropLast {vs : List Val} {xs : List V} (r : RepL K H T vs xs) : RepL K H T vs.dropLast xs.dropLast := by
  rw [List.dropLast_eq_take, List.dropLast_eq_take, r.length]; exact r.take _
end

/-! ### the small heap, the slots -/
def ORep (K : PySem.W.Frag) (H : Hp) (T : Tr) (o : Ob) (a : Addr) : Prop := match o with
  | .lst vs => ∃ xs, H a = some (.lst xs) ∧ RepL K H T vs xs
structure HSim (K : PySem.W.Frag) (T : Tr) (μ : Hh) (H : Hp) : Prop where
  len : T.ρ.length = μ.length
  nd : T.ρ.Nodup
  obj : ∀ (n : Nat) (o : Ob), μ[n]? = some o → ∃ a, T.ρ[n]? = some a ∧ ORep K H T o a
  old : ∀ (n : Nat) (o : Ob), μ[n]? = some o → o.bel n = true
  bt : ∀ b ∈ T.β, H b ≠ none
structure ESim (K : PySem.W.Frag) (H : Hp) (T : Tr) (env : Env) (σ : St) : Prop where
  len : env.length = σ.length
  at' : ∀ (i : Nat) (v : Val), env[i]? = some (some v) → ∃ x, σ[i]? = some (some x) ∧ RepV K H T v x
section
variable {K : PySem.W.Frag} {T T' : Tr} {μ : Hh} {H H' : Hp} {env : Env} {σ : St} {p : Addr} {o : HO}
theorem ORep.tracked {o : Ob} {a : Addr} (h : ORep K H T o a) : H a ≠ none := by
  cases o with
  | lst vs => obtain ⟨xs, e, _⟩ := h; rw [e]; simp
theorem ORep.step {o : Ob} {a : Addr} (h : ORep K H T o a) (s : Step T H T' H') (e : H' a = H a) : ORep K H' T' o a := by
  cases o with
  | lst vs => obtain ⟨xs, q, r⟩ := h; exact ⟨xs, e.trans q, r.step s⟩
theorem HSim.tracked (h : HSim K T μ H) {a : Addr} (ha : a ∈ T.ρ) : H a ≠ none := by
  obtain ⟨n, e⟩ := List.getElem?_of_mem ha
  have hn : n < μ.length := by rw [← h.len]; exact (List.getElem?_eq_some_iff.mp e).1
  obtain ⟨a', e', r⟩ := h.obj n μ[n] (List.getElem?_eq_getElem hn)
  rw [e] at e'; cases e'
  exact r.tracked
theorem ESim.step (h : ESim K H T env σ) (s : Step T H T' H') : ESim K H' T' env σ :=
  ⟨h.len, fun i v e => let ⟨x, e', r⟩ := h.at' i v e; ⟨x, e', r.step s⟩⟩
theorem Step.new (hp : H p = none) : Step T H T (upd H p o) :=
  ⟨⟨[], by simp, by simp⟩, ⟨[], rfl, by simp⟩, fun b u h _ => by rw [upd_ne (ne_of_none h hp)]; exact h, fun b h => by
    by_cases e : b = p
    · subst e; exact absurd hp h
    · rw [upd_ne e]; exact h⟩
theorem HSim.new (h : HSim K T μ H) (hp : H p = none) : HSim K T μ (upd H p o) := by
  refine ⟨h.len, h.nd, fun n ob e => ?_, h.old, fun b hb => (Step.new (T := T) hp).liv b (h.bt b hb)⟩
  obtain ⟨a, e', r⟩ := h.obj n ob e
  exact ⟨a, e', r.step (Step.new hp) (upd_ne fun q => r.tracked (q ▸ hp))⟩
theorem HSim.notban (h : HSim K T μ H) (hp : H p = none) : ¬ T.ban p := by
  rintro (q | q)
  · exact h.tracked q hp
  · exact h.bt p q hp
theorem HSim.notmem (h : HSim K T μ H) (hp : H p = none) : p ∉ T.ρ := fun q => h.tracked q hp
mutual
theorem RepV.belOf : ∀ {v : Val} {x : V}, RepV K H T v x → v.bel T.ρ.length = true
  | _, _, .non => rfl
  | _, _, .bl b => rfl
  | _, _, .int b => rfl
  | _, _, .str b => rfl
  | _, _, .ty b => rfl
  | _, _, .tup _ r => by unfold Val.bel; exact r.belOf
  | _, _, .lst _ _ r => by unfold Val.bel; exact r.belOf
  | _, _, .fz _ r => by unfold Val.bel; exact r.belOf
  | _, _, .ref h => by unfold Val.bel; exact decide_eq_true (List.getElem?_eq_some_iff.mp h).1
theorem RepL.belOf : ∀ {vs : List Val} {xs : List V}, RepL K H T vs xs → belL T.ρ.length vs = true
  | _, _, .nil => rfl
  | _, _, .cons h r => by unfold belL; rw [h.belOf, r.belOf]; rfl
end
/-- a new list that may change -/
theorem Step.push {xs : List V} (hp : H p = none) : Step T H ⟨T.ρ ++ [p], T.β⟩ (upd H p o) :=
  ⟨⟨[p], rfl, fun b hb => by have e : b = p := by simpa using hb
                             rw [e]; exact hp⟩, ⟨[], rfl, by simp⟩, (Step.new (T := T) hp).frm, (Step.new (T := T) hp).liv⟩
theorem HSim.push {vs : List Val} {xs : List V} (h : HSim K T μ H) (hp : H p = none) (r : RepL K H T vs xs) : HSim K ⟨T.ρ ++ [p], T.β⟩ (μ ++ [.lst vs]) (upd H p (.lst xs)) := by
  have st : Step T H ⟨T.ρ ++ [p], T.β⟩ (upd H p (.lst xs)) := Step.push (xs := xs) hp
  refine ⟨by simp [h.len], ?_, fun n ob e => ?_, fun n ob e => ?_, fun b hb => st.liv b (h.bt b hb)⟩
  · refine List.nodup_append.mpr ⟨h.nd, by simp, fun a ha b hb => ?_⟩
    have e : b = p := by simpa using hb
    subst e
    exact fun q => h.notmem hp (q ▸ ha)
  · by_cases hn : n < μ.length
    · rw [List.getElem?_append_left hn] at e
      obtain ⟨a, e', r'⟩ := h.obj n ob e
      exact ⟨a, by rw [List.getElem?_append_left (List.getElem?_eq_some_iff.mp e').1]; exact e', r'.step st (upd_ne fun q => r'.tracked (q ▸ hp))⟩
    · have hl : n < (μ ++ [Ob.lst vs]).length := (List.getElem?_eq_some_iff.mp e).1
      have : n = μ.length := by simp at hl; omega
      subst this
      simp at e
      subst e
      exact ⟨p, by rw [← h.len]; simp, xs, upd_same, r.step st⟩
  · by_cases hn : n < μ.length
    · rw [List.getElem?_append_left hn] at e
      exact h.old n ob e
    · have hl : n < (μ ++ [Ob.lst vs]).length := (List.getElem?_eq_some_iff.mp e).1
      have : n = μ.length := by simp at hl; omega
      subst this
      simp at e
      subst e
      have z := r.belOf
      rw [h.len] at z
      exact z
/-- a list of the small heap changed -/
theorem Step.put {a : Addr} (ha : a ∈ T.ρ) : Step T H T (upd H a o) :=
  ⟨⟨[], by simp, by simp⟩, ⟨[], rfl, by simp⟩, fun b u h n => by rw [upd_ne (fun e : b = a => n (by rw [e]; exact ha))]; exact h, fun b h => by
    by_cases e : b = a
    · subst e; rw [upd_same]; simp
    · rw [upd_ne e]; exact h⟩
theorem HSim.put {n : Nat} {a : Addr} {vs : List Val} {xs : List V} (h : HSim K T μ H) (ha : T.ρ[n]? = some a) (r : RepL K H T vs xs) (b : belL n vs = true) : HSim K T (μ.set n (.lst vs)) (upd H a (.lst xs)) := by
  have st : Step T H T (upd H a (.lst xs)) := Step.put (List.mem_of_getElem? ha)
  refine ⟨by simp [h.len], h.nd, fun m ob e => ?_, fun m ob e => ?_, fun b hb => st.liv b (h.bt b hb)⟩
  · by_cases hm : m = n
    · subst hm
      have hl : m < μ.length := by rw [← h.len]; exact (List.getElem?_eq_some_iff.mp ha).1
      rw [List.getElem?_set_self hl] at e
      cases e
      exact ⟨a, ha, xs, upd_same, r.step st⟩
    · rw [List.getElem?_set_ne (Ne.symm hm)] at e
      obtain ⟨a', e', r'⟩ := h.obj m ob e
      refine ⟨a', e', r'.step st (upd_ne fun q => hm ?_)⟩
      subst q
      exact nodup_ix' h.nd e' ha
  · by_cases hm : m = n
    · subst hm
      have hl : m < μ.length := by rw [← h.len]; exact (List.getElem?_eq_some_iff.mp ha).1
      rw [List.getElem?_set_self hl] at e
      cases e
      exact b
    · rw [List.getElem?_set_ne (Ne.symm hm)] at e
      exact h.old m ob e
where
  nodup_ix' {l : List Addr} (hN : l.Nodup) {i j : Nat} {x : Addr} (a : l[i]? = some x) (b : l[j]? = some x) : i = j := by
    obtain ⟨h1, e1⟩ := List.getElem?_eq_some_iff.mp a
    obtain ⟨h2, e2⟩ := List.getElem?_eq_some_iff.mp b
    exact (List.getElem_inj hN).mp (e1.trans e2.symm)
/-- the items of a list or tuple, as they stand now -/
theorem HSim.get {n : Nat} {vs : List Val} {x : V} (h : HSim K T μ H) (e : μ[n]? = some (.lst vs)) (r : RepV K H T (.ref n) x) : ∃ a xs, x = .ref a ∧ T.ρ[n]? = some a ∧ H a = some (.lst xs) ∧ RepL K H T vs xs := by
  cases r with
  | @ref _ a ha =>
    obtain ⟨a', e', xs, q, r⟩ := h.obj n _ e
    rw [ha] at e'; cases e'
    exact ⟨a, xs, rfl, ha, q, r⟩
end

/-! ### what is wanted of a result -/
section
variable {K : PySem.W.Frag} {mg : Str → Option Value}
/-- an exception: its class by its name, its fields -/
def XRep (K : PySem.W.Frag) (mg : Str → Option Value) (H : Hp) (T : Tr) (e : Ex) (cls : Value) (d : Option Addr) : Prop :=
  (∃ C, cls = .ref C ∧ mg (xNm e.cls) = some (.ref C)) ∧ ∀ f v, (f, v) ∈ e.fs → ∃ dx fs x, d = some dx ∧ ¬ T.ban dx ∧ H dx = some (.xd fs) ∧ fs.lookup f = some x ∧ RepV K H T v x
theorem XRep.step {H H' : Hp} {T T' : Tr} {e : Ex} {cls : Value} {d : Option Addr} (h : XRep K mg H T e cls d) (s : Step T H T' H') : XRep K mg H' T' e cls d :=
  ⟨h.1, fun f v hm => let ⟨dx, fs, x, e1, n, e2, e3, r⟩ := h.2 f v hm; ⟨dx, fs, x, e1, fun q => n (s.ban (by rw [e2]; simp) q), s.frm _ _ e2 fun q => n (.inl q), e3, r.step s⟩⟩
abbrev EK := Ex → Tr → Hp → Prop
def Post {α β : Type} (K : PySem.W.Frag) (Rel : Hp → Tr → α → β → Prop) (T : Tr) (H : Hp) (r : R α) (Q : β → Hp → Prop) (E : EK) : Prop := match r with
  | .ok a μ' => ∀ T' H' b, Step T H T' H' → HSim K T' μ' H' → Rel H' T' a b → Q b H'
  | .exc e μ' => ∀ T' H', Step T H T' H' → HSim K T' μ' H' → E e T' H'
  | .bad => False
abbrev RV (K : PySem.W.Frag) : Hp → Tr → Val → V → Prop := fun H T v x => RepV K H T v x
abbrev RL (K : PySem.W.Frag) : Hp → Tr → List Val → List V → Prop := fun H T v x => RepL K H T v x
abbrev RB : Hp → Tr → Bool → Bool → Prop := fun _ _ v x => x = v
def EX (K : PySem.W.Frag) (mg : Str → Option Value) (W : WX) (σ : St) : EK := fun e T' H' => ∀ cls d, XRep K mg H' T' e cls d → W cls d σ H'
/-- the reading of a combinator -/
def Gn {α β : Type} (K : PySem.W.Frag) (mg : Str → Option Value) (W : WX) (Rel : Hp → Tr → α → β → Prop) (f : Env → Hh → R α) : St → Hp → (β → Hp → Prop) → Prop := fun σ H Q =>
  ∃ T μ env, HSim K T μ H ∧ ESim K H T env σ ∧ Post K Rel T H (f env μ) Q (EX K mg W σ)
abbrev GE (K : PySem.W.Frag) (mg : Str → Option Value) (W : WX) (f : Ev) : TE := Gn K mg W (RV K) f
abbrev GT (K : PySem.W.Frag) (mg : Str → Option Value) (W : WX) (f : Tv) : TT := Gn K mg W RB f
abbrev GA (K : PySem.W.Frag) (mg : Str → Option Value) (W : WX) (f : Av) : TA := Gn K mg W (RL K) f
theorem Post.step {α β : Type} {Rel : Hp → Tr → α → β → Prop} {T T1 : Tr} {H H1 : Hp} {r : R α} {Q : β → Hp → Prop} {E : EK} (h : Post K Rel T H r Q E) (s : Step T H T1 H1) : Post K Rel T1 H1 r Q E := by
  cases r with
  | ok a μ => exact fun T' H' b s' => h T' H' b (s.trans s')
  | exc e μ => exact fun T' H' s' => h T' H' (s.trans s')
  | bad => exact h
theorem Post.seq {α β γ δ : Type} {Rel : Hp → Tr → α → β → Prop} {Rel2 : Hp → Tr → γ → δ → Prop} {T : Tr} {H : Hp} {r : R α} {f : α → Hh → R γ} {Q : δ → Hp → Prop} {Q1 : β → Hp → Prop} {E : EK}
    (h : Post K Rel2 T H (r.bnd f) Q E)
    (k : ∀ a μ1 T1 H1 b, Step T H T1 H1 → HSim K T1 μ1 H1 → Rel H1 T1 a b → Post K Rel2 T1 H1 (f a μ1) Q E → Q1 b H1) : Post K Rel T H r Q1 E := by
  cases r with
  | ok a μ => exact fun T' H' b s hs rl => k a μ T' H' b s hs rl (Post.step h s)
  | exc e μ => exact h
  | bad => exact h
/-- the end: the answer at hand -/
theorem Post.here {α β : Type} {Rel : Hp → Tr → α → β → Prop} {T T1 : Tr} {H H1 : Hp} {a : α} {b : β} {μ1 : Hh} {Q : β → Hp → Prop} {E : EK} (h : Post K Rel T H (.ok a μ1) Q E) (s : Step T H T1 H1) (hs : HSim K T1 μ1 H1) (r : Rel H1 T1 a b) : Q b H1 := h T1 H1 b s hs r
theorem Post.now {α β : Type} {Rel : Hp → Tr → α → β → Prop} {T : Tr} {H : Hp} {a : α} {b : β} {μ1 : Hh} {Q : β → Hp → Prop} {E : EK} (h : Post K Rel T H (.ok a μ1) Q E) (hs : HSim K T μ1 H) (r : Rel H T a b) : Q b H := h T H b (Step.refl T H) hs r
end
end Mp

set_option Elab.async false
set_option linter.all false
set_option maxRecDepth 100000
namespace Mp
open PySem PySem.Spec PyProof.Rows L2

/-! ### expressions -/
theorem PE.imp {X : Cx} {e : Expr} {t t' : TE} (h : PE X e t) (k : ∀ σ H Q, t' σ H Q → t σ H Q) : PE X e t' := ⟨fun pins s σ H Q I q => h.run pins s σ H Q I (k σ H Q q)⟩
theorem PT.imp {X : Cx} {e : Expr} {t t' : TT} (h : PT X e t) (k : ∀ σ H Q, t' σ H Q → t σ H Q) : PT X e t' := ⟨fun pins s σ H Q I q => h.run pins s σ H Q I (k σ H Q q)⟩
theorem PW.imp {X : Cx} {e : Expr} {t t' : TT} (h : PW X e t) (k : ∀ σ H Q, t' σ H Q → t σ H Q) : PW X e t' := ⟨fun wh pins s σ H Q I q => h.run wh pins s σ H Q I (k σ H Q q)⟩
theorem PA.imp {X : Cx} {es : List Expr} {t t' : TA} (h : PA X es t) (k : ∀ σ H Q, t' σ H Q → t σ H Q) : PA X es t' := ⟨fun pos pins s σ H Q I q => h.run pos pins s σ H Q I (k σ H Q q)⟩

def eVar (i : Nat) : Ev := fun env h => match env[i]? with
  | some (some v) => .ok v h
  | _ => .bad
def eC (v : Val) : Ev := fun _ h => .ok v h
def eOp (p : Val → Val → Hh → R Val) (a b : Ev) : Ev := fun env h => (a env h).bnd fun x h1 => (b env h1).bnd fun y h2 => p x y h2
def eUn (p : Val → Hh → R Val) (a : Ev) : Ev := fun env h => (a env h).bnd fun x h1 => p x h1
def eCall (p : List Val → Hh → R Val) (a : Av) : Ev := fun env h => (a env h).bnd fun xs h1 => p xs h1
def eMeth (c : Val → Bool) (p : Val → List Val → Hh → R Val) (o : Ev) (a : Av) : Ev := fun env h => (o env h).bnd fun x h1 => if c x = true then (a env h1).bnd fun xs h2 => p x xs h2 else .bad
def eMeth0 (c : Val → Bool) (p : Val → List Val → Hh → R Val) (o : Ev) : Ev := fun env h => (o env h).bnd fun x h1 => if c x = true then p x [] h1 else .bad
def isL : Val → Bool
  | .ref _ => true
  | .lst _ => true
  | _ => false
def aNil : Av := fun _ h => .ok [] h
def aCons (a : Ev) (r : Av) : Av := fun env h => (a env h).bnd fun x h1 => (r env h1).bnd fun xs h2 => .ok (x :: xs) h2
def tB (a : Ev) : Tv := fun env h => (a env h).bnd fun x h1 => match x with
  | .bl b => .ok b h1
  | _ => .bad
def eAnd (a b : Ev) : Ev := fun env h => (a env h).bnd fun x h1 => match x with
  | .bl true => b env h1
  | .bl false => .ok (.bl false) h1
  | _ => .bad
def eOr (a b : Ev) : Ev := fun env h => (a env h).bnd fun x h1 => match x with
  | .bl false => b env h1
  | .bl true => .ok (.bl true) h1
  | _ => .bad
def eNot (a : Ev) : Ev := fun env h => (a env h).bnd fun x h1 => match x with
  | .bl b => .ok (.bl (!b)) h1
  | _ => .bad
def eIf (c : Tv) (a b : Ev) : Ev := fun env h => (c env h).bnd fun x h1 => if x = true then a env h1 else b env h1
def tAnd (a b : Tv) : Tv := fun env h => (a env h).bnd fun x h1 => if x = true then b env h1 else .ok false h1
def tOr (a b : Tv) : Tv := fun env h => (a env h).bnd fun x h1 => if x = true then .ok true h1 else b env h1
def tNot (a : Tv) : Tv := fun env h => (a env h).bnd fun x h1 => .ok (!x) h1
/-- a list made: to be changed (m), or frozen -/
def mk (m : Bool) (l : List Val) (h : Hh) : R Val := if m = true then .ok (.ref h.length) (h ++ [.lst l]) else .ok (.lst l) h
def eTup (a : Av) : Ev := fun env h => (a env h).bnd fun xs h1 => if xs.length ≤ sizeLine then .ok (.tup xs) h1 else .bad
def eLst (m : Bool) (a : Av) : Ev := fun env h => (a env h).bnd fun xs h1 => if xs.length ≤ sizeLine then mk m xs h1 else .bad
def eChain (p q : Val → Val → Hh → R Val) (a b c : Ev) : Ev := fun env h => (a env h).bnd fun x h1 => (b env h1).bnd fun y h2 => (p x y h2).bnd fun z h3 => match z with
  | .bl true => (c env h3).bnd fun w h4 => q y w h4
  | .bl false => .ok (.bl false) h3
  | _ => .bad

/-- a rule of HandS by values, and its plain function -/
def P1 (K : PySem.W.Frag) (r : V → Hp → VK → Prop) (p : Val → Hh → R Val) : Prop := ∀ (T : Tr) (μ : Hh) (H : Hp) (v : Val) (x : V) (Q : VK) (E : EK), HSim K T μ H → RepV K H T v x → Post K (RV K) T H (p v μ) Q E → r x H Q
def P2 (K : PySem.W.Frag) (r : R2) (p : Val → Val → Hh → R Val) : Prop := ∀ (T : Tr) (μ : Hh) (H : Hp) (v w : Val) (x y : V) (Q : VK) (E : EK), HSim K T μ H → RepV K H T v x → RepV K H T w y → Post K (RV K) T H (p v w μ) Q E → r x y H Q
def PL (K : PySem.W.Frag) (r : List V → Hp → VK → Prop) (p : List Val → Hh → R Val) : Prop := ∀ (T : Tr) (μ : Hh) (H : Hp) (v : List Val) (x : List V) (Q : VK) (E : EK), HSim K T μ H → RepL K H T v x → Post K (RV K) T H (p v μ) Q E → r x H Q
def PM (K : PySem.W.Frag) (r : V → List V → Hp → VK → Prop) (p : Val → List Val → Hh → R Val) : Prop := ∀ (T : Tr) (μ : Hh) (H : Hp) (v : Val) (x : V) (vs : List Val) (xs : List V) (Q : VK) (E : EK), HSim K T μ H → RepV K H T v x → RepL K H T vs xs → Post K (RV K) T H (p v vs μ) Q E → r x xs H Q

section
variable {K : PySem.W.Frag} {T : Tr} {μ : Hh} {H : Hp} {Q : VK} {E : EK}
theorem mk_post {vs : List Val} {xs : List V} {m : Bool} {p : Addr} (hs : HSim K T μ H) (r : RepL K H T vs xs) (hp : H p = none) (q : Post K (RV K) T H (mk m vs μ) Q E) : Q (.ref p) (upd H p (.lst xs)) := by
  unfold mk at q
  cases m with
  | true =>
    rw [if_pos rfl] at q
    refine Post.here q (Step.push (xs := xs) hp) (hs.push hp r) (RepV.ref ?_)
    rw [← hs.len]; simp
  | false =>
    rw [if_neg (by decide)] at q
    exact Post.here q (Step.new hp) (hs.new hp) (RepV.lst (hs.notban hp) upd_same (r.step (Step.new hp)))
theorem tup_post {vs : List Val} {xs : List V} {p : Addr} {μ' : Hh} (e : μ' = μ) (hs : HSim K T μ H) (r : RepL K H T vs xs) (hp : H p = none) (q : Post K (RV K) T H (.ok (.tup vs) μ') Q E) : Q (.ref p) (upd H p (.tup xs)) := by
  subst e
  exact Post.here q (Step.new hp) (hs.new hp) (RepV.tup (.inl ⟨hs.notban hp, upd_same⟩) (r.step (Step.new hp)))
end

section
variable {X : Cx} {W : WX} {a b c : Expr} {es : List Expr} {pos : Pos} {ea eb ec : Ev} {av : Av} {tv tv' : Tv}
theorem ge_var (i : Nat) {x : Str} {pos : Pos} (hN : X.N[i]? = some x := by rfl) (hv : Vis X.env.scope x := by first | exact Or.inl rfl | exact Or.inr (Or.inl rfl) | exact Or.inr (Or.inr rfl)) (hd : (x == ("__debug__" : Str)) = false := by decide)
    (hcd : (x == ("__classdict__" : Str)) = false := by decide) : PE X (.Name x pos) (GE X.K X.mg W (eVar i)) := by
  refine PE.imp (pe_var hN hv hd hcd) fun σ H Q ⟨T, μ, env, hs, es, q⟩ => ?_
  unfold eVar at q
  split at q
  · rename_i v e
    obtain ⟨x, e', r⟩ := es.at' i v e
    exact ⟨x, e', Post.now q hs r⟩
  · exact q.elim
theorem ge_c {v : Val} {x : V} (h : PE X a (tC x)) (r : ∀ H T, RepV X.K H T v x) : PE X a (GE X.K X.mg W (eC v)) :=
  PE.imp h fun σ H Q ⟨T, μ, env, hs, es, q⟩ => Post.now q hs (r H T)
theorem ge_int {i j pos} : PE X (.Constant (.int i) j pos) (GE X.K X.mg W (eC (.int i))) := ge_c pe_int fun _ _ => .int i
theorem ge_bl {i j pos} : PE X (.Constant (.bool i) j pos) (GE X.K X.mg W (eC (.bl i))) := ge_c pe_bl fun _ _ => .bl i
theorem ge_non {j pos} : PE X (.Constant .none j pos) (GE X.K X.mg W (eC .non)) := ge_c pe_non fun _ _ => .non
theorem ge_str {i j pos} : PE X (.Constant (.str i) j pos) (GE X.K X.mg W (eC (.str i))) := ge_c pe_str fun _ _ => .str i
/-- a module's int -/
theorem ge_gi {x : Str} {i : Int} {pos : Pos} (hg : Gl X x) (hm : ∃ t, X.mg x = some (.int i t)) (hd : (x == ("__debug__" : Str)) = false := by decide) : PE X (.Name x pos) (GE X.K X.mg W (eC (.int i))) := let ⟨t, e⟩ := hm; ge_c (pe_glob (v := .int i) hg e ⟨t, rfl⟩ hd) fun _ _ => .int i
/-- a built-in class as a value -/
theorem ge_ty {x : Str} {t : Ty} {pos : Pos} (hg : Gl X x) (hm : X.mg x = none) (hv : bootBuiltins x = some (.type t.nm)) (hn : x ≠ "__name__" := by decide) (hd : (x == ("__debug__" : Str)) = false := by decide) : PE X (.Name x pos) (GE X.K X.mg W (eC (.ty t))) :=
  ge_c (pe_bltn (v := .ty t.nm) hg hm hv rfl hn hd) fun _ _ => .ty t
theorem ge_op {op : Operator} {r : R2} {p : Val → Val → Hh → R Val} (ho : OpR X (binaryOp op) r) (hp : P2 X.K r p) (ha : PE X a (GE X.K X.mg W ea)) (hb : PE X b (GE X.K X.mg W eb)) : PE X (.BinOp a op b pos) (GE X.K X.mg W (eOp p ea eb)) :=
  PE.imp (pe_op ho ha hb) fun σ H Q ⟨T, μ, env, hs, es, q⟩ => ⟨T, μ, env, hs, es, q.seq fun v μ1 T1 H1 x s1 hs1 r1 q1 => ⟨T1, μ1, env, hs1, es.step s1, q1.seq fun w μ2 T2 H2 y s2 hs2 r2 q2 => hp T2 μ2 H2 v w x y Q _ hs2 (r1.step s2) r2 q2⟩⟩
theorem ge_cmp {op : CmpOp} {r : R2} {p : Val → Val → Hh → R Val} (ho : OpR X (compareOp op) r) (hp : P2 X.K r p) (ha : PE X a (GE X.K X.mg W ea)) (hb : PE X b (GE X.K X.mg W eb)) (hm : behindInMarks op b = false) : PE X (.Compare a [op] [b] pos) (GE X.K X.mg W (eOp p ea eb)) :=
  PE.imp (pe_cmpR ho ha hb hm) fun σ H Q ⟨T, μ, env, hs, es, q⟩ => ⟨T, μ, env, hs, es, q.seq fun v μ1 T1 H1 x s1 hs1 r1 q1 => ⟨T1, μ1, env, hs1, es.step s1, q1.seq fun w μ2 T2 H2 y s2 hs2 r2 q2 => hp T2 μ2 H2 v w x y Q _ hs2 (r1.step s2) r2 q2⟩⟩
/-- a bool's reading as a test -/
theorem tB_post {K : PySem.W.Frag} {T : Tr} {H : Hp} {r : R Val} {Q : Bool → Hp → Prop} {E : EK} (q : Post K RB T H (r.bnd fun x h1 => match x with
  | .bl b => .ok b h1
  | _ => .bad) Q E) : Post K (RV K) T H r (fun x H' => ∃ k, x = .bl k ∧ Q k H') E := q.seq fun v μ1 T1 H1 x s1 hs1 r1 q1 => by
  cases r1 with
  | bl k => exact ⟨k, rfl, Post.now q1 hs1 rfl⟩
  | _ => exact q1.elim
theorem gt_cmp {op : CmpOp} {r : R2} {p : Val → Val → Hh → R Val} (ho : OpR X (compareOp op) r) (hp : P2 X.K r p) (ha : PE X a (GE X.K X.mg W ea)) (hb : PE X b (GE X.K X.mg W eb)) (hm : behindInMarks op b = false) : PT X (.Compare a [op] [b] pos) (GT X.K X.mg W (tB (eOp p ea eb))) :=
  PT.imp (pt_cmpR ho ha hb hm) fun σ H Q ⟨T, μ, env, hs, es, q⟩ => by
    have q' := tB_post q
    exact ⟨T, μ, env, hs, es, q'.seq fun v μ1 T1 H1 x s1 hs1 r1 q1 => ⟨T1, μ1, env, hs1, es.step s1, q1.seq fun w μ2 T2 H2 y s2 hs2 r2 q2 => hp T2 μ2 H2 v w x y _ _ hs2 (r1.step s2) r2 q2⟩⟩
/-- an expression that is a bool, as a test -/
theorem gt_val (h : PE X a (GE X.K X.mg W ea)) (he : ∀ whole, isTrue a X.env whole = (do let v ← whole; standAt a.pos; holding [v] (truthy v)) := by intro _; rfl) : PT X a (GT X.K X.mg W (tB ea)) :=
  PT.imp (pt_val h he) fun σ H Q ⟨T, μ, env, hs, es, q⟩ => ⟨T, μ, env, hs, es, tB_post q⟩
theorem gt_not (h : PT X a (GT X.K X.mg W tv)) : PT X (.UnaryOp .Not a pos) (GT X.K X.mg W (tNot tv)) :=
  PT.imp (pt_not h) fun σ H Q ⟨T, μ, env, hs, es, q⟩ => ⟨T, μ, env, hs, es, q.seq fun v μ1 T1 H1 x s1 hs1 r1 q1 => by
    cases r1; exact Post.now q1 hs1 rfl⟩
theorem gw_and1 (h : PT X a (GT X.K X.mg W tv)) : PW X (.BoolOp .And [a] pos) (GT X.K X.mg W tv) := pw_and1 h
theorem gw_or1 (h : PT X a (GT X.K X.mg W tv)) : PW X (.BoolOp .Or [a] pos) (GT X.K X.mg W tv) := pw_or1 h
theorem gw_and {rest : List Expr} (ha : PT X a (GT X.K X.mg W tv)) (hb : PW X (.BoolOp .And (b :: rest) pos) (GT X.K X.mg W tv')) : PW X (.BoolOp .And (a :: b :: rest) pos) (GT X.K X.mg W (Mp.tAnd tv tv')) :=
  PW.imp (pw_and ha hb) fun σ H Q ⟨T, μ, env, hs, es, q⟩ => ⟨T, μ, env, hs, es, q.seq fun v μ1 T1 H1 x s1 hs1 r1 q1 => by
    cases r1
    cases v with
    | true => rw [if_pos rfl] at q1 ⊢; exact ⟨T1, μ1, env, hs1, es.step s1, q1⟩
    | false => rw [if_neg (by decide)] at q1 ⊢; exact Post.now q1 hs1 rfl⟩
theorem gw_or {rest : List Expr} (ha : PT X a (GT X.K X.mg W tv)) (hb : PW X (.BoolOp .Or (b :: rest) pos) (GT X.K X.mg W tv')) : PW X (.BoolOp .Or (a :: b :: rest) pos) (GT X.K X.mg W (Mp.tOr tv tv')) :=
  PW.imp (pw_or ha hb) fun σ H Q ⟨T, μ, env, hs, es, q⟩ => ⟨T, μ, env, hs, es, q.seq fun v μ1 T1 H1 x s1 hs1 r1 q1 => by
    cases r1
    cases v with
    | false => rw [if_neg (by decide)] at q1 ⊢; exact ⟨T1, μ1, env, hs1, es.step s1, q1⟩
    | true => rw [if_pos rfl] at q1 ⊢; exact Post.now q1 hs1 rfl⟩
theorem ge_one {op} (h : PE X a (GE X.K X.mg W ea)) : PE X (.BoolOp op [a] pos) (GE X.K X.mg W ea) := pe_one h
theorem ge_and {rest : List Expr} (ha : PE X a (GE X.K X.mg W ea)) (hb : PE X (.BoolOp .And (b :: rest) pos) (GE X.K X.mg W eb)) : PE X (.BoolOp .And (a :: b :: rest) pos) (GE X.K X.mg W (eAnd ea eb)) :=
  PE.imp (pe_and ha hb) fun σ H Q ⟨T, μ, env, hs, es, q⟩ => ⟨T, μ, env, hs, es, q.seq fun v μ1 T1 H1 x s1 hs1 r1 q1 => by
    cases r1 with
    | bl k =>
      refine ⟨k, rfl, ?_⟩
      cases k with
      | true => rw [if_pos rfl]; exact ⟨T1, μ1, env, hs1, es.step s1, q1⟩
      | false => rw [if_neg (by decide)]; exact Post.now q1 hs1 (.bl false)
    | _ => exact q1.elim⟩
theorem ge_or {rest : List Expr} (ha : PE X a (GE X.K X.mg W ea)) (hb : PE X (.BoolOp .Or (b :: rest) pos) (GE X.K X.mg W eb)) : PE X (.BoolOp .Or (a :: b :: rest) pos) (GE X.K X.mg W (eOr ea eb)) :=
  PE.imp (pe_or ha hb) fun σ H Q ⟨T, μ, env, hs, es, q⟩ => ⟨T, μ, env, hs, es, q.seq fun v μ1 T1 H1 x s1 hs1 r1 q1 => by
    cases r1 with
    | bl k =>
      refine ⟨k, rfl, ?_⟩
      cases k with
      | false => rw [if_neg (by decide)]; exact ⟨T1, μ1, env, hs1, es.step s1, q1⟩
      | true => rw [if_pos rfl]; exact Post.now q1 hs1 (.bl true)
    | _ => exact q1.elim⟩
theorem ge_not (ha : PE X a (GE X.K X.mg W ea)) : PE X (.UnaryOp .Not a pos) (GE X.K X.mg W (eNot ea)) :=
  PE.imp (pe_not ha) fun σ H Q ⟨T, μ, env, hs, es, q⟩ => ⟨T, μ, env, hs, es, q.seq fun v μ1 T1 H1 x s1 hs1 r1 q1 => by
    cases r1 with
    | bl k => exact ⟨k, rfl, Post.now q1 hs1 (.bl _)⟩
    | _ => exact q1.elim⟩
theorem ge_if {c : Expr} (hc : PT X c (GT X.K X.mg W tv)) (ha : PE X a (GE X.K X.mg W ea)) (hb : PE X b (GE X.K X.mg W eb)) : PE X (.IfExp c a b pos) (GE X.K X.mg W (eIf tv ea eb)) :=
  PE.imp (pe_ifExp hc ha hb) fun σ H Q ⟨T, μ, env, hs, es, q⟩ => ⟨T, μ, env, hs, es, q.seq fun v μ1 T1 H1 x s1 hs1 r1 q1 => by
    cases r1
    cases v with
    | true => rw [if_pos rfl] at q1 ⊢; exact ⟨T1, μ1, env, hs1, es.step s1, q1⟩
    | false => rw [if_neg (by decide)] at q1 ⊢; exact ⟨T1, μ1, env, hs1, es.step s1, q1⟩⟩
theorem ge_un {op : UnaryOp} {r : V → Hp → VK → Prop} {p : Val → Hh → R Val} (ho : UnR X (unaryOp op) r) (hp : P1 X.K r p) (ha : PE X a (GE X.K X.mg W ea)) : PE X (.UnaryOp op a pos) (GE X.K X.mg W (eUn p ea)) :=
  PE.imp (pe_un ho ha) fun σ H Q ⟨T, μ, env, hs, es, q⟩ => ⟨T, μ, env, hs, es, q.seq fun v μ1 T1 H1 x s1 hs1 r1 q1 => hp T1 μ1 H1 v x Q _ hs1 r1 q1⟩
theorem chain_post {r r' : R2} {p p' : Val → Val → Hh → R Val} (hp : P2 X.K r p) (hp' : P2 X.K r' p') {σ : St} {H : Hp} {Q : VK} (q : GE X.K X.mg W (eChain p p' ea eb ec) σ H Q) :
    tChain r r' (GE X.K X.mg W ea) (GE X.K X.mg W eb) (GE X.K X.mg W ec) σ H Q := by
  obtain ⟨T, μ, env, hs, es, q⟩ := q
  refine ⟨T, μ, env, hs, es, q.seq fun v μ1 T1 H1 x s1 hs1 r1 q1 => ⟨T1, μ1, env, hs1, es.step s1, q1.seq fun w μ2 T2 H2 y s2 hs2 r2 q2 => ?_⟩⟩
  refine hp T2 μ2 H2 v w x y _ _ hs2 (r1.step s2) r2 (q2.seq fun z μ3 T3 H3 zz s3 hs3 r3 q3 => ?_)
  cases r3 with
  | bl k =>
    refine ⟨k, rfl, ?_⟩
    cases k with
    | true => exact ⟨T3, μ3, env, hs3, ((es.step s1).step s2).step s3, q3.seq fun u μ4 T4 H4 xx s4 hs4 r4 q4 => hp' T4 μ4 H4 w u y xx Q _ hs4 ((r2.step s3).step s4) r4 q4⟩
    | false => exact Post.now q3 hs3 (.bl false)
  | _ => exact q3.elim
theorem ge_chain {op op' : CmpOp} {r r' : R2} {p p' : Val → Val → Hh → R Val} (ho : OpR X (compareOp op) r) (hp : P2 X.K r p) (ho' : OpR X (compareOp op') r') (hp' : P2 X.K r' p') (ha : PE X a (GE X.K X.mg W ea)) (hb : PE X b (GE X.K X.mg W eb)) (hc : PE X c (GE X.K X.mg W ec))
    (h1 : lastMarks [op, op'] [b, c] = false) : PE X (.Compare a [op, op'] [b, c] pos) (GE X.K X.mg W (eChain p p' ea eb ec)) :=
  PE.imp (pe_chain ho ho' ha hb hc h1) fun σ H Q q => chain_post hp hp' q
theorem ga_nil : PA X [] (GA X.K X.mg W aNil) := PA.imp pa_nil fun σ H Q ⟨T, μ, env, hs, es, q⟩ => Post.now q hs .nil
theorem ga_cons (ha : PE X a (GE X.K X.mg W ea)) (hr : PA X es (GA X.K X.mg W av)) (hs : starEach (a :: es) X.env = (false, eval a X.env) :: starEach es X.env := by rfl) : PA X (a :: es) (GA X.K X.mg W (aCons ea av)) :=
  PA.imp (pa_cons ha hr hs) fun σ H Q ⟨T, μ, env, hs, es, q⟩ => ⟨T, μ, env, hs, es, q.seq fun v μ1 T1 H1 x s1 hs1 r1 q1 => ⟨T1, μ1, env, hs1, es.step s1, q1.seq fun w μ2 T2 H2 y s2 hs2 r2 q2 => Post.now q2 hs2 (.cons (r1.step s2) r2)⟩⟩
theorem ge_tup {k} (h : PA X es (GA X.K X.mg W av)) : PE X (.Tuple es k pos) (GE X.K X.mg W (eTup av)) :=
  PE.imp (pe_tup h) fun σ H Q ⟨T, μ, env, hs, es, q⟩ => ⟨T, μ, env, hs, es, q.seq fun v μ1 T1 H1 x s1 hs1 r1 q1 => by
    split at q1
    · rename_i hl
      exact ⟨by rw [r1.length]; exact hl, fun p hp => tup_post rfl hs1 r1 hp q1⟩
    · exact q1.elim⟩
theorem ge_lst (m : Bool) (h : PA X es (GA X.K X.mg W av)) : PE X (.List es pos) (GE X.K X.mg W (eLst m av)) :=
  PE.imp (pe_lst h) fun σ H Q ⟨T, μ, env, hs, es, q⟩ => ⟨T, μ, env, hs, es, q.seq fun v μ1 T1 H1 x s1 hs1 r1 q1 => by
    split at q1
    · rename_i hl
      exact ⟨by rw [r1.length]; exact hl, fun p hp => mk_post hs1 r1 hp q1⟩
    · exact q1.elim⟩
/-- x[i] -/
theorem ge_ix {r : R2} {p : Val → Val → Hh → R Val} (hr : IxR X r) (hp : P2 X.K r p) (ha : PE X a (GE X.K X.mg W ea)) (hb : PE X b (GE X.K X.mg W eb)) (hs : PlainIx b) : PE X (.Subscript a b pos) (GE X.K X.mg W (eOp p ea eb)) :=
  PE.imp (pe_ix hr ha hb hs) fun σ H Q ⟨T, μ, env, hs, es, q⟩ => ⟨T, μ, env, hs, es, q.seq fun v μ1 T1 H1 x s1 hs1 r1 q1 => ⟨T1, μ1, env, hs1, es.step s1, q1.seq fun w μ2 T2 H2 y s2 hs2 r2 q2 => hp T2 μ2 H2 v w x y Q _ hs2 (r1.step s2) r2 q2⟩⟩
/-- a built-in function, a built-in class called -/
theorem ge_callB {x : Str} {p pos : Pos} {id : String} {r : List V → Hp → VK → Prop} {f : List Val → Hh → R Val} (hc : CallR X (.builtin id) r) (hp : PL X.K r f) (hg : Gl X x) (hm : X.mg x = none) (hv : bootBuiltins x = some (.builtin id)) (ha : PA X (a :: es) (GA X.K X.mg W av)) (hn : x ≠ "__name__" := by decide) (hdb : (x == ("__debug__" : Str)) = false := by decide)
    (he : starEach (a :: es) X.env = (false, eval a X.env) :: starEach es X.env := by rfl) (hpl : (backTo pos (starEach es X.env)).any (·.1) = false := by rfl) : PE X (.Call (.Name x p) (a :: es) [] pos) (GE X.K X.mg W (eCall f av)) :=
  PE.imp (pe_callB hc hg hm hv ha hn hdb he hpl) fun σ H Q ⟨T, μ, env, hs, es, q⟩ => ⟨T, μ, env, hs, es, q.seq fun v μ1 T1 H1 x s1 hs1 r1 q1 => hp T1 μ1 H1 v x Q _ hs1 r1 q1⟩
/-- o.m(..), o.m() -/
theorem ge_bm {o : Expr} {name : Str} {apos cpos : Pos} {T id : String} {r : V → List V → Hp → VK → Prop} {eo : Ev} {ck : Val → Bool} {f : Val → List Val → Hh → R Val} (pa : PlainAttrs T) (slot : Slot T name id) (hty : typeOf (.builtin id) = pure (.type "method_descriptor")) (hm : MtR X id r) (hp : PM X.K r f)
    (hT : ∀ (T' : Tr) (μ : Hh) (H : Hp) (v : Val) (x : V), ck v = true → HSim X.K T' μ H → RepV X.K H T' v x → tyV X.K T x H)
    (ho : PE X o (GE X.K X.mg W eo)) (ha : PA X (a :: es) (GA X.K X.mg W av)) (hbase : attributeBase o name X.env (eval o X.env) = eval o X.env := by rfl)
    (hfew : ((backTo cpos (starEach (a :: es) X.env)).all (fun x => !x.1) && (backToKw cpos (keywordEach [] X.env)).all (fun x => x.1.isSome)
      && decide ((a :: es).length + ([] : List Keyword).length + (if ([] : List Keyword).isEmpty then 0 else 1) < 30)) = true := by rfl)
    (hline : (apos.endLine == cpos.line) = true := by rfl) (hs : starEach (a :: es) X.env = (false, eval a X.env) :: starEach es X.env := by rfl) (hplain : (backTo cpos (starEach es X.env)).any (·.1) = false := by rfl) :
    PE X (.Call (.Attribute o name apos) (a :: es) [] cpos) (GE X.K X.mg W (eMeth ck f eo av)) :=
  PE.imp (pe_bm pa slot hty hm ho ha hbase hfew hline hs hplain) fun σ H Q ⟨T1, μ, env, hs, es, q⟩ => ⟨T1, μ, env, hs, es, q.seq fun v μ1 T1 H1 x s1 hs1 r1 q1 => by
    split at q1
    · rename_i hc
      exact ⟨hT T1 μ1 H1 v x hc hs1 r1, T1, μ1, env, hs1, es.step s1, q1.seq fun vs μ2 T2 H2 xs s2 hs2 r2 q2 => hp T2 μ2 H2 v x vs xs Q _ hs2 (r1.step s2) r2 q2⟩
    · exact q1.elim⟩
theorem ge_bm0 {o : Expr} {name : Str} {apos cpos : Pos} {T id : String} {r : V → List V → Hp → VK → Prop} {eo : Ev} {ck : Val → Bool} {f : Val → List Val → Hh → R Val} (pa : PlainAttrs T) (slot : Slot T name id) (hty : typeOf (.builtin id) = pure (.type "method_descriptor")) (hm : MtR X id r) (hp : PM X.K r f)
    (hT : ∀ (T' : Tr) (μ : Hh) (H : Hp) (v : Val) (x : V), ck v = true → HSim X.K T' μ H → RepV X.K H T' v x → tyV X.K T x H)
    (ho : PE X o (GE X.K X.mg W eo)) (hbase : attributeBase o name X.env (eval o X.env) = eval o X.env := by rfl) (hline : (apos.endLine == cpos.line) = true := by rfl) :
    PE X (.Call (.Attribute o name apos) [] [] cpos) (GE X.K X.mg W (eMeth0 ck f eo)) :=
  PE.imp (pe_bm0 pa slot hty hm ho hbase hline) fun σ H Q ⟨T1, μ, env, hs, es, q⟩ => ⟨T1, μ, env, hs, es, q.seq fun v μ1 T1 H1 x s1 hs1 r1 q1 => by
    split at q1
    · rename_i hc
      exact ⟨hT T1 μ1 H1 v x hc hs1 r1, hp T1 μ1 H1 v x [] [] Q _ hs1 r1 .nil q1⟩
    · exact q1.elim⟩
theorem tyL {K : PySem.W.Frag} (T' : Tr) (μ : Hh) (H : Hp) (v : Val) (x : V) (hc : isL v = true) (hs : HSim K T' μ H) (r : RepV K H T' v x) : tyV K "list" x H := by
  cases r with
  | @lst a xs vs b h r => exact .inl ⟨rfl, xs, SqL.of h⟩
  | @ref n a h =>
    have hn : n < μ.length := by rw [← hs.len]; exact (List.getElem?_eq_some_iff.mp h).1
    obtain ⟨a', e', r⟩ := hs.obj n μ[n] (List.getElem?_eq_getElem hn)
    rw [h] at e'; cases e'
    cases hq : μ[n] with
    | lst l => rw [hq] at r; obtain ⟨xs, q, _⟩ := r; exact .inl ⟨rfl, xs, SqL.of q⟩
  | _ => cases hc
theorem ge_callT {x : Str} {p pos : Pos} {id : String} {r : List V → Hp → VK → Prop} {f : List Val → Hh → R Val} (hc : CallR X (.type id) r) (hp : PL X.K r f) (hg : Gl X x) (hm : X.mg x = none) (hv : bootBuiltins x = some (.type id)) (ha : PA X (a :: es) (GA X.K X.mg W av)) (hn : x ≠ "__name__" := by decide) (hdb : (x == ("__debug__" : Str)) = false := by decide)
    (he : starEach (a :: es) X.env = (false, eval a X.env) :: starEach es X.env := by rfl) (hpl : (backTo pos (starEach es X.env)).any (·.1) = false := by rfl) : PE X (.Call (.Name x p) (a :: es) [] pos) (GE X.K X.mg W (eCall f av)) :=
  PE.imp (pe_callTy hc hg hm hv ha hn hdb he hpl) fun σ H Q ⟨T, μ, env, hs, es, q⟩ => ⟨T, μ, env, hs, es, q.seq fun v μ1 T1 H1 x s1 hs1 r1 q1 => hp T1 μ1 H1 v x Q _ hs1 r1 q1⟩
end
end Mp

set_option Elab.async false
set_option linter.all false
set_option maxRecDepth 100000
namespace Mp
open PySem PySem.Spec PyProof.Rows L2

/-! ### the items of a list, a tuple -/
/-- the items of a list as it stands -/
def lsq (v : Val) (h : Hh) : Option (List Val) := match v with
  | .lst l => some l
  | .fz l => some l
  | .ref n => match h[n]? with
    | some (.lst l) => some l
    | none => none
  | _ => none
section
variable {K : PySem.W.Frag} {T : Tr} {μ : Hh} {H : Hp} {v : Val} {x : V} {vs : List Val} {Q : VK} {E : EK}
theorem lsq_rep (hs : HSim K T μ H) (r : RepV K H T v x) (e : lsq v μ = some vs) : ∃ a xs, x = .ref a ∧ SqL K H a xs ∧ RepL K H T vs xs := by
  cases r with
  | @lst a xs vs' b h r => simp only [lsq, Option.some.injEq] at e; subst e; exact ⟨a, xs, rfl, SqL.of h, r⟩
  | @fz a xs vs' h r =>
    simp only [lsq, Option.some.injEq] at e
    subst e
    exact ⟨a, xs, rfl, h.elim (fun q => .inl (.inr q.2)) .inr, r⟩
  | @ref n a h =>
    unfold lsq at e
    dsimp only at e
    split at e
    · rename_i l el
      cases e
      obtain ⟨a', xs, ea, _, q, r⟩ := hs.get el (.ref h)
      cases ea
      exact ⟨_, xs, rfl, SqL.of q, r⟩
    · cases e
  | _ => simp only [lsq] at e; cases e
/-- .. a list that is tracked (no script) -/
theorem lsq_rep' (hs : HSim K T μ H) (r : RepV K H T v x) (e : lsq v μ = some vs) (nf : ∀ l, v ≠ .fz l) : ∃ a xs, x = .ref a ∧ H a = some (.lst xs) ∧ RepL K H T vs xs := by
  cases r with
  | @lst a xs vs' b h r => simp only [lsq, Option.some.injEq] at e; subst e; exact ⟨a, xs, rfl, h, r⟩
  | @fz a xs vs' h r => exact absurd rfl (nf _)
  | @ref n a h =>
    unfold lsq at e
    dsimp only at e
    split at e
    · rename_i l el
      cases e
      obtain ⟨a', xs, ea, _, q, r⟩ := hs.get el (.ref h)
      cases ea
      exact ⟨_, xs, rfl, q, r⟩
    · cases e
  | _ => simp only [lsq] at e; cases e
theorem tup_rep (r : RepV K H T (.tup vs) x) : ∃ a xs, x = .ref a ∧ SqT K H a xs ∧ RepL K H T vs xs := by
  cases r with
  | tup h r =>
    rcases h with ⟨_, h⟩ | h
    · exact ⟨_, _, rfl, SqT.of h, r⟩
    · exact ⟨_, _, rfl, .inr h, r⟩
theorem RepL.cut {xs : List V} (r : RepL K H T vs xs) (lo hi : Option Int) : RepL K H T ((vs.drop (HT.sIx vs.length 0 lo)).take (HT.sIx vs.length vs.length hi - HT.sIx vs.length 0 lo)) (cutV xs lo hi) := by
  unfold cutV; rw [r.length]; exact (r.drop _).take _
theorem RepL.reps {xs : List V} (r : RepL K H T vs xs) : ∀ n, RepL K H T (List.replicate n vs).flatten (List.replicate n xs).flatten
  | 0 => .nil
  | n + 1 => by
    rw [List.replicate_succ, List.replicate_succ, List.flatten_cons, List.flatten_cons]
    exact r.append (r.reps n)
end

/-! ### + - * // % ** -/
def addP (m : Bool) (v w : Val) (h : Hh) : R Val := match v, w with
  | .int i, .int j => .ok (.int (i + j)) h
  | .tup a, .tup b => if a.length + b.length ≤ sizeLine then .ok (.tup (a ++ b)) h else .bad
  | .str a, .str b => if a.length + b.length ≤ sizeLine then .ok (.str (a ++ b)) h else .bad
  | .fz _, _ => .bad
  | _, .fz _ => .bad
  | v, w => match lsq v h, lsq w h with
    | some a, some b => if a.length + b.length ≤ sizeLine then mk m (a ++ b) h else .bad
    | _, _ => .bad
theorem opAdd {X : Cx} : OpR X (binaryOp .Add) (fun x y H Q => rI0 (fun i j => .int (i + j)) x y H Q ∨ rCat x y H Q ∨ rCatA X.K x y H Q ∨
    (∃ i j, x = .str i ∧ y = .str j ∧ i.length + j.length ≤ sizeLine ∧ Q (.str (i ++ j)) H)) := op_add.or (op_cat.or (op_catA.or op_add_str))
theorem p2_add {K : PySem.W.Frag} (m : Bool) : P2 K (fun x y H Q => rI0 (fun i j => .int (i + j)) x y H Q ∨ rCat x y H Q ∨ rCatA K x y H Q ∨
    (∃ i j, x = .str i ∧ y = .str j ∧ i.length + j.length ≤ sizeLine ∧ Q (.str (i ++ j)) H)) (addP m) := by
  intro T μ H v w x y Q E hs r1 r2 q
  unfold addP at q
  split at q
  · rename_i i j
    cases r1; cases r2
    exact .inl ⟨_, _, rfl, rfl, Post.now q hs (.int _)⟩
  · rename_i a b
    obtain ⟨p, xs, rfl, h1, l1⟩ := tup_rep r1
    obtain ⟨p2, ys, rfl, h2, l2⟩ := tup_rep r2
    split at q
    · rename_i hl
      refine .inr (.inr (.inl ⟨p, p2, xs, ys, rfl, rfl, h1, h2, by rw [l1.length, l2.length]; exact hl, fun e => ?_, fun e e2 => ?_, fun e e2 p hp => tup_post rfl hs (l1.append l2) hp q⟩))
      · subst e; cases l1; exact Post.now q hs r2
      · subst e2; cases l2; rw [List.append_nil] at q; exact Post.now q hs r1
    · exact q.elim
  · rename_i a b
    cases r1; cases r2
    split at q
    · rename_i hl
      exact .inr (.inr (.inr ⟨_, _, rfl, rfl, hl, Post.now q hs (.str _)⟩))
    · exact q.elim
  · exact q.elim
  · exact q.elim
  · rename_i nf1 nf2 _ _ _
    split at q
    · rename_i a b e1 e2
      obtain ⟨p, xs, rfl, h1, l1⟩ := lsq_rep' hs r1 e1 nf1
      obtain ⟨p2, ys, rfl, h2, l2⟩ := lsq_rep' hs r2 e2 nf2
      split at q
      · rename_i hl
        exact .inr (.inl ⟨p, p2, xs, ys, rfl, rfl, h1, h2, by rw [l1.length, l2.length]; exact hl, fun p hp => mk_post hs (l1.append l2) hp q⟩)
      · exact q.elim
    · exact q.elim
def subP (v w : Val) (h : Hh) : R Val := match v, w with
  | .int i, .int j => .ok (.int (i - j)) h
  | _, _ => .bad
theorem p2_sub {K : PySem.W.Frag} : P2 K (rI0 fun i j => .int (i - j)) subP := by
  intro T μ H v w x y Q E hs r1 r2 q
  unfold subP at q
  split at q
  · cases r1; cases r2
    exact ⟨_, _, rfl, rfl, Post.now q hs (.int _)⟩
  · exact q.elim
/-- products that the machine lets -/
def mulOk (i j : Int) : Prop := (-(2 ^ 64) < i ∧ i < 2 ^ 64) ∨ (-(2 ^ 64) < j ∧ j < 2 ^ 64) ∨ i.natAbs.log2 + j.natAbs.log2 < 1000000
instance (i j : Int) : Decidable (mulOk i j) := by unfold mulOk; infer_instance
/-- tuple * int, of any size that is laid -/
def rRepB (K : PySem.W.Frag) : R2 := fun x y H Q => ∃ a n vs, x = .ref a ∧ y = .int n ∧ SqT K H a vs ∧ vs ≠ [] ∧ 2 ≤ n ∧ vs.length * n.toNat ≤ 1000000 ∧ ∀ q, H q = none → Q (.ref q) (upd H q (.tup (List.replicate n.toNat vs).flatten))
theorem op_repB {X : Cx} : OpR X (binaryOp .Mult) (rRepB X.K) := by
  intro pins s σ H x y v u Q I rx ry hq
  obtain ⟨a, n, vs, rfl, rfl, tT, nE, low, big, fin⟩ := hq
  cases rx
  obtain ⟨tk, rfl⟩ := ry
  obtain ⟨ws, rv, ⟨⟨c0, d0, da, so⟩, lk, ec, m, ed⟩, hz⟩ := I.tuple tT
  simp only at ec ed
  subst ec ed
  have len : ws.length = vs.length := rv.length.symm
  have nW : ws ≠ [] := fun z => nE (List.eq_nil_of_length_eq_zero (by rw [← len, z]; rfl))
  have em : ws.toArray.isEmpty = false := by
    cases ws with
    | nil => exact absurd rfl nW
    | cons _ _ => rfl
  have sz : ws.toArray.size = vs.length := by rw [List.size_toArray, len]
  have h1 : 1 ≤ vs.length := by
    rcases Nat.eq_zero_or_pos vs.length with z | z
    · exact absurd (List.eq_nil_of_length_eq_zero z) nE
    · exact z
  have nn : ((n.toNat : Nat) : Int) = n := Int.toNat_of_nonneg (by omega)
  have mulI : ((ws.toArray.size : Nat) : Int) * n ≤ 1000000 := by
    rw [sz, ← nn, ← Int.natCast_mul]
    omega
  have nb : n ≤ 1000000 := by
    have z : 1 * n.toNat ≤ vs.length * n.toNat := Nat.mul_le_mul_right _ h1
    omega
  have fl : (List.replicate n.toNat ws).flatten.length ≤ sizeLine := by
    rw [PyProof.Rows.lm_len_rep_flat, len, sizeLine_eq, Nat.mul_comm]
    omega
  have e0 : (decide (n < -(2 ^ 63)) || decide (n ≥ 2 ^ 63)) = false := by
    rw [decide_eq_false (by omega), decide_eq_false (by omega)] <;> rfl
  have e1 : (ws.toArray.isEmpty || n == 1) = false := by
    rw [em, Bool.false_or]; exact beq_eq_false_iff_ne.mpr (by omega)
  have e2 : (decide (n ≤ 0) || ws.toArray.isEmpty) = false := by
    rw [em, Bool.or_false]; exact decide_eq_false (by omega)
  have e4 : Builtin.Tuple.tupleTooMany (((ws.toArray.size : Nat) : Int) * n) = false := by
    unfold Builtin.Tuple.tupleTooMany
    rw [sizeLine_eq]; exact decide_eq_false (by omega)
  have inner := tuple_mulW a ws.toArray m d0 so n tk e0 e1 e2 (by omega) e4 (by rw [L2.size_rep, List.size_toArray]; exact fl)
  have outer := int_rmul_tuple n tk a ws.toArray m d0 so
  refine wpAny_binaryOp_repeat_ref (T := "tuple") (U := "int") (by decide) ⟨_, lk, rfl⟩ (fun s' => typeIs_int s' n tk) noFill_tuple_mul F.fills_int_mul F.slot_int_rmul repeat_tuple F.slot_int_index.lookup ?_
  refine call_meets F.slot_int_rmul (typeIs_int s n tk) F.entry_int_rmul (F.args_int_rmul_2 _ _) outer ⟨lk, rfl, ⟨_, lk, rfl⟩, ?_⟩
  refine call_meets F.slot_tuple_mul ⟨_, lk, rfl⟩ F.entry_tuple_mul (F.args_tuple_mul_2 _ _) inner ⟨lk, ?_⟩
  rw [L2.size_rep]
  refine ⟨.ref s.heap.objs.size, _, I.laid (t' := s.toks) (o := .tup (List.replicate n.toNat vs).flatten) (fun b ob z => Heap.get?_push_of_some _ z) (Nat.le_refl _) ⟨?_, _, rv.rep n.toNat, IsTup.new _ _⟩, rfl, fin _ (I.hok.fresh (Nat.le_refl _))⟩
  rw [PyProof.Rows.lm_len_rep_flat, sizeLine_eq, Nat.mul_comm]
  omega
def mulP (m : Bool) (v w : Val) (h : Hh) : R Val := match v, w with
  | .int i, .int j => if mulOk i j then .ok (.int (i * j)) h else .bad
  | .tup a, .int k => if a ≠ [] ∧ 2 ≤ k ∧ a.length * k.toNat ≤ 1000000 then .ok (.tup (List.replicate k.toNat a).flatten) h else .bad
  | .fz _, _ => .bad
  | v, .int k => match lsq v h with
    | some a => if -(2 ^ 63) ≤ k ∧ k < 2 ^ 63 ∧ a.length * k.toNat ≤ sizeLine then mk m (List.replicate k.toNat a).flatten h else .bad
    | _ => .bad
  | _, _ => .bad
theorem opMul {X : Cx} : OpR X (binaryOp .Mult) (fun x y H Q => rI CMul (fun i j => .int (i * j)) x y H Q ∨ rI CMulW (fun i j => .int (i * j)) x y H Q ∨ rRepB X.K x y H Q ∨ rRep x y H Q) := op_mul.or (op_mulW.or (op_repB.or op_rep))
theorem p2_mul {K : PySem.W.Frag} (m : Bool) : P2 K (fun x y H Q => rI CMul (fun i j => .int (i * j)) x y H Q ∨ rI CMulW (fun i j => .int (i * j)) x y H Q ∨ rRepB K x y H Q ∨ rRep x y H Q) (mulP m) := by
  intro T μ H v w x y Q E hs r1 r2 q
  unfold mulP at q
  split at q
  · rename_i i j
    cases r1; cases r2
    split at q
    · rename_i hm
      rcases hm with hm | hm | hm
      · exact .inl ⟨_, _, rfl, rfl, .inl hm, Post.now q hs (.int _)⟩
      · exact .inl ⟨_, _, rfl, rfl, .inr hm, Post.now q hs (.int _)⟩
      · exact .inr (.inl ⟨_, _, rfl, rfl, hm, Post.now q hs (.int _)⟩)
    · exact q.elim
  · rename_i a k
    obtain ⟨p, xs, rfl, h1, l1⟩ := tup_rep r1
    cases r2
    split at q
    · rename_i hk
      refine .inr (.inr (.inl ⟨p, k, xs, rfl, rfl, h1, fun e => hk.1 ?_, hk.2.1, by rw [l1.length]; exact hk.2.2, fun p hp => tup_post rfl hs (l1.reps _) hp q⟩))
      subst e; cases l1; rfl
    · exact q.elim
  · exact q.elim
  · rename_i nf
    cases r2
    split at q
    · rename_i a e1
      obtain ⟨p, xs, rfl, h1, l1⟩ := lsq_rep' hs r1 e1 nf
      split at q
      · rename_i hk
        exact .inr (.inr (.inr ⟨p, _, xs, rfl, rfl, h1, hk.1, hk.2.1, by rw [l1.length]; exact hk.2.2, fun p hp => mk_post hs (l1.reps _) hp q⟩))
      · exact q.elim
    · exact q.elim
  · exact q.elim
def divP (v w : Val) (h : Hh) : R Val := match v, w with
  | .int i, .int j => if 0 < j ∧ j.natAbs.log2 < 9000 then .ok (.int (i / j)) h else .bad
  | _, _ => .bad
theorem p2_div {K : PySem.W.Frag} : P2 K (rI CDivW fun i j => .int (i / j)) divP := by
  intro T μ H v w x y Q E hs r1 r2 q
  unfold divP at q
  split at q
  · cases r1; cases r2
    split at q
    · rename_i hk
      exact ⟨_, _, rfl, rfl, hk, Post.now q hs (.int _)⟩
    · exact q.elim
  · exact q.elim
def modP (v w : Val) (h : Hh) : R Val := match v, w with
  | .int i, .int j => if 0 < j then .ok (.int (i % j)) h else .bad
  | _, _ => .bad
theorem p2_mod {K : PySem.W.Frag} : P2 K (rI (fun _ j => 0 < j) fun i j => .int (i % j)) modP := by
  intro T μ H v w x y Q E hs r1 r2 q
  unfold modP at q
  split at q
  · cases r1; cases r2
    split at q
    · rename_i hk
      exact ⟨_, _, rfl, rfl, hk, Post.now q hs (.int _)⟩
    · exact q.elim
  · exact q.elim
def powP (v w : Val) (h : Hh) : R Val := match v, w with
  | .int i, .int j => if 0 ≤ j ∧ j ≤ 1000000 ∧ i.natAbs < 2 ^ 64 then .ok (.int (i ^ j.toNat)) h else .bad
  | _, _ => .bad
theorem p2_pow {K : PySem.W.Frag} : P2 K (rI CPow fun i j => .int (i ^ j.toNat)) powP := by
  intro T μ H v w x y Q E hs r1 r2 q
  unfold powP at q
  split at q
  · cases r1; cases r2
    split at q
    · rename_i hk
      exact ⟨_, _, rfl, rfl, hk, Post.now q hs (.int _)⟩
    · exact q.elim
  · exact q.elim
def negP (v : Val) (h : Hh) : R Val := match v with
  | .int i => .ok (.int (-i)) h
  | _ => .bad
theorem p1_neg {K : PySem.W.Frag} : P1 K (rU fun i => .int (-i)) negP := by
  intro T μ H v x Q E hs r q
  unfold negP at q
  split at q
  · cases r; exact ⟨_, rfl, Post.now q hs (.int _)⟩
  · exact q.elim

/-! ### comparisons -/
def cmpP (f : Int → Int → Bool) (v w : Val) (h : Hh) : R Val := match v, w with
  | .int i, .int j => .ok (.bl (f i j)) h
  | _, _ => .bad
theorem p2_cmp {K : PySem.W.Frag} (f : Int → Int → Bool) : P2 K (rI0 fun i j => .bl (f i j)) (cmpP f) := by
  intro T μ H v w x y Q E hs r1 r2 q
  unfold cmpP at q
  split at q
  · cases r1; cases r2
    exact ⟨_, _, rfl, rfl, Post.now q hs (.bl _)⟩
  · exact q.elim
abbrev ltP := cmpP fun i j => decide (i < j)
abbrev leP := cmpP fun i j => decide (i ≤ j)
abbrev gtP := cmpP fun i j => decide (j < i)
abbrev geP := cmpP fun i j => decide (j ≤ i)
def isNP (v w : Val) (h : Hh) : R Val := match w with
  | .non => match v with
    | .non => .ok (.bl true) h
    | _ => .ok (.bl false) h
  | _ => .bad
def notNP (v w : Val) (h : Hh) : R Val := match w with
  | .non => match v with
    | .non => .ok (.bl false) h
    | _ => .ok (.bl true) h
  | _ => .bad
theorem p2_isN {K : PySem.W.Frag} : P2 K (fun x y H Q => y = .non ∧ Q (.bl (decide (x = .non))) H) isNP := by
  intro T μ H v w x y Q E hs r1 r2 q
  unfold isNP at q
  cases r2 with
  | non =>
    refine ⟨rfl, ?_⟩
    cases r1 with
    | non => exact Post.now q hs (.bl _)
    | _ => exact Post.now q hs (.bl false)
  | _ => exact q.elim
theorem p2_notN {K : PySem.W.Frag} : P2 K (fun x y H Q => y = .non ∧ Q (.bl (!decide (x = .non))) H) notNP := by
  intro T μ H v w x y Q E hs r1 r2 q
  unfold notNP at q
  cases r2 with
  | non =>
    refine ⟨rfl, ?_⟩
    cases r1 with
    | non => exact Post.now q hs (.bl _)
    | _ => exact Post.now q hs (.bl true)
  | _ => exact q.elim
def notBP (v w : Val) (h : Hh) : R Val := match v, w with
  | .bl a, .bl b => .ok (.bl (!decide (a = b))) h
  | _, _ => .bad
theorem p2_notB {K : PySem.W.Frag} : P2 K rNotB notBP := by
  intro T μ H v w x y Q E hs r1 r2 q
  unfold notBP at q
  split at q
  · cases r1; cases r2
    exact ⟨_, _, rfl, rfl, Post.now q hs (.bl _)⟩
  · exact q.elim

/-! ### == of data -/
mutual
def Val.pd : Val → Option PyData
  | .non => some .none
  | .bl b => some (.bool b)
  | .int i => some (.int i)
  | .str s => some (.str s)
  | .tup l => (pdL l).map .tuple
  | .lst l => (pdL l).map .list
  | .fz l => (pdL l).map .list
  | .ref _ => none
  | .ty _ => none
def pdL : List Val → Option (List PyData)
  | [] => some []
  | v :: l => match v.pd, pdL l with
    | some d, some ds => some (d :: ds)
    | _, _ => none
end
section
variable {K : PySem.W.Frag} {T : Tr} {H : Hp}
mutual
theorem RepV.dp : ∀ {v : Val} {x : V} {d : PyData}, RepV K H T v x → v.pd = some d → Dp K H x d
  | _, _, _, .non, e => by unfold Val.pd at e; cases e; exact .non
  | _, _, _, .bl b, e => by unfold Val.pd at e; cases e; exact .bl b
  | _, _, _, .int b, e => by unfold Val.pd at e; cases e; exact .int b
  | _, _, _, .str b, e => by unfold Val.pd at e; cases e; exact .str b
  | _, _, _, .ty b, e => by unfold Val.pd at e; cases e
  | _, _, _, .ref b, e => by unfold Val.pd at e; cases e
  | _, _, _, .tup (.inl ⟨_, h⟩) r, e => by
    unfold Val.pd at e
    obtain ⟨ds, e1, e2⟩ := Option.map_eq_some_iff.mp e
    subst e2
    exact .tup (SqT.of h) (r.dp e1)
  | _, _, _, .tup (.inr h) r, e => by
    unfold Val.pd at e
    obtain ⟨ds, e1, e2⟩ := Option.map_eq_some_iff.mp e
    subst e2
    exact .tup (.inr h) (r.dp e1)
  | _, _, _, .lst _ h r, e => by
    unfold Val.pd at e
    obtain ⟨ds, e1, e2⟩ := Option.map_eq_some_iff.mp e
    subst e2
    exact .lst (SqL.of h) (r.dp e1)
  | _, _, _, .fz h r, e => by
    unfold Val.pd at e
    obtain ⟨ds, e1, e2⟩ := Option.map_eq_some_iff.mp e
    subst e2
    exact .lst (h.elim (fun q => .inl (.inr q.2)) .inr) (r.dp e1)
theorem RepL.dp : ∀ {vs : List Val} {xs : List V} {ds : List PyData}, RepL K H T vs xs → pdL vs = some ds → DpAll K H xs ds
  | _, _, _, .nil, e => by unfold pdL at e; cases e; exact .nil
  | _, _, _, .cons h r, e => by
    unfold pdL at e
    split at e
    · rename_i d ds e1 e2
      cases e
      exact .cons (h.dp e1) (r.dp e2)
    · cases e
end
end
/-- a value as data, a list that may change as it stands -/
def pdOf (v : Val) (h : Hh) : Option PyData := match v with
  | .ref n => match h[n]? with
    | some (.lst l) => (pdL l).map .list
    | none => none
  | v => v.pd
theorem pdOf_rep {K : PySem.W.Frag} {T : Tr} {μ : Hh} {H : Hp} {v : Val} {x : V} {d : PyData} (hs : HSim K T μ H) (r : RepV K H T v x) (e : pdOf v μ = some d) : Dp K H x d := by
  cases r with
  | @ref n a h =>
    unfold pdOf at e
    dsimp only at e
    split at e
    · rename_i l el
      obtain ⟨ds, e1, e2⟩ := Option.map_eq_some_iff.mp e
      subst e2
      obtain ⟨a', xs, ea, _, q, r⟩ := hs.get el (.ref h)
      cases ea
      exact .lst (SqL.of q) (r.dp e1)
    · cases e
  | non => exact RepV.dp (T := T) .non e
  | bl b => exact RepV.dp (T := T) (.bl b) e
  | int b => exact RepV.dp (T := T) (.int b) e
  | str b => exact RepV.dp (T := T) (.str b) e
  | ty b => exact RepV.dp (T := T) (.ty b) e
  | tup h r => exact RepV.dp (.tup h r) e
  | lst b h r => exact RepV.dp (.lst b h r) e
  | fz h r => exact RepV.dp (.fz h r) e
def eqP (v w : Val) (h : Hh) : R Val := match pdOf v h, pdOf w h with
  | some d, some e => if SeqAt.shaped d = true ∧ SeqAt.shaped e = true then .ok (.bl (PyData.eqv d e)) h else .bad
  | _, _ => .bad
def neP (v w : Val) (h : Hh) : R Val := match pdOf v h, pdOf w h with
  | some d, some e => if SeqAt.shaped d = true ∧ SeqAt.shaped e = true then .ok (.bl (!PyData.eqv d e)) h else .bad
  | _, _ => .bad
theorem p2_eq {K : PySem.W.Frag} : P2 K (rEqD K) eqP := by
  intro T μ H v w x y Q E hs r1 r2 q
  unfold eqP at q
  split at q
  · rename_i d e e1 e2
    split at q
    · rename_i hk
      exact ⟨d, e, pdOf_rep hs r1 e1, pdOf_rep hs r2 e2, hk.1, hk.2, Post.now q hs (.bl _)⟩
    · exact q.elim
  · exact q.elim
theorem p2_ne {K : PySem.W.Frag} : P2 K (rNeD K) neP := by
  intro T μ H v w x y Q E hs r1 r2 q
  unfold neP at q
  split at q
  · rename_i d e e1 e2
    split at q
    · rename_i hk
      exact ⟨d, e, pdOf_rep hs r1 e1, pdOf_rep hs r2 e2, hk.1, hk.2, Post.now q hs (.bl _)⟩
    · exact q.elim
  · exact q.elim
/-- in, not in a list of data -/
def inP (neg : Bool) (v w : Val) (h : Hh) : R Val := match pdOf v h, pdOf w h with
  | some d, some (.list ds) => if SeqAt.shaped d = true ∧ SeqAt.shaped (.list ds) = true then .ok (.bl (if neg = true then !ds.any fun z => PyData.eqv z d else ds.any fun z => PyData.eqv z d)) h else .bad
  | _, _ => .bad

theorem p2_in {K : PySem.W.Frag} : P2 K (rInD K) (inP false) := by
  intro T μ H v w x y Q E hs r1 r2 q
  unfold inP at q
  split at q
  · rename_i d ds e1 e2
    split at q
    · rename_i hk
      exact ⟨d, ds, pdOf_rep hs r1 e1, pdOf_rep hs r2 e2, hk.1, hk.2, Post.now q hs (.bl _)⟩
    · exact q.elim
  · exact q.elim
/-! ### x[i] -/
def ixP (v w : Val) (h : Hh) : R Val := match w with
  | .int i => match v with
    | .tup l => match atI l i with
      | some u => .ok u h
      | none => .bad
    | v => match lsq v h with
      | some l => match atI l i with
        | some u => .ok u h
        | none => .bad
      | none => .bad
  | _ => .bad
theorem RepL.at' {K : PySem.W.Frag} {T : Tr} {H : Hp} {vs : List Val} {xs : List V} {i : Int} {u : Val} (r : RepL K H T vs xs) (e : atI vs i = some u) : ∃ x, atI xs i = some x ∧ RepV K H T u x := by
  unfold atI at e ⊢
  rw [r.length]
  cases hj : ixN vs.length i with
  | none => rw [hj] at e; cases e
  | some j =>
    rw [hj] at e
    exact r.get (show vs[j]? = some u from e)
theorem p2_ix {K : PySem.W.Frag} : P2 K (rIx K) ixP := by
  intro T μ H v w x y Q E hs r1 r2 q
  unfold ixP at q
  split at q
  · rename_i i
    cases r2
    split at q
    · rename_i l
      split at q
      · rename_i u e
        obtain ⟨p, xs, rfl, h1, l1⟩ := tup_rep r1
        obtain ⟨z, e', r⟩ := l1.at' e
        exact .inr (.inl ⟨p, xs, i, z, rfl, rfl, h1, e', Post.now q hs r⟩)
      · exact q.elim
    · split at q
      · rename_i l el
        split at q
        · rename_i u e
          obtain ⟨p, xs, rfl, h1, l1⟩ := lsq_rep hs r1 el
          obtain ⟨z, e', r⟩ := l1.at' e
          exact .inl ⟨p, xs, i, z, rfl, rfl, h1, e', Post.now q hs r⟩
        · exact q.elim
      · exact q.elim
  · exact q.elim

/-! ### x[lo:hi] -/
abbrev Pv := Env → Hh → R (Option Int)
abbrev RO : Hp → Tr → Option Int → Option Int → Prop := fun _ _ v x => x = v
def oNone : Pv := fun _ h => .ok none h
def oSome (a : Ev) : Pv := fun env h => (a env h).bnd fun x h1 => match x with
  | .int i => .ok (some i) h1
  | _ => .bad
def cutL (l : List Val) (lo hi : Option Int) : List Val := (l.drop (HT.sIx l.length 0 lo)).take (HT.sIx l.length l.length hi - HT.sIx l.length 0 lo)
def slP (m : Bool) (v : Val) (lo hi : Option Int) (h : Hh) : R Val := match v with
  | .tup l => .ok (.tup (cutL l lo hi)) h
  | v => match lsq v h with
    | some l => mk m (cutL l lo hi) h
    | none => .bad
def eSl (m : Bool) (a : Ev) (lo hi : Pv) : Ev := fun env h => (a env h).bnd fun x h1 => (lo env h1).bnd fun i h2 => (hi env h2).bnd fun j h3 => slP m x i j h3
section
variable {X : Cx} {W : WX} {a b : Expr} {ea : Ev} {pos p2 : Pos} {lo hi : Option Expr} {pl ph : Pv}
theorem go_none : PO X none (Gn X.K X.mg W RO oNone) := ⟨fun pins s σ H Q I ⟨T, μ, env, hs, es, q⟩ => po_none.run pins s σ H Q I (Post.now q hs rfl)⟩
theorem go_some (h : PE X a (GE X.K X.mg W ea)) : PO X (some a) (Gn X.K X.mg W RO (oSome ea)) :=
  ⟨fun pins s σ H Q I ⟨T, μ, env, hs, es, q⟩ => (po_some h).run pins s σ H Q I ⟨T, μ, env, hs, es, q.seq fun v μ1 T1 H1 x s1 hs1 r1 q1 => by
    cases r1 with
    | int i => exact ⟨i, rfl, Post.now q1 hs1 rfl⟩
    | _ => exact q1.elim⟩⟩
theorem cut_whole {l : List Val} {lo hi : Option Int} (h1 : HT.sIx l.length 0 lo = 0) (h2 : HT.sIx l.length l.length hi = l.length) : cutL l lo hi = l := by
  unfold cutL; rw [h1, h2]; simp
theorem ge_sl (m : Bool) (he : PE X a (GE X.K X.mg W ea)) (hl : PO X lo (Gn X.K X.mg W RO pl)) (hu : PO X hi (Gn X.K X.mg W RO ph)) : PE X (.Subscript a (.Slice lo hi none p2) pos) (GE X.K X.mg W (eSl m ea pl ph)) :=
  PE.imp (pe_slice (sl_list.or sl_tupA) he hl hu) fun σ H Q ⟨T, μ, env, hs, es, q⟩ => ⟨T, μ, env, hs, es, q.seq fun v μ1 T1 H1 x s1 hs1 r1 q1 => ⟨T1, μ1, env, hs1, es.step s1, q1.seq fun i μ2 T2 H2 y s2 hs2 r2 q2 => ⟨T2, μ2, env, hs2, (es.step s1).step s2, q2.seq fun j μ3 T3 H3 z s3 hs3 r3 q3 => by
    cases r2; cases r3
    have r1' := (r1.step s2).step s3
    unfold slP at q3
    split at q3
    · rename_i l
      obtain ⟨p, xs, rfl, h1, l1⟩ := tup_rep r1'
      refine .inr ⟨p, xs, rfl, h1, fun hw => ?_, fun _ p hp => tup_post rfl hs3 (l1.cut i j) hp q3⟩
      rw [l1.length] at hw
      rw [cut_whole hw.1 hw.2] at q3
      exact Post.now q3 hs3 r1'
    · split at q3
      · rename_i l el
        obtain ⟨p, xs, rfl, h1, l1⟩ := lsq_rep hs3 r1' el
        exact .inl ⟨p, xs, rfl, h1, fun p hp => mk_post hs3 (l1.cut i j) hp q3⟩
      · exact q3.elim⟩⟩⟩
end

/-! ### built-in functions -/
def lenP (vs : List Val) (h : Hh) : R Val := match vs with
  | [.tup l] => .ok (.int l.length) h
  | [.str s] => if s.length ≤ sizeLine then .ok (.int s.length) h else .bad
  | [v] => match lsq v h with
    | some l => .ok (.int l.length) h
    | none => .bad
  | _ => .bad
theorem cLen {X : Cx} : CallR X (.builtin "len") (fun xs H Q => (∃ p ys, xs = [.ref p] ∧ (SqL X.K H p ys ∨ SqT X.K H p ys) ∧ Q (.int ys.length) H) ∨ ∃ z, xs = [.str z] ∧ z.length ≤ sizeLine ∧ Q (.int z.length) H) := call_len_seq.or call_len_str
theorem RepL.one {K : PySem.W.Frag} {T : Tr} {H : Hp} {v : Val} {xs : List V} (r : RepL K H T [v] xs) : ∃ x, xs = [x] ∧ RepV K H T v x := by
  cases r with
  | cons h r => cases r; exact ⟨_, rfl, h⟩
theorem RepL.two {K : PySem.W.Frag} {T : Tr} {H : Hp} {v w : Val} {xs : List V} (r : RepL K H T [v, w] xs) : ∃ x y, xs = [x, y] ∧ RepV K H T v x ∧ RepV K H T w y := by
  cases r with
  | cons h r =>
    cases r with
    | cons h2 r => cases r; exact ⟨_, _, rfl, h, h2⟩
theorem pl_len {K : PySem.W.Frag} : PL K (fun xs H Q => (∃ p ys, xs = [.ref p] ∧ (SqL K H p ys ∨ SqT K H p ys) ∧ Q (.int ys.length) H) ∨ ∃ z, xs = [.str z] ∧ z.length ≤ sizeLine ∧ Q (.int z.length) H) lenP := by
  intro T μ H vs xs Q E hs r q
  unfold lenP at q
  split at q
  · obtain ⟨x, rfl, r1⟩ := r.one
    obtain ⟨p, ys, rfl, h1, l1⟩ := tup_rep r1
    exact .inl ⟨p, ys, rfl, .inr h1, by rw [l1.length]; exact Post.now q hs (.int _)⟩
  · obtain ⟨x, rfl, r1⟩ := r.one
    cases r1
    split at q
    · rename_i hl
      exact .inr ⟨_, rfl, hl, Post.now q hs (.int _)⟩
    · exact q.elim
  · obtain ⟨x, rfl, r1⟩ := r.one
    split at q
    · rename_i l el
      obtain ⟨p, ys, rfl, h1, l1⟩ := lsq_rep hs r1 el
      exact .inl ⟨p, ys, rfl, .inl h1, by rw [l1.length]; exact Post.now q hs (.int _)⟩
    · exact q.elim
  · exact q.elim
def tupleP (vs : List Val) (h : Hh) : R Val := match vs with
  | [.tup l] => .ok (.tup l) h
  | [v] => match lsq v h with
    | some l => .ok (.tup l) h
    | none => .bad
  | _ => .bad
theorem pl_tuple {K : PySem.W.Frag} : PL K (fun xs H Q => ∃ p ys, xs = [.ref p] ∧ ((SqL K H p ys ∧ ∀ l, H l = none → Q (.ref l) (upd H l (.tup ys))) ∨ (SqT K H p ys ∧ Q (.ref p) H))) tupleP := by
  intro T μ H vs xs Q E hs r q
  unfold tupleP at q
  split at q
  · obtain ⟨x, rfl, r1⟩ := r.one
    obtain ⟨p, ys, rfl, h1, l1⟩ := tup_rep r1
    exact ⟨p, ys, rfl, .inr ⟨h1, Post.now q hs r1⟩⟩
  · obtain ⟨x, rfl, r1⟩ := r.one
    split at q
    · rename_i l el
      obtain ⟨p, ys, rfl, h1, l1⟩ := lsq_rep hs r1 el
      exact ⟨p, ys, rfl, .inl ⟨h1, fun p hp => tup_post rfl hs l1 hp q⟩⟩
    · exact q.elim
  · exact q.elim
def listP (m : Bool) (vs : List Val) (h : Hh) : R Val := match vs with
  | [.tup l] => mk m l h
  | [v] => match lsq v h with
    | some l => mk m l h
    | none => .bad
  | _ => .bad
theorem pl_list {K : PySem.W.Frag} (m : Bool) : PL K (fun xs H Q => ∃ p ys, xs = [.ref p] ∧ (SqL K H p ys ∨ SqT K H p ys) ∧ ∀ l, H l = none → Q (.ref l) (upd H l (.lst ys))) (listP m) := by
  intro T μ H vs xs Q E hs r q
  unfold listP at q
  split at q
  · obtain ⟨x, rfl, r1⟩ := r.one
    obtain ⟨p, ys, rfl, h1, l1⟩ := tup_rep r1
    exact ⟨p, ys, rfl, .inr h1, fun p hp => mk_post hs l1 hp q⟩
  · obtain ⟨x, rfl, r1⟩ := r.one
    split at q
    · rename_i l el
      obtain ⟨p, ys, rfl, h1, l1⟩ := lsq_rep hs r1 el
      exact ⟨p, ys, rfl, .inl h1, fun p hp => mk_post hs l1 hp q⟩
    · exact q.elim
  · exact q.elim
def intP (vs : List Val) (h : Hh) : R Val := match vs with
  | [.int i] => .ok (.int i) h
  | [.bl b] => .ok (.int (if b = true then 1 else 0)) h
  | _ => .bad
theorem pl_int {K : PySem.W.Frag} : PL K (fun xs H Q => (∃ i, xs = [.int i] ∧ Q (.int i) H) ∨ ∃ k, xs = [.bl k] ∧ Q (.int (if k then 1 else 0)) H) intP := by
  intro T μ H vs xs Q E hs r q
  unfold intP at q
  split at q
  · obtain ⟨x, rfl, r1⟩ := r.one
    cases r1
    exact .inl ⟨_, rfl, Post.now q hs (.int _)⟩
  · obtain ⟨x, rfl, r1⟩ := r.one
    cases r1
    exact .inr ⟨_, rfl, Post.now q hs (.int _)⟩
  · exact q.elim
def absP (vs : List Val) (h : Hh) : R Val := match vs with
  | [.int i] => .ok (.int (if i < 0 then -i else i)) h
  | _ => .bad
theorem pl_abs {K : PySem.W.Frag} : PL K (fun xs H Q => ∃ i, xs = [.int i] ∧ Q (.int (if i < 0 then -i else i)) H) absP := by
  intro T μ H vs xs Q E hs r q
  unfold absP at q
  split at q
  · obtain ⟨x, rfl, r1⟩ := r.one
    cases r1
    exact ⟨_, rfl, Post.now q hs (.int _)⟩
  · exact q.elim
/-- the ints of a list of ints -/
def intsOf : List Val → Option (List Int)
  | [] => some []
  | .int i :: l => (intsOf l).map (i :: ·)
  | _ => none
theorem intsOf_eq : ∀ {l : List Val} {ns : List Int}, intsOf l = some ns → l = ns.map Val.int
  | [], ns, e => by unfold intsOf at e; cases e; rfl
  | .int i :: l, ns, e => by
    unfold intsOf at e
    obtain ⟨ms, e1, e2⟩ := Option.map_eq_some_iff.mp e
    subst e2
    rw [intsOf_eq e1]; rfl
  | .non :: _, _, e | .bl _ :: _, _, e | .str _ :: _, _, e | .tup _ :: _, _, e | .lst _ :: _, _, e | .fz _ :: _, _, e | .ref _ :: _, _, e | .ty _ :: _, _, e => by simp [intsOf] at e
theorem intsOf_map : ∀ ns : List Int, intsOf (ns.map Val.int) = some ns
  | [] => rfl
  | n :: r => by rw [List.map_cons]; unfold intsOf; rw [intsOf_map r]; rfl
theorem RepL.intsV {K : PySem.W.Frag} {T : Tr} {H : Hp} : ∀ {ns : List Int} {xs : List V}, RepL K H T (ns.map Val.int) xs → xs = ns.map V.int
  | [], _, r => by cases r; rfl
  | n :: ns, _, r => by
    rw [List.map_cons] at r
    cases r with
    | cons h r => cases h; rw [RepL.intsV r]; rfl
/-- the bools of a list of bools -/
def blsOf : List Val → Option (List Bool)
  | [] => some []
  | .bl i :: l => (blsOf l).map (i :: ·)
  | _ => none
theorem blsOf_eq : ∀ {l : List Val} {ns : List Bool}, blsOf l = some ns → l = ns.map Val.bl
  | [], ns, e => by unfold blsOf at e; cases e; rfl
  | .bl i :: l, ns, e => by
    unfold blsOf at e
    obtain ⟨ms, e1, e2⟩ := Option.map_eq_some_iff.mp e
    subst e2
    rw [blsOf_eq e1]; rfl
  | .non :: _, _, e | .int _ :: _, _, e | .str _ :: _, _, e | .tup _ :: _, _, e | .lst _ :: _, _, e | .fz _ :: _, _, e | .ref _ :: _, _, e | .ty _ :: _, _, e => by simp [blsOf] at e
theorem blsOf_map : ∀ ns : List Bool, blsOf (ns.map Val.bl) = some ns
  | [] => rfl
  | n :: r => by rw [List.map_cons]; unfold blsOf; rw [blsOf_map r]; rfl
theorem RepL.blsV {K : PySem.W.Frag} {T : Tr} {H : Hp} : ∀ {ns : List Bool} {xs : List V}, RepL K H T (ns.map Val.bl) xs → xs = ns.map V.bl
  | [], _, r => by cases r; rfl
  | n :: ns, _, r => by
    rw [List.map_cons] at r
    cases r with
    | cons h r => cases h; rw [RepL.blsV r]; rfl
def allP (vs : List Val) (h : Hh) : R Val := match vs with
  | [v] => match lsq v h with
    | some l => match blsOf l with
      | some bs => .ok (.bl (bs.all id)) h
      | none => .bad
    | none => .bad
  | _ => .bad
theorem pl_all {K : PySem.W.Frag} : PL K (rAll K) allP := by
  intro T μ H vs xs Q E hs r q
  unfold allP at q
  split at q
  · obtain ⟨x, rfl, r1⟩ := r.one
    split at q
    · rename_i l el
      split at q
      · rename_i bs eb
        obtain ⟨p, ys, rfl, h1, l1⟩ := lsq_rep hs r1 el
        rw [blsOf_eq eb] at l1
        rw [l1.blsV] at h1
        exact ⟨p, bs, rfl, h1, Post.now q hs (.bl _)⟩
      · exact q.elim
    · exact q.elim
  · exact q.elim
/-- the greatest, the least of some ints -/
def maxL : List Int → Int
  | [] => 0
  | [n] => n
  | n :: m :: r => max n (maxL (m :: r))
def minL : List Int → Int
  | [] => 0
  | [n] => n
  | n :: m :: r => min n (minL (m :: r))
theorem maxL_uniq : ∀ {ns : List Int} {m : Int}, m ∈ ns → (∀ y, y ∈ ns → y ≤ m) → m = maxL ns
  | [n], m, h, _ => by simpa [maxL] using h
  | n :: k :: r, m, h, g => by
    unfold maxL
    rcases List.mem_cons.mp h with e | h'
    · subst e
      have : maxL (k :: r) ≤ m := by
        have z : ∀ (l : List Int), l ≠ [] → (∀ y ∈ l, y ≤ m) → maxL l ≤ m := by
          intro l
          induction l with
          | nil => intro q; exact absurd rfl q
          | cons a l ih =>
            intro _ q
            cases l with
            | nil => exact q a (by simp)
            | cons b l => unfold maxL; exact Int.max_le.mpr ⟨q a (by simp), ih (by simp) fun y hy => q y (List.mem_cons_of_mem _ hy)⟩
        exact z _ (by simp) fun y hy => g y (List.mem_cons_of_mem _ hy)
      omega
    · have e := maxL_uniq h' fun y hy => g y (List.mem_cons_of_mem _ hy)
      have : n ≤ m := g n (by simp)
      omega
theorem minL_uniq : ∀ {ns : List Int} {m : Int}, m ∈ ns → (∀ y, y ∈ ns → m ≤ y) → m = minL ns
  | [n], m, h, _ => by simpa [minL] using h
  | n :: k :: r, m, h, g => by
    unfold minL
    rcases List.mem_cons.mp h with e | h'
    · subst e
      have : m ≤ minL (k :: r) := by
        have z : ∀ (l : List Int), l ≠ [] → (∀ y ∈ l, m ≤ y) → m ≤ minL l := by
          intro l
          induction l with
          | nil => intro q; exact absurd rfl q
          | cons a l ih =>
            intro _ q
            cases l with
            | nil => exact q a (by simp)
            | cons b l => unfold minL; exact Int.le_min.mpr ⟨q a (by simp), ih (by simp) fun y hy => q y (List.mem_cons_of_mem _ hy)⟩
        exact z _ (by simp) fun y hy => g y (List.mem_cons_of_mem _ hy)
      omega
    · have e := minL_uniq h' fun y hy => g y (List.mem_cons_of_mem _ hy)
      have : m ≤ n := g n (by simp)
      omega
def maxP (vs : List Val) (h : Hh) : R Val := match vs with
  | [.int i, .int j] => .ok (.int (if j > i then j else i)) h
  | [v] => match lsq v h with
    | some l => match intsOf l with
      | some bs => if 0 < bs.length then .ok (.int (maxL bs)) h else .bad
      | none => .bad
    | none => .bad
  | _ => .bad
def minP (vs : List Val) (h : Hh) : R Val := match vs with
  | [.int i, .int j] => .ok (.int (if j < i then j else i)) h
  | [v] => match lsq v h with
    | some l => match intsOf l with
      | some bs => if 0 < bs.length then .ok (.int (minL bs)) h else .bad
      | none => .bad
    | none => .bad
  | _ => .bad
theorem cMax {X : Cx} (hc : X.calm = true) : CallR X (.builtin "max") (fun xs H Q => (∃ i j, xs = [.int i, .int j] ∧ Q (.int (if j > i then j else i)) H) ∨ rMax X.K xs H Q) := (call_max2 hc).or (cr_max hc)
theorem cMin {X : Cx} (hc : X.calm = true) : CallR X (.builtin "min") (fun xs H Q => (∃ i j, xs = [.int i, .int j] ∧ Q (.int (if j < i then j else i)) H) ∨ rMin X.K xs H Q) := (call_min2 hc).or (cr_min hc)
theorem pl_max {K : PySem.W.Frag} : PL K (fun xs H Q => (∃ i j, xs = [.int i, .int j] ∧ Q (.int (if j > i then j else i)) H) ∨ rMax K xs H Q) maxP := by
  intro T μ H vs xs Q E hs r q
  unfold maxP at q
  split at q
  · obtain ⟨x, y, rfl, r1, r2⟩ := r.two
    cases r1; cases r2
    exact .inl ⟨_, _, rfl, Post.now q hs (.int _)⟩
  · obtain ⟨x, rfl, r1⟩ := r.one
    split at q
    · rename_i l el
      split at q
      · rename_i bs eb
        split at q
        · rename_i hl
          obtain ⟨p, ys, rfl, h1, l1⟩ := lsq_rep hs r1 el
          rw [intsOf_eq eb] at l1
          rw [l1.intsV] at h1
          exact .inr ⟨p, bs, rfl, h1, hl, fun m hm hg => by rw [maxL_uniq hm hg]; exact Post.now q hs (.int _)⟩
        · exact q.elim
      · exact q.elim
    · exact q.elim
  · exact q.elim
theorem pl_min {K : PySem.W.Frag} : PL K (fun xs H Q => (∃ i j, xs = [.int i, .int j] ∧ Q (.int (if j < i then j else i)) H) ∨ rMin K xs H Q) minP := by
  intro T μ H vs xs Q E hs r q
  unfold minP at q
  split at q
  · obtain ⟨x, y, rfl, r1, r2⟩ := r.two
    cases r1; cases r2
    exact .inl ⟨_, _, rfl, Post.now q hs (.int _)⟩
  · obtain ⟨x, rfl, r1⟩ := r.one
    split at q
    · rename_i l el
      split at q
      · rename_i bs eb
        split at q
        · rename_i hl
          obtain ⟨p, ys, rfl, h1, l1⟩ := lsq_rep hs r1 el
          rw [intsOf_eq eb] at l1
          rw [l1.intsV] at h1
          exact .inr ⟨p, bs, rfl, h1, hl, fun m hm hg => by rw [minL_uniq hm hg]; exact Post.now q hs (.int _)⟩
        · exact q.elim
      · exact q.elim
    · exact q.elim
  · exact q.elim
/-! ### isinstance -/
def tyOfV : Val → Option Ty
  | .non => some .non
  | .bl _ => some .bl
  | .int _ => some .int
  | .str _ => some .str
  | .tup _ => some .tup
  | .lst _ => some .lst
  | .fz _ => some .lst
  | .ref _ => some .lst
  | .ty _ => none
def isTy (a b : Ty) : Bool := match a, b with
  | .bl, .int => true
  | a, b => decide (a = b)
theorem kit_isTy (a b : Ty) (hb : b ≠ .non) : kitB a.nm b.nm = some (isTy a b) := by
  cases a <;> cases b <;> first | exact absurd rfl hb | decide +kernel
theorem tyOf_rep {K : PySem.W.Frag} {T : Tr} {μ : Hh} {H : Hp} {v : Val} {x : V} {t : Ty} (hs : HSim K T μ H) (r : RepV K H T v x) (e : tyOfV v = some t) : TyX K H x (.type t.nm) := by
  cases r with
  | non => cases e; exact .base .non
  | bl b => cases e; exact .base (.bl b)
  | int b => cases e; exact .base (.int b)
  | str b => cases e; exact .base (.str b)
  | ty b => cases e
  | tup h r =>
    cases e
    rcases h with ⟨_, h⟩ | ⟨o, its, n, h, c, _⟩
    · exact .base (.tup h)
    · exact .kTuple h c
  | lst b h r => cases e; exact .base (.lst h)
  | fz h r =>
    cases e
    rcases h with ⟨_, o, h⟩ | ⟨o, its, n, h, c, _⟩
    · exact .base (.frz h)
    · exact .kList h c
  | @ref n a h =>
    cases e
    have hn : n < μ.length := by rw [← hs.len]; exact (List.getElem?_eq_some_iff.mp h).1
    obtain ⟨a', e', r⟩ := hs.obj n μ[n] (List.getElem?_eq_getElem hn)
    rw [h] at e'; cases e'
    cases hq : μ[n] with
    | lst l => rw [hq] at r; obtain ⟨xs, q, _⟩ := r; exact .base (.lst q)
def tysOf : List Val → Option (List Ty)
  | [] => some []
  | .ty t :: l => if t ≠ .non then (tysOf l).map (t :: ·) else none
  | _ => none
def isiP (vs : List Val) (h : Hh) : R Val := match vs with
  | [v, .ty t] => match tyOfV v with
    | some a => if t ≠ .non then .ok (.bl (isTy a t)) h else .bad
    | none => .bad
  | [v, .tup l] => match tyOfV v, tysOf l with
    | some a, some ts => .ok (.bl (ts.any fun t => isTy a t)) h
    | _, _ => .bad
  | _ => .bad
theorem tysOf_cls {K : PySem.W.Frag} {T : Tr} {H : Hp} {a : Ty} : ∀ {l : List Val} {ts : List Ty} {xs : List V}, tysOf l = some ts → RepL K H T l xs →
    Paired ClsV xs (ts.map fun t => Value.type t.nm) ∧ PySem.W.kitAny K (.type a.nm) (ts.map fun t => Value.type t.nm) = some (ts.any fun t => isTy a t)
  | [], _, _, e, r => by unfold tysOf at e; cases e; cases r; exact ⟨.nil, rfl⟩
  | .ty t :: l, ts, _, e, r => by
    unfold tysOf at e
    split at e
    · rename_i ht
      obtain ⟨us, e1, e2⟩ := Option.map_eq_some_iff.mp e
      subst e2
      cases r with
      | cons h r =>
        cases h
        obtain ⟨p, q⟩ := tysOf_cls (a := a) e1 r
        refine ⟨.cons (.ty _) p, ?_⟩
        rw [List.map_cons]
        unfold PySem.W.kitAny
        rw [kit_ty (kit_isTy a t ht)]
        cases hb : isTy a t with
        | true => simp [hb]
        | false => simp [hb]; rw [q]
    · cases e
  | .non :: _, _, _, e, _ | .bl _ :: _, _, _, e, _ | .int _ :: _, _, _, e, _ | .str _ :: _, _, _, e, _ | .tup _ :: _, _, _, e, _ | .lst _ :: _, _, _, e, _ | .fz _ :: _, _, _, e, _ | .ref _ :: _, _, _, e, _ => by simp [tysOf] at e
theorem cIsi {X : Cx} : CallR X (.builtin "isinstance") (fun xs H Q => rIsi X.K xs H Q ∨ rIsiT X.K xs H Q ∨ rIsiK X.K xs H Q) := call_isi.or (call_isiT.or call_isiK)
theorem pl_isi {K : PySem.W.Frag} : PL K (fun xs H Q => rIsi K xs H Q ∨ rIsiT K xs H Q ∨ rIsiK K xs H Q) isiP := by
  intro T μ H vs xs Q E hs r q
  unfold isiP at q
  split at q
  · rename_i v t
    obtain ⟨x, y, rfl, r1, r2⟩ := r.two
    cases r2
    split at q
    · rename_i a ea
      split at q
      · rename_i ht
        exact .inl ⟨x, .ty t.nm, .type a.nm, .type t.nm, _, rfl, .ty _, tyOf_rep hs r1 ea, kit_ty (kit_isTy a t ht), Post.now q hs (.bl _)⟩
      · exact q.elim
    · exact q.elim
  · rename_i v l
    obtain ⟨x, y, rfl, r1, r2⟩ := r.two
    split at q
    · rename_i a ts ea et
      cases r2 with
      | @tup p ys _ h r2 =>
        obtain ⟨c1, c2⟩ := tysOf_cls (a := a) et r2
        rcases h with ⟨_, h⟩ | h
        · exact .inr (.inl ⟨x, p, ys, .type a.nm, _, _, rfl, h, c1, tyOf_rep hs r1 ea, c2, Post.now q hs (.bl _)⟩)
        · obtain ⟨⟨oc, od, dt, sl⟩, its, n, hk, hc, hd, hz, rv⟩ := h
          simp only at hc hd
          subst hc hd
          refine .inr (.inr ⟨x, p, od, its.toList, n, sl, .type a.nm, _, rfl, hk, tyOf_rep hs r1 ea, ?_, Post.now q hs (.bl _)⟩)
          rw [ClsV.all c1 rv]; exact c2
    · exact q.elim
  · exact q.elim

/-! ### methods of lists -/
def appP (v : Val) (vs : List Val) (h : Hh) : R Val := match v, vs with
  | .ref n, [u] => match h[n]? with
    | some (.lst l) => if l.length < sizeLine ∧ u.bel n = true then .ok .non (h.set n (.lst (l ++ [u]))) else .bad
    | none => .bad
  | _, _ => .bad
theorem belL_append (n : Nat) : ∀ a b : List Val, belL n (a ++ b) = (belL n a && belL n b)
  | [], b => by rw [List.nil_append]; unfold belL; simp
  | v :: a, b => by rw [List.cons_append]; unfold belL; rw [belL_append n a b, Bool.and_assoc]; cases b <;> rfl
theorem belL_get {n : Nat} : ∀ {l : List Val}, belL n l = true ↔ ∀ v ∈ l, v.bel n = true
  | [] => by simp [belL]
  | v :: l => by unfold belL; rw [Bool.and_eq_true, belL_get (l := l)]; simp
theorem pm_app {K : PySem.W.Frag} : PM K (fun x xs H Q => rAppend x xs H Q) appP := by
  intro T μ H v x vs xs Q E hs r rs q
  unfold appP at q
  split at q
  · rename_i n u
    split at q
    · rename_i l el
      split at q
      · rename_i hk
        obtain ⟨a, ys, rfl, ha, h1, l1⟩ := hs.get el r
        obtain ⟨y, rfl, ru⟩ := rs.one
        have lr : RepL K H T (l ++ [u]) (ys ++ [y]) := l1.append (.cons ru .nil)
        refine ⟨a, ys, y, rfl, rfl, h1, by rw [l1.length]; exact hk.1, ?_⟩
        refine Post.here q (Step.put (List.mem_of_getElem? ha)) (hs.put ha lr ?_) .non
        rw [belL_append, Bool.and_eq_true]
        exact ⟨hs.old n _ el, by unfold belL belL; rw [hk.2]; rfl⟩
      · exact q.elim
    · exact q.elim
  · exact q.elim
def popP (v : Val) (vs : List Val) (h : Hh) : R Val := match v, vs with
  | .ref n, [] => match h[n]? with
    | some (.lst l) => match l[l.length - 1]? with
      | some u => .ok u (h.set n (.lst l.dropLast))
      | none => .bad
    | none => .bad
  | _, _ => .bad
theorem pm_pop {K : PySem.W.Frag} : PM K (fun x xs H Q => rPop x xs H Q) popP := by
  intro T μ H v x vs xs Q E hs r rs q
  unfold popP at q
  split at q
  · rename_i n
    split at q
    · rename_i l el
      split at q
      · rename_i u eu
        obtain ⟨a, ys, rfl, ha, h1, l1⟩ := hs.get el r
        cases rs
        obtain ⟨y, ey, ru⟩ := l1.get eu
        refine ⟨a, ys, y, rfl, rfl, h1, by rw [l1.length]; exact ey, ?_⟩
        have st : Step T H T (upd H a (.lst ys.dropLast)) := Step.put (List.mem_of_getElem? ha)
        refine Post.here q st (hs.put ha l1.dropLast ?_) (ru.step st)
        have z : belL n l = true := hs.old n _ el
        exact belL_get.mpr fun w hw => belL_get.mp z w (List.dropLast_subset _ hw)
      · exact q.elim
    · exact q.elim
  · exact q.elim
end Mp

set_option Elab.async false
set_option linter.all false
set_option maxRecDepth 100000
namespace Mp
open PySem PySem.Spec PyProof.Rows L2

/-! ### statements -/
def SR.bnd (r : SR) (f : Env → Hh → SR) : SR := match r with
  | .nx e h => f e h
  | .rt v h => .rt v h
  | .bk e h => .bk e h
  | .ct e h => .ct e h
  | .exc x e h => .exc x e h
  | .bad => .bad
@[simp] theorem SR.bnd_nx (e : Env) (h : Hh) (f : Env → Hh → SR) : (SR.nx e h).bnd f = f e h := rfl
@[simp] theorem SR.bnd_rt (v : Val) (h : Hh) (f : Env → Hh → SR) : (SR.rt v h).bnd f = .rt v h := rfl
@[simp] theorem SR.bnd_bk (e : Env) (h : Hh) (f : Env → Hh → SR) : (SR.bk e h).bnd f = .bk e h := rfl
@[simp] theorem SR.bnd_ct (e : Env) (h : Hh) (f : Env → Hh → SR) : (SR.ct e h).bnd f = .ct e h := rfl
@[simp] theorem SR.bnd_exc (x : Ex) (e : Env) (h : Hh) (f : Env → Hh → SR) : (SR.exc x e h).bnd f = .exc x e h := rfl
@[simp] theorem SR.bnd_bad (f : Env → Hh → SR) : SR.bad.bnd f = .bad := rfl
abbrev SOut {α : Type} (_ : α → Hh → SR) : Type := SR
def lift {α : Type} (r : R α) (env : Env) (f : α → Hh → SR) : SOut f := match r with
  | .ok a h => f a h
  | .exc x h => .exc x env h
  | .bad => .bad
@[simp] theorem lift_ok {α : Type} (a : α) (h : Hh) (env : Env) (f : α → Hh → SR) : lift (.ok a h) env f = f a h := rfl
@[simp] theorem lift_exc {α : Type} (x : Ex) (h : Hh) (env : Env) (f : α → Hh → SR) : lift (.exc x h : R α) env f = .exc x env h := rfl
@[simp] theorem lift_bad {α : Type} (env : Env) (f : α → Hh → SR) : lift (.bad : R α) env f = .bad := rfl
abbrev Gv := Val → Env → Hh → R Env
def sNext : Sv := fun env h => .nx env h
def sSeq (a b : Sv) : Sv := fun env h => (a env h).bnd b
def sSet (i : Nat) (e : Ev) : Sv := fun env h => lift (e env h) env fun v h1 => .nx (env.set i (some v)) h1
def sAsg (g : Gv) (e : Ev) : Sv := fun env h => lift (e env h) env fun v h1 => lift (g v env h1) env fun env2 h2 => .nx env2 h2
def sPar (i j : Nat) (a b : Ev) : Sv := fun env h => lift (a env h) env fun v h1 => lift (b env h1) env fun w h2 => .nx ((env.set i (some v)).set j (some w)) h2
def sExpr (e : Ev) : Sv := fun env h => lift (e env h) env fun _ h1 => .nx env h1
def sRet (e : Ev) : Sv := fun env h => lift (e env h) env fun v h1 => .rt v h1
def sRetN : Sv := fun _ h => .rt .non h
def sBrk : Sv := fun env h => .bk env h
def sCnt : Sv := fun env h => .ct env h
def sIf (c : Tv) (a b : Sv) : Sv := fun env h => lift (c env h) env fun x h1 => if x = true then a env h1 else b env h1
def sRaise (c : Nat) : Sv := fun env h => .exc ⟨c, []⟩ env h
def gName (i : Nat) : Gv := fun v env h => .ok (env.set i (some v)) h
def gNil : List Val → Env → Hh → R Env := fun vs env h => match vs with
  | [] => .ok env h
  | _ => .bad
def gCons (g : Gv) (r : List Val → Env → Hh → R Env) : List Val → Env → Hh → R Env := fun vs env h => match vs with
  | v :: vs => (g v env h).bnd fun env1 h1 => r vs env1 h1
  | [] => .bad
def gTup (g : List Val → Env → Hh → R Env) : Gv := fun v env h => match v with
  | .tup l => g l env h
  | _ => .bad
/-- as many targets -/
def GLen (g : List Val → Env → Hh → R Env) (n : Nat) : Prop := ∀ vs env h e m, g vs env h = .ok e m → vs.length = n
theorem gl0 : GLen gNil 0 := fun vs env h e m q => by
  cases vs with
  | nil => rfl
  | cons v vs => cases q
theorem gl1 {g : Gv} {r : List Val → Env → Hh → R Env} {n : Nat} (hr : GLen r n) : GLen (gCons g r) (n + 1) := fun vs env h e m q => by
  cases vs with
  | nil => cases q
  | cons v vs =>
    unfold gCons at q
    dsimp only at q
    cases hg : g v env h with
    | ok a b => rw [hg] at q; rw [List.length_cons, hr _ _ _ _ _ q]
    | exc x b => rw [hg] at q; cases q
    | bad => rw [hg] at q; cases q
/-- a target that raises nothing -/
def NX (g : Gv) : Prop := ∀ v env h x m, g v env h ≠ .exc x m
def NXs (g : List Val → Env → Hh → R Env) : Prop := ∀ vs env h x m, g vs env h ≠ .exc x m
theorem nxN {i : Nat} : NX (gName i) := fun _ _ _ _ _ q => nomatch q
theorem nx0 : NXs gNil := fun vs env h x m q => by cases vs <;> cases q
theorem nx1 {g : Gv} {r : List Val → Env → Hh → R Env} (a : NX g) (b : NXs r) : NXs (gCons g r) := fun vs env h x m q => by
  cases vs with
  | nil => cases q
  | cons v vs =>
    unfold gCons at q
    dsimp only at q
    cases hg : g v env h with
    | ok c d => rw [hg] at q; exact b _ _ _ _ _ q
    | exc y d => exact a _ _ _ _ _ hg
    | bad => rw [hg] at q; cases q
theorem nxT {r : List Val → Env → Hh → R Env} (b : NXs r) : NX (gTup r) := fun v env h x m q => by
  unfold gTup at q
  split at q
  · exact b _ _ _ _ _ q
  · cases q
/-- as many arguments -/
def ALen (a : Av) (n : Nat) : Prop := ∀ env h vs h1, a env h = .ok vs h1 → vs.length = n
theorem al0 : ALen aNil 0 := fun _ _ _ _ q => by cases q; rfl
theorem al1 {a : Ev} {r : Av} {n : Nat} (hr : ALen r n) : ALen (aCons a r) (n + 1) := fun env h vs h1 q => by
  unfold aCons at q
  cases ha : a env h with
  | ok x h2 =>
    rw [ha] at q
    dsimp only [R.bnd_ok] at q
    cases hr2 : r env h2 with
    | ok xs h3 => rw [hr2] at q; cases q; rw [List.length_cons, hr _ _ _ _ hr2]
    | exc y m => rw [hr2] at q; cases q
    | bad => rw [hr2] at q; cases q
  | exc y m => rw [ha] at q; cases q
  | bad => rw [ha] at q; cases q
def setP (o i v : Val) (h : Hh) : R Unit := match o, i with
  | .ref n, .int k => match h[n]? with
    | some (.lst l) => match ixN l.length k with
      | some j => if v.bel n = true then .ok () (h.set n (.lst (l.set j v))) else .bad
      | none => .bad
    | none => .bad
  | _, _ => .bad
def gSub (o i : Ev) : Gv := fun v env h => (o env h).bnd fun x h1 => (i env h1).bnd fun y h2 => (setP x y v h2).bnd fun _ h3 => .ok env h3

/-! ### their readings -/
section
variable {K : PySem.W.Frag} {mg : Str → Option Value} {W : WX}
def SPost (K : PySem.W.Frag) (mg : Str → Option Value) (W : WX) (T : Tr) (H : Hp) (D : Ends) (r : SR) : Prop := match r with
  | .nx e h => ∀ T' H' σ', Step T H T' H' → HSim K T' h H' → ESim K H' T' e σ' → D.nx σ' H'
  | .rt v h => ∀ T' H' x, Step T H T' H' → HSim K T' h H' → RepV K H' T' v x → D.rt x H'
  | .bk e h => ∀ T' H' σ', Step T H T' H' → HSim K T' h H' → ESim K H' T' e σ' → D.bk σ' H'
  | .ct e h => ∀ T' H' σ', Step T H T' H' → HSim K T' h H' → ESim K H' T' e σ' → D.ct σ' H'
  | .exc x e h => ∀ T' H' σ' cls d, Step T H T' H' → HSim K T' h H' → ESim K H' T' e σ' → XRep K mg H' T' x cls d → W cls d σ' H'
  | .bad => False
def GS (K : PySem.W.Frag) (mg : Str → Option Value) (W : WX) (s : Sv) : TS := fun D σ H => ∃ T μ env, HSim K T μ H ∧ ESim K H T env σ ∧ SPost K mg W T H D (s env μ)
abbrev RE (K : PySem.W.Frag) : Hp → Tr → Env → St → Prop := fun H T e σ => ESim K H T e σ
/-- what is wanted of an exception while a target is stored: none is met -/
abbrev EF : EK := fun _ _ _ => False
def GG (K : PySem.W.Frag) (mg : Str → Option Value) (W : WX) (g : Gv) : TG := fun x σ H Q => ∃ T μ env v, HSim K T μ H ∧ ESim K H T env σ ∧ RepV K H T v x ∧ Post K (RE K) T H (g v env μ) Q (EX K mg W σ)
def GGs (K : PySem.W.Frag) (mg : Str → Option Value) (W : WX) (g : List Val → Env → Hh → R Env) : TGs := fun xs σ H Q => ∃ T μ env vs, HSim K T μ H ∧ ESim K H T env σ ∧ RepL K H T vs xs ∧ Post K (RE K) T H (g vs env μ) Q EF
theorem SPost.step {T T1 : Tr} {H H1 : Hp} {D : Ends} {r : SR} (h : SPost K mg W T H D r) (s : Step T H T1 H1) : SPost K mg W T1 H1 D r := by
  cases r with
  | nx e m => exact fun T' H' σ' s' => h T' H' σ' (s.trans s')
  | rt v m => exact fun T' H' x s' => h T' H' x (s.trans s')
  | bk e m => exact fun T' H' σ' s' => h T' H' σ' (s.trans s')
  | ct e m => exact fun T' H' σ' s' => h T' H' σ' (s.trans s')
  | exc x e m => exact fun T' H' σ' cls d s' => h T' H' σ' cls d (s.trans s')
  | bad => exact h
/-- an expression's answer, then the statement's end -/
theorem SPost.lift {α β : Type} {Rel : Hp → Tr → α → β → Prop} {T : Tr} {H : Hp} {μ : Hh} {env : Env} {σ : St} {D : Ends} {r : R α} {f : α → Hh → SR} {Q : β → Hp → Prop} (es : ESim K H T env σ) (h : SPost K mg W T H D (lift r env f))
    (k : ∀ a μ1 T1 H1 b, Step T H T1 H1 → HSim K T1 μ1 H1 → Rel H1 T1 a b → SPost K mg W T1 H1 D (f a μ1) → Q b H1) : Post K Rel T H r Q (EX K mg W σ) := by
  cases r with
  | ok a μ => exact fun T' H' b s hs rl => k a μ T' H' b s hs rl (SPost.step h s)
  | exc e μ => exact fun T' H' s hs cls d x => h T' H' σ cls d s hs (es.step s) x
  | bad => exact h
theorem ESim.set {T : Tr} {H : Hp} {env : Env} {σ : St} {v : Val} {x : V} (es : ESim K H T env σ) (r : RepV K H T v x) (i : Nat) : ESim K H T (env.set i (some v)) (σ.set i (some x)) := by
  refine ⟨by simp [es.len], fun j w e => ?_⟩
  by_cases hj : i = j
  · subst hj
    by_cases hi : i < env.length
    · rw [List.getElem?_set_self hi] at e
      cases e
      exact ⟨x, List.getElem?_set_self (by rw [← es.len]; exact hi), r⟩
    · rw [List.getElem?_eq_none (by simpa using hi)] at e; cases e
  · rw [List.getElem?_set_ne hj] at e
    obtain ⟨y, e', r'⟩ := es.at' j w e
    exact ⟨y, by rw [List.getElem?_set_ne hj]; exact e', r'⟩
end
theorem PS.imp {X : Cx} {e : Stmt} {t t' : TS} (h : PS X e t) (k : ∀ D σ H, t' D σ H → t D σ H) : PS X e t' := ⟨fun pins s σ H D I q => h.run pins s σ H D I (k D σ H q)⟩
theorem PSs.imp {X : Cx} {e : List Stmt} {t t' : TS} (h : PSs X e t) (k : ∀ D σ H, t' D σ H → t D σ H) : PSs X e t' := ⟨fun pins s σ H D I q => h.run pins s σ H D I (k D σ H q)⟩
theorem PG.imp {X : Cx} {e : Expr} {t t' : TG} (h : PG X e t) (k : ∀ v σ H Q, t' v σ H Q → t v σ H Q) : PG X e t' := ⟨fun pins s σ H v u Q I r q => h.run pins s σ H v u Q I r (k v σ H Q q)⟩
theorem PGs.imp {X : Cx} {e : List Expr} {t t' : TGs} (h : PGs X e t) (k : ∀ v σ H Q, t' v σ H Q → t v σ H Q) : PGs X e t' := ⟨fun pins s σ H v u Q I r q => h.run pins s σ H v u Q I r (k v σ H Q q)⟩
section
variable {X : Cx} {W : WX} {st : Stmt} {rest : List Stmt} {a b e : Expr} {es : List Expr} {pos : Pos} {ea eb : Ev} {av : Av} {tv : Tv} {s1 s2 : Sv} {gv : Gv}
theorem gs_nil : PSs X [] (GS X.K X.mg W sNext) := PSs.imp pss_nil fun D σ H ⟨T, μ, env, hs, es, q⟩ => q T H σ (Step.refl T H) hs es
theorem gs_cons (h1 : PS X st (GS X.K X.mg W s1)) (h2 : PSs X rest (GS X.K X.mg W s2)) : PSs X (st :: rest) (GS X.K X.mg W (sSeq s1 s2)) :=
  PSs.imp (pss_cons h1 h2) fun D σ H ⟨T, μ, env, hs, es, q⟩ => ⟨T, μ, env, hs, es, by
    unfold sSeq at q
    cases hr : s1 env μ with
    | nx e m => rw [hr] at q; exact fun T' H' σ' s' hs' es' => ⟨T', m, e, hs', es', SPost.step q s'⟩
    | _ => rw [hr] at q; exact q⟩
theorem gs_one (h1 : PS X st (GS X.K X.mg W s1)) : PSs X [st] (GS X.K X.mg W s1) := pss_one h1
theorem gs_set {i : Nat} {x : Str} {pos' : Pos} (hN : X.N.Nodup) (hi : X.N[i]? = some x) (hx : Loc X.env.scope x) (he : PE X e (GE X.K X.mg W ea)) (hs : swapsWith e (some (.Name x pos')) pos.line X.env = pure false := by rfl) (hf : X.fn x = true ∨ X.env.scope.names.lookup x = some .local := by first | exact .inl rfl | exact .inr rfl | assumption) :
    PS X (.Assign [.Name x pos'] e pos) (GS X.K X.mg W (sSet i ea)) :=
  PS.imp (ps_set hN hi hx he hs hf) fun D σ H ⟨T, μ, env, hs, es, q⟩ => ⟨T, μ, env, hs, es, SPost.lift (μ := μ) es q fun v μ1 T1 H1 x s1 hs1 r1 q1 => q1 T1 H1 _ (Step.refl _ _) hs1 ((es.step s1).set r1 i)⟩
theorem gs_expr (he : PE X e (GE X.K X.mg W ea)) (hs : swapsWith e none pos.line X.env = pure false := by rfl) : PS X (.Expr e pos) (GS X.K X.mg W (sExpr ea)) :=
  PS.imp (ps_expr he hs) fun D σ H ⟨T, μ, env, hs, es, q⟩ => ⟨T, μ, env, hs, es, SPost.lift (μ := μ) es q fun v μ1 T1 H1 x s1 hs1 r1 q1 => q1 T1 H1 _ (Step.refl _ _) hs1 (es.step s1)⟩
theorem gs_ret (he : PE X e (GE X.K X.mg W ea)) : PS X (.Return (some e) pos) (GS X.K X.mg W (sRet ea)) :=
  PS.imp (ps_ret he) fun D σ H ⟨T, μ, env, hs, es, q⟩ => ⟨T, μ, env, hs, es, SPost.lift (μ := μ) es q fun v μ1 T1 H1 x s1 hs1 r1 q1 => q1 T1 H1 x (Step.refl _ _) hs1 r1⟩
theorem gs_brk : PS X (.Break pos) (GS X.K X.mg W sBrk) := PS.imp ps_break fun D σ H ⟨T, μ, env, hs, es, q⟩ => q T H σ (Step.refl T H) hs es
theorem gs_if {c : Expr} {p r : List Stmt} (hc : PT X c (GT X.K X.mg W tv)) (ha : PSs X p (GS X.K X.mg W s1)) (hb : PSs X r (GS X.K X.mg W s2)) : PS X (.If c p r pos) (GS X.K X.mg W (sIf tv s1 s2)) :=
  PS.imp (ps_if hc ha hb) fun D σ H ⟨T, μ, env, hs, es, q⟩ => ⟨T, μ, env, hs, es, SPost.lift (μ := μ) es q fun v μ1 T1 H1 x s1 hs1 r1 q1 => by
    cases r1
    cases v with
    | true => rw [if_pos rfl] at q1 ⊢; exact ⟨T1, μ1, env, hs1, es.step s1, q1⟩
    | false => rw [if_neg (by decide)] at q1 ⊢; exact ⟨T1, μ1, env, hs1, es.step s1, q1⟩⟩
theorem gs_par {i j : Nat} {x y : Str} {px py pt : Pos} {kt k2 pt2} (hc : X.calm = true) (hN : X.N.Nodup) (hi : X.N[i]? = some x) (hj : X.N[j]? = some y) (hij : i ≠ j)
    (hx : X.env.scope.names.lookup x = some .local) (hy : X.env.scope.names.lookup y = some .local) (ha : PE X a (GE X.K X.mg W ea)) (hb : PE X b (GE X.K X.mg W eb))
    (hw : swappedStores [.Tuple [.Name x px, .Name y py] kt pt] (.Tuple [a, b] k2 pt2) X.env = pure (some [x, y]))
    (hs1 : starEach [a, b] X.env = (false, eval a X.env) :: starEach [b] X.env := by rfl) (hs2 : starEach [b] X.env = (false, eval b X.env) :: starEach [] X.env := by rfl)
    (hs : swapsWithSole [.Tuple [.Name x px, .Name y py] kt pt] (.Tuple [a, b] k2 pt2) pos.line X.env = pure false := by rfl) :
    PS X (.Assign [.Tuple [.Name x px, .Name y py] kt pt] (.Tuple [a, b] k2 pt2) pos) (GS X.K X.mg W (sPar i j ea eb)) :=
  PS.imp (ps_par hc hN hi hj hij hx hy (pa_cons ha (pa_cons hb pa_nil hs2) hs1) hw hs) fun D σ H ⟨T, μ, env, hs, es, q⟩ => ⟨T, μ, env, hs, es, SPost.lift (μ := μ) es q fun v μ1 T1 H1 x s1 hs1 r1 q1 =>
    ⟨T1, μ1, env, hs1, es.step s1, SPost.lift (μ := μ1) (es.step s1) q1 fun w μ2 T2 H2 y s2 hs2 r2 q2 => ⟨x, y, rfl, q2 T2 H2 _ (Step.refl _ _) hs2 ((((es.step s1).step s2).set (r1.step s2) i).set r2 j)⟩⟩⟩
/-! targets -/
theorem gg_name {i : Nat} {x : Str} (hN : X.N.Nodup) (hi : X.N[i]? = some x) (hx : Loc X.env.scope x) (hf : X.fn x = true ∨ X.env.scope.names.lookup x = some .local := by first | exact .inl rfl | exact .inr rfl | assumption) : PG X (.Name x pos) (GG X.K X.mg W (gName i)) :=
  PG.imp (pg_name hN hi hx hf) fun v σ H Q ⟨T, μ, env, u, hs, es, r, q⟩ => Post.now q hs (es.set r i)
theorem ggs_nil : PGs X [] (GGs X.K X.mg W gNil) := PGs.imp pgs_nil fun xs σ H Q ⟨T, μ, env, vs, hs, es, r, q⟩ => by
  cases r with
  | nil => exact ⟨rfl, Post.now q hs es⟩
  | cons _ _ => exact q.elim
/-- a target whose storing raises nothing -/
def GQ (K : PySem.W.Frag) (g : Gv) : TG := fun x σ H Q => ∃ T μ env v, HSim K T μ H ∧ ESim K H T env σ ∧ RepV K H T v x ∧ Post K (RE K) T H (g v env μ) Q EF
theorem gq_name {i : Nat} {x : Str} (hN : X.N.Nodup) (hi : X.N[i]? = some x) (hx : Loc X.env.scope x) (hf : X.fn x = true ∨ X.env.scope.names.lookup x = some .local := by first | exact .inl rfl | exact .inr rfl | assumption) : PG X (.Name x pos) (GQ X.K (gName i)) :=
  PG.imp (pg_name hN hi hx hf) fun v σ H Q ⟨T, μ, env, u, hs, es, r, q⟩ => Post.now q hs (es.set r i)
theorem ggs_cons {gr : List Val → Env → Hh → R Env} (h1 : PG X e (GQ X.K gv)) (h2 : PGs X es (GGs X.K X.mg W gr)) (hs : (assignEach (e :: es) X.env).map (·.2) = assign e X.env :: (assignEach es X.env).map (·.2) := by rfl) : PGs X (e :: es) (GGs X.K X.mg W (gCons gv gr)) :=
  PGs.imp (pgs_cons h1 h2 hs) fun xs σ H Q ⟨T, μ, env, vs, hs, es, r, q⟩ => by
    cases r with
    | nil => exact q.elim
    | @cons v x vs xs r1 r2 =>
      refine ⟨x, xs, rfl, T, μ, env, v, hs, es, r1, Post.seq q fun env1 μ1 T1 H1 σ1 s1 hs1 es1 q1 => ⟨T1, μ1, env1, vs, hs1, es1, r2.step s1, q1⟩⟩
theorem gTup_ok {n : Nat} {gr : List Val → Env → Hh → R Env} {x : V} {v : Val} {T : Tr} {μ : Hh} {env : Env} {σ : St} {H : Hp} {Q : St → Hp → Prop} (hn : GLen gr n) (hx : NXs gr) (hs : HSim X.K T μ H) (es : ESim X.K H T env σ) (r : RepV X.K H T v x)
    (q : Post X.K (RE X.K) T H (gTup gr v env μ) Q EF) : ∃ a xs vs, x = .ref a ∧ SqT X.K H a xs ∧ xs.length = n ∧ RepL X.K H T vs xs ∧ Post X.K (RE X.K) T H (gr vs env μ) Q EF := by
  unfold gTup at q
  cases r with
  | @tup a xs vs h r =>
    dsimp only at q
    refine ⟨a, xs, vs, rfl, ?_, ?_, r, q⟩
    · rcases h with ⟨_, h⟩ | h
      · exact SqT.of h
      · exact .inr h
    · rw [r.length]
      cases hq : gr vs env μ with
      | ok e m => exact hn _ _ _ _ _ hq
      | exc y m => exact absurd hq (hx _ _ _ _ _)
      | bad => rw [hq] at q; exact q.elim
  | _ => exact q.elim
theorem gq_tup {k : Nat} {n : Nat} {gr : List Val → Env → Hh → R Env} (hg : GLen gr n) (hx : NXs gr) (hc : X.calm = true) (h : PGs X es (GGs X.K X.mg W gr)) (hn : (assignEach es X.env).length = n := by rfl) (hst : (assignEach es X.env).findIdx? (·.1) = none := by rfl) :
    PG X (.Tuple es k pos) (GQ X.K (gTup gr)) :=
  PG.imp (pg_tup hc h hn hst) fun v σ H Q ⟨T, μ, env, u, hs, es, r, q⟩ => by
    obtain ⟨a, xs, vs, rfl, h1, h2, r2, q2⟩ := gTup_ok (X := X) hg hx hs es r q
    exact ⟨a, xs, rfl, h1, h2, T, μ, env, vs, hs, es, r2, q2⟩
/-- a target that raises nothing, where exceptions may be taken -/
theorem GQ.gg {g : Gv} (h : PG X e (GQ X.K g)) (hx : NX g) : PG X e (GG X.K X.mg W g) :=
  PG.imp h fun v σ H Q ⟨T, μ, env, u, hs, es, r, q⟩ => ⟨T, μ, env, u, hs, es, r, by
    cases hr : g u env μ with
    | ok a m => rw [hr] at q; exact q
    | exc x m => exact absurd hr (hx _ _ _ _ _)
    | bad => rw [hr] at q; exact q⟩
theorem gg_sub {o i : Expr} {eo ei : Ev} (ho : PE X o (GE X.K X.mg W eo)) (hi : PE X i (GE X.K X.mg W ei)) (ha : ∀ v, assign (.Subscript o i pos) X.env v = (do
      let ov ← holding [v] (eval o X.env)
      let iv ← holding [v, ov] (eval i X.env)
      standAt pos
      holding [v, ov, iv] (setItem ov iv v)
      release [v, ov, iv] []) := by intro _; rfl) : PG X (.Subscript o i pos) (GG X.K X.mg W (gSub eo ei)) :=
  PG.imp (pg_sub ho hi set_list ha) fun v σ H Q ⟨T, μ, env, u, hs, es, r, q⟩ => ⟨T, μ, env, hs, es, Post.seq q fun x μ1 T1 H1 xx s1 hs1 r1 q1 => ⟨T1, μ1, env, hs1, es.step s1, Post.seq q1 fun y μ2 T2 H2 yy s2 hs2 r2 q2 => by
    have r1' := r1.step s2
    have ru := (r.step s1).step s2
    unfold setP at q2
    split at q2
    · rename_i n k
      cases r2
      split at q2
      · rename_i l el
        split at q2
        · rename_i j ej
          split at q2
          · rename_i hb
            obtain ⟨a, ys, rfl, ha, h1, l1⟩ := hs2.get el r1'
            refine ⟨a, ys, k, j, rfl, rfl, h1, by rw [l1.length]; exact ej, ?_⟩
            have st : Step T2 H2 T2 (upd H2 a (.lst (ys.set j v))) := Step.put (List.mem_of_getElem? ha)
            refine Post.here q2 st (hs2.put ha (RepL.set ru j l1) ?_) (((es.step s1).step s2).step st)
            have z : belL n l = true := hs2.old n _ el
            exact belL_get.mpr fun w hw => by
              rcases List.mem_or_eq_of_mem_set hw with hw | hw
              · exact belL_get.mp z w hw
              · rw [hw]; exact hb
          · exact q2.elim
        · exact q2.elim
      · exact q2.elim
    · exact q2.elim⟩⟩
theorem gs_asg {tg : Expr} (he : PE X e (GE X.K X.mg W ea)) (hg : PG X tg (GG X.K X.mg W gv)) (hs : swapsWithSole [tg] e pos.line X.env = pure false := by rfl) (hw : swappedStores [tg] e X.env = pure none := by rfl)
    (h1 : (assignEach [tg] X.env).map (·.2) = [assign tg X.env] := by rfl) : PS X (.Assign [tg] e pos) (GS X.K X.mg W (sAsg gv ea)) :=
  PS.imp (ps_asg he hg hs hw h1) fun D σ H ⟨T, μ, env, hs, es, q⟩ => ⟨T, μ, env, hs, es, SPost.lift (μ := μ) es q fun v μ1 T1 H1 x s1 hs1 r1 q1 => ⟨T1, μ1, env, v, hs1, es.step s1, r1, SPost.lift (μ := μ1) (es.step s1) q1 fun env2 μ2 T2 H2 σ2 s2 hs2 es2 q2 => q2 T2 H2 σ2 (Step.refl _ _) hs2 es2⟩⟩
end
end Mp

set_option Elab.async false
set_option linter.all false
set_option maxRecDepth 100000
set_option maxHeartbeats 1000000
namespace Mp
open PySem PySem.Spec PyProof.Rows L2
open AutoSeq1 (wpAny_loadPart')
/-! ### enumerate of a tuple -/
theorem enT_new (tu : Addr) (its : Array Value) (k : Nat) (dd : Option Addr) (sl : Array (Option Value)) :
    Meets (Builtin.«enumerate.__new__» ⟨[.type "enumerate", .ref tu], []⟩) (fun _ R s => s.heap.get? tu = some ⟨.type "tuple", dd, .seq its k, sl⟩ ∧
      R (.ok (.ret (.ref (s.heap.push { cls := .type "tuple_iterator", data := .fields #[.ref tu, .int 0 0] }).objs.size)))
        { s with heap := (s.heap.push { cls := .type "tuple_iterator", data := .fields #[.ref tu, .int 0 0] }).push { cls := .type "enumerate", data := .fields #[.none, .bool false, .ref s.heap.objs.size, rawInt 0, .none, .none] } }) := by
  refine .of_wp fun prog w A R s hh => ?_
  obtain ⟨hp, gg, dr, tk, os⟩ := s; obtain ⟨ht, hR⟩ := hh
  have hsub := sub_enumerate
  have hT : Heap.IsTuple (Shared.heap ⟨hp, gg, dr, tk, os⟩) tu its := ⟨_, ht, rfl, k, rfl⟩
  wp_walk using wpAny_loadPart' ht
  refine wpAny_stack_any fun _ => wpAny_pure ?_
  split
  · rename_i cc _ _ _ _ _
    cases (cc == Value.type "enumerate")
    all_goals (wp_walk using wpAny_loadPart' ht, wpAny_pyIter_tuple hT; exact ⟨_, rfl, hR⟩)
  · wp_walk using wpAny_loadPart' ht, wpAny_pyIter_tuple hT; exact ⟨_, rfl, hR⟩

section
variable {prog : Program} {w : World} {A : Around} {E : Value → Shared → Prop} {s : Shared}
theorem enT_call {tu : Addr} {its : Array Value} {Q : Value → Shared → Prop} (hT : s.heap.IsTuple tu its)
    (fin : ∀ h', IsEnum h' (s.heap.objs.size + 1) s.heap.objs.size 0 .none → h'.IsTupleIter s.heap.objs.size tu 0 → (∀ b o, s.heap.get? b = some o → h'.get? b = some o) → Q (.ref (s.heap.objs.size + 1)) { s with heap := h' }) :
    wpAny (model prog w) A (call (.type "enumerate") [.ref tu]) Q E s := by
  obtain ⟨⟨oc, od, dt, sl⟩, ho, rfl, n, hd⟩ := hT
  cases (show dt = .seq its n from hd)
  have e1 : (s.heap.push { cls := .type "tuple_iterator", data := .fields #[.ref tu, .int 0 0] }).objs.size = s.heap.objs.size + 1 := Heap.size_push ..
  refine callType_new F.called_enumerate (by decide) (F.typeCall_enumerate_1 _) (F.newCall_enumerate_1 _) (fun x => F.args_object_init_2 x _) F.entry_enumerate_new (enT_new tu its n od sl) ⟨ho, ?_⟩
  have e2 := Heap.get?_push_size (s.heap.push { cls := .type "tuple_iterator", data := .fields #[.ref tu, .int 0 0] }) (o := { cls := .type "enumerate", data := .fields #[.none, .bool false, .ref s.heap.objs.size, rawInt 0, .none, .none] }) rfl
  rw [e1] at e2
  show _ ∧ _
  rw [e1]
  exact ⟨⟨_, e2, rfl⟩, fin _ e2 ⟨_, Heap.get?_push_of_some _ (Heap.get?_push_size _ rfl), rfl, rfl⟩ fun b o q => Heap.get?_push_of_some _ (Heap.get?_push_of_some _ q)⟩
theorem enT_draws (hh : A.handled = none) (it tu : Addr) (ne : tu ≠ it) (its : Array Value) :
    Draws prog w A it [it, tu] its.size (fun i v => its[i]? = some v) (fun i h => h.IsTupleIter it tu i ∧ h.IsTuple tu its) := by
  refine ⟨fun _ _ st => st.1.imp fun _ q => q.1, fun _ _ h' st hk => ⟨st.1.at fun o e => hk it (by simp) o e, ?_⟩, fun i s Q E hi st hQ => ?_, fun s Q E st hE => RZ.nextOf_tuple_end hh st.1 st.2 (by simp) hE⟩
  · obtain ⟨o, e, q⟩ := st.2
    exact ⟨o, hk tu (by simp) o e, q⟩
  · refine RZ.nextOf_tuple_item st.1 st.2 (x := its[i]) (by simp [hi]) fun h' i' sb => hQ _ h' s.toks (by simp [hi]) ⟨i', ?_⟩ sb
    obtain ⟨o, e, q⟩ := st.2
    exact ⟨o, (sb.2 tu ne).trans e, q⟩
end
/-- the tuple at a, each item in a new pair -/
def IteT (K : PySem.W.Frag) (a : Addr) : It where
  go i H := ∃ (xs : List V) (x : V), SqT K H a xs ∧ xs[i]? = some x
  yld i H v H' := ∃ P x, v = .ref P ∧ H P = none ∧ H' = upd H P (.tup [.int (i : Nat), x]) ∧ ∀ xs, SqT K H a xs → xs[i]? = some x
  stop i H := ∃ xs : List V, SqT K H a xs ∧ xs.length ≤ i
theorem enT_turn {P : Program} {w : World} {K : PySem.W.Frag} {elts : List Expr} {kk : Nat} {tpos : Pos} (a en it : Addr) (nai : a ≠ it) :
    Turn P w K (.Tuple elts kk tpos) (IteT K a) [en, it] en (fun i h => (∃ old, IsEnum h en it ((i : Nat) : Int) old) ∧ h.IsTupleIter it a i ∧ en ≠ it ∧ en ≠ a) := by
  refine ⟨by simp, ?_, ?_, ?_, ?_, fun A i s Q E st hq => st.1.elim fun _ q => wpAny_pyIter_enum q hq⟩
  · rintro i h ⟨⟨old, he⟩, ⟨o, ho, _, hd⟩, _⟩ b hb
    rcases (show b = en ∨ b = it by simpa using hb) with rfl | rfl
    · exact ⟨_, he, fun _ q => nomatch q⟩
    · exact ⟨o, ho, fun _ q => by rw [hd] at q; cases q⟩
  · rintro i h h' ⟨⟨old, he⟩, hi, hne⟩ k
    exact ⟨⟨old, k en (by simp) _ he⟩, hi.at fun o q => k it (by simp) o q, hne⟩
  · intro X hP hw hK hc i pins s σ H E I hf st hg
    subst hP hw hK
    obtain ⟨⟨old, he⟩, hit, hne, hna⟩ := st
    obtain ⟨xs, x, hq, hx⟩ := hg
    obtain ⟨its, rv, pt, _⟩ := I.tuple hq
    obtain ⟨u, hu, ru⟩ := rv.get hx
    have l1 : en < s.heap.objs.size := Heap.lt_size he
    have l2 : it < s.heap.objs.size := by obtain ⟨_, q, _⟩ := hit; exact Heap.lt_size q
    have hlt : i < its.toArray.size := by simpa using (List.getElem?_eq_some_iff.mp hu).1
    refine wpAny_pyNext_enum_itemD (enT_draws (prog := X.prog) (w := X.w) (A := X.A.in1) (I.ok.hd hc) it a nai its.toArray) he ⟨hit, pt⟩ hlt hne (by simp [hne, hna]) fun y h1 tk hy ho hst hTp _ hk => ?_
    have ey : y = u := by
      rw [List.getElem?_toArray, hu] at hy
      exact (Option.some.inj hy).symm
    subst ey
    refine ⟨_, rfl, wpAny_letOwnedTupleGo_enum (s := { s with heap := h1, toks := tk + 1 }) ho fun h2 he2 sb => ?_⟩
    have hP2 := (sb.2 _ (Nat.ne_of_gt l1)).trans hTp
    have ob : ObjOk X.prog X.w (upd H s.heap.objs.size (.tup [.int (i : Nat), x])) h2 s.heap.objs.size (.tup [.int (i : Nat), x]) :=
      ⟨(by decide : 2 ≤ sizeLine), [.int i tk, y], .cons ⟨_, rfl⟩ (.cons ru .nil), ⟨_, hP2, rfl, _, rfl⟩⟩
    have J := I.turnedNew (t' := tk + 1) (ch := [en, it]) (fun b o hb q => (sb.2 b (fun z => hb (by simp [z]))).trans (hk b o (fun z => hb (by simp [z])) (fun z => hb (by simp [z])) q)) hf (Nat.le_refl _) ob
    refine ⟨.ref s.heap.objs.size, _, J, rfl, ⟨_, x, rfl, I.hok.fresh (Nat.le_refl _), rfl, fun ys hy => by rw [I.tuple_inj hy hq]; exact hx⟩, ⟨⟨y, ?_⟩, hst.1.at fun o q => (sb.2 it (Ne.symm hne)).trans q, hne, hna⟩, fun b hb => ?_⟩
    · rw [show ((i + 1 : Nat) : Int) = (i : Int) + 1 by omega]; exact he2
    · have hlb : b < s.heap.objs.size := by
        rcases (show b = en ∨ b = it by simpa using hb) with rfl | rfl
        · exact l1
        · exact l2
      rw [upd_ne (Nat.ne_of_lt hlb)]; exact (hf b hb).1
  · intro X hP hw hK hc i pins s σ H E I hf st hg
    subst hP hw hK
    obtain ⟨⟨old, he⟩, hit, hne, hna⟩ := st
    obtain ⟨xs, hq, hx⟩ := hg
    obtain ⟨its, rv, pt, _⟩ := I.tuple hq
    obtain ⟨g0, g1, g2, g3, g4, g5⟩ := hf it (by simp)
    have hl := rv.length
    have D : Draws X.prog X.w X.A.in1 it [it, a] i (fun _ _ => False) (fun j h => j = i ∧ h.IsTupleIter it a i ∧ h.IsTuple a its.toArray) := by
      refine ⟨fun _ _ st => st.2.1.imp fun _ q => q.1, fun _ _ h' st hk => ⟨st.1, st.2.1.at fun o e => hk it (by simp) o e, ?_⟩, fun j s Q E hj st _ => absurd st.1 (Nat.ne_of_lt hj), fun s Q E st hE => RZ.nextOf_tuple_end (I.ok.hd hc) st.2.1 st.2.2 (by simp; omega) hE⟩
      obtain ⟨o, e, q⟩ := st.2.2
      exact ⟨o, hk a (by simp) o e, q⟩
    exact wpAny_pyNext_enum_endD D he ⟨rfl, hit, pt⟩ fun h' eb => ⟨rfl, I.turned (t' := s.toks) (fun b o hb q => eb b o hb q) g0 g1 g3 g4 g5⟩
/-- enumerate(e), e a list or a tuple -/
theorem pi_enT {X : Cx} {e : Expr} {ta : TA} {p pos tpos : Pos} {elts : List Expr} {kk : Nat} (hg : Gl X "enumerate") (hm : X.mg "enumerate" = none) (ha : PA X [e] ta) (hs : starEach [e] X.env = [(false, eval e X.env)] := by rfl) :
    PI X (.Tuple elts kk tpos) (.Call (.Name "enumerate" p) [e] [] pos) (fun σ H R => ta σ H fun vs H1 => ∃ a xs, vs = [.ref a] ∧ SqT X.K H1 a xs ∧ R (IteT X.K a) H1) := by
  refine ⟨fun pins s σ H R I hw => Call_ (ld_blt I hg hm boot_enumerate (PyProof.Rows.callWith_type1 (thn (ha.run pos pins s σ H _ I hw) fun us s1 ⟨vs, H1, I1, r1, a, xs, ev, hq, q⟩ => ?_) hs rfl))⟩
  subst ev
  obtain ⟨u, eu, ru⟩ := vals1 r1
  subst eu
  cases ru
  obtain ⟨its, rv, pt, _⟩ := I1.tuple hq
  have la : a < s1.heap.objs.size := pt.elim fun _ q => Heap.lt_size q.1
  refine enT_call (show s1.heap.IsTuple a its.toArray from pt) fun h' he hit hk => wpAny_pyIter_enum he ⟨s1.heap.objs.size + 1, [s1.heap.objs.size + 1, s1.heap.objs.size], _, _, H1, rfl, I1.kept (t' := s1.toks) hk, enT_turn a (s1.heap.objs.size + 1) s1.heap.objs.size (Nat.ne_of_lt la), ⟨⟨.none, he⟩, hit, Nat.succ_ne_self _, Nat.ne_of_gt (Nat.lt_succ_of_lt la)⟩, fun b hb => ?_, q⟩
  have hle : s1.heap.objs.size ≤ b := by
    rcases (show b = s1.heap.objs.size + 1 ∨ b = s1.heap.objs.size by simpa using hb) with rfl | rfl
    · exact Nat.le_succ _
    · exact Nat.le_refl _
  exact I1.fpOk hle (I1.hok.fresh hle)
end Mp

set_option Elab.async false
set_option linter.all false
set_option maxRecDepth 100000
namespace Mp
open PySem PySem.Spec PyProof.Rows L2
/-! ### what is walked: its items; the lists that must stand meanwhile -/
structure Iv where
  items : List Val
  chk : List (Nat × List Val)
abbrev Iev := Env → Hh → R Iv
def chkOk (c : List (Nat × List Val)) (h : Hh) : Prop := ∀ p ∈ c, h[p.1]? = some (.lst p.2)
@[simp] theorem chkOk_nil (h : Hh) : chkOk [] h := fun _ q => nomatch q
def chkOf (v : Val) (h : Hh) : List (Nat × List Val) := match v with
  | .ref n => match h[n]? with
    | some (.lst l) => [(n, l)]
    | none => []
  | _ => []
/-- J walks these items -/
def ItRep (K : PySem.W.Frag) (H0 : Hp) (T0 : Tr) (iv : Iv) (J : It) : Prop := ∀ T μ H, Step T0 H0 T H → HSim K T μ H → chkOk iv.chk μ →
  (∀ (i : Nat) v, iv.items[i]? = some v → J.go i H ∧ ∀ x H', J.yld i H x H' → Step T H T H' ∧ HSim K T μ H' ∧ RepV K H' T v x) ∧ J.stop iv.items.length H
abbrev RI (K : PySem.W.Frag) : Hp → Tr → Iv → It → Prop := fun H T iv J => ItRep K H T iv J
def GI (K : PySem.W.Frag) (mg : Str → Option Value) (W : WX) (f : Iev) : TI := Gn K mg W (RI K) f
theorem PI.imp {X : Cx} {tg e : Expr} {t t' : TI} (h : PI X tg e t) (k : ∀ σ H Q, t' σ H Q → t σ H Q) : PI X tg e t' := ⟨fun pins s σ H Q I q => h.run pins s σ H Q I (k σ H Q q)⟩
section
variable {K : PySem.W.Frag} {T T' : Tr} {μ μ' : Hh} {H H' : Hp} {v : Val} {x : V} {l : List Val}
theorem lsq_keep (e : lsq v μ = some l) (c : chkOk (chkOf v μ) μ') : lsq v μ' = some l := by
  cases v with
  | ref n =>
    unfold lsq chkOf at *
    dsimp only at *
    cases h : μ[n]? with
    | none => rw [h] at e; cases e
    | some o =>
      cases o with
      | lst l' =>
        rw [h] at e c
        cases e
        have q : μ'[n]? = some (.lst l) := c (n, l) (by simp)
        rw [q]
  | _ => exact e
theorem it_lst {a : Addr} (ha : x = .ref a) (hs : HSim K T μ H) (r : RepV K H T v x) (e : lsq v μ = some l) : ItRep K H T ⟨l, chkOf v μ⟩ (Itl K a) := by
  intro T1 μ1 H1 st hs1 c
  obtain ⟨a', xs, ea, h1, l1⟩ := lsq_rep hs1 (r.step st) (lsq_keep e c)
  rw [ha] at ea; cases ea
  refine ⟨fun i u ei => ?_, xs, h1, by rw [l1.length]; exact Nat.le_refl _⟩
  obtain ⟨y, ey, ry⟩ := l1.get ei
  refine ⟨⟨xs, y, h1, ey⟩, fun z H2 ⟨e1, e2⟩ => ?_⟩
  subst e1
  have q := e2 xs h1
  rw [ey] at q; cases q
  exact ⟨Step.refl _ _, hs1, ry⟩
theorem it_tup {a : Addr} {xs : List V} (st0 : RepV K H T (.tup l) (.ref a)) : ItRep K H T ⟨l, []⟩ (Itt K a) := by
  intro T1 μ1 H1 st hs1 c
  obtain ⟨a', xs, ea, h1, l1⟩ := tup_rep (st0.step st)
  cases ea
  refine ⟨fun i u ei => ?_, xs, h1, by rw [l1.length]; exact Nat.le_refl _⟩
  obtain ⟨y, ey, ry⟩ := l1.get ei
  refine ⟨⟨xs, y, h1, ey⟩, fun z H2 ⟨e1, e2⟩ => ?_⟩
  subst e1
  have q := e2 xs h1
  rw [ey] at q; cases q
  exact ⟨Step.refl _ _, hs1, ry⟩
end
def seqI (v : Val) (h : Hh) : R Iv := match v with
  | .tup l => .ok ⟨l, []⟩ h
  | v => match lsq v h with
    | some l => .ok ⟨l, chkOf v h⟩ h
    | none => .bad
def iSeq (e : Ev) : Iev := fun env h => (e env h).bnd fun v h1 => seqI v h1
def rangeV (lo hi : Int) : List Val := (List.range (hi - lo).toNat).map fun (i : Nat) => Val.int (lo + (i : Int))
def rng1I (vs : List Val) (h : Hh) : R Iv := match vs with
  | [.int j] => if -(2 ^ 62) ≤ j ∧ j < 2 ^ 62 then .ok ⟨rangeV 0 j, []⟩ h else .bad
  | _ => .bad
def rng2I (vs : List Val) (h : Hh) : R Iv := match vs with
  | [.int i, .int j] => if -(2 ^ 62) ≤ i ∧ i < 2 ^ 62 ∧ -(2 ^ 62) ≤ j ∧ j < 2 ^ 62 then .ok ⟨rangeV i j, []⟩ h else .bad
  | _ => .bad
def iRng1 (a : Av) : Iev := fun env h => (a env h).bnd fun vs h1 => rng1I vs h1
def iRng2 (a : Av) : Iev := fun env h => (a env h).bnd fun vs h1 => rng2I vs h1
def enumV (i : Nat) : List Val → List Val
  | [] => []
  | v :: l => .tup [.int (i : Int), v] :: enumV (i + 1) l
theorem enumV_length : ∀ (l : List Val) (i : Nat), (enumV i l).length = l.length
  | [], _ => rfl
  | _ :: l, i => by simp [enumV, enumV_length l (i + 1)]
theorem enumV_get : ∀ (l : List Val) (i j : Nat), (enumV i l)[j]? = (l[j]?).map fun v => .tup [.int ((i + j : Nat) : Int), v]
  | [], _, _ => by simp [enumV]
  | v :: l, i, 0 => by simp [enumV]
  | v :: l, i, j + 1 => by
    simp only [enumV, List.getElem?_cons_succ]
    rw [enumV_get l (i + 1) j, show i + 1 + j = i + (j + 1) by omega]
def enI (vs : List Val) (h : Hh) : R Iv := match vs with
  | [.tup l] => .ok ⟨enumV 0 l, []⟩ h
  | [v] => match lsq v h with
    | some l => .ok ⟨enumV 0 l, chkOf v h⟩ h
    | none => .bad
  | _ => .bad
def iEn (a : Av) : Iev := fun env h => (a env h).bnd fun vs h1 => enI vs h1
def zipV : List Val → List Val → List Val
  | v :: l, w :: r => .tup [v, w] :: zipV l r
  | _, _ => []
theorem zipV_length : ∀ l r : List Val, (zipV l r).length = min l.length r.length
  | [], _ => by simp [zipV]
  | _ :: _, [] => by simp [zipV]
  | _ :: l, _ :: r => by simp [zipV, zipV_length l r]
theorem zipV_get : ∀ (l r : List Val) (j : Nat) (u : Val), (zipV l r)[j]? = some u → ∃ v w, l[j]? = some v ∧ r[j]? = some w ∧ u = .tup [v, w]
  | [], _, _, _, e => by simp [zipV] at e
  | _ :: _, [], _, _, e => by simp [zipV] at e
  | v :: l, w :: r, 0, u, e => by simp [zipV] at e; exact ⟨v, w, rfl, rfl, e.symm⟩
  | v :: l, w :: r, j + 1, u, e => by
    obtain ⟨v', w', h1, h2, h3⟩ := zipV_get l r j u (by simpa [zipV] using e)
    exact ⟨v', w', by simpa using h1, by simpa using h2, h3⟩
def zipI (vs : List Val) (h : Hh) : R Iv := match vs with
  | [.tup l, .tup r] => .ok ⟨zipV l r, []⟩ h
  | [v, w] => match lsq v h, lsq w h with
    | some l, some r => .ok ⟨zipV l r, chkOf v h ++ chkOf w h⟩ h
    | _, _ => .bad
  | _ => .bad
def iZp (a : Av) : Iev := fun env h => (a env h).bnd fun vs h1 => zipI vs h1
section
variable {X : Cx} {W : WX} {tg a b e : Expr} {es : List Expr} {pos : Pos} {ea : Ev} {av : Av}
/-- a list or a tuple is walked -/
theorem gi_seq (h : PE X e (GE X.K X.mg W ea)) : PI X tg e (GI X.K X.mg W (iSeq ea)) := by
  refine ⟨fun pins s σ H R' I ⟨T, μ, env, hs, es, q⟩ => ?_⟩
  unfold iSeq at q
  have tupCase : ∀ l μ1, ea env μ = .ok (.tup l) μ1 → wpAny (model X.prog X.w) X.A (eval e X.env) (fun v s1 => wpAny (model X.prog X.w) X.A (pyIter v) (PIE X pins σ tg R') X.xe s1) X.xe s := fun l μ1 er => by
    refine (pi_tup h).run pins s σ H R' I ⟨T, μ, env, hs, es, ?_⟩
    rw [er] at q ⊢
    intro T1 H1 x st hs1 r1
    obtain ⟨p, xs, rfl, h1, _⟩ := tup_rep r1
    exact ⟨p, rfl, ⟨xs, h1⟩, q T1 H1 _ st hs1 (it_tup (xs := xs) r1)⟩
  have lstCase : ∀ v μ1, ea env μ = .ok v μ1 → (∀ l, v ≠ .tup l) → wpAny (model X.prog X.w) X.A (eval e X.env) (fun v s1 => wpAny (model X.prog X.w) X.A (pyIter v) (PIE X pins σ tg R') X.xe s1) X.xe s := fun v μ1 er nt => by
    refine (pi_list h).run pins s σ H R' I ⟨T, μ, env, hs, es, ?_⟩
    rw [er] at q ⊢
    intro T1 H1 x st hs1 r1
    have q1 : Post X.K (RI X.K) T H (seqI v μ1) R' (EX X.K X.mg W σ) := q
    unfold seqI at q1
    split at q1
    · exact absurd rfl (nt _)
    · split at q1
      · rename_i l el
        obtain ⟨p, xs, ea', h1, _⟩ := lsq_rep hs1 r1 el
        exact ⟨p, ea', ⟨xs, h1⟩, q1 T1 H1 _ st hs1 (it_lst ea' hs1 r1 el)⟩
      · exact q1.elim
  cases hr : ea env μ with
  | ok v μ1 =>
    cases v with
    | tup l => exact tupCase l μ1 hr
    | _ => exact lstCase _ μ1 hr fun _ z => nomatch z
  | exc x m =>
    refine (pi_tup h).run pins s σ H R' I ⟨T, μ, env, hs, es, ?_⟩
    rw [hr] at q ⊢; exact q
  | bad => rw [hr] at q; exact q.elim
theorem it_rng {K : PySem.W.Frag} {H : Hp} {T : Tr} (lo hi : Int) (n : Nat) (hn : n = (hi - lo).toNat) : ItRep K H T ⟨rangeV lo hi, []⟩ (Itr lo n) := by
  intro T1 μ1 H1 st hs1 c
  subst hn
  have hl : (rangeV lo hi).length = (hi - lo).toNat := by simp [rangeV]
  refine ⟨fun i u ei => ?_, by show (hi - lo).toNat ≤ (rangeV lo hi).length; rw [hl]; exact Nat.le_refl _⟩
  have hi' : i < (hi - lo).toNat := by rw [← hl]; exact (List.getElem?_eq_some_iff.mp ei).1
  have eu : u = .int (lo + (i : Int)) := by
    unfold rangeV at ei
    rw [List.getElem?_map, List.getElem?_range hi'] at ei
    exact (Option.some.inj ei).symm
  refine ⟨hi', fun z H2 ⟨e1, e2⟩ => ?_⟩
  subst e1 e2 eu
  exact ⟨Step.refl _ _, hs1, .int _⟩
theorem gi_range1 {p pos : Pos} (hg : Gl X "range") (hm : X.mg "range" = none) (ha : PA X [a] (GA X.K X.mg W av)) (hs : starEach [a] X.env = [(false, eval a X.env)] := by rfl) : PI X tg (.Call (.Name "range" p) [a] [] pos) (GI X.K X.mg W (iRng1 av)) :=
  PI.imp (pi_range1 hg hm ha hs) fun σ H Q ⟨T, μ, env, hs, es, q⟩ => ⟨T, μ, env, hs, es, Post.seq q fun v μ1 T1 H1 x s1 hs1 r1 q1 => by
    unfold rng1I at q1
    split at q1
    · rename_i j
      obtain ⟨y, rfl, r2⟩ := r1.one
      cases r2
      split at q1
      · rename_i hk
        exact ⟨j, rfl, hk.1, hk.2, Post.now q1 hs1 (it_rng 0 j j.toNat (by simp))⟩
      · exact q1.elim
    · exact q1.elim⟩
theorem gi_range2 {p pos : Pos} (hg : Gl X "range") (hm : X.mg "range" = none) (ha : PA X [a, b] (GA X.K X.mg W av)) (hs : starEach [a, b] X.env = [(false, eval a X.env), (false, eval b X.env)] := by rfl) (hs2 : starEach [b] X.env = [(false, eval b X.env)] := by rfl) :
    PI X tg (.Call (.Name "range" p) [a, b] [] pos) (GI X.K X.mg W (iRng2 av)) :=
  PI.imp (pi_range2 hg hm ha hs hs2) fun σ H Q ⟨T, μ, env, hs, es, q⟩ => ⟨T, μ, env, hs, es, Post.seq q fun v μ1 T1 H1 x s1 hs1 r1 q1 => by
    unfold rng2I at q1
    split at q1
    · rename_i i j
      obtain ⟨y, z, rfl, r2, r3⟩ := r1.two
      cases r2; cases r3
      split at q1
      · rename_i hk
        exact ⟨i, j, rfl, hk, Post.now q1 hs1 (it_rng i j _ rfl)⟩
      · exact q1.elim
    · exact q1.elim⟩
theorem pair_rep {K : PySem.W.Frag} {T : Tr} {μ : Hh} {H : Hp} {v w : Val} {x y : V} {P : Addr} (hs : HSim K T μ H) (r1 : RepV K H T v x) (r2 : RepV K H T w y) (hP : H P = none) :
    Step T H T (upd H P (.tup [x, y])) ∧ HSim K T μ (upd H P (.tup [x, y])) ∧ RepV K (upd H P (.tup [x, y])) T (.tup [v, w]) (.ref P) :=
  ⟨Step.new hP, hs.new hP, .tup (.inl ⟨hs.notban hP, upd_same⟩) (.cons (r1.step (Step.new hP)) (.cons (r2.step (Step.new hP)) .nil))⟩
theorem it_en {K : PySem.W.Frag} {T : Tr} {μ : Hh} {H : Hp} {v : Val} {x : V} {l : List Val} {a : Addr} (ha : x = .ref a) (r : RepV K H T v x) (e : lsq v μ = some l) : ItRep K H T ⟨enumV 0 l, chkOf v μ⟩ (Ite K a) := by
  intro T1 μ1 H1 st hs1 c
  obtain ⟨a', xs, ea, h1, l1⟩ := lsq_rep hs1 (r.step st) (lsq_keep e c)
  rw [ha] at ea; cases ea
  refine ⟨fun i u ei => ?_, xs, h1, by rw [l1.length, enumV_length]; exact Nat.le_refl _⟩
  rw [enumV_get] at ei
  obtain ⟨w, ew, eu⟩ := Option.map_eq_some_iff.mp ei
  obtain ⟨y, ey, ry⟩ := l1.get ew
  refine ⟨⟨xs, y, h1, ey⟩, fun z H2 ⟨P, y', e1, e2, e3, e4⟩ => ?_⟩
  have q := e4 xs h1
  rw [ey] at q; cases q
  subst e1 e3 eu
  rw [Nat.zero_add]
  exact pair_rep hs1 (.int _) ry e2
theorem it_enT {K : PySem.W.Frag} {T : Tr} {H : Hp} {l : List Val} {a : Addr} (r : RepV K H T (.tup l) (.ref a)) : ItRep K H T ⟨enumV 0 l, []⟩ (IteT K a) := by
  intro T1 μ1 H1 st hs1 c
  obtain ⟨a', xs, ea, h1, l1⟩ := tup_rep (r.step st)
  cases ea
  refine ⟨fun i u ei => ?_, xs, h1, by rw [l1.length, enumV_length]; exact Nat.le_refl _⟩
  rw [enumV_get] at ei
  obtain ⟨w, ew, eu⟩ := Option.map_eq_some_iff.mp ei
  obtain ⟨y, ey, ry⟩ := l1.get ew
  refine ⟨⟨xs, y, h1, ey⟩, fun z H2 ⟨P, y', e1, e2, e3, e4⟩ => ?_⟩
  have q := e4 xs h1
  rw [ey] at q; cases q
  subst e1 e3 eu
  rw [Nat.zero_add]
  exact pair_rep hs1 (.int _) ry e2
theorem gi_en {p pos tpos : Pos} {elts : List Expr} {kk : Nat} (hg : Gl X "enumerate") (hm : X.mg "enumerate" = none) (ha : PA X [a] (GA X.K X.mg W av)) (hst : starEach [a] X.env = [(false, eval a X.env)] := by rfl) :
    PI X (.Tuple elts kk tpos) (.Call (.Name "enumerate" p) [a] [] pos) (GI X.K X.mg W (iEn av)) := by
  refine ⟨fun pins s σ H R' I ⟨T, μ, env, hs, es, q⟩ => ?_⟩
  unfold iEn at q
  cases hr : av env μ with
  | ok vs μ1 =>
    rw [hr] at q
    have q1 : Post X.K (RI X.K) T H (enI vs μ1) R' (EX X.K X.mg W σ) := q
    unfold enI at q1
    split at q1
    · refine (pi_enT hg hm ha hst).run pins s σ H R' I ⟨T, μ, env, hs, es, ?_⟩
      rw [hr]
      intro T1 H1 x st hs1 r1
      obtain ⟨y, rfl, r2⟩ := r1.one
      obtain ⟨p, xs, rfl, h1, _⟩ := tup_rep r2
      exact ⟨p, xs, rfl, h1, q1 T1 H1 _ st hs1 (it_enT r2)⟩
    · refine (pi_enum hg hm ha hst).run pins s σ H R' I ⟨T, μ, env, hs, es, ?_⟩
      rw [hr]
      intro T1 H1 x st hs1 r1
      obtain ⟨y, rfl, r2⟩ := r1.one
      split at q1
      · rename_i l el
        obtain ⟨p, xs, ea', h1, _⟩ := lsq_rep hs1 r2 el
        exact ⟨p, xs, by rw [ea'], h1, q1 T1 H1 _ st hs1 (it_en ea' r2 el)⟩
      · exact q1.elim
    · exact q1.elim
  | exc x m =>
    refine (pi_enum hg hm ha hst).run pins s σ H R' I ⟨T, μ, env, hs, es, ?_⟩
    rw [hr] at q ⊢; exact q
  | bad => rw [hr] at q; exact q.elim
theorem gi_zip {p pos tpos : Pos} {elts : List Expr} {kk : Nat} (hg : Gl X "zip") (hm : X.mg "zip" = none) (ha : PA X [a, b] (GA X.K X.mg W av))
    (hst : starEach [a, b] X.env = (false, eval a X.env) :: starEach [b] X.env := by rfl) (hpl : (backTo pos (starEach [b] X.env)).any (·.1) = false := by rfl) :
    PI X (.Tuple elts kk tpos) (.Call (.Name "zip" p) [a, b] [] pos) (GI X.K X.mg W (iZp av)) :=
  PI.imp (RZ.pi_zipA hg hm ha hst hpl) fun σ H Q ⟨T, μ, env, hs, es, q⟩ => ⟨T, μ, env, hs, es, Post.seq q fun v μ1 T1 H1 x s1 hs1 r1 q1 => by
    unfold zipI at q1
    split at q1
    · rename_i l r
      obtain ⟨y, z, rfl, r2, r3⟩ := r1.two
      obtain ⟨p1, xs, rfl, h1, _⟩ := tup_rep r2
      obtain ⟨p2, ys, rfl, h2, _⟩ := tup_rep r3
      refine ⟨p1, p2, xs, ys, rfl, .inr ⟨h1, h2, Post.now q1 hs1 fun T2 μ2 H2 st hs2 c => ?_⟩⟩
      obtain ⟨_, xs', e1, g1, k1⟩ := tup_rep (r2.step st)
      cases e1
      obtain ⟨_, ys', e2, g2, k2⟩ := tup_rep (r3.step st)
      cases e2
      refine ⟨fun i u ei => ?_, xs', ys', g1, g2, ?_⟩
      · obtain ⟨v', w', ev, ew, rfl⟩ := zipV_get l r i u ei
        obtain ⟨x1, ex, rx⟩ := k1.get ev
        obtain ⟨y1, ey, ry⟩ := k2.get ew
        refine ⟨⟨xs', ys', x1, y1, g1, g2, ex, ey⟩, fun z H3 ⟨P, x2, y2, e1, e2, e3, e4, e5⟩ => ?_⟩
        have w1 := e4 xs' g1
        have w2 := e5 ys' g2
        rw [ex] at w1; cases w1
        rw [ey] at w2; cases w2
        subst e1 e3
        exact pair_rep hs2 rx ry e2
      · show xs'.length ≤ (zipV l r).length ∨ ys'.length ≤ (zipV l r).length
        rw [zipV_length, k1.length, k2.length]; omega
    · rename_i v w _
      obtain ⟨y, z, rfl, r2, r3⟩ := r1.two
      split at q1
      · rename_i l r el er
        obtain ⟨p1, xs, rfl, h1, _⟩ := lsq_rep hs1 r2 el
        obtain ⟨p2, ys, rfl, h2, _⟩ := lsq_rep hs1 r3 er
        refine ⟨p1, p2, xs, ys, rfl, .inl ⟨h1, h2, Post.now q1 hs1 fun T2 μ2 H2 st hs2 c => ?_⟩⟩
        obtain ⟨_, xs', e1, g1, k1⟩ := lsq_rep hs2 (r2.step st) (lsq_keep el fun p hp => c p (List.mem_append_left _ hp))
        cases e1
        obtain ⟨_, ys', e2, g2, k2⟩ := lsq_rep hs2 (r3.step st) (lsq_keep er fun p hp => c p (List.mem_append_right _ hp))
        cases e2
        refine ⟨fun i u ei => ?_, xs', ys', g1, g2, ?_⟩
        · obtain ⟨v', w', ev, ew, rfl⟩ := zipV_get l r i u ei
          obtain ⟨x1, ex, rx⟩ := k1.get ev
          obtain ⟨y1, ey, ry⟩ := k2.get ew
          refine ⟨⟨xs', ys', x1, y1, g1, g2, ex, ey⟩, fun z H3 ⟨P, x2, y2, e1, e2, e3, e4, e5⟩ => ?_⟩
          have w1 := e4 xs' g1
          have w2 := e5 ys' g2
          rw [ex] at w1; cases w1
          rw [ey] at w2; cases w2
          subst e1 e3
          exact pair_rep hs2 rx ry e2
        · show xs'.length ≤ (zipV l r).length ∨ ys'.length ≤ (zipV l r).length
          rw [zipV_length, k1.length, k2.length]; omega
      · exact q1.elim
    · exact q1.elim⟩
end

/-! ### for -/
open Classical in
noncomputable def forL (tg : Gv) (b : Sv) (c : List (Nat × List Val)) : List Val → Env → Hh → SR
  | [], env, h => if chkOk c h then .nx env h else .bad
  | v :: r, env, h => if chkOk c h then lift (tg v env h) env fun env1 h1 => match b env1 h1 with
      | .nx e2 h2 => forL tg b c r e2 h2
      | .ct e2 h2 => forL tg b c r e2 h2
      | .bk e2 h2 => .nx e2 h2
      | .rt v h2 => .rt v h2
      | .exc x e2 h2 => .exc x e2 h2
      | .bad => .bad
    else .bad
noncomputable def sFor (it : Iev) (tg : Gv) (b : Sv) : Sv := fun env h => lift (it env h) env fun iv h1 => forL tg b iv.chk iv.items env h1
/-! ### while -/
def whileN (c : Tv) (b : Sv) : Nat → Env → Hh → SR
  | 0, _, _ => .bad
  | n + 1, env, h => lift (c env h) env fun x h1 => if x = true then match b env h1 with
      | .nx e2 h2 => whileN c b n e2 h2
      | .ct e2 h2 => whileN c b n e2 h2
      | .bk e2 h2 => .nx e2 h2
      | .rt v h2 => .rt v h2
      | .exc x e2 h2 => .exc x e2 h2
      | .bad => .bad
    else .nx env h1
open Classical in
noncomputable def sWhile (c : Tv) (b : Sv) : Sv := fun env h => if q : ∃ n, whileN c b n env h ≠ .bad then whileN c b (choose q) env h else .bad
theorem whileN_mono {c : Tv} {b : Sv} : ∀ {n : Nat} {env : Env} {h : Hh}, whileN c b n env h ≠ .bad → ∀ m, whileN c b (n + m) env h = whileN c b n env h
  | 0, _, _, q, _ => absurd rfl q
  | n + 1, env, h, q, m => by
    rw [show n + 1 + m = (n + m) + 1 by omega]
    unfold whileN at q ⊢
    cases hc : c env h with
    | ok x h1 =>
      rw [hc] at q
      simp only [lift_ok] at q ⊢
      cases x with
      | true =>
        simp only [if_true] at q ⊢
        cases hb : b env h1 with
        | nx e2 h2 => rw [hb] at q; exact whileN_mono q m
        | ct e2 h2 => rw [hb] at q; exact whileN_mono q m
        | _ => rfl
      | false => rfl
    | exc x h1 => rfl
    | bad => rfl
theorem sWhile_eq {c : Tv} {b : Sv} {n : Nat} {env : Env} {h : Hh} (q : whileN c b n env h ≠ .bad) : sWhile c b env h = whileN c b n env h := by
  unfold sWhile
  have hx : ∃ n, whileN c b n env h ≠ .bad := ⟨n, q⟩
  rw [dif_pos hx]
  have q2 := Classical.choose_spec hx
  have a1 := whileN_mono q (Classical.choose hx)
  have a2 := whileN_mono q2 n
  rw [Nat.add_comm] at a2
  exact a2.symm.trans a1
/-- one turn -/
theorem sWhile_unf (c : Tv) (b : Sv) (env : Env) (h : Hh) : sWhile c b env h = lift (c env h) env fun x h1 => if x = true then match b env h1 with
      | .nx e2 h2 => sWhile c b e2 h2
      | .ct e2 h2 => sWhile c b e2 h2
      | .bk e2 h2 => .nx e2 h2
      | .rt v h2 => .rt v h2
      | .exc x e2 h2 => .exc x e2 h2
      | .bad => .bad
    else .nx env h1 := by
  cases hc : c env h with
  | ok x h1 =>
    simp only [lift_ok]
    cases x with
    | true =>
      simp only [if_true]
      have go : ∀ e2 h2, (b env h1 = .nx e2 h2 ∨ b env h1 = .ct e2 h2) → sWhile c b env h = sWhile c b e2 h2 := fun e2 h2 hb => by
        have key : ∀ n, whileN c b (n + 1) env h = whileN c b n e2 h2 := fun n => by
          conv => lhs; unfold whileN
          rw [hc]
          simp only [lift_ok, if_true]
          rcases hb with hb | hb <;> rw [hb]
        by_cases q : ∃ n, whileN c b n e2 h2 ≠ .bad
        · obtain ⟨n, q⟩ := q
          rw [sWhile_eq q, sWhile_eq (n := n + 1) (by rw [key]; exact q), key]
        · have q' : ¬ ∃ n, whileN c b n env h ≠ .bad := fun ⟨n, z⟩ => by
            cases n with
            | zero => exact z rfl
            | succ n => rw [key] at z; exact q ⟨n, z⟩
          unfold sWhile
          rw [dif_neg q, dif_neg q']
      have fin : ∀ r, (whileN c b 1 env h = r) → r ≠ .bad → sWhile c b env h = r := fun r e nb => by
        rw [sWhile_eq (n := 1) (by rw [e]; exact nb), e]
      cases hb : b env h1 with
      | nx e2 h2 => exact go e2 h2 (.inl hb)
      | ct e2 h2 => exact go e2 h2 (.inr hb)
      | bk e2 h2 => exact fin _ (by unfold whileN; rw [hc]; simp only [lift_ok, if_true]; rw [hb]) (fun z => nomatch z)
      | rt e2 h2 => exact fin _ (by unfold whileN; rw [hc]; simp only [lift_ok, if_true]; rw [hb]) (fun z => nomatch z)
      | exc x e2 h2 => exact fin _ (by unfold whileN; rw [hc]; simp only [lift_ok, if_true]; rw [hb]) (fun z => nomatch z)
      | bad =>
        have q' : ¬ ∃ n, whileN c b n env h ≠ .bad := fun ⟨n, z⟩ => by
          cases n with
          | zero => exact z rfl
          | succ n => unfold whileN at z; rw [hc] at z; simp only [lift_ok, if_true] at z; rw [hb] at z; exact z rfl
        unfold sWhile
        rw [dif_neg q']
    | false =>
      rw [sWhile_eq (n := 1) (by unfold whileN; rw [hc]; simp)]
      unfold whileN; rw [hc]; simp
  | exc x h1 =>
    rw [sWhile_eq (n := 1) (by unfold whileN; rw [hc]; simp)]
    unfold whileN; rw [hc]; simp
  | bad =>
    have q' : ¬ ∃ n, whileN c b n env h ≠ .bad := fun ⟨n, z⟩ => by
      cases n with
      | zero => exact z rfl
      | succ n => unfold whileN at z; rw [hc] at z; exact z rfl
    unfold sWhile
    rw [dif_neg q']; rfl
section
variable {X : Cx} {W : WX} {tg iter c : Expr} {body : List Stmt} {pos : Pos} {iv : Iev} {gv : Gv} {sv : Sv} {tv : Tv}
theorem gs_for (hp : PassesOwn (model X.prog X.w) X.A X.env X.xe) (hc : X.calm = true) (hi : PI X tg iter (GI X.K X.mg W iv)) (hg : PG X tg (GG X.K X.mg W gv)) (hb : PSs X body (GS X.K X.mg W sv))
    (hs : ∀ x, foldedSetIterable iter X.env x = pure x := by intro _; rfl) : PS X (.For tg iter body [] pos) (GS X.K X.mg W (sFor iv gv sv)) := by
  refine PS.imp (ps_for hp hc hi hg hb hs) fun D σ H ⟨T, μ, env, hs, es, q⟩ => ⟨T, μ, env, hs, es, SPost.lift (μ := μ) es q fun it μ1 T1 H1 J s1 hs1 r1 q1 => ?_⟩
  refine ⟨fun i m σ H => ∃ T μ env, m = it.items.length - i ∧ i ≤ it.items.length ∧ Step T1 H1 T H ∧ HSim X.K T μ H ∧ ESim X.K H T env σ ∧ SPost X.K X.mg W T H D (forL gv sv it.chk (it.items.drop i) env μ),
    ⟨_, T1, μ1, env, rfl, Nat.zero_le _, Step.refl _ _, hs1, es.step s1, by rw [List.drop_zero]; exact q1⟩, ?_⟩
  rintro i m σ2 H2 ⟨T2, μ2, env2, rfl, hi, st2, hs2, es2, q2⟩
  by_cases hlt : i < it.items.length
  · have ed : it.items.drop i = it.items[i] :: it.items.drop (i + 1) := List.drop_eq_getElem_cons hlt
    rw [ed] at q2
    unfold forL at q2
    split at q2
    · rename_i ck
      obtain ⟨go, _⟩ := r1 T2 μ2 H2 st2 hs2 ck
      obtain ⟨g1, g2⟩ := go i it.items[i] (List.getElem?_eq_getElem hlt)
      refine .inr ⟨g1, _, fun σ' H' n => n, fun x H' hy => ?_⟩
      obtain ⟨st3, hs3, r3⟩ := g2 x H' hy
      refine ⟨T2, μ2, env2, it.items[i], hs3, es2.step st3, r3, SPost.lift (μ := μ2) (es2.step st3) (SPost.step q2 st3) fun env4 μ4 T4 H4 σ4 s4 hs4 es4 q4 => ⟨T4, μ4, env4, hs4, es4, ?_⟩⟩
      have st4 : Step T1 H1 T4 H4 := (st2.trans st3).trans s4
      have nxt : ∀ e5 h5, SPost X.K X.mg W T4 H4 D (forL gv sv it.chk (it.items.drop (i + 1)) e5 h5) → ∀ T' H' σ', Step T4 H4 T' H' → HSim X.K T' h5 H' → ESim X.K H' T' e5 σ' → ∃ m', m' < it.items.length - i ∧ ∃ T μ env, m' = it.items.length - (i + 1) ∧ i + 1 ≤ it.items.length ∧ Step T1 H1 T H' ∧ HSim X.K T μ H' ∧ ESim X.K H' T env σ' ∧ SPost X.K X.mg W T H' D (forL gv sv it.chk (it.items.drop (i + 1)) env μ) :=
        fun e5 h5 q5 T' H' σ' s5 hs5 es5 => ⟨_, by omega, T', h5, e5, rfl, hlt, st4.trans s5, hs5, es5, SPost.step q5 s5⟩
      cases hr : sv env4 μ4 with
      | nx e5 h5 => rw [hr] at q4; exact nxt e5 h5 q4
      | ct e5 h5 => rw [hr] at q4; exact nxt e5 h5 q4
      | bk e5 h5 => rw [hr] at q4; exact q4
      | rt e5 h5 => rw [hr] at q4; exact q4
      | exc x e5 h5 => rw [hr] at q4; exact q4
      | bad => rw [hr] at q4; exact q4
    · exact q2.elim
  · have ei : i = it.items.length := by omega
    subst ei
    rw [List.drop_length] at q2
    unfold forL at q2
    split at q2
    · rename_i ck
      exact .inl ⟨(r1 T2 μ2 H2 st2 hs2 ck).2, q2 T2 H2 σ2 (Step.refl _ _) hs2 es2⟩
    · exact q2.elim
theorem gs_while (hp : PassesOwn (model X.prog X.w) X.A X.env X.xe) (hc : PT X c (GT X.K X.mg W tv)) (hb : PSs X body (GS X.K X.mg W sv)) : PS X (.While c body [] pos) (GS X.K X.mg W (sWhile tv sv)) := by
  refine PS.imp (ps_while hp hc hb) fun D σ H ⟨T, μ, env, hs, es, q⟩ => ?_
  refine ⟨fun m σ H => ∃ T μ env, HSim X.K T μ H ∧ ESim X.K H T env σ ∧ SPost X.K X.mg W T H D (whileN tv sv m env μ), ?_, ?_⟩
  · by_cases hq : ∃ n, whileN tv sv n env μ ≠ .bad
    · obtain ⟨n, hn⟩ := hq
      rw [sWhile_eq hn] at q
      exact ⟨n, T, μ, env, hs, es, q⟩
    · unfold sWhile at q
      rw [dif_neg hq] at q
      exact q.elim
  · rintro m σ2 H2 ⟨T2, μ2, env2, hs2, es2, q2⟩
    cases m with
    | zero => exact q2.elim
    | succ m =>
      unfold whileN at q2
      refine ⟨T2, μ2, env2, hs2, es2, SPost.lift (μ := μ2) es2 q2 fun x μ3 T3 H3 b s3 hs3 r3 q3 => ?_⟩
      cases r3
      cases x with
      | true =>
        rw [if_pos rfl] at q3 ⊢
        refine ⟨_, fun σ' H' n => n, T3, μ3, env2, hs3, es2.step s3, ?_⟩
        cases hr : sv env2 μ3 with
        | nx e5 h5 => rw [hr] at q3; exact fun T' H' σ' s5 hs5 es5 => ⟨m, Nat.lt_succ_self m, T', h5, e5, hs5, es5, SPost.step q3 s5⟩
        | ct e5 h5 => rw [hr] at q3; exact fun T' H' σ' s5 hs5 es5 => ⟨m, Nat.lt_succ_self m, T', h5, e5, hs5, es5, SPost.step q3 s5⟩
        | bk e5 h5 => rw [hr] at q3; exact q3
        | rt e5 h5 => rw [hr] at q3; exact q3
        | exc x e5 h5 => rw [hr] at q3; exact q3
        | bad => rw [hr] at q3; exact q3
      | false =>
        rw [if_neg (by decide)] at q3 ⊢
        exact q3 T3 H3 σ2 (Step.refl _ _) hs3 (es2.step s3)
end
end Mp

set_option Elab.async false
set_option linter.all false
set_option maxRecDepth 100000
namespace Mp
open PySem PySem.Spec PyProof.Rows L2
/-! ### comprehensions -/
def wipeE (env : Env) : List Nat → Env
  | [] => env
  | v :: vs => (wipeE env vs).set v none
theorem wipe_at (σ : St) : ∀ (vs : List Nat) (j : Nat), (wipe σ vs)[j]? = if j ∈ vs ∧ j < σ.length then some none else σ[j]?
  | [], j => by simp [wipe]
  | v :: vs, j => by
    unfold wipe
    by_cases h : v = j
    · subst h
      by_cases hl : v < σ.length
      · rw [List.getElem?_set_self (by rw [wipe_length]; exact hl), if_pos ⟨by simp, hl⟩]
      · rw [if_neg (fun q => hl q.2), List.getElem?_eq_none (by simpa [wipe_length] using hl), List.getElem?_eq_none (by simpa using hl)]
    · rw [List.getElem?_set_ne h, wipe_at σ vs j]
      simp [Ne.symm h]
theorem wipe_set {σ : St} {vs : List Nat} {i : Nat} (hi : i ∈ vs) (x : Option V) : wipe (σ.set i x) vs = wipe σ vs := by
  apply List.ext_getElem?
  intro j
  rw [wipe_at, wipe_at, List.length_set]
  split
  · rfl
  · rename_i h
    by_cases e : i = j
    · subst e
      have hl : ¬ i < σ.length := fun q => h ⟨hi, q⟩
      rw [List.getElem?_eq_none (by simpa using hl), List.getElem?_eq_none (by simpa using hl)]
    · rw [List.getElem?_set_ne e]
section
variable {K : PySem.W.Frag} {T T' : Tr} {μ : Hh} {H H' : Hp} {env : Env} {σ : St}
theorem ESim.wipe (es : ESim K H T env σ) : ∀ vs : List Nat, ESim K H T (wipeE env vs) (L2.wipe σ vs)
  | [] => es
  | v :: vs => by
    have ih := ESim.wipe es vs
    unfold wipeE L2.wipe
    refine ⟨by simp [ih.len], fun j w e => ?_⟩
    by_cases h : v = j
    · subst h
      by_cases hl : v < (wipeE env vs).length
      · rw [List.getElem?_set_self hl] at e; cases e
      · rw [List.getElem?_eq_none (by simpa using hl)] at e; cases e
    · rw [List.getElem?_set_ne h] at e
      obtain ⟨x, e', r⟩ := ih.at' j w e
      exact ⟨x, by rw [List.getElem?_set_ne h]; exact e', r⟩
mutual
/-- fewer banned addresses, the same lists -/
theorem RepV.sub (hb : ∀ a, T'.ban a → T.ban a) (hr : ∀ (n : Nat) (a : Addr), T.ρ[n]? = some a → T'.ρ[n]? = some a) : ∀ {v : Val} {x : V}, RepV K H T v x → RepV K H T' v x
  | _, _, .non => .non
  | _, _, .bl b => .bl b
  | _, _, .int b => .int b
  | _, _, .str b => .str b
  | _, _, .ty b => .ty b
  | _, _, .tup (.inl ⟨n, h⟩) r => .tup (.inl ⟨fun q => n (hb _ q), h⟩) (r.sub hb hr)
  | _, _, .tup (.inr h) r => .tup (.inr h) (r.sub hb hr)
  | _, _, .lst n h r => .lst (fun q => n (hb _ q)) h (r.sub hb hr)
  | _, _, .fz (.inl ⟨n, h⟩) r => .fz (.inl ⟨fun q => n (hb _ q), h⟩) (r.sub hb hr)
  | _, _, .fz (.inr h) r => .fz (.inr h) (r.sub hb hr)
  | _, _, .ref h => .ref (hr _ _ h)
theorem RepL.sub (hb : ∀ a, T'.ban a → T.ban a) (hr : ∀ (n : Nat) (a : Addr), T.ρ[n]? = some a → T'.ρ[n]? = some a) : ∀ {vs : List Val} {xs : List V}, RepL K H T vs xs → RepL K H T' vs xs
  | _, _, .nil => .nil
  | _, _, .cons h r => .cons (h.sub hb hr) (r.sub hb hr)
end
/-- the new list of a comprehension is fenced -/
theorem Step.fence {D : Addr} {o : HO} (hD : H D = none) : Step T H ⟨T.ρ, D :: T.β⟩ (upd H D o) :=
  ⟨⟨[], by simp, by simp⟩, ⟨[D], rfl, fun b hb => by rw [show b = D by simpa using hb]; exact hD⟩, (Step.new (T := T) hD).frm, (Step.new (T := T) hD).liv⟩
theorem HSim.fence {D : Addr} {o : HO} (hs : HSim K T μ H) (hD : H D = none) : HSim K ⟨T.ρ, D :: T.β⟩ μ (upd H D o) := by
  have st : Step T H ⟨T.ρ, D :: T.β⟩ (upd H D o) := Step.fence hD
  refine ⟨hs.len, hs.nd, fun n ob e => ?_, hs.old, fun b hb => ?_⟩
  · obtain ⟨a, e', r⟩ := hs.obj n ob e
    exact ⟨a, e', r.step st (upd_ne fun z => r.tracked (by rw [z]; exact hD))⟩
  · rcases List.mem_cons.mp hb with rfl | hb
    · rw [upd_same]; simp
    · exact st.liv b (hs.bt b hb)
/-- .. and let go; D stays a list of the small heap (δ = [D]) or is frozen (δ = []) -/
theorem Step.unfence {T1 : Tr} {H1 : Hp} {D : Addr} {δ : List Addr} (hδ : ∀ b ∈ δ, b = D) (hD : H1 D = none) (st : Step T1 H1 T H) : Step T1 H1 ⟨T.ρ ++ δ, T1.β⟩ H := by
  obtain ⟨δ1, e, f⟩ := st.ext
  refine ⟨⟨δ1 ++ δ, by rw [← List.append_assoc, ← e], fun b hb => ?_⟩, ⟨[], rfl, by simp⟩, st.frm, st.liv⟩
  rcases List.mem_append.mp hb with hb | hb
  · exact f b hb
  · rw [hδ b hb]; exact hD
theorem Step.notin {D : Addr} (st : Step T H T' H') (hD : H D ≠ none) (h : D ∉ T.ρ) : D ∉ T'.ρ := by
  obtain ⟨δ, e, f⟩ := st.ext
  intro q
  rw [e] at q
  rcases List.mem_append.mp q with q | q
  · exact h q
  · exact hD (f D q)
theorem Step.inβ {D : Addr} (st : Step T H T' H') (h : D ∈ T.β) : D ∈ T'.β := by
  obtain ⟨ε, e, _⟩ := st.same
  rw [e]; exact List.mem_append_right _ h
theorem unban_sub {T1 : Tr} {D : Addr} {δ : List Addr} {H1 : Hp} (hδ : ∀ b ∈ δ, b = D) (hb : D ∈ T.β) (st : Step T1 H1 T H) : ∀ a, (Tr.mk (T.ρ ++ δ) T1.β).ban a → T.ban a := fun a q => by
  rcases q with q | q
  · rcases List.mem_append.mp q with q | q
    · exact .inl q
    · refine .inr ?_
      rw [hδ a q]; exact hb
  · exact .inr (st.inβ q)
theorem app_get {l δ : List Addr} (n : Nat) (a : Addr) (h : l[n]? = some a) : (l ++ δ)[n]? = some a := by rw [List.getElem?_append_left (List.getElem?_eq_some_iff.mp h).1]; exact h
theorem HSim.unfence {T1 : Tr} {H1 : Hp} {D : Addr} (hs : HSim K T μ H) (st : Step T1 H1 T H) (hb : D ∈ T.β) (bt : ∀ b ∈ T1.β, H b ≠ none) : HSim K ⟨T.ρ, T1.β⟩ μ H := by
  refine ⟨hs.len, hs.nd, fun n ob e => ?_, hs.old, bt⟩
  obtain ⟨a, e', r⟩ := hs.obj n ob e
  refine ⟨a, e', ?_⟩
  have hb := unban_sub (δ := []) (by simp) hb st
  rw [List.append_nil] at hb
  cases ob with
  | lst vs => obtain ⟨xs, q, r⟩ := r; exact ⟨xs, q, r.sub hb fun _ _ h => h⟩
theorem HSim.unfence' {T1 : Tr} {H1 : Hp} {D : Addr} {acc : List Val} {xs : List V} (hs : HSim K T μ H) (st : Step T1 H1 T H) (hb : D ∈ T.β) (bt : ∀ b ∈ T1.β, H b ≠ none) (hn : D ∉ T.ρ) (eD : H D = some (.lst xs)) (r : RepL K H T acc xs) : HSim K ⟨T.ρ ++ [D], T1.β⟩ (μ ++ [.lst acc]) H := by
  have hb := unban_sub (δ := [D]) (by simp) hb st
  refine ⟨by simp [hs.len], ?_, fun n ob e => ?_, fun n ob e => ?_, bt⟩
  · refine List.nodup_append.mpr ⟨hs.nd, by simp, fun a ha b hb => ?_⟩
    have e : b = D := by simpa using hb
    rw [e]
    exact fun q => hn (q ▸ ha)
  · by_cases hl : n < μ.length
    · rw [List.getElem?_append_left hl] at e
      obtain ⟨a, e', r'⟩ := hs.obj n ob e
      refine ⟨a, app_get n a e', ?_⟩
      cases ob with
      | lst vs => obtain ⟨ys, q, r2⟩ := r'; exact ⟨ys, q, r2.sub hb app_get⟩
    · have hl' : n < (μ ++ [Ob.lst acc]).length := (List.getElem?_eq_some_iff.mp e).1
      have : n = μ.length := by simp at hl'; omega
      subst this
      simp at e
      subst e
      exact ⟨D, by rw [← hs.len]; simp, xs, eD, r.sub hb app_get⟩
  · by_cases hl : n < μ.length
    · rw [List.getElem?_append_left hl] at e
      exact hs.old n ob e
    · have hl' : n < (μ ++ [Ob.lst acc]).length := (List.getElem?_eq_some_iff.mp e).1
      have : n = μ.length := by simp at hl'; omega
      subst this
      simp at e
      subst e
      have z := r.belOf
      rw [hs.len] at z
      exact z
mutual
/-- what does not lean on D is kept where D alone is changed -/
theorem RepV.write {D : Addr} {o : HO} (hb : T.ban D) : ∀ {v : Val} {x : V}, RepV K H T v x → RepV K (upd H D o) T v x
  | _, _, .non => .non
  | _, _, .bl b => .bl b
  | _, _, .int b => .int b
  | _, _, .str b => .str b
  | _, _, .ty b => .ty b
  | _, _, .tup (.inl ⟨n, h⟩) r => .tup (.inl ⟨n, (upd_ne fun q => n (by rw [q]; exact hb)).trans h⟩) (r.write hb)
  | _, _, .tup (.inr h) r => .tup (.inr h) (r.write hb)
  | _, _, .lst n h r => .lst n ((upd_ne fun q => n (by rw [q]; exact hb)).trans h) (r.write hb)
  | _, _, .fz (.inl ⟨n, o, h⟩) r => .fz (.inl ⟨n, o, (upd_ne fun q => n (by rw [q]; exact hb)).trans h⟩) (r.write hb)
  | _, _, .fz (.inr h) r => .fz (.inr h) (r.write hb)
  | _, _, .ref h => .ref h
theorem RepL.write {D : Addr} {o : HO} (hb : T.ban D) : ∀ {vs : List Val} {xs : List V}, RepL K H T vs xs → RepL K (upd H D o) T vs xs
  | _, _, .nil => .nil
  | _, _, .cons h r => .cons (h.write hb) (r.write hb)
end
theorem HSim.write {D : Addr} {o : HO} (hs : HSim K T μ H) (hb : T.ban D) (hn : D ∉ T.ρ) : HSim K T μ (upd H D o) := by
  refine ⟨hs.len, hs.nd, fun n ob e => ?_, hs.old, fun b h => ?_⟩
  · obtain ⟨a, e', r⟩ := hs.obj n ob e
    refine ⟨a, e', ?_⟩
    cases ob with
    | lst vs => obtain ⟨xs, q, r⟩ := r; exact ⟨xs, (upd_ne fun z => hn (by rw [← z]; exact List.mem_of_getElem? e')).trans q, r.write hb⟩
  · by_cases q : b = D
    · rw [q, upd_same]; simp
    · rw [upd_ne q]; exact hs.bt b h
theorem Step.write {T1 : Tr} {H1 : Hp} {D : Addr} {o : HO} (st : Step T1 H1 T H) (hD : H1 D = none) : Step T1 H1 T (upd H D o) :=
  ⟨st.ext, st.same, fun b u h n => by rw [upd_ne (ne_of_none h hD)]; exact st.frm b u h n, fun b h => by
    by_cases q : b = D
    · rw [q, upd_same]; simp
    · rw [upd_ne q]; exact st.liv b h⟩
end
theorem wipe_idem (σ : St) (vs : List Nat) : wipe (wipe σ vs) vs = wipe σ vs := by
  apply List.ext_getElem?
  intro j
  rw [wipe_at (wipe σ vs), wipe_length, wipe_at σ]
  split <;> rfl
/-! targets of a comprehension: its own slots alone are stored -/
abbrev REo (K : PySem.W.Frag) (own : List Nat) (σ0 : St) : Hp → Tr → Env → St → Prop := fun H T e σ => ESim K H T e σ ∧ wipe σ own = wipe σ0 own
def GQo (K : PySem.W.Frag) (own : List Nat) (g : Gv) : TG := fun x σ H Q => ∃ T μ env v, HSim K T μ H ∧ ESim K H T env σ ∧ RepV K H T v x ∧ Post K (REo K own σ) T H (g v env μ) Q EF
def GGo (K : PySem.W.Frag) (own : List Nat) (g : List Val → Env → Hh → R Env) : TGs := fun xs σ H Q => ∃ T μ env vs, HSim K T μ H ∧ ESim K H T env σ ∧ RepL K H T vs xs ∧ Post K (REo K own σ) T H (g vs env μ) Q EF
open Classical in
noncomputable def compL (tg : Gv) (tt : Tv) (el : Ev) (c : List (Nat × List Val)) : List Val → List Val → Env → Hh → R (List Val)
  | [], acc, _, h => if chkOk c h then .ok acc h else .bad
  | v :: r, acc, env, h => if chkOk c h then match tg v env h with
      | .ok env1 h1 => match tt env1 h1 with
        | .ok true h2 => match el env1 h2 with
          | .ok u h3 => if acc.length < sizeLine then compL tg tt el c r (acc ++ [u]) env h3 else .bad
          | _ => .bad
        | .ok false h2 => compL tg tt el c r acc env h2
        | _ => .bad
      | _ => .bad
    else .bad
noncomputable def eComp (m : Bool) (own : List Nat) (it : Iev) (tg : Gv) (tt : Tv) (el : Ev) : Ev := fun env h => (it env h).bnd fun iv h1 => match compL tg tt el iv.chk iv.items [] (wipeE env own) h1 with
  | .ok acc h2 => mk m acc h2
  | _ => .bad
def tTrue : Tv := fun _ h => .ok true h
abbrev W0 : WX := fun _ _ _ _ => False
section
variable {X : Cx} {W : WX} {tg e iter : Expr} {es ifs : List Expr} {pos : Pos} {own : List Nat} {gv : Gv} {gr : List Val → Env → Hh → R Env} {tv : Tv} {ea : Ev} {iv : Iev}
theorem go_name {i : Nat} {x : Str} (hown : i ∈ own) (hN : X.N.Nodup) (hi : X.N[i]? = some x) (hx : Loc X.env.scope x) (hf : X.fn x = true ∨ X.env.scope.names.lookup x = some .local := by first | exact .inl rfl | exact .inr rfl | assumption) : PG X (.Name x pos) (GQo X.K own (gName i)) :=
  PG.imp (pg_name hN hi hx hf) fun v σ H Q ⟨T, μ, env, u, hs, es, r, q⟩ => Post.now q hs ⟨es.set r i, wipe_set hown _⟩
theorem gos_nil : PGs X [] (GGo X.K own gNil) := PGs.imp pgs_nil fun xs σ H Q ⟨T, μ, env, vs, hs, es, r, q⟩ => by
  cases r with
  | nil => exact ⟨rfl, Post.now q hs ⟨es, rfl⟩⟩
  | cons _ _ => exact q.elim
theorem gos_cons (h1 : PG X e (GQo X.K own gv)) (h2 : PGs X es (GGo X.K own gr)) (hs : (assignEach (e :: es) X.env).map (·.2) = assign e X.env :: (assignEach es X.env).map (·.2) := by rfl) : PGs X (e :: es) (GGo X.K own (gCons gv gr)) :=
  PGs.imp (pgs_cons h1 h2 hs) fun xs σ H Q ⟨T, μ, env, vs, hs, es, r, q⟩ => by
    cases r with
    | nil => exact q.elim
    | @cons v x vs xs r1 r2 =>
      refine ⟨x, xs, rfl, T, μ, env, v, hs, es, r1, Post.seq q fun env1 μ1 T1 H1 σ1 s1 hs1 es1 q1 => ⟨T1, μ1, env1, vs, hs1, es1.1, r2.step s1, ?_⟩⟩
      cases hr : gr vs env1 μ1 with
      | ok e2 m => rw [hr] at q1; exact fun T2 H2 σ2 s2 hs2 es2 => q1 T2 H2 σ2 s2 hs2 ⟨es2.1, es2.2.trans es1.2⟩
      | exc x m => rw [hr] at q1; exact q1
      | bad => rw [hr] at q1; exact q1
theorem go_tup {k n : Nat} (hg : GLen gr n) (hx : NXs gr) (hc : X.calm = true) (h : PGs X es (GGo X.K own gr)) (hn : (assignEach es X.env).length = n := by rfl) (hst : (assignEach es X.env).findIdx? (·.1) = none := by rfl) :
    PG X (.Tuple es k pos) (GQo X.K own (gTup gr)) :=
  PG.imp (pg_tup hc h hn hst) fun v σ H Q ⟨T, μ, env, u, hs, es, r, q⟩ => by
    unfold gTup at q
    cases r with
    | @tup a xs vs h r =>
      dsimp only at q
      refine ⟨a, xs, rfl, ?_, ?_, T, μ, env, vs, hs, es, r, q⟩
      · rcases h with ⟨_, h⟩ | h
        · exact SqT.of h
        · exact .inr h
      · rw [r.length]
        cases hq : gr vs env μ with
        | ok e m => exact hg _ _ _ _ _ hq
        | exc y m => exact absurd hq (hx _ _ _ _ _)
        | bad => rw [hq] at q; exact q.elim
    | _ => exact q.elim
theorem gts_nil : PTs X [] (GT X.K X.mg W0 tTrue) := ⟨fun pins s σ H Q I ⟨T, μ, env, hs, es, q⟩ => pts_nil.run pins s σ H Q I (Post.now q hs rfl)⟩
theorem gts_one {c : Expr} (h : PT X c (GT X.K X.mg W0 tv)) : PTs X [c] (GT X.K X.mg W0 tv) := pts_one h
theorem lc_read {m : Bool} {σ : St} {H : Hp} {Q : VK} (h : GE X.K X.mg W (eComp m own iv gv tv ea) σ H Q) : tLc (GI X.K X.mg W iv) (GQo X.K own gv) (GT X.K X.mg W0 tv) (GE X.K X.mg W0 ea) own σ H Q := by
  obtain ⟨T, μ, env, hs, es, q⟩ := h
  refine ⟨T, μ, env, hs, es, Post.seq q fun it μ1 T1 H1 J s1 hs1 r1 q1 D hD => ?_⟩
  have es1 := (es.step s1).wipe own
  have idem := wipe_idem σ own
  generalize wipeE env own = env0 at es1 q1
  generalize wipe σ own = σ0 at es1 idem
  obtain ⟨accF, μF, eF, qF⟩ : ∃ accF μF, compL gv tv ea it.chk it.items [] env0 μ1 = .ok accF μF ∧ Post X.K (RV X.K) T1 H1 (mk m accF μF) Q (EX X.K X.mg W σ) := by
    cases hr : compL gv tv ea it.chk it.items [] env0 μ1 with
    | ok a b => rw [hr] at q1; exact ⟨a, b, rfl, q1⟩
    | exc x b => rw [hr] at q1; exact q1.elim
    | bad => rw [hr] at q1; exact q1.elim
  have st0 : Step T1 H1 ⟨T1.ρ, D :: T1.β⟩ (upd H1 D (.lst [])) := Step.fence hD
  refine ⟨fun i n H => ∃ T μ acc xs, n = it.items.length - i ∧ i ≤ it.items.length ∧ Step T1 H1 T H ∧ D ∈ T.β ∧ D ∉ T.ρ ∧ HSim X.K T μ H ∧ H D = some (.lst xs) ∧ RepL X.K H T acc xs ∧
    compL gv tv ea it.chk (it.items.drop i) acc env0 μ = .ok accF μF, ⟨_, ⟨T1.ρ, D :: T1.β⟩, μ1, [], [], rfl, Nat.zero_le _, st0, List.mem_cons_self, hs1.notmem hD, hs1.fence hD, upd_same, .nil, by rw [List.drop_zero]; exact eF⟩, ?_⟩
  rintro i n H2 ⟨T2, μ2, acc, xs, rfl, hi, st12, bD, nD, hs2, eD, rl, e2⟩
  have es2 := es1.step st12
  by_cases hlt : i < it.items.length
  · have ed : it.items.drop i = it.items[i] :: it.items.drop (i + 1) := List.drop_eq_getElem_cons hlt
    rw [ed] at e2
    unfold compL at e2
    split at e2
    · rename_i ck
      obtain ⟨go, _⟩ := r1 T2 μ2 H2 st12 hs2 ck
      obtain ⟨g1, g2⟩ := go i it.items[i] (List.getElem?_eq_getElem hlt)
      refine .inr ⟨g1, _, fun H' n => n, fun x H' hy => ?_⟩
      obtain ⟨st3, hs3, r3⟩ := g2 x H' hy
      refine ⟨T2, μ2, env0, it.items[i], hs3, es2.step st3, r3, ?_⟩
      cases hg : gv it.items[i] env0 μ2 with
      | exc x b => rw [hg] at e2; cases e2
      | bad => rw [hg] at e2; cases e2
      | ok env4 μ4 =>
        rw [hg] at e2
        intro T4 H4 σ4 st4 hs4 es4
        refine ⟨es4.2.trans idem, T4, μ4, env4, hs4, es4.1, ?_⟩
        dsimp only at e2
        cases ht : tv env4 μ4 with
        | exc x b => rw [ht] at e2; cases e2
        | bad => rw [ht] at e2; cases e2
        | ok b μ5 =>
          rw [ht] at e2
          intro T5 H5 b' st5 hs5 eb
          cases eb
          have st25 : Step T2 H2 T5 H5 := (st3.trans st4).trans st5
          have eD5 : H5 D = some (.lst xs) := st25.frm D _ eD nD
          cases b with
          | false =>
            rw [if_neg (by decide)]
            exact ⟨_, by omega, T5, μ5, acc, xs, rfl, hlt, st12.trans st25, st25.inβ bD, st25.notin (by rw [eD]; simp) nD, hs5, eD5, rl.step st25, e2⟩
          | true =>
            rw [if_pos rfl]
            refine ⟨T5, μ5, env4, hs5, es4.1.step st5, ?_⟩
            dsimp only at e2
            cases he : ea env4 μ5 with
            | exc x b => rw [he] at e2; cases e2
            | bad => rw [he] at e2; cases e2
            | ok u μ6 =>
              rw [he] at e2
              intro T6 H6 y st6 hs6 r6
              dsimp only at e2
              split at e2
              · rename_i hl
                have st26 : Step T2 H2 T6 H6 := st25.trans st6
                have eD6 : H6 D = some (.lst xs) := st26.frm D _ eD nD
                have rl6 := rl.step st26
                have bD6 := st26.inβ bD
                have nD6 := st26.notin (by rw [eD]; simp) nD
                exact ⟨xs, eD6, by rw [rl.length]; exact hl, _, by omega, T6, μ6, acc ++ [u], xs ++ [y], rfl, hlt, (st12.trans st26).write hD, bD6, nD6, hs6.write (.inr bD6) nD6, upd_same, (rl6.append (.cons r6 .nil)).write (.inr bD6), e2⟩
              · cases e2
    · cases e2
  · have ei : i = it.items.length := by omega
    subst ei
    rw [List.drop_length] at e2
    unfold compL at e2
    split at e2
    · rename_i ck
      cases e2
      refine .inl ⟨(r1 T2 _ H2 st12 hs2 ck).2, ?_⟩
      have bt : ∀ b ∈ T1.β, H2 b ≠ none := fun b hb => st12.liv b (hs1.bt b hb)
      unfold mk at qF
      cases m with
      | true =>
        rw [if_pos rfl] at qF
        exact qF ⟨T2.ρ ++ [D], T1.β⟩ H2 _ (Step.unfence (by simp) hD st12) (hs2.unfence' st12 bD bt nD eD rl) (.ref (by rw [← hs2.len]; simp))
      | false =>
        rw [if_neg (by decide)] at qF
        have hb := unban_sub (δ := []) (by simp) bD st12
        have st := Step.unfence (δ := []) (by simp) hD st12
        rw [List.append_nil] at hb st
        refine qF ⟨T2.ρ, T1.β⟩ H2 _ st (hs2.unfence st12 bD bt) (.lst ?_ eD (rl.sub hb fun _ _ h => h))
        rintro (z | z)
        · exact nD z
        · exact hs1.bt D z hD
    · cases e2
/-- [elt for tg in iter if ..] -/
theorem ge_lc {m : Bool} {elt : Expr} {scope : Scope} {own : List (Str × Nat)} (hc : X.calm = true) (hN : X.N.Nodup) (hi : PI X tg iter (GI X.K X.mg W iv)) (ok : BlkOk X.N X.env.scope scope own)
    (hg : ∀ (s : Shared) (H : Hp) (C : Addr) (cl : List (Str × Addr)) (fp : List Addr), PG (X.blk s H scope (compEnvC scope cl C X.env) fp) tg (GQo X.K (own.map (·.2)) gv)) (ht : ∀ (s : Shared) (H : Hp) (C : Addr) (cl : List (Str × Addr)) (fp : List Addr), PTs (X.blk s H scope (compEnvC scope cl C X.env) fp) ifs (GT X.K X.mg W0 tv))
    (he : ∀ (s : Shared) (H : Hp) (C : Addr) (cl : List (Str × Addr)) (fp : List Addr), PE (X.blk s H scope (compEnvC scope cl C X.env) fp) elt (GE X.K X.mg W0 ea)) (hs : ∀ x, foldedSetIterable iter X.env x = pure x := by intro _; rfl) :
    PE X (.ListComp elt [⟨tg, iter, ifs, 0⟩] scope pos) (GE X.K X.mg W (eComp m (own.map (·.2)) iv gv tv ea)) :=
  PE.imp (pe_lc hc hN hi ok hg ht he hs) fun σ H Q q => lc_read q
/-- name = [..] -/
theorem gs_setLc {m : Bool} {i : Nat} {y : Str} {py : Pos} {elt : Expr} {scope : Scope} {own : List (Str × Nat)} {spos : Pos} (hc : X.calm = true) (hN : X.N.Nodup) (hy : X.N[i]? = some y) (hyl : X.env.scope.names.lookup y = some .local)
    (hsw : swapsWith (.ListComp elt [⟨tg, iter, ifs, 0⟩] scope pos) (some (.Name y py)) spos.line X.env = pure true) (hi : PI X tg iter (GI X.K X.mg W iv)) (ok : BlkOk X.N X.env.scope scope own)
    (hg : ∀ (s : Shared) (H : Hp) (C : Addr) (cl : List (Str × Addr)) (fp : List Addr), PG (X.blk s H scope (compEnvC scope cl C X.env) fp) tg (GQo X.K (own.map (·.2)) gv)) (ht : ∀ (s : Shared) (H : Hp) (C : Addr) (cl : List (Str × Addr)) (fp : List Addr), PTs (X.blk s H scope (compEnvC scope cl C X.env) fp) ifs (GT X.K X.mg W0 tv))
    (he : ∀ (s : Shared) (H : Hp) (C : Addr) (cl : List (Str × Addr)) (fp : List Addr), PE (X.blk s H scope (compEnvC scope cl C X.env) fp) elt (GE X.K X.mg W0 ea)) (hs : ∀ x, foldedSetIterable iter X.env x = pure x := by intro _; rfl) :
    PS X (.Assign [.Name y py] (.ListComp elt [⟨tg, iter, ifs, 0⟩] scope pos) spos) (GS X.K X.mg W (sSet i (eComp m (own.map (·.2)) iv gv tv ea))) :=
  PS.imp (ps_setLc hc hN hy hyl hsw hi ok hg ht he hs) fun D σ H ⟨T, μ, env, hs, es, q⟩ => lc_read (m := m) (W := W) ⟨T, μ, env, hs, es, SPost.lift (μ := μ) es q fun v μ1 T1 H1 x s1 hs1 r1 q1 => q1 T1 H1 _ (Step.refl _ _) hs1 ((es.step s1).set r1 i)⟩
end
end Mp

set_option Elab.async false
set_option linter.all false
set_option maxRecDepth 100000
namespace Mp
open PySem PySem.Spec PyProof.Rows L2
/-! ### the end of a def: what it made is frozen, the small heap is as long as ahead -/
/-- lists of the small heap from n on, frozen -/
def Val.frz (h : Hh) (n : Nat) : Nat → Val → Option Val
  | 0, _ => none
  | d + 1, v => if v.bel n = true then some v else match v with
    | .ref k => match h[k]? with
      | some (.lst l) => (l.mapM (Val.frz h n d)).map .lst
      | none => none
    | .tup l => (l.mapM (Val.frz h n d)).map .tup
    | .lst l => (l.mapM (Val.frz h n d)).map .lst
    | _ => none
def finV (h0 : Hh) (v : Val) (h : Hh) : R Val := match v.frz h h0.length 8 with
  | some u => .ok u (h.take h0.length)
  | none => .bad
def finX (h0 : Hh) (x : Ex) (h : Hh) : R Val := if x.fs.all (fun p => p.2.bel h0.length) = true then .exc x (h.take h0.length) else .bad
def runFn (N : Nat) (b : Sv) (args : List Val) (h : Hh) : R Val := match b (args.map some ++ List.replicate (N - args.length) none) h with
  | .nx _ h1 => finV h .non h1
  | .rt v h1 => finV h v h1
  | .exc x _ h1 => finX h x h1
  | _ => .bad
/-- a def that hands back a list that may change -/
def finM (h0 : Hh) (v : Val) (h : Hh) : R Val := match v with
  | .ref k => if h0.length ≤ k then match h[k]? with
      | some (.lst l) => if belL h0.length l = true then .ok (.ref h0.length) (h.take h0.length ++ [.lst l]) else .bad
      | none => .bad
    else .bad
  | _ => .bad
def runFnM (N : Nat) (b : Sv) (args : List Val) (h : Hh) : R Val := match b (args.map some ++ List.replicate (N - args.length) none) h with
  | .rt v h1 => finM h v h1
  | .exc x _ h1 => finX h x h1
  | _ => .bad
section
variable {K : PySem.W.Frag} {mg : Str → Option Value} {T T' : Tr} {μ μ' : Hh} {H H' : Hp}
mutual
/-- values that lean on the first n lists alone -/
theorem RepV.keep {n : Nat} (hb : ∀ a, T.ban a → T'.ban a) (hr : ∀ k a, k < n → T'.ρ[k]? = some a → T.ρ[k]? = some a) : ∀ {v : Val} {x : V}, RepV K H T' v x → v.bel n = true → RepV K H T v x
  | _, _, .non, _ => .non
  | _, _, .bl b, _ => .bl b
  | _, _, .int b, _ => .int b
  | _, _, .str b, _ => .str b
  | _, _, .ty b, _ => .ty b
  | _, _, .tup (.inl ⟨m, h⟩) r, e => .tup (.inl ⟨fun q => m (hb _ q), h⟩) (r.keep hb hr (by unfold Val.bel at e; exact e))
  | _, _, .tup (.inr h) r, e => .tup (.inr h) (r.keep hb hr (by unfold Val.bel at e; exact e))
  | _, _, .lst m h r, e => .lst (fun q => m (hb _ q)) h (r.keep hb hr (by unfold Val.bel at e; exact e))
  | _, _, .fz (.inl ⟨m, h⟩) r, e => .fz (.inl ⟨fun q => m (hb _ q), h⟩) (r.keep hb hr (by unfold Val.bel at e; exact e))
  | _, _, .fz (.inr h) r, e => .fz (.inr h) (r.keep hb hr (by unfold Val.bel at e; exact e))
  | _, _, .ref h, e => .ref (hr _ _ (by unfold Val.bel at e; exact of_decide_eq_true e) h)
theorem RepL.keep {n : Nat} (hb : ∀ a, T.ban a → T'.ban a) (hr : ∀ k a, k < n → T'.ρ[k]? = some a → T.ρ[k]? = some a) : ∀ {vs : List Val} {xs : List V}, RepL K H T' vs xs → belL n vs = true → RepL K H T vs xs
  | _, _, .nil, _ => .nil
  | _, _, .cons h r, e => by
    unfold belL at e
    rw [Bool.and_eq_true] at e
    exact .cons (h.keep hb hr e.1) (r.keep hb hr e.2)
end
/-- the relation ahead of the def's own lists -/
structure Back (T T' : Tr) (n : Nat) : Prop where
  ban : ∀ a, T.ban a → T'.ban a
  low : ∀ k a, k < n → T'.ρ[k]? = some a → T.ρ[k]? = some a
  high : ∀ k a, n ≤ k → T'.ρ[k]? = some a → ¬ T.ban a
theorem Step.back {n : Nat} (s : Step T H T' H') (hn : T.ρ.length = n) (hs : HSim K T μ H) : Back T T' n := by
  obtain ⟨δ, e, f⟩ := s.ext
  refine ⟨fun a q => q.elim (fun z => .inl (by rw [e]; exact List.mem_append_left _ z)) fun z => .inr (s.inβ z), fun k a hk h => ?_, fun k a hk h q => ?_⟩
  · rw [e, List.getElem?_append_left (by omega)] at h; exact h
  · rw [e, List.getElem?_append_right (by omega)] at h
    have hm := List.mem_of_getElem? h
    rcases q with q | q
    · exact hs.tracked q (f a hm)
    · exact hs.bt a q (f a hm)
theorem mapM_rep {f : Val → Option Val} (hf : ∀ v u x, f v = some u → RepV K H' T' v x → RepV K H' T u x) : ∀ {l us : List Val} {xs : List V}, l.mapM f = some us → RepL K H' T' l xs → RepL K H' T us xs
  | [], us, _, e, r => by
    cases r
    simp at e
    subst e; exact .nil
  | v :: l, us, _, e, r => by
    cases r with
    | cons h r =>
      rw [List.mapM_cons] at e
      cases hv : f v with
      | none => rw [hv] at e; cases e
      | some u =>
        rw [hv] at e
        cases hl : l.mapM f with
        | none => rw [hl] at e; cases e
        | some ws =>
          rw [hl] at e
          cases e
          exact .cons (hf v u _ hv h) (mapM_rep hf hl r)
theorem frz_rep {n : Nat} (B : Back T T' n) (hs' : HSim K T' μ' H') : ∀ (d : Nat) (v u : Val) (x : V), v.frz μ' n d = some u → RepV K H' T' v x → RepV K H' T u x
  | 0, _, _, _, e, _ => by unfold Val.frz at e; cases e
  | d + 1, v, u, x, e, r => by
    unfold Val.frz at e
    split at e
    · rename_i hb
      cases e
      exact r.keep B.ban B.low hb
    · rename_i hnb
      cases r with
      | @ref k a h =>
        dsimp only at e
        split at e
        · rename_i l el
          obtain ⟨us, e1, e2⟩ := Option.map_eq_some_iff.mp e
          subst e2
          obtain ⟨a', xs, ea, _, q, rl⟩ := hs'.get el (.ref h)
          cases ea
          have hk : n ≤ k := by
            by_cases z : k < n
            · exact absurd (by unfold Val.bel; exact decide_eq_true z) hnb
            · omega
          exact .lst (B.high k a hk h) q (mapM_rep (fun v u x => frz_rep B hs' d v u x) e1 rl)
        · cases e
      | @tup a xs vs h rl =>
        dsimp only at e
        obtain ⟨us, e1, e2⟩ := Option.map_eq_some_iff.mp e
        subst e2
        refine .tup ?_ (mapM_rep (fun v u x => frz_rep B hs' d v u x) e1 rl)
        rcases h with ⟨m, h⟩ | h
        · exact .inl ⟨fun q => m (B.ban _ q), h⟩
        · exact .inr h
      | @lst a xs vs m h rl =>
        dsimp only at e
        obtain ⟨us, e1, e2⟩ := Option.map_eq_some_iff.mp e
        subst e2
        exact .lst (fun q => m (B.ban _ q)) h (mapM_rep (fun v u x => frz_rep B hs' d v u x) e1 rl)
      | _ => cases e
theorem ORep.back {n : Nat} (B : Back T T' n) {o : Ob} {a : Addr} (h : ORep K H' T' o a) (hb : o.bel n = true) : ORep K H' T o a := by
  cases o with
  | lst vs => obtain ⟨xs, q, r⟩ := h; exact ⟨xs, q, r.keep B.ban B.low hb⟩
mutual
theorem bel_mono {n m : Nat} (h : n ≤ m) : ∀ v : Val, v.bel n = true → v.bel m = true
  | .non, _ => rfl
  | .bl _, _ => rfl
  | .int _, _ => rfl
  | .str _, _ => rfl
  | .ty _, _ => rfl
  | .tup l, e => by unfold Val.bel at e ⊢; exact belL_mono h l e
  | .lst l, e => by unfold Val.bel at e ⊢; exact belL_mono h l e
  | .fz l, e => by unfold Val.bel at e ⊢; exact belL_mono h l e
  | .ref k, e => by unfold Val.bel at e ⊢; exact decide_eq_true (Nat.lt_of_lt_of_le (of_decide_eq_true e) h)
theorem belL_mono {n m : Nat} (h : n ≤ m) : ∀ l : List Val, belL n l = true → belL m l = true
  | [], _ => rfl
  | v :: l, e => by
    unfold belL at e ⊢
    rw [Bool.and_eq_true] at e ⊢
    exact ⟨bel_mono h v e.1, belL_mono h l e.2⟩
end
theorem obel_mono {n m : Nat} (h : n ≤ m) {o : Ob} (e : o.bel n = true) : o.bel m = true := by
  cases o with
  | lst l => exact belL_get.mpr fun v hv => bel_mono h v (belL_get.mp e v hv)
/-- back ahead of the def -/
theorem HSim.back (hs : HSim K T μ H) (s : Step T H T' H') (hs' : HSim K T' μ' H') : HSim K T (μ'.take μ.length) H' ∧ Step T H T H' := by
  have B := s.back hs.len hs
  obtain ⟨δ, e, f⟩ := s.ext
  have hl : μ.length ≤ μ'.length := by rw [← hs'.len, e, List.length_append, hs.len]; omega
  refine ⟨⟨?_, hs.nd, fun n ob eo => ?_, fun n ob eo => ?_, fun b hb => s.liv b (hs.bt b hb)⟩, ⟨⟨[], by simp, by simp⟩, ⟨[], rfl, by simp⟩, s.frm, s.liv⟩⟩
  · rw [List.length_take, hs.len]; omega
  · have hn : n < μ.length := by
      have := (List.getElem?_eq_some_iff.mp eo).1
      rw [List.length_take] at this; omega
    rw [List.getElem?_take_of_lt hn] at eo
    obtain ⟨a, ea, r⟩ := hs'.obj n ob eo
    exact ⟨a, B.low n a hn ea, r.back B (obel_mono (Nat.le_of_lt hn) (hs'.old n ob eo))⟩
  · have hn : n < μ.length := by
      have := (List.getElem?_eq_some_iff.mp eo).1
      rw [List.length_take] at this; omega
    rw [List.getElem?_take_of_lt hn] at eo
    exact hs'.old n ob eo
/-- .. with one list that the def made kept -/
theorem HSim.backM {k : Nat} {a : Addr} {us : List Val} {xs : List V} (hs : HSim K T μ H) (s : Step T H T' H') (hs' : HSim K T' μ' H') (hk : μ.length ≤ k) (ha : T'.ρ[k]? = some a) (eH : H' a = some (.lst xs)) (r : RepL K H' T' us xs) (hb : belL μ.length us = true) :
    HSim K ⟨T.ρ ++ [a], T.β⟩ (μ'.take μ.length ++ [.lst us]) H' ∧ Step T H ⟨T.ρ ++ [a], T.β⟩ H' := by
  obtain ⟨h1, s1⟩ := hs.back s hs'
  have B := s.back hs.len hs
  obtain ⟨δ, e, f⟩ := s.ext
  have hl : μ.length ≤ μ'.length := by rw [← hs'.len, e, List.length_append, hs.len]; omega
  have hlen : (μ'.take μ.length).length = μ.length := by rw [List.length_take]; omega
  have fr : H a = none := by
    rw [e, List.getElem?_append_right (by rw [hs.len]; exact hk)] at ha
    exact f a (List.mem_of_getElem? ha)
  have nb : ¬ T.ban a := fun q => q.elim (fun z => hs.tracked z fr) fun z => hs.bt a z fr
  have b2 : ∀ c, (Tr.mk (T.ρ ++ [a]) T.β).ban c → T'.ban c := fun c q => q.elim (fun z => (List.mem_append.mp z).elim (fun z => B.ban c (.inl z)) fun z => .inl (by rw [show c = a by simpa using z]; exact List.mem_of_getElem? ha)) fun z => B.ban c (.inr z)
  have l2 : ∀ (j : Nat) (c : Addr), j < μ.length → T'.ρ[j]? = some c → (T.ρ ++ [a])[j]? = some c := fun j c hj h => app_get j c (B.low j c hj h)
  have ab : ∀ (n : Nat) (ob : Ob), (μ'.take μ.length ++ [Ob.lst us])[n]? = some ob → (n < μ.length ∧ μ'[n]? = some ob) ∨ (n = μ.length ∧ ob = .lst us) := fun n ob eo => by
    by_cases hn : n < μ.length
    · rw [List.getElem?_append_left (by rw [hlen]; exact hn), List.getElem?_take_of_lt hn] at eo
      exact .inl ⟨hn, eo⟩
    · have hm : n = μ.length := by
        have := (List.getElem?_eq_some_iff.mp eo).1
        rw [List.length_append, hlen] at this
        simp at this; omega
      rw [hm, List.getElem?_append_right (by rw [hlen]; exact Nat.le_refl _), hlen, Nat.sub_self] at eo
      exact .inr ⟨hm, (Option.some.inj eo).symm⟩
  refine ⟨⟨by rw [List.length_append, List.length_append, hlen, hs.len]; rfl, ?_, fun n ob eo => ?_, fun n ob eo => ?_, h1.bt⟩, ⟨⟨[a], rfl, fun b hb => by rw [show b = a by simpa using hb]; exact fr⟩, ⟨[], rfl, by simp⟩, s1.frm, s1.liv⟩⟩
  · refine List.nodup_append.mpr ⟨hs.nd, by simp, fun b hb c hc => ?_⟩
    rw [show c = a by simpa using hc]
    exact fun q => nb (.inl (q ▸ hb))
  · rcases ab n ob eo with ⟨hn, e1⟩ | ⟨rfl, rfl⟩
    · obtain ⟨b, eb, r'⟩ := hs'.obj n ob e1
      refine ⟨b, l2 n b hn eb, ?_⟩
      have hbl := obel_mono (Nat.le_of_lt hn) (hs'.old n ob e1)
      cases ob with
      | lst vs => obtain ⟨ys, q, r2⟩ := r'; exact ⟨ys, q, r2.keep b2 l2 hbl⟩
    · exact ⟨a, by rw [← hs.len]; simp, xs, eH, r.keep b2 l2 hb⟩
  · rcases ab n ob eo with ⟨hn, e1⟩ | ⟨rfl, rfl⟩
    · exact hs'.old n ob e1
    · exact hb
end
/-! ### what a def promises -/
/-- called with as many values: what its plain function says -/
def spG (K : PySem.W.Frag) (mg : Str → Option Value) (n : Nat) (g : List Val → Hh → R Val) : Sp := fun vs H Q E => ∃ T μ args, HSim K T μ H ∧ RepL K H T args vs ∧ args.length = n ∧ Post K (RV K) T H (g args μ) Q (fun e T' H' => ∀ cls d, XRep K mg H' T' e cls d → E cls d H')
structure FnG (P : Program) (w : World) (K : PySem.W.Frag) (mg : Str → Option Value) (base : Heap) (k : Nat) (x : Str) (ps : List Str) (n : Nat) (g : List Val → Hh → R Val) : Prop where
  ex : ∃ f fd, mg x = some (.ref f) ∧ PySem.W.keepIn K (.ref f) = true ∧ Binds K fd ps [] ∧ FnOk P w K mg base (L2.CX P w) k f fd ps (spG K mg n g) ∧ ∃ oc od osl, K.lookup f = some ⟨oc, od, .func fd, osl⟩
theorem FnG.mono {P : Program} {w : World} {K : PySem.W.Frag} {mg : Str → Option Value} {base : Heap} {j k : Nat} {x : Str} {ps : List Str} {n : Nat} {g : List Val → Hh → R Val} (F : FnG P w K mg base j x ps n g) (h : j ≤ k) : FnG P w K mg base k x ps n g :=
  let ⟨f, fd, a, b, c, d, e⟩ := F.ex; ⟨f, fd, a, b, c, d.mono h, e⟩
/-- the facts of a def of the text behind the top -/
structure DefG (K : PySem.W.Frag) (mg : Str → Option Value) (x : Str) (st : Stmt) (ps : List Str) : Prop where
  ex : ∃ f fd, mg x = some (.ref f) ∧ Fun K x x st f fd ∧ Binds K fd ps []
def eFn (g : List Val → Hh → R Val) (a : Av) : Ev := fun env h => (a env h).bnd fun xs h1 => g xs h1
theorem start_sim {K : PySem.W.Frag} {T : Tr} {H : Hp} {N : List Str} {args : List Val} {vs : List V} (r : RepL K H T args vs) (hl : args.length ≤ N.length) : ESim K H T (args.map some ++ List.replicate (N.length - args.length) none) (L2.start N vs) := by
  refine ⟨by simp [L2.start, r.length], fun i v e => ?_⟩
  by_cases hi : i < args.length
  · rw [List.getElem?_append_left (by simpa using hi), List.getElem?_map] at e
    cases hq : args[i]? with
    | none => rw [hq] at e; cases e
    | some u =>
      rw [hq] at e
      cases e
      obtain ⟨x, ex, rx⟩ := r.get hq
      exact ⟨x, by unfold L2.start; rw [List.getElem?_append_left (by simp [r.length]; exact hi), List.getElem?_map, ex]; rfl, rx⟩
  · rw [List.getElem?_append_right (by simpa using hi), List.getElem?_replicate] at e
    split at e <;> cases e
section
variable {P : Program} {w : World} {K : PySem.W.Frag} {mg : Str → Option Value} {base : Heap}
theorem fn_post {T : Tr} {μ : Hh} {H : Hp} {sv : Sv} {N : Nat} {args : List Val} {Q : VK} {E : XK} (hs : HSim K T μ H) (q : Post K (RV K) T H (runFn N sv args μ) Q (fun e T' H' => ∀ cls d, XRep K mg H' T' e cls d → E cls d H')) :
    SPost K mg (fun cls d _ H => E cls d H) T H { nx := fun _ H' => Q .non H', rt := Q } (sv (args.map some ++ List.replicate (N - args.length) none) μ) := by
  unfold runFn at q
  have val : ∀ v h1, Post K (RV K) T H (finV μ v h1) Q (fun e T' H' => ∀ cls d, XRep K mg H' T' e cls d → E cls d H') → ∀ T' H' x, Step T H T' H' → HSim K T' h1 H' → RepV K H' T' v x → Q x H' := fun v h1 q T' H' x st hs' r => by
    unfold finV at q
    split at q
    · rename_i u eu
      obtain ⟨a, b⟩ := hs.back st hs'
      exact q T H' x b a (frz_rep (st.back hs.len hs) hs' 8 v u x eu r)
    · exact q.elim
  cases hr : sv (args.map some ++ List.replicate (N - args.length) none) μ with
  | nx e h1 =>
    rw [hr] at q
    exact fun T' H' σ' st hs' _ => val .non h1 q T' H' .non st hs' .non
  | rt v h1 =>
    rw [hr] at q
    exact fun T' H' x st hs' r => val v h1 q T' H' x st hs' r
  | exc x e h1 =>
    rw [hr] at q
    dsimp only at q
    intro T' H' σ' cls d st hs' _ xr
    unfold finX at q
    split at q
    · rename_i hf
      obtain ⟨a, b⟩ := hs.back st hs'
      have B := st.back hs.len hs
      refine q T H' b a cls d ⟨xr.1, fun f v hm => ?_⟩
      obtain ⟨dx, fs, y, e1, n1, e2, e3, r⟩ := xr.2 f v hm
      exact ⟨dx, fs, y, e1, fun z => n1 (B.ban _ z), e2, e3, r.keep B.ban B.low (List.all_eq_true.mp hf _ hm)⟩
    · exact q.elim
  | bk e h1 => rw [hr] at q; exact q.elim
  | ct e h1 => rw [hr] at q; exact q.elim
  | bad => rw [hr] at q; exact q.elim
theorem fn_postM {T : Tr} {μ : Hh} {H : Hp} {sv : Sv} {N : Nat} {args : List Val} {Q : VK} {E : XK} (hs : HSim K T μ H) (q : Post K (RV K) T H (runFnM N sv args μ) Q (fun e T' H' => ∀ cls d, XRep K mg H' T' e cls d → E cls d H')) :
    SPost K mg (fun cls d _ H => E cls d H) T H { nx := fun _ H' => Q .non H', rt := Q } (sv (args.map some ++ List.replicate (N - args.length) none) μ) := by
  unfold runFnM at q
  cases hr : sv (args.map some ++ List.replicate (N - args.length) none) μ with
  | rt v h1 =>
    rw [hr] at q
    dsimp only at q
    intro T' H' x st hs' r
    unfold finM at q
    split at q
    · rename_i k
      split at q
      · rename_i hk
        split at q
        · rename_i l el
          split at q
          · rename_i hb
            obtain ⟨a, xs, rfl, ha, eH, rl⟩ := hs'.get el r
            obtain ⟨m1, m2⟩ := hs.backM st hs' hk ha eH rl hb
            exact q _ H' _ m2 m1 (.ref (by rw [← hs.len]; simp))
          · exact q.elim
        · exact q.elim
      · exact q.elim
    · exact q.elim
  | exc x e h1 =>
    rw [hr] at q
    dsimp only at q
    intro T' H' σ' cls d st hs' _ xr
    unfold finX at q
    split at q
    · rename_i hf
      obtain ⟨a, b⟩ := hs.back st hs'
      have B := st.back hs.len hs
      refine q T H' b a cls d ⟨xr.1, fun f v hm => ?_⟩
      obtain ⟨dx, fs, y, e1, n1, e2, e3, r⟩ := xr.2 f v hm
      exact ⟨dx, fs, y, e1, fun z => n1 (B.ban _ z), e2, e3, r.keep B.ban B.low (List.all_eq_true.mp hf _ hm)⟩
    · exact q.elim
  | nx e h1 => rw [hr] at q; exact q.elim
  | bk e h1 => rw [hr] at q; exact q.elim
  | ct e h1 => rw [hr] at q; exact q.elim
  | bad => rw [hr] at q; exact q.elim
/-- THE RULE for a def -/
theorem fn_g {x : Str} {st : Stmt} {N ps : List Str} {k n : Nat} {sv : Sv} (D : DefG K mg x st ps) (S : FnScope N ps (defScope st)) (hn : ps.length = n)
    (hbody : ∀ (f : Addr) (cdv : Value) (A : Around) (outer : List PySem.Env) (s : Shared) (H : Hp) (E : XK), Room k (A.deeper (envOfC x (defScope st) s.heap.objs.size f cdv)) →
      Takes (cxOf (L2.CX P w) P w K mg base N x (defScope st) f cdv A outer s H E) (fun cls d _ H => E cls d H) → PassesOwn (model P w) (A.deeper (envOfC x (defScope st) s.heap.objs.size f cdv)) (envOfC x (defScope st) s.heap.objs.size f cdv) (cxOf (L2.CX P w) P w K mg base N x (defScope st) f cdv A outer s H E).xe →
      PSs (cxOf (L2.CX P w) P w K mg base N x (defScope st) f cdv A outer s H E) (defBody st) (GS K mg (fun cls d _ H => E cls d H) sv)) : FnG P w K mg base (k + 1) x ps n (runFn N.length sv) := by
  obtain ⟨f, fd, hm, F, hb⟩ := D.ex
  have hpl : ps.length ≤ N.length := by have := congrArg List.length S.pre; rw [List.length_take] at this; omega
  obtain ⟨oc, od, kV, doc, pm, an, cdv2, ct, osl, efd, lk, hcd⟩ := F.ex
  refine ⟨f, fd, hm, F.kp, hb, F.okX S (fun vs H Q E ⟨T, μ, args, _, r, hl, _⟩ => by rw [r.length, hl, hn]) fun cdv A outer s H vs Q E hr ⟨T, μ, args, hs, r, hl, q⟩ => ⟨_, hbody f cdv A outer s H E hr (takes_of rfl rfl rfl rfl) (passes_of rfl), T, μ, _, hs, start_sim r (by rw [hl, ← hn]; exact hpl), fn_post hs q⟩, oc, od, osl, lk⟩
theorem fn_gM {x : Str} {st : Stmt} {N ps : List Str} {k n : Nat} {sv : Sv} (D : DefG K mg x st ps) (S : FnScope N ps (defScope st)) (hn : ps.length = n)
    (hbody : ∀ (f : Addr) (cdv : Value) (A : Around) (outer : List PySem.Env) (s : Shared) (H : Hp) (E : XK), Room k (A.deeper (envOfC x (defScope st) s.heap.objs.size f cdv)) →
      Takes (cxOf (L2.CX P w) P w K mg base N x (defScope st) f cdv A outer s H E) (fun cls d _ H => E cls d H) → PassesOwn (model P w) (A.deeper (envOfC x (defScope st) s.heap.objs.size f cdv)) (envOfC x (defScope st) s.heap.objs.size f cdv) (cxOf (L2.CX P w) P w K mg base N x (defScope st) f cdv A outer s H E).xe →
      PSs (cxOf (L2.CX P w) P w K mg base N x (defScope st) f cdv A outer s H E) (defBody st) (GS K mg (fun cls d _ H => E cls d H) sv)) : FnG P w K mg base (k + 1) x ps n (runFnM N.length sv) := by
  obtain ⟨f, fd, hm, F, hb⟩ := D.ex
  have hpl : ps.length ≤ N.length := by have := congrArg List.length S.pre; rw [List.length_take] at this; omega
  obtain ⟨oc, od, kV, doc, pm, an, cdv2, ct, osl, efd, lk, hcd⟩ := F.ex
  refine ⟨f, fd, hm, F.kp, hb, F.okX S (fun vs H Q E ⟨T, μ, args, _, r, hl, _⟩ => by rw [r.length, hl, hn]) fun cdv A outer s H vs Q E hr ⟨T, μ, args, hs, r, hl, q⟩ => ⟨_, hbody f cdv A outer s H E hr (takes_of rfl rfl rfl rfl) (passes_of rfl), T, μ, _, hs, start_sim r (by rw [hl, ← hn]; exact hpl), fn_postM hs q⟩, oc, od, osl, lk⟩
/-- a def of which nothing is asked (a recursion's ground) -/
theorem fn_g0 {x : Str} {st : Stmt} {ps : List Str} {n k : Nat} (D : DefG K mg x st ps) (hn : ps.length = n) : FnG P w K mg base k x ps n (fun _ _ => .bad) := by
  obtain ⟨f, fd, hm, F, hb⟩ := D.ex
  obtain ⟨oc, od, kV, doc, pm, an, cdv2, ct, osl, efd, lk, hcd⟩ := F.ex
  exact ⟨f, fd, hm, F.kp, hb, ⟨fun vs H Q E ⟨T, μ, args, _, r, hl, _⟩ => by rw [r.length, hl, hn], fun A outer s H args us vs Q E _ _ _ _ ⟨T, μ, as, _, _, _, q⟩ => q.elim⟩, oc, od, osl, lk⟩
end
/-! ### calls, raise, try -/
section
variable {X : Cx} {W : WX} {a : Expr} {es : List Expr} {pos : Pos} {av : Av}
theorem ge_fn {x : Str} {p : Pos} {ps : List Str} {n k : Nat} {g : List Val → Hh → R Val} (F : FnG X.prog X.w X.K X.mg X.base k x ps n g) (hr : Room k X.A) (tk : Takes X W) (hg : Gl X x) (ha : PA X (a :: es) (GA X.K X.mg W av)) (hn : ALen av n)
    (hdb : (x == ("__debug__" : Str)) = false := by decide) (he : starEach (a :: es) X.env = (false, eval a X.env) :: starEach es X.env := by rfl) (hpl : (backTo pos (starEach es X.env)).any (·.1) = false := by rfl) : PE X (.Call (.Name x p) (a :: es) [] pos) (GE X.K X.mg W (eFn g av)) := by
  obtain ⟨f, fd, hm, hk, hb, F, _⟩ := F.ex
  refine PE.imp (pe_callS F hr hg hm hk hb (fun σ => passAt tk σ) ha hdb he hpl) fun σ H Q ⟨T, μ, env, hs, es, q⟩ => ⟨T, μ, env, hs, es, ?_⟩
  unfold eFn at q
  cases hq : av env μ with
  | ok vs μ1 =>
    rw [hq] at q
    exact fun T1 H1 xs s1 hs1 r1 => ⟨T1, μ1, vs, hs1, r1, hn _ _ _ _ hq, Post.step q s1⟩
  | exc x m => rw [hq] at q; exact q
  | bad => rw [hq] at q; exact q
/-- a class of errors of the program -/
structure XC (K : PySem.W.Frag) (mg : Str → Option Value) (n : Nat) : Prop where
  ex : ∃ C, mg (xNm n) = some (.ref C) ∧ PySem.W.excIn K C [.type "ValueError", .type "Exception", .type "BaseException", .type "object"] "ValueError.__new__" = true ∧ PySem.W.keepIn K (.ref C) = true ∧
    PySem.W.subIn K (.ref C) (.type "BaseException") = some true ∧ PySem.W.typeIn K (.ref C) = some (.type "type")
theorem XC.cls {K : PySem.W.Frag} {mg : Str → Option Value} {n : Nat} (h : XC K mg n) : ∃ C, mg (xNm n) = some (.ref C) := let ⟨C, e, _⟩ := h.ex; ⟨C, e⟩
theorem mk_own0 {C : Addr} {bmB : List Value} {B newId initId : String} {x : Str} {p : Pos} (F : ExcBaseFacts B newId initId bmB) (q : PySem.W.excIn X.K C bmB newId = true) (gC : X.mg x = some (.ref C)) (kC : PySem.W.keepIn X.K (.ref C) = true) (r : Raises X (.ref C)) (hg : Gl X x)
    (hdb : (x == ("__debug__" : Str)) = false := by decide) : PMk X (.Call (.Name x p) [] [] pos) (fun _ H Q => Q (.ref C) none H) := by
  intro pins s σ H Q I h
  refine wpAny_Call_Name_kw (ld_glob I hg gC (PySem.W.callWith_K0 I.kIn kC ?_) hdb)
  obtain ⟨bm, N, nm, qn, bs, hdct, sn, sub, ab, col, dd, k0, k1, k2, k3, k5, mN, hC, hN, hni, T⟩ := exc_obj I.kIn q
  exact wpAny_call_exc_subT F T hC hN hni (fun h' e hm => mk_of I hm r h (I.hok.gone hm.new)) (Nat.zero_le _)
theorem gs_raise (n : Nat) {x : Str} {p p2 : Pos} (c : XC X.K X.mg n) (hx : xNm n = x) (hc : X.calm = true) (tk : Takes X W) (hg : Gl X x) (hdb : (x == ("__debug__" : Str)) = false := by decide) : PS X (.Raise (some (.Call (.Name x p) [] [] p2)) none pos) (GS X.K X.mg W (sRaise n)) := by
  obtain ⟨C, gC, xC, kC, sC, tC⟩ := c.ex
  subst hx
  exact PS.imp (ps_raise hc tk (mk_own0 PySem.F.excBase_ValueError xC gC kC (raises_own sC tC) hg hdb)) fun D σ H ⟨T, μ, env, hs, es, q⟩ => q T H σ (.ref C) none (Step.refl _ _) hs es ⟨⟨C, rfl, gC⟩, fun f v hm => nomatch hm⟩
/-- which of the named classes are subclasses of which -/
def XT (K : PySem.W.Frag) (mg : Str → Option Value) (L : List Nat) : Prop := ∀ a ∈ L, ∀ c ∈ L, ∀ A C, mg (xNm a) = some (.ref A) → mg (xNm c) = some (.ref C) → PySem.W.exmOne K (.ref A) (.ref C) = some (xSub a c)
def catchL (L : List Nat) : List (Nat × Sv) → Ex → Env → Hh → SR
  | [], x, e, h => .exc x e h
  | (c, s) :: r, x, e, h => if x.cls ∈ L ∧ c ∈ L then (if xSub x.cls c = true then s e h else catchL L r x e h) else .bad
def sTry (L : List Nat) (b : Sv) (hs : List (Nat × Sv)) : Sv := fun env h => match b env h with
  | .exc x e h1 => catchL L hs x e h1
  | .nx e h1 => .nx e h1
  | .rt v h1 => .rt v h1
  | .bk e h1 => .bk e h1
  | .ct e h1 => .ct e h1
  | .bad => .bad
/-- a suite that raises nothing -/
def SNX (s : Sv) : Prop := ∀ e m y e2 m2, s e m ≠ .exc y e2 m2
def ENX (s : Ev) : Prop := ∀ e m y m2, s e m ≠ .exc y m2
def SNXs (l : List (Nat × Sv)) : Prop := ∀ (p : Nat × Sv), p ∈ l → ∀ e m y e2 m2, p.2 e m ≠ .exc y e2 m2
theorem snx0 : SNXs [] := fun _ h => nomatch h
theorem snx1 {c : Nat} {s : Sv} {l : List (Nat × Sv)} (a : SNX s) (b : SNXs l) : SNXs ((c, s) :: l) := fun p hp => by
  rcases List.mem_cons.mp hp with rfl | hp
  · exact a
  · exact b p hp
theorem snx_set {i : Nat} {e : Ev} (h : ENX e) : SNX (sSet i e) := fun e1 m y e2 m2 q => by
  unfold sSet at q
  cases hr : e e1 m with
  | ok a b => rw [hr] at q; cases q
  | exc x b => exact h _ _ _ _ hr
  | bad => rw [hr] at q; cases q
theorem enx_c {v : Val} : ENX (eC v) := fun _ _ _ _ q => nomatch q
/-- the clauses -/
inductive HdG (X : Cx) (L : List Nat) : List ExceptHandler → List (Nat × Sv) → Prop
  | nil : HdG X L [] []
  | cons {x : Str} {c : Nat} {sv : Sv} {b₀ : Stmt} {suite : List Stmt} {np pos' : Pos} {hds : List ExceptHandler} {l : List (Nat × Sv)} (hx : xNm c = x) (hm : ∃ C, X.mg x = some (.ref C)) (hg : Gl X x) (hd : (x == ("__debug__" : Str)) = false)
      (hsu : ∀ (a : Addr) (oe : Obj) (pn : List (Addr × Obj)), PSs (X.suite a ((a, oe) :: pn)) (b₀ :: suite) (GS X.K X.mg W0 sv)) (r : HdG X L hds l) :
      HdG X L (.ExceptHandler (some (.Name x np)) none (b₀ :: suite) pos' :: hds) ((c, sv) :: l)
theorem SPost.imp {K : PySem.W.Frag} {mg : Str → Option Value} {W W' : WX} {T : Tr} {H : Hp} {D : Ends} {r : SR} (h : SPost K mg W T H D r) (hn : ∀ x e m, r ≠ .exc x e m) : SPost K mg W' T H D r := by
  cases r with
  | exc x e m => exact absurd rfl (hn x e m)
  | _ => exact h
/-- .. as TryMany has them, with what they wish of an exception -/
theorem HdG.many {L : List Nat} (xt : XT X.K X.mg L) {D : Ends} : ∀ {hds : List ExceptHandler} {l : List (Nat × Sv)}, HdG X L hds l →
    ∃ l2 : List (Value × (Addr → Value → Option Addr → TS)), HdsOk X hds l2 ∧ ∀ (D : Ends) (x : Ex) (e : Env) (m : Hh) (T : Tr) (H : Hp) (σ : St) (cls : Value) (d : Option Addr), (∀ (p : Nat × Sv), p ∈ l → ∀ e m y e2 m2, p.2 e m ≠ .exc y e2 m2) → SPost X.K X.mg W T H D (catchL L l x e m) → HSim X.K T m H → ESim X.K H T e σ → XRep X.K X.mg H T x cls d →
      wMany X.K W D l2 cls d σ H
  | _, _, .nil => ⟨[], .nil, fun D x e m T H σ cls d _ q hs es xr => q T H σ cls d (Step.refl _ _) hs es xr⟩
  | _, _, .cons (c := c) (sv := sv) hx hm hg hd hsu r => by
    obtain ⟨C, hm⟩ := hm
    obtain ⟨l2, h2, q2⟩ := HdG.many xt (D := D) r
    refine ⟨(.ref C, fun _ _ _ => GS X.K X.mg W0 sv) :: l2, .cons ⟨hg, hd, .inl hm⟩ (fun a oe cls d pn _ _ => hsu a oe pn) h2, fun D x e m T H σ cls d hnx q hs es xr => ?_⟩
    unfold catchL at q
    split at q
    · rename_i hL
      obtain ⟨A, eA, mA⟩ := xr.1
      subst hx
      refine ⟨xSub x.cls c, by rw [eA]; exact xt _ hL.1 _ hL.2 A C mA hm, fun hb a _ => ?_, fun hb => ?_⟩
      · rw [if_pos hb] at q
        exact ⟨T, m, e, hs, es, SPost.imp q fun y e2 m2 => hnx (c, sv) List.mem_cons_self _ _ _ _ _⟩
      · rw [if_neg (by rw [hb]; decide)] at q
        exact q2 D x e m T H σ cls d (fun p hp => hnx p (List.mem_cons_of_mem _ hp)) q hs es xr
    · exact q.elim
theorem gs_try {L : List Nat} {sv : Sv} {body : List Stmt} {h₀ : ExceptHandler} {hds : List ExceptHandler} {l : List (Nat × Sv)} (xt : XT X.K X.mg L) (hs : X.stack = X.env :: X.outer) (hf : X.env.frame = some X.env.locals) (tk : Takes X W)
    (hb : ∀ (W : WX) (pn : List (Addr × Obj)) (xe : Value → Shared → Prop), Takes (X.tr pn xe) W → PassesOwn (model X.prog X.w) X.A X.env xe → PSs (X.tr pn xe) body (GS X.K X.mg W sv)) (hh : HdG X L (h₀ :: hds) l)
    (hnx : SNXs l) : PS X (.Try body (h₀ :: hds) [] [] pos) (GS X.K X.mg W (sTry L sv l)) := by
  obtain ⟨l2, h2, q2⟩ := HdG.many (W := W) (D := ⟨fun _ _ => True, fun _ _ => True, fun _ _ => True, fun _ _ => True⟩) xt hh
  refine PS.imp (ps_try_many hs hf tk hb h2) fun D σ H ⟨T, μ, env, hs, es, q⟩ => ⟨T, μ, env, hs, es, ?_⟩
  unfold sTry at q
  cases hr : sv env μ with
  | exc x e m =>
    rw [hr] at q
    exact fun T' H' σ' cls d st hs' es' xr => q2 D x e m T' H' σ' cls d hnx (SPost.step q st) hs' es' xr
  | nx e m => rw [hr] at q; exact q
  | rt e m => rw [hr] at q; exact q
  | bk e m => rw [hr] at q; exact q
  | ct e m => rw [hr] at q; exact q
  | bad => rw [hr] at q; exact q
end
end Mp

set_option Elab.async false
set_option linter.all false
set_option maxRecDepth 100000
namespace Mp
open PySem PySem.Spec PyProof.Rows L2
/-! ### the built-ins' names -/
theorem bb_len : bootBuiltins "len" = some (.builtin "len") := by decide +kernel
theorem bb_isinstance : bootBuiltins "isinstance" = some (.builtin "isinstance") := by decide +kernel
theorem bb_all : bootBuiltins "all" = some (.builtin "all") := by decide +kernel
theorem bb_min : bootBuiltins "min" = some (.builtin "min") := by decide +kernel
theorem bb_max : bootBuiltins "max" = some (.builtin "max") := by decide +kernel
theorem bb_abs : bootBuiltins "abs" = some (.builtin "abs") := by decide +kernel
theorem bb_int : bootBuiltins "int" = some (.type "int") := by decide +kernel
theorem bb_bool : bootBuiltins "bool" = some (.type "bool") := by decide +kernel
theorem bb_str : bootBuiltins "str" = some (.type "str") := by decide +kernel
theorem bb_tuple : bootBuiltins "tuple" = some (.type "tuple") := by decide +kernel
theorem bb_list : bootBuiltins "list" = some (.type "list") := by decide +kernel
end Mp

set_option Elab.async false
set_option linter.all false
set_option maxRecDepth 100000
namespace Mp
open PySem PySem.Spec PyProof.Rows L2
/-! ### from what the top has written to the law -/
theorem defG_mk {K : PySem.W.Frag} {h : Heap} {mg : Str → Option Value} {x : Str} {st : Stmt} {ps : List Str} {f : Addr} {oc : Value} {od an : Option Addr} {osl : Array (Option Value)} {kV doc pm cdv ct : Value} (X : K.In h) (G : h.Ns mainGlobals mg)
    (hb : ∀ (kV doc pm : Value) (an : Option Addr) (cdv ct : Value) (us : List Value), us.length = ps.length → bindArgs (PySem.W.fnOf x x (defArgs st) (defBody st) (defScope st) .none kV doc pm an cdv ct) ⟨us, []⟩ = pure (ps.zip us))
    (a : PySem.W.nsIn K mainGlobals x = some (some (.ref f))) (l : K.lookup f = some ⟨oc, od, .func (PySem.W.fnOf x x (defArgs st) (defBody st) (defScope st) .none kV doc pm an cdv ct), osl⟩) (c : PySem.W.codeIn K cdv x = true) (k : PySem.W.keepIn K (.ref f) = true) : DefG K mg x st ps :=
  let F := fun_mk (st := st) l c k
  ⟨f, _, PySem.W.mg_of X G a, F, F.binds hb⟩
theorem xc_mk {K : PySem.W.Frag} {h : Heap} {mg : Str → Option Value} {n : Nat} {C : Addr} (X : K.In h) (G : h.Ns mainGlobals mg) (a : PySem.W.nsIn K mainGlobals (xNm n) = some (some (.ref C))) (e : PySem.W.excIn K C [.type "ValueError", .type "Exception", .type "BaseException", .type "object"] "ValueError.__new__" = true)
    (k : PySem.W.keepIn K (.ref C) = true) (s : PySem.W.subIn K (.ref C) (.type "BaseException") = some true) (t : PySem.W.typeIn K (.ref C) = some (.type "type")) : XC K mg n := ⟨C, PySem.W.mg_of X G a, e, k, s, t⟩
theorem exm_mk {K : PySem.W.Frag} {A C : Addr} {b : Bool} (h1 : PySem.W.subIn K (.ref C) (.type "BaseException") = some true) (h2 : PySem.W.isClsIn K C = true) (h3 : PySem.W.typeIn K (.ref C) = some (.type "type")) (h4 : PySem.W.subIn K (.ref A) (.ref C) = some b) : PySem.W.exmOne K (.ref A) (.ref C) = some b := by
  have e1 : (PySem.W.subIn K (.ref C) (.type "BaseException") == some true) = true := beq_iff_eq.mpr h1
  have e2 : ((PySem.W.clsIn K C).isSome && PySem.W.typeIn K (.ref C) == some (.type "type")) = true := by
    rw [show (PySem.W.clsIn K C).isSome = true from h2, h3]; rfl
  unfold PySem.W.exmOne
  rw [if_pos e1]
  show (if ((PySem.W.clsIn K C).isSome && PySem.W.typeIn K (.ref C) == some (.type "type")) = true then PySem.W.subIn K (.ref A) (.ref C) else none) = some b
  rw [if_pos e2]
  exact h4
theorem xt_mk {K : PySem.W.Frag} {mg : Str → Option Value} {L : List Nat} (E : List (Nat × Addr)) (hl : E.map (·.1) = L) (h1 : ∀ p ∈ E, mg (xNm p.1) = some (.ref p.2)) (h2 : ∀ p ∈ E, ∀ q ∈ E, PySem.W.exmOne K (.ref p.2) (.ref q.2) = some (xSub p.1 q.1)) : XT K mg L := by
  subst hl
  intro a ha c hc A C hA hC
  obtain ⟨p, hp, rfl⟩ := List.mem_map.mp ha
  obtain ⟨q, hq, rfl⟩ := List.mem_map.mp hc
  have e1 := hA.symm.trans (h1 p hp)
  have e2 := hC.symm.trans (h1 q hq)
  cases e1
  cases e2
  exact h2 p hp q hq
theorem bind_of {K : PySem.W.Frag} {mg : Str → Option Value} {x : Str} {st : Stmt} {ps : List Str} {f : Addr} (D : DefG K mg x st ps) (hf : mg x = some (.ref f)) (hb : ∀ (kV doc pm : Value) (an : Option Addr) (cdv ct : Value) (us : List Value), us.length = ps.length → bindArgs (PySem.W.fnOf x x (defArgs st) (defBody st) (defScope st) .none kV doc pm an cdv ct) ⟨us, []⟩ = pure (ps.zip us)) :
    ∃ fd, (∃ oc od osl, K.lookup f = some ⟨oc, od, .func fd, osl⟩) ∧ ∀ (s : Shared) (us : List Value), us.length = ps.length → BindsTo s fd ⟨us, []⟩ (ps.zip us) := by
  obtain ⟨f', fd, hm, F, _⟩ := D.ex
  cases hm.symm.trans hf
  obtain ⟨oc, od, kV, doc, pm, an, cdv, ct, osl, rfl, lk, hcd⟩ := F.ex
  exact ⟨_, ⟨oc, od, osl, lk⟩, fun s us hl => .of_eq (hb kV doc pm an cdv ct us hl)⟩
theorem ints_rep {K : PySem.W.Frag} {H : Hp} {T : Tr} : ∀ ns : List Int, RepL K H T (ns.map Val.int) (ns.map V.int)
  | [] => .nil
  | n :: ns => .cons (.int n) (ints_rep ns)
/-- .. whatever the module holds -/
def spA (K : PySem.W.Frag) (g : List Val → Hh → R Val) : Sp := fun vs H Q E => ∀ mg, spG K mg 1 g vs H Q E
/-- THE LAW: its plain function answers True at every script -/
theorem law_end {K : PySem.W.Frag} {mg : Str → Option Value} {P : Program} {w : World} {x a : Str} {fa : Addr} {st : Stmt} {k : Nat} {g : List Val → Hh → R Val} (D : DefG K mg x st [a]) (hf : mg x = some (.ref fa))
    (hb : ∀ (kV doc pm : Value) (an : Option Addr) (cdv ct : Value) (us : List Value), us.length = ([a] : List Str).length → bindArgs (PySem.W.fnOf x x (defArgs st) (defBody st) (defScope st) .none kV doc pm an cdv ct) ⟨us, []⟩ = pure (([a] : List Str).zip us))
    (F : ∀ base : Heap, FnG P w K mg base k x [a] 1 g) :
    ∃ fd : FuncData, (∀ (s : Shared) (u : Value), BindsTo s fd ⟨[u], []⟩ [(a, u)]) ∧ ∀ base : Heap, K.In base → base.Ns mainGlobals mg → FnOk P w K mg base (L2.CX P w) k fa fd [a] (spA K g) := by
  obtain ⟨fd, ⟨oc, od, osl, lk⟩, hbd⟩ := bind_of D hf hb
  refine ⟨fd, fun s u => hbd s [u] rfl, fun base _ _ => ?_⟩
  obtain ⟨f', fd', hm, _, _, F', oc', od', osl', lk'⟩ := (F base).ex
  cases hm.symm.trans hf
  rw [lk] at lk'
  cases lk'
  exact ⟨fun vs H Q E h => F'.1 vs H Q E (h mg), fun A outer s H args us vs Q E a1 a2 a3 a4 h => F'.2 A outer s H args us vs Q E a1 a2 a3 a4 (h mg)⟩
theorem law_sp {K : PySem.W.Frag} {g : List Val → Hh → R Val} {H : Hp} {a : Addr} {ns : List Int} (hO : Only H) (hS : SqL K H a (ns.map V.int)) (h : g [.fz (ns.map .int)] [] = .ok (.bl true) []) : spA K g [.ref a] H (fun v _ => v = .bl true) fun _ _ _ => False := by
  intro mg
  have r : RepV K H ⟨[], []⟩ (.fz (ns.map .int)) (.ref a) := by
    refine .fz ?_ (ints_rep ns)
    rcases hS with h1 | h1
    · refine .inl ⟨fun q => (by rcases q with q | q <;> cases q), ?_⟩
      rcases h1 with h1 | h1
      · rcases hO a with q | ⟨o, xs, q⟩
        · rw [q] at h1; cases h1
        · rw [q] at h1; cases h1
      · exact h1
    · exact .inr h1
  refine ⟨⟨[], []⟩, [], [.fz (ns.map .int)], ⟨rfl, List.nodup_nil, fun n ob e => (by cases e), fun n ob e => (by cases e), fun b hb => (by cases hb)⟩, .cons r .nil, rfl, ?_⟩
  rw [h]
  intro T' H' x _ _ r
  cases r
  rfl
end Mp

set_option Elab.async false
set_option linter.all false
set_option maxRecDepth 100000
namespace Mp
open PySem PySem.Spec PyProof.Rows L2
theorem room65 {k : Nat} {A : Around} (r : Room k A) : A.units + 65 < cLine := by have := r.un; omega
/-! ### errors of the program that keep one field: class X(..): def __init__(self, f): self.f = f -/
def sRaiseA (n : Nat) (f : Str) (e : Ev) : Sv := fun env h => lift (e env h) env fun v h1 => .exc ⟨n, [(f, v)]⟩ env h1
def clsDef : Stmt → Stmt
  | .ClassDef _ _ _ (s :: _) _ _ _ _ _ _ _ => s
  | s => s
structure XA (K : PySem.W.Frag) (mg : Str → Option Value) (n : Nat) (f qual : Str) (st : Stmt) : Prop where
  ex : ∃ C fI fd, mg (xNm n) = some (.ref C) ∧ OexC K C ∧ PySem.W.findIn K (.ref C) "__init__" = some (some (.ref fI)) ∧ PySem.W.typeIn K (.ref fI) = some (.type "function") ∧ PySem.W.findIn K (.ref C) f = some none ∧ Fun K "__init__" qual st fI fd ∧ Binds K fd ["self", f] []
def spInit (K : PySem.W.Frag) (f : Str) : Sp := fun vs H Q E => ∃ (a C : Addr) (x : V), vs = [.ref a, x] ∧ OexC K C ∧ PySem.W.findIn K (.ref C) f = some none ∧ H a = some (exo a C none) ∧ ∀ dx, H dx = none → dx ≠ a → Q .non (upd (upd H dx (exd dx [(f, x)])) a (exo a C (some dx)))
theorem init_ok {P : Program} {w : World} {K : PySem.W.Frag} {mg : Str → Option Value} {base : Heap} {k : Nat} {f qual : Str} {st : Stmt} {fI : Addr} {fd : FuncData} (F : Fun K "__init__" qual st fI fd) (S : FnScope ["self", f] ["self", f] (defScope st))
    (hb : ∀ (A : Around) (outer : List PySem.Env) (s : Shared) (H : Hp) (E : XK) (cdv : Value), PSs (cxOf (L2.CX P w) P w K mg base ["self", f] qual (defScope st) fI cdv A outer s H E) (defBody st) (tOst K f (tVar 0) (tVar 1))) : FnOk P w K mg base (L2.CX P w) (k + 1) fI fd ["self", f] (spInit K f) := by
  refine F.okX S (fun vs H Q E ⟨a, C, x, e, _⟩ => by rw [e]; rfl) fun cdv A outer s H vs Q E hr ⟨a, C, x, e, hC, hf, ha, q⟩ => ⟨_, hb A outer s H E cdv, ?_⟩
  subst e
  exact ⟨x, rfl, .ref a, rfl, a, C, rfl, hC, hf, .inl ⟨ha, fun dx h1 h2 => q dx h1 h2⟩⟩
section
variable {X : Cx} {W : WX} {a : Expr} {ea : Ev}
theorem gs_raiseA (n : Nat) {x f qual : Str} {st : Stmt} {k : Nat} {p p2 pos : Pos} (c : XA X.K X.mg n f qual st) (S : FnScope ["self", f] ["self", f] (defScope st))
    (hb : ∀ (fI : Addr) (A : Around) (outer : List PySem.Env) (s : Shared) (H : Hp) (E : XK) (cdv : Value), PSs (cxOf (L2.CX X.prog X.w) X.prog X.w X.K X.mg X.base ["self", f] qual (defScope st) fI cdv A outer s H E) (defBody st) (tOst X.K f (tVar 0) (tVar 1)))
    (hx : xNm n = x) (hc : X.calm = true) (tk : Takes X W) (hr : Room (k + 1 + 1) X.A) (hg : Gl X x) (ha : PE X a (GE X.K X.mg W ea)) (hdb : (x == ("__debug__" : Str)) = false := by decide) (he : starEach [a] X.env = (false, eval a X.env) :: starEach [] X.env := by rfl) :
    PS X (.Raise (some (.Call (.Name x p) [a] [] p2)) none pos) (GS X.K X.mg W (sRaiseA n f ea)) := by
  obtain ⟨C, fI, fd, hm, hC, iC, tI, nf, F, hbd⟩ := c.ex
  subst hx
  have mkp := pmk_oex (p := p) (pos := p2) hC iC tI (init_ok (k := k) F S fun A outer s H E cdv => hb fI A outer s H E cdv) hr hbd .nil (fun pins σ H s e s' I cx => by
    obtain ⟨_, _, _, _, _, _, _, _, _, _, _, _, z⟩ := cx
    exact z.elim) hg hm (ga_cons ha ga_nil he) hdb he (by rfl)
  refine PS.imp (ps_raise hc tk mkp) fun D σ H ⟨T, μ, env, hs, es, q⟩ => ⟨T, μ, env, hs, es, ?_⟩
  unfold sRaiseA at q
  unfold aCons
  cases hr : ea env μ with
  | ok v μ1 =>
    rw [hr] at q
    intro T1 H1 xs s1 hs1 r1
    obtain ⟨y, rfl, ry⟩ := RepL.one r1
    refine ⟨by simp, fun b hb => ⟨b, C, y, rfl, hC, nf, upd_same, fun dx h1 hne => ?_⟩⟩
    rw [upd_ne hne] at h1
    refine ⟨rfl, dx, [(f, y)], upd_same, by rw [upd_ne hne, upd_same], h1, ?_⟩
    have e : upd (del (upd (upd (upd H1 b (exo b C none)) dx (exd dx [(f, y)])) b (exo b C (some dx))) b) dx (.xd [(f, y)]) = upd H1 dx (.xd [(f, y)]) := by
      funext z
      by_cases z1 : z = dx
      · subst z1; rw [upd_same, upd_same]
      · rw [upd_ne z1, upd_ne z1]
        by_cases z2 : z = b
        · subst z2; rw [del_same, hb]
        · rw [del_ne z2, upd_ne z2, upd_ne z1, upd_ne z2]
    dsimp only
    rw [e]
    refine q T1 _ σ (.ref C) (some dx) (s1.trans (Step.new h1)) (hs1.new h1) ((es.step s1).step (Step.new h1)) ⟨⟨C, rfl, hm⟩, fun g u hgu => ?_⟩
    have eg := List.mem_singleton.mp hgu
    cases eg
    exact ⟨dx, [(f, y)], y, rfl, hs1.notban h1, upd_same, by simp, ry.step (Step.new h1)⟩
  | exc x m =>
    rw [hr] at q
    exact fun T' H' s1 hs1 cls d xr => q T' H' σ cls d s1 hs1 (es.step s1) xr
  | bad => rw [hr] at q; exact q
end
theorem xa_mk {K : PySem.W.Frag} {h : Heap} {mg : Str → Option Value} {n : Nat} {f qual : Str} {st : Stmt} {C CL fI : Addr} (X : K.In h) (G : h.Ns mainGlobals mg)
    {nm q : Str} {N : Addr} {bs : List Value} {sn : List Str} {sub : List Value} {ab : Bool} {col : Option Bool} {dd : Option Addr} {m0 m1 m2 m3 m5 : Option Value} {oc : Value} {od an : Option Addr} {osl : Array (Option Value)} {kV doc pm cdv ct : Value}
    (hb : ∀ (kV doc pm : Value) (an : Option Addr) (cdv ct : Value) (us : List Value), us.length = (["self", f] : List Str).length → bindArgs (PySem.W.fnOf "__init__" qual (defArgs st) (defBody st) (defScope st) .none kV doc pm an cdv ct) ⟨us, []⟩ = pure ((["self", f] : List Str).zip us))
    (a : PySem.W.nsIn K mainGlobals (xNm n) = some (some (.ref C))) (xL : K.lookup C = some (excClassObj nm q C N bs [.ref CL, .type "ValueError", .type "Exception", .type "BaseException", .type "object"] true sn sub ab col dd m0 m1 m2 m3 m5 "ValueError.__new__"))
    (sa : PySem.W.findIn K (.ref C) "__setattr__" = some (some (.builtin "object.__setattr__"))) (eC : PySem.W.subIn K (.ref C) (.type "BaseException") = some true) (tC : PySem.W.typeIn K (.ref C) = some (.type "type")) (kC : PySem.W.keepIn K (.ref C) = true)
    (iC : PySem.W.findIn K (.ref C) "__init__" = some (some (.ref fI))) (tI : PySem.W.typeIn K (.ref fI) = some (.type "function")) (nf : PySem.W.findIn K (.ref C) f = some none)
    (l : K.lookup fI = some ⟨oc, od, .func (PySem.W.fnOf "__init__" qual (defArgs st) (defBody st) (defScope st) .none kV doc pm an cdv ct), osl⟩) (c : PySem.W.codeIn K cdv qual = true) (k : PySem.W.keepIn K (.ref fI) = true) : XA K mg n f qual st :=
  let F := fun_mk (x := "__init__") (qual := qual) (st := st) l c k
  ⟨C, fI, _, PySem.W.mg_of X G a, ⟨⟨nm, q, N, bs, _, sn, sub, ab, col, dd, m0, m1, m2, m3, m5, xL, rfl⟩, sa, eC, tC, kC⟩, iC, tI, nf, F, F.binds hb⟩
end Mp

set_option Elab.async false
set_option linter.all false
set_option maxRecDepth 100000
namespace Mp
open PySem PySem.Spec PyProof.Rows L2
/-! ### try with several clauses, some of which name the error: own rule, clause by clause -/
/-- an exception a of the class cls that has come to a try statement of the frame at hand -/
structure Come (Y : Cx) (Wo : WX) (pz : List (Addr × Obj)) (τ : St) (G : Hp) (cls : Value) (xd : Option Addr) (a : Addr) (Bd : Heap) (w1 w2 : Shared) : Prop where
  ok : Y.Ok
  tk : Takes Y Wo
  stk : Y.stack = Y.env :: Y.outer
  frm : Y.env.frame = some Y.env.locals
  inv : Inv Y pz τ G w1
  kept : ∀ (c : Addr) (o : Obj), w1.heap.get? c = some o → c ∉ frs Y.stack → Bd.get? c = some o
  fly : HandSPX.FlyingZ Bd (Y.env :: Y.outer) a (Zc cls xd) w2.heap
  slots : w1.heap.UpToSlots w2.heap
  os : w2.os = w1.os
  gens : AllBare w2.gens
  new : G a = none
section
variable {Y : Cx} {Wo : WX} {pz : List (Addr × Obj)} {τ : St} {G : Hp} {cls : Value} {xd : Option Addr} {a : Addr} {Bd : Heap} {w1 w2 : Shared} {Z : Ends}
/-- the heap grows in slots alone: it is still so -/
theorem Come.up {h2 : Heap} (C : Come Y Wo pz τ G cls xd a Bd w1 w2) (fl : HandSPX.FlyingZ Bd (Y.env :: Y.outer) a (Zc cls xd) h2) (u : w2.heap.UpToSlots h2) : Come Y Wo pz τ G cls xd a Bd w1 { w2 with heap := h2 } :=
  ⟨C.ok, C.tk, C.stk, C.frm, C.inv, C.kept, fl, C.slots.trans u, C.os, C.gens, C.new⟩
theorem Come.here (C : Come Y Wo pz τ G cls xd a Bd w1 w2) : Inv Y pz τ G w2 := C.inv.landed C.kept C.fly.1 C.slots C.os C.gens
/-- the error's object; the suite's state -/
theorem Come.suite (C : Come Y Wo pz τ G cls xd a Bd w1 w2) : ∃ ob vs, w2.heap.get? a = some ob ∧ Zc cls xd ob ∧ ob.data = .fields vs ∧ Inv (Y.suite a ((a, ob) :: (Y.pn ++ pz))) [] τ G w2 := by
  obtain ⟨ob, vs, e, z, dt⟩ := C.fly.there
  have away : a ∉ frs (Y.env :: Y.outer) := fun hm => by
    obtain ⟨_, o2, e2, nf⟩ := C.fly.2.2.1.mem hm
    rw [e] at e2
    cases e2
    exact nf _ dt
  have l1 : a ≠ Y.env.locals := fun q => away (List.mem_filterMap.mpr ⟨Y.env, List.mem_cons_self, by rw [C.frm, q]⟩)
  have l2 : a ∉ Y.fs := fun hm => by
    obtain ⟨en, hen, q⟩ := List.mem_filterMap.mp hm
    exact away (List.mem_filterMap.mpr ⟨en, List.mem_cons_of_mem _ hen, q⟩)
  exact ⟨ob, vs, e, z, dt, C.here.suite e dt C.new l1 l2⟩
/-- the class that a clause names -/
theorem Come.named (C : Come Y Wo pz τ G cls xd a Bd w1 w2) {x : Str} {np : Pos} {c : Value} (hx : Names Y x c) {Q E : Value → Shared → Prop} (q : Q c w2) : wpAny (model Y.prog Y.w) (Y.A.mark (some (.ref a))) (eval (.Name x np) Y.env) Q E w2 := by
  obtain ⟨ob, vs, e, z, dt, S⟩ := C.suite
  obtain ⟨gl, dbg, h | ⟨h, bt, nn⟩⟩ := hx
  · exact ld_glob (X := Y.suite a ((a, ob) :: (Y.pn ++ pz))) S gl h q dbg
  · exact ld_blt (X := Y.suite a ((a, ob) :: (Y.pn ++ pz))) S gl h bt q nn dbg
theorem Come.looks (C : Come Y Wo pz τ G cls xd a Bd w1 w2) : PySem.W.Looks (model Y.prog Y.w) w2.heap (typeOf (.ref a)) cls := by
  obtain ⟨ob, vs, e, z, _⟩ := C.suite
  exact fun A Q E s k q => wpAny_typeOf_ref (k _ _ e) (by rw [z.1]; exact q)
/-- what comes of the statement, of what comes of a suite -/
theorem ends_of {pn : List (Addr × Obj)} {q0 : Addr × Obj} {f : Flow} {s : Shared} {D : Ends} (gut : Y.Ok) (h : SP (Y.suite a (q0 :: (Y.pn ++ pz))) [] D f s) : SP Y pz D f s := by
  cases f with
  | ret u =>
    obtain ⟨v, τ2, G2, S, r, q⟩ := h
    exact ⟨v, τ2, G2, S.unsuite gut, r, q⟩
  | next =>
    obtain ⟨τ2, G2, S, q⟩ := h
    exact ⟨τ2, G2, S.unsuite gut, q⟩
  | brk =>
    obtain ⟨τ2, G2, S, q⟩ := h
    exact ⟨τ2, G2, S.unsuite gut, q⟩
  | cont =>
    obtain ⟨τ2, G2, S, q⟩ := h
    exact ⟨τ2, G2, S.unsuite gut, q⟩
/-- a clause without a name -/
theorem Come.plain (C : Come Y Wo pz τ G cls xd a Bd w1 w2) {x : Str} {np p : Pos} {c : Value} {b : Bool} {st : Stmt} {su : List Stmt} {rows : List ExceptHandler} {tt : TS} (hx : Names Y x c) (m : PySem.W.exmOne Y.K cls c = some b)
    (hs : ∀ (ob : Obj) (pn : List (Addr × Obj)), Zc cls xd ob → (∃ vs, ob.data = .fields vs) → PSs (Y.suite a ((a, ob) :: pn)) (st :: su) tt) (yes : b = true → tt Z τ G)
    (no : b = false → wpAny (model Y.prog Y.w) Y.A (handleBy (.ref a) Y.env rows) (SP Y pz Z) Y.xe w2) :
    wpAny (model Y.prog Y.w) Y.A (handleBy (.ref a) Y.env (.ExceptHandler (some (.Name x np)) none (st :: su) p :: rows)) (SP Y pz Z) Y.xe w2 := by
  refine wpAny_handleBy_cons (codeAny_handlers_test ?_) (fun q => nomatch q)
  refine C.named hx ((PySem.W.exm_one (M := model Y.prog Y.w) C.here.kIn C.looks m).here ?_)
  cases b with
  | false => exact no rfl
  | true =>
    refine codeAny_handlers_suite (HandSPX.lands_againZ C.fly fun h2 fl u => ?_)
    obtain ⟨ob, vs, e, z, dt, S⟩ := (C.up fl u).suite
    exact wpAny_mono ((hs ob (Y.pn ++ pz) z ⟨vs, dt⟩).run [] _ _ _ _ S (yes rfl)) (fun f v q => ends_of (pn := []) C.ok q) fun _ _ q => False.elim q
/-- a clause that names the error: slot i, which goes behind the suite -/
theorem Come.bound (C : Come Y Wo pz τ G cls xd a Bd w1 w2) {x n : Str} {i : Nat} {np p : Pos} {c : Value} {b : Bool} {st : Stmt} {su : List Stmt} {rows : List ExceptHandler} {tt : TS} (hN : Y.N.Nodup) (hi : Y.N[i]? = some n) (hl : Y.env.kindOf n = some .local)
    (hx : Names Y x c) (m : PySem.W.exmOne Y.K cls c = some b)
    (hs : ∀ (ob : Obj) (pn : List (Addr × Obj)), Zc cls xd ob → (∃ vs, ob.data = .fields vs) → PSs (Y.suite a ((a, ob) :: pn)) (st :: su) tt)
    (yes : b = true → tt { nx := fun τ' G' => Z.nx (τ'.set i none) G', rt := Z.rt, bk := fun τ' G' => Z.bk (τ'.set i none) G', ct := fun τ' G' => Z.ct (τ'.set i none) G' } (τ.set i (some (.ref a))) G)
    (no : b = false → wpAny (model Y.prog Y.w) Y.A (handleBy (.ref a) Y.env rows) (SP Y pz Z) Y.xe w2) :
    wpAny (model Y.prog Y.w) Y.A (handleBy (.ref a) Y.env (.ExceptHandler (some (.Name x np)) (some n) (st :: su) p :: rows)) (SP Y pz Z) Y.xe w2 := by
  refine wpAny_handleBy_cons (codeAny_handlers_test ?_) (fun q => nomatch q)
  refine C.named hx ((PySem.W.exm_one (M := model Y.prog Y.w) C.here.kIn C.looks m).here ?_)
  cases b with
  | false => exact no rfl
  | true =>
    refine codeAny_handlers_suite_as (HandSPX.lands_againZ C.fly fun h2 fl u => ?_)
    obtain ⟨ob, vs, e, z, dt, S⟩ := (C.up fl u).suite
    refine store_ok (X := Y.suite a ((a, ob) :: (Y.pn ++ pz))) (v := .ref a) S hN hi (.inl hl) rfl (fun v S2 => ?_) (.inr hl)
    refine wpAny_mono ((hs ob (Y.pn ++ pz) z ⟨vs, dt⟩).run [] v _ _ _ S2 (yes rfl)) (fun f v2 q => ?_) fun _ _ q => False.elim q
    cases f with
    | ret r =>
      obtain ⟨v3, τ2, G2, S3, r3, q3⟩ := q
      exact gone_ok (S3.unsuite C.ok) hN hi hl fun v4 J => ⟨v3, _, _, J, r3, q3⟩
    | next =>
      obtain ⟨τ2, G2, S3, q3⟩ := q
      exact gone_ok (S3.unsuite C.ok) hN hi hl fun v4 J => ⟨_, _, J, q3⟩
    | brk =>
      obtain ⟨τ2, G2, S3, q3⟩ := q
      exact gone_ok (S3.unsuite C.ok) hN hi hl fun v4 J => ⟨_, _, J, q3⟩
    | cont =>
      obtain ⟨τ2, G2, S3, q3⟩ := q
      exact gone_ok (S3.unsuite C.ok) hN hi hl fun v4 J => ⟨_, _, J, q3⟩
end
/-! ### .. in plain terms -/
def unA (o : Option Nat) (r : SR) : SR := match o with
  | none => r
  | some i => match r with
    | .nx e h => .nx (e.set i none) h
    | .rt v h => .rt v h
    | .bk e h => .bk (e.set i none) h
    | .ct e h => .ct (e.set i none) h
    | .exc x e h => .exc x e h
    | .bad => .bad
def inA (o : Option Nat) (e : Env) : Env := match o with
  | none => e
  | some i => e.set i none
def catchA (L : List Nat) : List (Nat × Option Nat × (Ex → Sv)) → Ex → Env → Hh → SR
  | [], x, e, h => .exc x e h
  | (c, o, s) :: r, x, e, h => if x.cls ∈ L ∧ c ∈ L then (if xSub x.cls c = true then unA o (s x (inA o e) h) else catchA L r x e h) else .bad
def sTryA (L : List Nat) (b : Sv) (hs : List (Nat × Option Nat × (Ex → Sv))) : Sv := fun env h => match b env h with
  | .exc x e h1 => catchA L hs x e h1
  | .nx e h1 => .nx e h1
  | .rt v h1 => .rt v h1
  | .bk e h1 => .bk e h1
  | .ct e h1 => .ct e h1
  | .bad => .bad
section
variable {X : Cx} {W : WX}
end
/-! ### suites that read a field of the error -/
/-- the field read -/
def xfl (x : Ex) (f : Str) : Option Val := x.fs.lookup f
section
variable {X : Cx}
end
end Mp
namespace Mp
open PySem PySem.Spec PyProof.Rows L2
theorem XT.sub {K : PySem.W.Frag} {mg : Str → Option Value} {L L' : List Nat} (h : XT K mg L') (s : L.all (fun a => decide (a ∈ L')) = true) : XT K mg L := fun a ha c hc A C e1 e2 => h a (of_decide_eq_true (List.all_eq_true.mp s a ha)) c (of_decide_eq_true (List.all_eq_true.mp s c hc)) A C e1 e2
theorem XA.cls {K : PySem.W.Frag} {mg : Str → Option Value} {n : Nat} {f qual : Str} {st : Stmt} (h : XA K mg n f qual st) : ∃ C, mg (xNm n) = some (.ref C) := let ⟨C, _, _, e, _⟩ := h.ex; ⟨C, e⟩
end Mp

set_option Elab.async false
set_option linter.all false
set_option maxRecDepth 100000
namespace Mp
open PySem PySem.Spec PyProof.Rows L2
/-! ### the suites that stand in the laws, behind `except X as e` -/
/-- told = [s, t][int(e.f == k)] -/
def aPick (j : Nat) (s t : Str) (k : Int) (f : Str) : Ex → Sv := fun x env h => match xfl x f with
  | some (.int i) => .nx (env.set j (some (.str (if i = k then t else s)))) h
  | _ => .bad
section
variable {X : Cx} {a : Addr} {oe : Obj} {cls : Value} {d : Option Addr} {pn : List (Addr × Obj)} {i c : Nat} {n f : Str} {p pos : Pos}
end
end Mp

set_option Elab.async false
set_option linter.all false
set_option maxRecDepth 100000
namespace Mp
open PySem PySem.Spec PyProof.Rows L2
/-! ### a block tidied behind it: dead names forgotten, lists that nothing leans on dropped -/
def oBel (n : Nat) : Option Val → Bool
  | some v => v.bel n
  | none => true
def cutH (n : Nat) (e : Env) (h : Hh) : Hh := if e.all (oBel n) = true ∧ (h.take n).all (Ob.bel n) = true then h.take n else h
def tidyR (n : Nat) (d : List Nat) : SR → SR
  | .nx e h => .nx (wipeE e d) (cutH n (wipeE e d) h)
  | .bk e h => .bk (wipeE e d) (cutH n (wipeE e d) h)
  | .ct e h => .ct (wipeE e d) (cutH n (wipeE e d) h)
  | r => r
def sTidy (d : List Nat) (s : Sv) : Sv := fun env h => tidyR h.length d (s env h)
section
variable {K : PySem.W.Frag} {T T' : Tr} {μ μ' : Hh} {H H' : Hp} {env : Env} {σ : St}
theorem ESim.forget (es : ESim K H T env σ) : ∀ d : List Nat, ESim K H T (wipeE env d) σ
  | [] => es
  | v :: vs => by
    have ih := ESim.forget es vs
    unfold wipeE
    refine ⟨by simp [ih.len], fun j w e => ?_⟩
    by_cases h : v = j
    · subst h
      by_cases hl : v < (wipeE env vs).length
      · rw [List.getElem?_set_self hl] at e; cases e
      · rw [List.getElem?_eq_none (by simpa using hl)] at e; cases e
    · rw [List.getElem?_set_ne h] at e
      exact ih.at' j w e
theorem ESim.keep {n : Nat} (es : ESim K H' T' env σ) (B : Back T T' n) (hb : env.all (oBel n) = true) : ESim K H' T env σ := by
  refine ⟨es.len, fun j w e => ?_⟩
  obtain ⟨x, ex, r⟩ := es.at' j w e
  exact ⟨x, ex, r.keep B.ban B.low (List.all_eq_true.mp hb (some w) (List.mem_of_getElem? e))⟩
theorem tidy_at {P : Tr → Hp → Prop} {e : Env} {h : Hh} (d : List Nat) (hs : HSim K T μ H) (st : Step T H T' H') (hs' : HSim K T' h H') (es' : ESim K H' T' e σ)
    (k : ∀ T2, Step T H T2 H' → HSim K T2 (cutH μ.length (wipeE e d) h) H' → ESim K H' T2 (wipeE e d) σ → P T2 H') : ∃ T2, P T2 H' := by
  unfold cutH at k
  by_cases q : (wipeE e d).all (oBel μ.length) = true ∧ (h.take μ.length).all (Ob.bel μ.length) = true
  · rw [if_pos q] at k
    obtain ⟨a, b⟩ := hs.back st hs'
    exact ⟨_, k T b a ((es'.forget d).keep (st.back hs.len hs) q.1)⟩
  · rw [if_neg q] at k
    exact ⟨_, k T' st hs' (es'.forget d)⟩
end
section
variable {X : Cx} {W : WX} {sv : Sv}
theorem gs_tidy {b : List Stmt} (d : List Nat) (h : PSs X b (GS X.K X.mg W sv)) : PSs X b (GS X.K X.mg W (sTidy d sv)) :=
  PSs.imp h fun D σ H ⟨T, μ, env, hs, es, q⟩ => ⟨T, μ, env, hs, es, by
    unfold sTidy at q
    have go : ∀ {P : St → Hp → Prop} {e : Env} {m : Hh}, (∀ T' H' σ', Step T H T' H' → HSim X.K T' (cutH μ.length (wipeE e d) m) H' → ESim X.K H' T' (wipeE e d) σ' → P σ' H') → ∀ T' H' σ', Step T H T' H' → HSim X.K T' m H' → ESim X.K H' T' e σ' → P σ' H' := fun {P e m} k T' H' σ' st hs' es' => by
      obtain ⟨_, z⟩ := tidy_at (P := fun _ H' => P σ' H') d hs st hs' es' fun T2 s2 h2 e2 => k T2 H' σ' s2 h2 e2
      exact z
    cases hr : sv env μ with
    | nx e m => rw [hr] at q; exact go q
    | bk e m => rw [hr] at q; exact go q
    | ct e m => rw [hr] at q; exact go q
    | rt v m => rw [hr] at q; exact q
    | exc x e m => rw [hr] at q; exact q
    | bad => rw [hr] at q; exact q⟩
end
/-! running it -/
@[simp] theorem cutH_le {n : Nat} {e : Env} {h : Hh} (q : h.length ≤ n) : cutH n e h = h := by
  unfold cutH
  split
  · exact List.take_of_length_le q
  · rfl
@[simp] theorem x_tidy (d : List Nat) (s : Sv) {env : Env} {h : Hh} : sTidy d s env h = tidyR h.length d (s env h) := rfl
@[simp] theorem tidy_nx {n : Nat} {d : List Nat} {e : Env} {h : Hh} : tidyR n d (.nx e h) = .nx (wipeE e d) (cutH n (wipeE e d) h) := rfl
@[simp] theorem tidy_ct {n : Nat} {d : List Nat} {e : Env} {h : Hh} : tidyR n d (.ct e h) = .ct (wipeE e d) (cutH n (wipeE e d) h) := rfl
@[simp] theorem tidy_bk {n : Nat} {d : List Nat} {e : Env} {h : Hh} : tidyR n d (.bk e h) = .bk (wipeE e d) (cutH n (wipeE e d) h) := rfl
@[simp] theorem tidy_rt {n : Nat} {d : List Nat} {v : Val} {h : Hh} : tidyR n d (.rt v h) = .rt v h := rfl
@[simp] theorem tidy_exc {n : Nat} {d : List Nat} {x : Ex} {e : Env} {h : Hh} : tidyR n d (.exc x e h) = .exc x e h := rfl
@[simp] theorem wipe_nil (e : Env) : wipeE e [] = e := rfl
@[simp] theorem wipe_cons (e : Env) (v : Nat) (vs : List Nat) : wipeE e (v :: vs) = (wipeE e vs).set v none := rfl
end Mp

set_option Elab.async false
set_option linter.all false
set_option maxRecDepth 100000
namespace Mp
open PySem PySem.Spec PyProof.Rows L2
/-! ### list(range(..)), tuple(range(..)) -/
def rgOk (lo hi : Int) : Prop := -(2 ^ 62) ≤ lo ∧ lo < 2 ^ 62 ∧ -(2 ^ 62) ≤ hi ∧ hi < 2 ^ 62 ∧ (hi - lo).toNat ≤ 2 ^ 24
instance (lo hi : Int) : Decidable (rgOk lo hi) := by unfold rgOk; infer_instance
def rgLst (m : Bool) (vs : List Val) (h : Hh) : R Val := match vs with
  | [.int j] => if rgOk 0 j then mk m (rangeV 0 j) h else .bad
  | [.int i, .int j] => if rgOk i j then mk m (rangeV i j) h else .bad
  | _ => .bad
def rgTup (vs : List Val) (h : Hh) : R Val := match vs with
  | [.int j] => if rgOk 0 j then .ok (.tup (rangeV 0 j)) h else .bad
  | [.int i, .int j] => if rgOk i j then .ok (.tup (rangeV i j)) h else .bad
  | _ => .bad
def eRgL (m : Bool) (a : Av) : Ev := fun env h => (a env h).bnd fun vs h1 => rgLst m vs h1
def eRgT (a : Av) : Ev := fun env h => (a env h).bnd fun vs h1 => rgTup vs h1
section
variable {X : Cx} {W : WX} {a b : Expr} {av : Av} {ea eb : Ev} {p pos p2 q2 : Pos}
end
@[simp] theorem x_rgL (m : Bool) (a : Av) {env : Env} {h : Hh} : eRgL m a env h = (a env h).bnd fun vs h1 => rgLst m vs h1 := rfl
@[simp] theorem x_rgT (a : Av) {env : Env} {h : Hh} : eRgT a env h = (a env h).bnd fun vs h1 => rgTup vs h1 := rfl
/-! ### constants of the module that are tuples -/
section
variable {X : Cx} {W : WX}
theorem ge_gt {x : Str} {v : Val} {pos : Pos} (hg : Gl X x) (hm : ∃ a, X.mg x = some (.ref a) ∧ ∀ H T, RepV X.K H T v (.ref a)) (hd : (x == ("__debug__" : Str)) = false := by decide) : PE X (.Name x pos) (GE X.K X.mg W (eC v)) :=
  let ⟨a, e, r⟩ := hm
  ge_c (pe_glob (v := .ref a) hg e rfl hd) r
theorem wr_tup {K : PySem.W.Frag} {a : Addr} {d : Option Addr} {its : Array Value} {n : Nat} {sl : Array (Option Value)} {vs : List Val} {xs : List V} (l : K.lookup a = some ⟨.type "tuple", d, .seq its n, sl⟩) (hv : Vals xs its.toList) (hz : its.size ≤ 1000) (r : ∀ H T, RepL K H T vs xs) : ∀ H T, RepV K H T (.tup vs) (.ref a) :=
  fun H T => .tup (.inr ⟨_, its, n, l, rfl, rfl, Nat.le_trans hz (by rw [sizeLine_eq]; decide), hv⟩) (r H T)
end
end Mp

set_option Elab.async false
set_option linter.all false
set_option maxRecDepth 100000
namespace Mp
open PySem PySem.Spec PyProof.Rows L2
/-! ### running the terms by simp -/
variable {env : Env} {h : Hh} {a b : Ev} {av : Av} {t t2 : Tv}
@[simp] theorem x_var {i : Nat} {v : Val} (e : env[i]? = some (some v)) : eVar i env h = .ok v h := by unfold eVar; rw [e]
@[simp] theorem x_c (v : Val) : eC v env h = .ok v h := rfl
@[simp] theorem x_op (p : Val → Val → Hh → R Val) : eOp p a b env h = (a env h).bnd fun x h1 => (b env h1).bnd fun y h2 => p x y h2 := rfl
@[simp] theorem x_un (p : Val → Hh → R Val) : eUn p a env h = (a env h).bnd fun x h1 => p x h1 := rfl
@[simp] theorem x_call (p : List Val → Hh → R Val) : eCall p av env h = (av env h).bnd fun xs h1 => p xs h1 := rfl
@[simp] theorem x_fn (p : List Val → Hh → R Val) : eFn p av env h = (av env h).bnd fun xs h1 => p xs h1 := rfl
@[simp] theorem x_nil : aNil env h = .ok [] h := rfl
@[simp] theorem x_cons : aCons a av env h = (a env h).bnd fun x h1 => (av env h1).bnd fun xs h2 => .ok (x :: xs) h2 := rfl
@[simp] theorem x_tB : tB a env h = (a env h).bnd fun x h1 => match x with | .bl b => .ok b h1 | _ => .bad := rfl
@[simp] theorem x_and : eAnd a b env h = (a env h).bnd fun x h1 => match x with | .bl true => b env h1 | .bl false => .ok (.bl false) h1 | _ => .bad := rfl
@[simp] theorem x_or : eOr a b env h = (a env h).bnd fun x h1 => match x with | .bl false => b env h1 | .bl true => .ok (.bl true) h1 | _ => .bad := rfl
@[simp] theorem x_not : eNot a env h = (a env h).bnd fun x h1 => match x with | .bl b => .ok (.bl (!b)) h1 | _ => .bad := rfl
@[simp] theorem x_if : eIf t a b env h = (t env h).bnd fun x h1 => if x = true then a env h1 else b env h1 := rfl
@[simp] theorem x_tAnd : Mp.tAnd t t2 env h = (t env h).bnd fun x h1 => if x = true then t2 env h1 else .ok false h1 := rfl
@[simp] theorem x_tOr : Mp.tOr t t2 env h = (t env h).bnd fun x h1 => if x = true then .ok true h1 else t2 env h1 := rfl
@[simp] theorem x_tNot : Mp.tNot t env h = (t env h).bnd fun x h1 => .ok (!x) h1 := rfl
@[simp] theorem x_tTrue : tTrue env h = .ok true h := rfl
@[simp] theorem x_tup : eTup av env h = (av env h).bnd fun xs h1 => if xs.length ≤ sizeLine then .ok (.tup xs) h1 else .bad := rfl
@[simp] theorem x_lst (m : Bool) : eLst m av env h = (av env h).bnd fun xs h1 => if xs.length ≤ sizeLine then mk m xs h1 else .bad := rfl
@[simp] theorem x_chain (p q : Val → Val → Hh → R Val) (c : Ev) : eChain p q a b c env h = (a env h).bnd fun x h1 => (b env h1).bnd fun y h2 => (p x y h2).bnd fun z h3 => match z with
  | .bl true => (c env h3).bnd fun w h4 => q y w h4
  | .bl false => .ok (.bl false) h3
  | _ => .bad := rfl
@[simp] theorem x_meth (c : Val → Bool) (p : Val → List Val → Hh → R Val) : eMeth c p a av env h = (a env h).bnd fun x h1 => if c x = true then (av env h1).bnd fun xs h2 => p x xs h2 else .bad := rfl
@[simp] theorem x_meth0 (c : Val → Bool) (p : Val → List Val → Hh → R Val) : eMeth0 c p a env h = (a env h).bnd fun x h1 => if c x = true then p x [] h1 else .bad := rfl
@[simp] theorem x_sl (m : Bool) (l u : Pv) : eSl m a l u env h = (a env h).bnd fun x h1 => (l env h1).bnd fun i h2 => (u env h2).bnd fun j h3 => slP m x i j h3 := rfl
@[simp] theorem x_oN : oNone env h = .ok none h := rfl
@[simp] theorem x_oS : oSome a env h = (a env h).bnd fun x h1 => match x with | .int i => .ok (some i) h1 | _ => .bad := rfl
variable {s1 s2 : Sv} {g : Gv} {gr : List Val → Env → Hh → R Env}
@[simp] theorem x_next : sNext env h = .nx env h := rfl
@[simp] theorem x_seq : sSeq s1 s2 env h = (s1 env h).bnd s2 := rfl
@[simp] theorem x_set (i : Nat) : sSet i a env h = lift (a env h) env fun v h1 => .nx (env.set i (some v)) h1 := rfl
@[simp] theorem x_asg : sAsg g a env h = lift (a env h) env fun v h1 => lift (g v env h1) env fun env2 h2 => .nx env2 h2 := rfl
@[simp] theorem x_par (i j : Nat) : sPar i j a b env h = lift (a env h) env fun v h1 => lift (b env h1) env fun w h2 => .nx ((env.set i (some v)).set j (some w)) h2 := rfl
@[simp] theorem x_expr : sExpr a env h = lift (a env h) env fun _ h1 => .nx env h1 := rfl
@[simp] theorem x_ret : sRet a env h = lift (a env h) env fun v h1 => .rt v h1 := rfl
@[simp] theorem x_retN : sRetN env h = .rt .non h := rfl
@[simp] theorem x_brk : sBrk env h = .bk env h := rfl
@[simp] theorem x_cnt : sCnt env h = .ct env h := rfl
@[simp] theorem x_sif : sIf t s1 s2 env h = lift (t env h) env fun x h1 => if x = true then s1 env h1 else s2 env h1 := rfl
@[simp] theorem x_raise (c : Nat) : sRaise c env h = .exc ⟨c, []⟩ env h := rfl
@[simp] theorem x_gN (i : Nat) (v : Val) : gName i v env h = .ok (env.set i (some v)) h := rfl
@[simp] theorem x_gn0 : gNil [] env h = .ok env h := rfl
@[simp] theorem x_gc (v : Val) (vs : List Val) : gCons g gr (v :: vs) env h = (g v env h).bnd fun env1 h1 => gr vs env1 h1 := rfl
@[simp] theorem x_gt (l : List Val) : gTup gr (.tup l) env h = gr l env h := rfl
@[simp] theorem x_gs (o i : Ev) (v : Val) : gSub o i v env h = (o env h).bnd fun x h1 => (i env h1).bnd fun y h2 => (setP x y v h2).bnd fun _ h3 => .ok env h3 := rfl
theorem x_for (it : Iev) : sFor it g s1 env h = lift (it env h) env fun iv h1 => forL g s1 iv.chk iv.items env h1 := rfl
@[simp] theorem x_iSeq : iSeq a env h = (a env h).bnd fun v h1 => seqI v h1 := rfl
@[simp] theorem x_iR1 : iRng1 av env h = (av env h).bnd fun vs h1 => rng1I vs h1 := rfl
@[simp] theorem x_iR2 : iRng2 av env h = (av env h).bnd fun vs h1 => rng2I vs h1 := rfl
@[simp] theorem x_iEn : iEn av env h = (av env h).bnd fun vs h1 => enI vs h1 := rfl
@[simp] theorem x_iZp : iZp av env h = (av env h).bnd fun vs h1 => zipI vs h1 := rfl
@[simp] theorem x_try (L : List Nat) (hs : List (Nat × Sv)) : sTry L s1 hs env h = match s1 env h with
  | .exc x e h1 => catchL L hs x e h1
  | .nx e h1 => .nx e h1
  | .rt v h1 => .rt v h1
  | .bk e h1 => .bk e h1
  | .ct e h1 => .ct e h1
  | .bad => .bad := rfl
/-! ### a def run to its end -/
theorem run_rt {N : Nat} {b : Sv} {args : List Val} {v : Val} {h h1 : Hh} (e : b (args.map some ++ List.replicate (N - args.length) none) h = .rt v h1) (hv : v.bel h.length = true) (hh : h1.take h.length = h) : runFn N b args h = .ok v h := by
  unfold runFn
  rw [e]
  show finV h v h1 = _
  unfold finV Val.frz
  rw [if_pos hv, hh]
theorem run_rtH {N : Nat} {b : Sv} {args : List Val} {v : Val} {h h1 h2 : Hh} (e : b (args.map some ++ List.replicate (N - args.length) none) h = .rt v h1) (hv : v.bel h.length = true) (hh : h1.take h.length = h2) : runFn N b args h = .ok v h2 := by
  unfold runFn
  rw [e]
  show finV h v h1 = _
  unfold finV Val.frz
  rw [if_pos hv, hh]
theorem run_nx {N : Nat} {b : Sv} {args : List Val} {en : Env} {h h1 : Hh} (e : b (args.map some ++ List.replicate (N - args.length) none) h = .nx en h1) (hh : h1.take h.length = h) : runFn N b args h = .ok .non h := by
  unfold runFn
  rw [e]
  show finV h .non h1 = _
  unfold finV Val.frz
  rw [if_pos (by rfl), hh]
theorem run_exc {N : Nat} {b : Sv} {args : List Val} {x : Nat} {en : Env} {h h1 : Hh} (e : b (args.map some ++ List.replicate (N - args.length) none) h = .exc ⟨x, []⟩ en h1) (hh : h1.take h.length = h) : runFn N b args h = .exc ⟨x, []⟩ h := by
  unfold runFn
  rw [e]
  show finX h ⟨x, []⟩ h1 = _
  unfold finX
  rw [if_pos (by rfl), hh]
/-- values that lean on no list that may change -/
abbrev Val.pl (v : Val) : Prop := v.bel 0 = true
theorem Val.pl.bel {v : Val} (p : v.pl) (n : Nat) : v.bel n = true := bel_mono (Nat.zero_le n) v p
/-! ### loops without lists that change -/
theorem chk0 (h : Hh) : chkOk [] h := fun p q => nomatch q
theorem forL_nil (g : Gv) (b : Sv) (env : Env) (h : Hh) : forL g b [] [] env h = .nx env h := by
  unfold forL
  rw [if_pos (chk0 h)]
theorem forL_cons (g : Gv) (b : Sv) (v : Val) (r : List Val) (env : Env) (h : Hh) : forL g b [] (v :: r) env h = lift (g v env h) env fun env1 h1 => match b env1 h1 with
      | .nx e2 h2 => forL g b [] r e2 h2
      | .ct e2 h2 => forL g b [] r e2 h2
      | .bk e2 h2 => .nx e2 h2
      | .rt v h2 => .rt v h2
      | .exc x e2 h2 => .exc x e2 h2
      | .bad => .bad := by
  rw [forL, if_pos (chk0 h)]
  all_goals rfl
theorem compL_nil (tg : Gv) (tt : Tv) (el : Ev) (acc : List Val) (env : Env) (h : Hh) : compL tg tt el [] [] acc env h = .ok acc h := by
  unfold compL
  rw [if_pos (chk0 h)]
theorem compL_cons (tg : Gv) (tt : Tv) (el : Ev) (v : Val) (r acc : List Val) (env : Env) (h : Hh) : compL tg tt el [] (v :: r) acc env h = match tg v env h with
      | .ok env1 h1 => match tt env1 h1 with
        | .ok true h2 => match el env1 h2 with
          | .ok u h3 => if acc.length < sizeLine then compL tg tt el [] r (acc ++ [u]) env h3 else .bad
          | _ => .bad
        | .ok false h2 => compL tg tt el [] r acc env h2
        | _ => .bad
      | _ => .bad := by
  rw [compL, if_pos (chk0 h)]
  all_goals rfl
/-- every element by a plain function, no test -/
theorem comp_map {tg : Gv} {el : Ev} {env : Env} {h : Hh} {f : Val → Val} : ∀ (l acc : List Val), (∀ v ∈ l, ∃ e1, tg v env h = .ok e1 h ∧ el e1 h = .ok (f v) h) → acc.length + l.length ≤ sizeLine → compL tg tTrue el [] l acc env h = .ok (acc ++ l.map f) h
  | [], acc, _, _ => by rw [compL_nil, List.map_nil, List.append_nil]
  | v :: l, acc, hp, hz => by
    obtain ⟨e1, a, b⟩ := hp v List.mem_cons_self
    rw [List.length_cons] at hz
    rw [compL_cons, a]
    show (match el e1 h with
          | .ok u h3 => if acc.length < sizeLine then compL tg tTrue el [] l (acc ++ [u]) env h3 else .bad
          | _ => .bad) = _
    rw [b]
    show (if acc.length < sizeLine then compL tg tTrue el [] l (acc ++ [f v]) env h else .bad) = _
    rw [if_pos (by omega), comp_map l (acc ++ [f v]) (fun w hw => hp w (List.mem_cons_of_mem _ hw)) (by rw [List.length_append, List.length_singleton]; omega), List.append_assoc]
    rfl
theorem x_comp {own : List Nat} {it : Iev} {tg : Gv} {tt : Tv} {el : Ev} {env : Env} {h h1 h2 : Hh} {iv : Iv} {r : List Val} (e1 : it env h = .ok iv h1) (e2 : compL tg tt el iv.chk iv.items [] (wipeE env own) h1 = .ok r h2) : eComp false own it tg tt el env h = .ok (.lst r) h2 := by
  unfold eComp
  rw [e1]
  show (match compL tg tt el iv.chk iv.items [] (wipeE env own) h1 with | .ok acc h2 => mk false acc h2 | _ => .bad) = _
  rw [e2]
  rfl
end Mp

set_option Elab.async false
set_option linter.all false
set_option maxRecDepth 100000
namespace Mp
open PySem
def Val.isInt : Val → Bool
  | .int _ => true
  | .non => false
  | .bl _ => false
  | .str _ => false
  | .tup _ => false
  | .lst _ => false
  | .fz _ => false
  | .ref _ => false
  | .ty _ => false
@[simp] theorem isInt_non : Val.non.isInt = false := by unfold Val.isInt; exact rfl
@[simp] theorem isInt_bl (b : Bool) : (Val.bl b).isInt = false := by unfold Val.isInt; exact rfl
@[simp] theorem isInt_int (b : Int) : (Val.int b).isInt = true := by unfold Val.isInt; exact rfl
@[simp] theorem isInt_str (b : Str) : (Val.str b).isInt = false := by unfold Val.isInt; exact rfl
@[simp] theorem isInt_tup (b : List Val) : (Val.tup b).isInt = false := by unfold Val.isInt; exact rfl
@[simp] theorem isInt_lst (b : List Val) : (Val.lst b).isInt = false := by unfold Val.isInt; exact rfl
@[simp] theorem isInt_fz (b : List Val) : (Val.fz b).isInt = false := by unfold Val.isInt; exact rfl
@[simp] theorem isInt_ref (b : Nat) : (Val.ref b).isInt = false := by unfold Val.isInt; exact rfl
@[simp] theorem isInt_ty (b : Mp.Ty) : (Val.ty b).isInt = false := by unfold Val.isInt; exact rfl
def Val.isNum : Val → Bool
  | .int i => decide (0 ≤ i)
  | .non => false
  | .bl _ => false
  | .str _ => false
  | .tup _ => false
  | .lst _ => false
  | .fz _ => false
  | .ref _ => false
  | .ty _ => false
@[simp] theorem isNum_non : Val.non.isNum = false := by unfold Val.isNum; exact rfl
@[simp] theorem isNum_bl (b : Bool) : (Val.bl b).isNum = false := by unfold Val.isNum; exact rfl
@[simp] theorem isNum_int (b : Int) : (Val.int b).isNum = decide (0 ≤ b) := by unfold Val.isNum; exact rfl
@[simp] theorem isNum_str (b : Str) : (Val.str b).isNum = false := by unfold Val.isNum; exact rfl
@[simp] theorem isNum_tup (b : List Val) : (Val.tup b).isNum = false := by unfold Val.isNum; exact rfl
@[simp] theorem isNum_lst (b : List Val) : (Val.lst b).isNum = false := by unfold Val.isNum; exact rfl
@[simp] theorem isNum_fz (b : List Val) : (Val.fz b).isNum = false := by unfold Val.isNum; exact rfl
@[simp] theorem isNum_ref (b : Nat) : (Val.ref b).isNum = false := by unfold Val.isNum; exact rfl
@[simp] theorem isNum_ty (b : Mp.Ty) : (Val.ty b).isNum = false := by unfold Val.isNum; exact rfl
def Val.isIn (lo hi : Int) : Val → Bool
  | .int i => decide (lo ≤ i) && decide (i ≤ hi)
  | .non => false
  | .bl _ => false
  | .str _ => false
  | .tup _ => false
  | .lst _ => false
  | .fz _ => false
  | .ref _ => false
  | .ty _ => false
@[simp] theorem isIn_non (lo hi : Int) : Val.isIn lo hi Val.non = false := by unfold Val.isIn; exact rfl
@[simp] theorem isIn_bl (lo hi : Int) (b : Bool) : Val.isIn lo hi (Val.bl b) = false := by unfold Val.isIn; exact rfl
@[simp] theorem isIn_int (lo hi : Int) (b : Int) : Val.isIn lo hi (Val.int b) = (decide (lo ≤ b) && decide (b ≤ hi)) := by unfold Val.isIn; exact rfl
@[simp] theorem isIn_str (lo hi : Int) (b : Str) : Val.isIn lo hi (Val.str b) = false := by unfold Val.isIn; exact rfl
@[simp] theorem isIn_tup (lo hi : Int) (b : List Val) : Val.isIn lo hi (Val.tup b) = false := by unfold Val.isIn; exact rfl
@[simp] theorem isIn_lst (lo hi : Int) (b : List Val) : Val.isIn lo hi (Val.lst b) = false := by unfold Val.isIn; exact rfl
@[simp] theorem isIn_fz (lo hi : Int) (b : List Val) : Val.isIn lo hi (Val.fz b) = false := by unfold Val.isIn; exact rfl
@[simp] theorem isIn_ref (lo hi : Int) (b : Nat) : Val.isIn lo hi (Val.ref b) = false := by unfold Val.isIn; exact rfl
@[simp] theorem isIn_ty (lo hi : Int) (b : Mp.Ty) : Val.isIn lo hi (Val.ty b) = false := by unfold Val.isIn; exact rfl
def Val.sized (lo hi : Int) : Val → Bool
  | .tup l => decide (lo ≤ (l.length : Int)) && decide ((l.length : Int) ≤ hi)
  | .non => false
  | .bl _ => false
  | .int _ => false
  | .str _ => false
  | .lst _ => false
  | .fz _ => false
  | .ref _ => false
  | .ty _ => false
@[simp] theorem sized_non (lo hi : Int) : Val.sized lo hi Val.non = false := by unfold Val.sized; exact rfl
@[simp] theorem sized_bl (lo hi : Int) (b : Bool) : Val.sized lo hi (Val.bl b) = false := by unfold Val.sized; exact rfl
@[simp] theorem sized_int (lo hi : Int) (b : Int) : Val.sized lo hi (Val.int b) = false := by unfold Val.sized; exact rfl
@[simp] theorem sized_str (lo hi : Int) (b : Str) : Val.sized lo hi (Val.str b) = false := by unfold Val.sized; exact rfl
@[simp] theorem sized_tup (lo hi : Int) (b : List Val) : Val.sized lo hi (Val.tup b) = (decide (lo ≤ (b.length : Int)) && decide ((b.length : Int) ≤ hi)) := by unfold Val.sized; exact rfl
@[simp] theorem sized_lst (lo hi : Int) (b : List Val) : Val.sized lo hi (Val.lst b) = false := by unfold Val.sized; exact rfl
@[simp] theorem sized_fz (lo hi : Int) (b : List Val) : Val.sized lo hi (Val.fz b) = false := by unfold Val.sized; exact rfl
@[simp] theorem sized_ref (lo hi : Int) (b : Nat) : Val.sized lo hi (Val.ref b) = false := by unfold Val.sized; exact rfl
@[simp] theorem sized_ty (lo hi : Int) (b : Mp.Ty) : Val.sized lo hi (Val.ty b) = false := by unfold Val.sized; exact rfl
/-- no type -/
def Val.thing : Val → Bool
  | .ty _ => false
  | .non => true
  | .bl _ => true
  | .int _ => true
  | .str _ => true
  | .tup _ => true
  | .lst _ => true
  | .fz _ => true
  | .ref _ => true
@[simp] theorem thing_non : Val.non.thing = true := by unfold Val.thing; exact rfl
@[simp] theorem thing_bl (b : Bool) : (Val.bl b).thing = true := by unfold Val.thing; exact rfl
@[simp] theorem thing_int (b : Int) : (Val.int b).thing = true := by unfold Val.thing; exact rfl
@[simp] theorem thing_str (b : Str) : (Val.str b).thing = true := by unfold Val.thing; exact rfl
@[simp] theorem thing_tup (b : List Val) : (Val.tup b).thing = true := by unfold Val.thing; exact rfl
@[simp] theorem thing_lst (b : List Val) : (Val.lst b).thing = true := by unfold Val.thing; exact rfl
@[simp] theorem thing_fz (b : List Val) : (Val.fz b).thing = true := by unfold Val.thing; exact rfl
@[simp] theorem thing_ref (b : Nat) : (Val.ref b).thing = true := by unfold Val.thing; exact rfl
@[simp] theorem thing_ty (b : Mp.Ty) : (Val.ty b).thing = false := by unfold Val.thing; exact rfl
def Val.isAmt : Val → Bool
  | .non => true
  | .int i => decide (0 ≤ i)
  | .bl _ => false
  | .str _ => false
  | .tup _ => false
  | .lst _ => false
  | .fz _ => false
  | .ref _ => false
  | .ty _ => false
@[simp] theorem isAmt_non : Val.non.isAmt = true := by unfold Val.isAmt; exact rfl
@[simp] theorem isAmt_bl (b : Bool) : (Val.bl b).isAmt = false := by unfold Val.isAmt; exact rfl
@[simp] theorem isAmt_int (b : Int) : (Val.int b).isAmt = decide (0 ≤ b) := by unfold Val.isAmt; exact rfl
@[simp] theorem isAmt_str (b : Str) : (Val.str b).isAmt = false := by unfold Val.isAmt; exact rfl
@[simp] theorem isAmt_tup (b : List Val) : (Val.tup b).isAmt = false := by unfold Val.isAmt; exact rfl
@[simp] theorem isAmt_lst (b : List Val) : (Val.lst b).isAmt = false := by unfold Val.isAmt; exact rfl
@[simp] theorem isAmt_fz (b : List Val) : (Val.fz b).isAmt = false := by unfold Val.isAmt; exact rfl
@[simp] theorem isAmt_ref (b : Nat) : (Val.ref b).isAmt = false := by unfold Val.isAmt; exact rfl
@[simp] theorem isAmt_ty (b : Mp.Ty) : (Val.ty b).isAmt = false := by unfold Val.isAmt; exact rfl
@[simp] def plcL : List Val → Bool
  | [a, b] => a.isAmt && (b.isNum && (match a with | .non => (match b with | .int j => decide (j = 0) | _ => false) | _ => true))
  | _ => false
def Val.isPlc : Val → Bool
  | .tup l => plcL l
  | .non => false
  | .bl _ => false
  | .int _ => false
  | .str _ => false
  | .lst _ => false
  | .fz _ => false
  | .ref _ => false
  | .ty _ => false
@[simp] theorem isPlc_non : Val.non.isPlc = false := by unfold Val.isPlc; exact rfl
@[simp] theorem isPlc_bl (b : Bool) : (Val.bl b).isPlc = false := by unfold Val.isPlc; exact rfl
@[simp] theorem isPlc_int (b : Int) : (Val.int b).isPlc = false := by unfold Val.isPlc; exact rfl
@[simp] theorem isPlc_str (b : Str) : (Val.str b).isPlc = false := by unfold Val.isPlc; exact rfl
@[simp] theorem isPlc_tup (b : List Val) : (Val.tup b).isPlc = plcL b := by unfold Val.isPlc; exact rfl
@[simp] theorem isPlc_lst (b : List Val) : (Val.lst b).isPlc = false := by unfold Val.isPlc; exact rfl
@[simp] theorem isPlc_fz (b : List Val) : (Val.fz b).isPlc = false := by unfold Val.isPlc; exact rfl
@[simp] theorem isPlc_ref (b : Nat) : (Val.ref b).isPlc = false := by unfold Val.isPlc; exact rfl
@[simp] theorem isPlc_ty (b : Mp.Ty) : (Val.ty b).isPlc = false := by unfold Val.isPlc; exact rfl
mutual
/-- no type anywhere -/
def Val.data : Val → Bool
  | .tup l => dataL l
  | .lst l => dataL l
  | .fz l => dataL l
  | .ty _ => false
  | .non => true
  | .bl _ => true
  | .int _ => true
  | .str _ => true
  | .ref _ => true
def dataL : List Val → Bool
  | [] => true
  | v :: l => v.data && dataL l
end
theorem dataL_all : ∀ {l : List Val}, dataL l = true ↔ ∀ v ∈ l, v.data = true
  | [] => by simp [dataL]
  | v :: l => by rw [dataL, Bool.and_eq_true, dataL_all]; simp
theorem data_thing {v : Val} (h : v.data = true) : v.thing = true := by
  cases v with
  | ty t => unfold Val.data at h; cases h
  | _ => unfold Val.thing; exact rfl
theorem data_tup {l : List Val} (h : (Val.tup l).data = true) : ∀ v ∈ l, v.data = true := by unfold Val.data at h; exact dataL_all.mp h
section
open PyProof.Rows
variable {h : Hh}
theorem shp_int (i : Int) : SeqAt.shaped (.int i) = true := by simp [SeqAt.shaped, PyData.canLay0, PyData.depth]
theorem shp_bool (i : Bool) : SeqAt.shaped (.bool i) = true := by simp [SeqAt.shaped, PyData.canLay0, PyData.depth]
theorem shp_none : SeqAt.shaped .none = true := by simp [SeqAt.shaped, PyData.canLay0, PyData.depth]
@[simp] theorem eq_int (a b : Int) : eqP (.int a) (.int b) h = .ok (.bl (decide (a = b))) h := by
  simp [eqP, pdOf, Val.pd, shp_int, PyData.eqv]
  exact Bool.eq_iff_iff.mpr (by simp)
@[simp] theorem ne_int (a b : Int) : neP (.int a) (.int b) h = .ok (.bl (!decide (a = b))) h := by
  simp [neP, pdOf, Val.pd, shp_int, PyData.eqv]
  exact Bool.eq_iff_iff.mpr (by simp)
@[simp] theorem eq_bl (a b : Bool) : eqP (.bl a) (.bl b) h = .ok (.bl (decide (a = b))) h := by
  simp [eqP, pdOf, Val.pd, shp_bool, PyData.eqv]
  cases a <;> cases b <;> rfl
@[simp] theorem ne_bl (a b : Bool) : neP (.bl a) (.bl b) h = .ok (.bl (!decide (a = b))) h := by
  simp [neP, pdOf, Val.pd, shp_bool, PyData.eqv]
  cases a <;> cases b <;> rfl
@[simp] theorem eq_nn : eqP .non .non h = .ok (.bl true) h := by
  simp [eqP, pdOf, Val.pd, shp_none, PyData.eqv]
@[simp] theorem ne_nn : neP .non .non h = .ok (.bl false) h := by
  simp [neP, pdOf, Val.pd, shp_none, PyData.eqv]
@[simp] theorem eq_ni (a : Int) : eqP .non (.int a) h = .ok (.bl false) h := by
  simp [eqP, pdOf, Val.pd, shp_none, shp_int, PyData.eqv]
@[simp] theorem ne_ni (a : Int) : neP .non (.int a) h = .ok (.bl true) h := by
  simp [neP, pdOf, Val.pd, shp_none, shp_int, PyData.eqv]
@[simp] theorem eq_in (a : Int) : eqP (.int a) .non h = .ok (.bl false) h := by
  simp [eqP, pdOf, Val.pd, shp_none, shp_int, PyData.eqv]
@[simp] theorem ne_in (a : Int) : neP (.int a) .non h = .ok (.bl true) h := by
  simp [neP, pdOf, Val.pd, shp_none, shp_int, PyData.eqv]
/-- arithmetic -/
@[simp] theorem add_int (m : Bool) (a b : Int) : addP m (.int a) (.int b) h = .ok (.int (a + b)) h := rfl
@[simp] theorem sub_int (a b : Int) : subP (.int a) (.int b) h = .ok (.int (a - b)) h := rfl
theorem mul_sm {m : Bool} {a b : Int} (q : -(2 ^ 64) < b ∧ b < 2 ^ 64) : mulP m (.int a) (.int b) h = .ok (.int (a * b)) h := if_pos (.inr (.inl q))
theorem mul_sm' {m : Bool} {a b : Int} (q : -(2 ^ 64) < a ∧ a < 2 ^ 64) : mulP m (.int a) (.int b) h = .ok (.int (a * b)) h := if_pos (.inl q)
theorem log_sm {b : Int} (q : b < 2 ^ 64) (q0 : 0 < b) : b.natAbs.log2 < 9000 := by
  have : b.natAbs < 2 ^ 64 := by omega
  exact Nat.lt_trans ((Nat.log2_lt (by omega)).mpr this) (by decide)
theorem div_sm {a b : Int} (q0 : 0 < b) (q : b < 2 ^ 64) : divP (.int a) (.int b) h = .ok (.int (a / b)) h := if_pos ⟨q0, log_sm q q0⟩
theorem mod_sm {a b : Int} (q0 : 0 < b) : modP (.int a) (.int b) h = .ok (.int (a % b)) h := if_pos q0
@[simp] theorem lt_int (a b : Int) : ltP (.int a) (.int b) h = .ok (.bl (decide (a < b))) h := rfl
@[simp] theorem le_int (a b : Int) : leP (.int a) (.int b) h = .ok (.bl (decide (a ≤ b))) h := rfl
@[simp] theorem gt_int (a b : Int) : gtP (.int a) (.int b) h = .ok (.bl (decide (b < a))) h := rfl
@[simp] theorem ge_int' (a b : Int) : geP (.int a) (.int b) h = .ok (.bl (decide (b ≤ a))) h := rfl
@[simp] theorem len_tup (l : List Val) : lenP [.tup l] h = .ok (.int l.length) h := rfl
@[simp] theorem len_lst (l : List Val) : lenP [.lst l] h = .ok (.int l.length) h := rfl
@[simp] theorem isN_non : isNP .non .non h = .ok (.bl true) h := rfl
@[simp] theorem isN_int (i : Int) : isNP (.int i) .non h = .ok (.bl false) h := rfl
@[simp] theorem notN_non : notNP .non .non h = .ok (.bl false) h := rfl
@[simp] theorem notN_int (i : Int) : notNP (.int i) .non h = .ok (.bl true) h := rfl
theorem ix_tup {l : List Val} {i : Nat} {v : Val} (q : l[i]? = some v) : ixP (.tup l) (.int i) h = .ok v h := by
  unfold ixP
  dsimp only
  rw [L2.atI_nat q]
theorem ix_lst {l : List Val} {i : Nat} {v : Val} (q : l[i]? = some v) : ixP (.lst l) (.int i) h = .ok v h := by
  unfold ixP
  dsimp only [lsq]
  rw [L2.atI_nat q]
@[simp] theorem ix_t0 (a : Val) (l : List Val) : ixP (.tup (a :: l)) (.int 0) h = .ok a h := ix_tup (i := 0) rfl
@[simp] theorem ix_t1 (a b : Val) (l : List Val) : ixP (.tup (a :: b :: l)) (.int 1) h = .ok b h := ix_tup (i := 1) rfl
theorem all_map {α : Type} {l : List α} {p : α → Bool} : allP [.lst (l.map fun v => .bl (p v))] h = .ok (.bl (l.all p)) h := by
  unfold allP
  dsimp only [lsq]
  rw [show (l.map fun v => Val.bl (p v)) = (l.map p).map Val.bl by rw [List.map_map]; rfl, blsOf_map]
  dsimp only
  rw [List.all_map]
  rfl
end
theorem sz_le {n : Nat} (h : n ≤ 1000000) : n ≤ sizeLine := Nat.le_trans h (by rw [sizeLine_eq]; decide)
def tabL : List Val → Bool
  | [.tup a, .tup b] => decide (a.length ≤ 1000) && (decide (1 ≤ b.length) && (decide (b.length ≤ 120) && (a.all Val.isAmt && b.all Val.isPlc)))
  | _ => false
def Val.isTab : Val → Bool
  | .tup l => tabL l
  | _ => false
/-- a loop that looks for the first item with q and returns there -/
theorem forL_find {g : Gv} {b : Sv} {h : Hh} (I : Env → Prop) (q : Val → Bool) (f : Val → Val) : ∀ (items : List Val) (env : Env), (∀ v ∈ items, ∀ e, I e → ∃ e1, g v e h = .ok e1 h ∧ ((q v = true ∧ b e1 h = .rt (f v) h) ∨ (q v = false ∧ ∃ e2, I e2 ∧ b e1 h = .nx e2 h))) → I env →
    match items.find? q with
    | some v => forL g b [] items env h = .rt (f v) h
    | none => ∃ e2, I e2 ∧ forL g b [] items env h = .nx e2 h
  | [], env, _, hI => by
    rw [List.find?_nil]
    exact ⟨env, hI, forL_nil _ _ _ _⟩
  | v :: l, env, hs, hI => by
    obtain ⟨e1, h1, h2⟩ := hs v List.mem_cons_self env hI
    rw [forL_cons, h1, lift_ok]
    rcases h2 with ⟨qv, h2⟩ | ⟨qv, e2, hI2, h2⟩
    · rw [List.find?_cons_of_pos qv, h2]
    · rw [List.find?_cons_of_neg (by rw [qv]; decide), h2]
      exact forL_find I q f l e2 (fun w hw => hs w (List.mem_cons_of_mem _ hw)) hI2
theorem for_find {g : Gv} {b : Sv} {h : Hh} (I : Env → Prop) (q : Val → Bool) (f : Val → Val) {it : Iev} {items : List Val} {env : Env} (e0 : it env h = .ok ⟨items, []⟩ h) (hs : ∀ v ∈ items, ∀ e, I e → ∃ e1, g v e h = .ok e1 h ∧ ((q v = true ∧ b e1 h = .rt (f v) h) ∨ (q v = false ∧ ∃ e2, I e2 ∧ b e1 h = .nx e2 h))) (hI : I env) :
    match items.find? q with
    | some v => sFor it g b env h = .rt (f v) h
    | none => ∃ e2, I e2 ∧ sFor it g b env h = .nx e2 h := by
  have z := forL_find I q f items env hs hI
  rw [x_for, e0, lift_ok]
  exact z
theorem mem_rangeV {lo hi : Int} {v : Val} (h : v ∈ rangeV lo hi) : ∃ i : Int, lo ≤ i ∧ i < hi ∧ v = .int i := by
  obtain ⟨i, h1, rfl⟩ := List.mem_map.mp h
  rw [List.mem_range] at h1
  exact ⟨_, by omega, by omega, rfl⟩
theorem rng2 {a b : Int} {h : Hh} (h1 : -1000000 ≤ a) (h2 : a ≤ 2 ^ 61) (h3 : -1000000 ≤ b) (h4 : b ≤ 2 ^ 61) : rng2I [.int a, .int b] h = .ok ⟨rangeV a b, []⟩ h := if_pos ⟨by omega, by omega, by omega, by omega⟩
theorem rng1 {b : Int} {h : Hh} (h3 : -1000000 ≤ b) (h4 : b ≤ 2 ^ 61) : rng1I [.int b] h = .ok ⟨rangeV 0 b, []⟩ h := if_pos ⟨by omega, by omega⟩
end Mp

set_option Elab.async false
set_option linter.all false
set_option maxRecDepth 100000
/-! ### least forms, in plain Lean -/
namespace Frm
abbrev P := Option Int × Int
def get (t : List P) (i : Nat) : P := t.getD i (none, 0)
/-- the amount at k of a round, walked on and on -/
def at' (t : List P) (k : Nat) : Option Int := (get t (k % t.length)).1.map fun a => a + ((k / t.length : Nat) : Int) * (get t (k % t.length)).2
def ris (t : List P) (k : Nat) : Int := (get t (k % t.length)).2
/-- a pair that stands at i ahead of one that stands at j, in a round of L -/
def tie (L m : Nat) (i : Nat) (p q : P) : Bool := decide (p.2 = q.2) && match p.1, q.1 with
  | none, none => true
  | some a, some b => decide ((b - a) * (L : Int) = p.2 * ((i : Int) - ((i % m : Nat) : Int)))
  | _, _ => false
def isRound (t : List P) (m : Nat) : Bool := ((List.range' m (t.length - m)).all fun i => tie t.length m i (get t (i % m)) (get t i))
/-- Nones rise by 0 -/
def Zr (t : List P) : Prop := ∀ p ∈ t, p.1 = none → p.2 = 0
def rel (L : Nat) (m : Int) (x y : Option Int) (r : Int) : Prop := match x, y with
  | none, none => True
  | some a, some b => (b - a) * (L : Int) = r * m
  | _, _ => False
/-- comes again after m -/
def Per (t : List P) (m : Nat) : Prop := ∀ k, ris t (k + m) = ris t k ∧ rel t.length m (at' t k) (at' t (k + m)) (ris t k)
theorem at_lt {t : List P} {i : Nat} (h : i < t.length) : at' t i = (get t i).1 := by
  unfold at'
  rw [Nat.mod_eq_of_lt h, Nat.div_eq_of_lt h]
  cases (get t i).1 <;> simp
theorem ris_lt {t : List P} {i : Nat} (h : i < t.length) : ris t i = (get t i).2 := by unfold ris; rw [Nat.mod_eq_of_lt h]
theorem rel_mul {L m : Nat} {t : List P} (h : Per t m) (k q : Nat) (e : L = t.length) : ris t (k + q * m) = ris t k ∧ rel L ((q : Int) * m) (at' t k) (at' t (k + q * m)) (ris t k) := by
  subst e
  induction q with
  | zero =>
    rw [Nat.zero_mul, Nat.add_zero]
    refine ⟨rfl, ?_⟩
    unfold rel
    cases at' t k <;> simp
  | succ q ih =>
    obtain ⟨h1, h2⟩ := ih
    obtain ⟨h3, h4⟩ := h (k + q * m)
    rw [show k + (q + 1) * m = k + q * m + m by rw [Nat.add_mul, Nat.one_mul]; omega]
    refine ⟨h3.trans h1, ?_⟩
    rw [h1] at h4
    unfold rel at h2 h4 ⊢
    cases e1 : at' t k with
    | none =>
      rw [e1] at h2
      cases e2 : at' t (k + q * m) with
      | none =>
        rw [e2] at h4
        cases e3 : at' t (k + q * m + m) with
        | none => trivial
        | some c => rw [e3] at h4; exact h4.elim
      | some b => rw [e2] at h2; exact h2.elim
    | some a =>
      rw [e1] at h2
      cases e2 : at' t (k + q * m) with
      | none => rw [e2] at h2; exact h2.elim
      | some b =>
        rw [e2] at h2 h4
        cases e3 : at' t (k + q * m + m) with
        | none => rw [e3] at h4; exact h4
        | some c =>
          rw [e3] at h4
          dsimp only at h2 h4 ⊢
          rw [show c - a = (c - b) + (b - a) by omega, Int.add_mul, h2, h4, Int.natCast_add, Int.add_mul, Int.mul_add, show ((1 : Nat) : Int) * (m : Int) = m by simp]
          exact Int.add_comm _ _
/-- the round comes again after m where is_round says so -/
theorem per_of {t : List P} {m : Nat} (hm : 1 ≤ m) (hd : m ∣ t.length) (hl : 1 ≤ t.length) (h : isRound t m = true) : Per t m := by
  have ht : ∀ i, i < t.length → tie t.length m i (get t (i % m)) (get t i) = true := fun i hi => by
    by_cases q : i < m
    · rw [Nat.mod_eq_of_lt q]
      unfold tie
      rw [Nat.mod_eq_of_lt q]
      cases (get t i).1 <;> simp
    · exact List.all_eq_true.mp h i (by rw [List.mem_range']; exact ⟨i - m, by omega, by omega⟩)
  intro k
  have hi : k % t.length < t.length := Nat.mod_lt _ (by omega)
  obtain ⟨c, hc⟩ := hd
  have hmle : m ≤ t.length := Nat.le_of_dvd (by omega) ⟨c, hc⟩
  unfold ris at' rel
  have t1 := ht _ hi
  have keyI : ∃ j s : Nat, (k + m) % t.length = j ∧ (k + m) / t.length = k / t.length + s ∧ j % m = (k % t.length) % m ∧ j < t.length ∧ (j : Int) + (s : Int) * (t.length : Int) = (k % t.length : Nat) + (m : Int) := by
    have hk := Nat.div_add_mod k t.length
    by_cases q : k % t.length + m < t.length
    · refine ⟨k % t.length + m, 0, ?_, ?_, by rw [Nat.add_mod_right], q, by push_cast; omega⟩
      · rw [← Nat.mod_add_mod, Nat.mod_eq_of_lt q]
      · rw [show k + m = (k % t.length + m) + t.length * (k / t.length) by omega, Nat.add_mul_div_left _ _ (by omega), Nat.div_eq_of_lt q]; omega
    · refine ⟨k % t.length + m - t.length, 1, ?_, ?_, ?_, by omega, by omega⟩
      · rw [← Nat.mod_add_mod, Nat.mod_eq_sub_mod (by omega), Nat.mod_eq_of_lt (by omega)]
      · rw [show k + m = (k % t.length + m - t.length) + t.length * (k / t.length + 1) by rw [Nat.mul_add, Nat.mul_one]; omega, Nat.add_mul_div_left _ _ (by omega), Nat.div_eq_of_lt (by omega)]; omega
      · have : k % t.length + m - t.length + m * c = k % t.length + m := by omega
        have e := congrArg (· % m) this
        simp only [Nat.add_mul_mod_self_left, Nat.add_mod_right] at e
        exact e
  obtain ⟨j, s, e1, e2, e3, hj, e4⟩ := keyI
  rw [e1, e2]
  have t2 := ht j hj
  rw [e3] at t2
  generalize hI : k % t.length = i at *
  generalize hF : get t (i % m) = f at *
  generalize get t i = p at *
  generalize get t j = q at *
  generalize k / t.length = d at *
  obtain ⟨f1, f2⟩ := f
  obtain ⟨p1, p2⟩ := p
  obtain ⟨q1, q2⟩ := q
  unfold tie at t1 t2
  simp only [Bool.and_eq_true, decide_eq_true_eq] at t1 t2
  obtain ⟨a1, b1⟩ := t1
  obtain ⟨a2, b2⟩ := t2
  subst a1 a2
  refine ⟨rfl, ?_⟩
  cases f1 <;> cases p1 <;> cases q1 <;> simp at b1 b2 ⊢
  rename_i f a b
  have e3' : (j : Int) % (m : Int) = (i : Int) % (m : Int) := by
    have z := congrArg (fun n : Nat => (n : Int)) e3
    simpa using z
  rw [e3'] at b2
  have x : (b - a) * (t.length : Int) = f2 * ((j : Int) - (i : Int)) := by
    rw [show b - a = (b - f) - (a - f) by omega, Int.sub_mul, b1, b2, ← Int.mul_sub]
    congr 1
    omega
  rw [show b + ((d : Int) + (s : Int)) * f2 - (a + (d : Int) * f2) = (b - a) + (s : Int) * f2 by rw [Int.add_mul]; omega, Int.add_mul, x, show (m : Int) = (j : Int) - (i : Int) + (s : Int) * (t.length : Int) by omega, Int.mul_add, Int.mul_left_comm f2, ← Int.mul_assoc]
/-- .. and says so where it does -/
theorem round_of {t : List P} {m : Nat} (hm : 1 ≤ m) (h : Per t m) : isRound t m = true := by
  refine List.all_eq_true.mpr fun i hi => ?_
  rw [List.mem_range'] at hi
  obtain ⟨x, hx, rfl⟩ := hi
  have hi : m + 1 * x < t.length := by omega
  generalize m + 1 * x = i at hi
  have e := Nat.div_add_mod i m
  obtain ⟨h1, h2⟩ := rel_mul (L := t.length) h (i % m) (i / m) rfl
  have e' : i % m + i / m * m = i := by rw [Nat.mul_comm]; omega
  have hlt : i % m < t.length := Nat.lt_of_le_of_lt (Nat.mod_le _ _) hi
  rw [e', ris_lt hi, ris_lt hlt] at h1
  rw [e', at_lt hi, at_lt hlt, ris_lt hlt] at h2
  have e3 : ((i / m : Nat) : Int) * (m : Int) = (i : Int) - ((i % m : Nat) : Int) := by
    have : i / m * m + i % m = i := by rw [Nat.mul_comm]; exact e
    have e4 : ((i / m * m + i % m : Nat) : Int) = (i : Int) := by rw [this]
    rw [Int.natCast_add, Int.natCast_mul] at e4
    omega
  rw [e3] at h2
  unfold tie
  simp only [Bool.and_eq_true, decide_eq_true_eq]
  refine ⟨h1.symm, ?_⟩
  unfold rel at h2
  generalize get t (i % m) = p at *
  generalize get t i = q at *
  obtain ⟨x, rx⟩ := p
  obtain ⟨y, ry⟩ := q
  cases x <;> cases y <;> simp_all
end Frm

set_option Elab.async false
set_option linter.all false
set_option maxRecDepth 100000
namespace Frm
/-! ### the least round -/
def thin (t : List P) (m : Nat) : List P := (t.take m).map fun p => (p.1, p.2 * (m : Int) / (t.length : Int))
theorem thin_len {t : List P} {m : Nat} (h : m ≤ t.length) : (thin t m).length = m := by unfold thin; rw [List.length_map, List.length_take]; omega
theorem get_mem {t : List P} {i : Nat} (h : i < t.length) : get t i ∈ t := by
  unfold get
  rw [List.getD_eq_getElem?_getD, List.getElem?_eq_getElem h]
  exact List.getElem_mem h
theorem thin_get {t : List P} {m i : Nat} (h : m ≤ t.length) (hi : i < m) : get (thin t m) i = ((get t i).1, (get t i).2 * (m : Int) / (t.length : Int)) := by
  have hl : i < t.length := by omega
  unfold get thin
  rw [List.getD_eq_getElem?_getD, List.getD_eq_getElem?_getD, List.getElem?_map, List.getElem?_take_of_lt hi, List.getElem?_eq_getElem hl]
  rfl
theorem exact_of {t : List P} {m : Nat} (h : Per t m) (hz : Zr t) {i : Nat} (hi : i < t.length) : (get t i).2 * (m : Int) / (t.length : Int) * (t.length : Int) = (get t i).2 * (m : Int) := by
  obtain ⟨h1, h2⟩ := h i
  rw [at_lt hi, ris_lt hi] at h2
  have zz := hz _ (get_mem hi)
  generalize get t i = p at *
  obtain ⟨a, r⟩ := p
  cases a with
  | none =>
    have : r = 0 := zz rfl
    subst this
    simp
  | some a =>
    unfold rel at h2
    cases e : at' t (i + m) with
    | none => rw [e] at h2; exact h2.elim
    | some b =>
      rw [e] at h2
      dsimp only at h2 ⊢
      rw [← h2, Int.mul_ediv_cancel _ (by omega)]
theorem cancel {a b : Int} {L : Nat} (hL : 1 ≤ L) (h : a * (L : Int) = b * (L : Int)) : a = b := Int.eq_of_mul_eq_mul_right (by omega) h
theorem thin_at {t : List P} {m : Nat} (hm : 1 ≤ m) (hle : m ≤ t.length) (h : Per t m) (hz : Zr t) (k : Nat) : at' (thin t m) k = at' t k := by
  have hk : k % m < m := Nat.mod_lt _ (by omega)
  obtain ⟨h1, h2⟩ := rel_mul (L := t.length) h (k % m) (k / m) rfl
  have ek : k % m + k / m * m = k := by rw [Nat.mul_comm]; exact Nat.mod_add_div k m
  rw [ek, at_lt (by omega), ris_lt (by omega)] at h2
  have ex := exact_of h hz (i := k % m) (by omega)
  conv => lhs; unfold at'
  rw [thin_len hle, thin_get hle hk]
  generalize get t (k % m) = p at *
  obtain ⟨a, r⟩ := p
  unfold rel at h2
  cases a with
  | none =>
    cases e : at' t k with
    | none => rfl
    | some b => rw [e] at h2; exact h2.elim
  | some a =>
    cases e : at' t k with
    | none => rw [e] at h2; exact h2.elim
    | some b =>
      rw [e] at h2
      dsimp only at h2 ex ⊢
      rw [Option.map_some]
      refine congrArg some (cancel (L := t.length) (by omega) ?_)
      have : (b - a) * (t.length : Int) = ((k / m : Nat) : Int) * (r * (m : Int) / (t.length : Int)) * (t.length : Int) := by
        rw [h2, Int.mul_assoc, ex, Int.mul_left_comm]
      rw [Int.add_mul, ← this, Int.sub_mul]
      omega
theorem thin_ris {t : List P} {m : Nat} (hm : 1 ≤ m) (hle : m ≤ t.length) (h : Per t m) (hz : Zr t) (k : Nat) : ris (thin t m) k * (t.length : Int) = ris t k * (m : Int) := by
  have hk : k % m < m := Nat.mod_lt _ (by omega)
  obtain ⟨h1, h2⟩ := rel_mul (L := t.length) h (k % m) (k / m) rfl
  have ek : k % m + k / m * m = k := by rw [Nat.mul_comm]; exact Nat.mod_add_div k m
  rw [ek, ris_lt (i := k % m) (by omega)] at h1
  conv => lhs; unfold ris
  rw [thin_len hle, thin_get hle hk, h1]
  exact exact_of h hz (by omega)
theorem thin_per {t : List P} {m n : Nat} (hm : 1 ≤ m) (hle : m ≤ t.length) (h : Per t m) (hz : Zr t) (hn : Per (thin t m) n) : Per t n := fun k => by
  obtain ⟨h1, h2⟩ := hn k
  have a1 := thin_ris hm hle h hz k
  have a2 := thin_ris hm hle h hz (k + n)
  rw [h1, a1] at a2
  refine ⟨(cancel hm a2).symm, ?_⟩
  rw [thin_at hm hle h hz, thin_at hm hle h hz, thin_len hle] at h2
  unfold rel at h2 ⊢
  cases e1 : at' t k with
  | none =>
    rw [e1] at h2
    cases e2 : at' t (k + n) with
    | none => trivial
    | some b => rw [e2] at h2; exact h2.elim
  | some a =>
    rw [e1] at h2
    cases e2 : at' t (k + n) with
    | none => rw [e2] at h2; exact h2.elim
    | some b =>
      rw [e2] at h2
      dsimp only at h2 ⊢
      refine cancel hm ?_
      rw [Int.mul_assoc, Int.mul_comm (t.length : Int), ← Int.mul_assoc, h2, Int.mul_assoc, Int.mul_comm (n : Int), ← Int.mul_assoc, a1, Int.mul_assoc, Int.mul_comm (m : Int), ← Int.mul_assoc]
def good (t : List P) (m : Nat) : Bool := decide (t.length % m = 0) && isRound t m
def leastM (t : List P) : Nat := ((List.range' 1 t.length).find? (good t)).getD t.length
def leastRound (t : List P) : List P := thin t (leastM t)
theorem round_whole (t : List P) : isRound t t.length = true := by simp [isRound]
theorem leastM_spec {t : List P} (hl : 1 ≤ t.length) : 1 ≤ leastM t ∧ leastM t ≤ t.length ∧ t.length % leastM t = 0 ∧ isRound t (leastM t) = true ∧ ∀ m, 1 ≤ m → m < leastM t → good t m = false := by
  unfold leastM
  cases e : (List.range' 1 t.length).find? (good t) with
  | none =>
    have z := List.find?_eq_none.mp e t.length (by rw [List.mem_range']; exact ⟨t.length - 1, by omega, by omega⟩)
    exact absurd (by unfold good; simp [round_whole]) z
  | some m =>
    rw [Option.getD_some]
    have h1 := List.find?_some e
    have h2 := List.mem_of_find?_eq_some e
    rw [List.mem_range'] at h2
    obtain ⟨i, hi, rfl⟩ := h2
    unfold good at h1
    simp only [Bool.and_eq_true, decide_eq_true_eq] at h1
    refine ⟨by omega, by omega, h1.1, h1.2, fun n hn hlt => ?_⟩
    obtain ⟨j, e1, e2, e3⟩ := List.find?_eq_some_iff_getElem.mp e |>.2
    obtain ⟨hj, e3, e4⟩ : ∃ hj : j < t.length, (1 + 1 * j = 1 + 1 * i) ∧ True := by
      rw [List.length_range'] at e1
      exact ⟨e1, by rw [List.getElem_range'] at e2; exact e2, trivial⟩
    have q := ‹∀ (k : Nat) (hk : k < j), (!good t (List.range' 1 t.length)[k]) = true› (n - 1) (by omega)
    rw [List.getElem_range'] at q
    rw [show 1 + 1 * (n - 1) = n by omega] at q
    simpa using q
theorem leastM_per {t : List P} (hl : 1 ≤ t.length) : Per t (leastM t) :=
  have h := leastM_spec hl
  per_of h.1 (Nat.dvd_of_mod_eq_zero h.2.2.1) hl h.2.2.2.1
theorem leastRound_len {t : List P} (hl : 1 ≤ t.length) : (leastRound t).length = leastM t := thin_len (leastM_spec hl).2.1
theorem leastRound_at {t : List P} (hl : 1 ≤ t.length) (hz : Zr t) (k : Nat) : at' (leastRound t) k = at' t k :=
  have h := leastM_spec hl
  thin_at h.1 h.2.1 (leastM_per hl) hz k
/-- a round of which no part is one -/
def Least (t : List P) : Prop := ∀ m, 1 ≤ m → m < t.length → t.length % m = 0 → ¬ Per t m
theorem leastRound_least {t : List P} (hl : 1 ≤ t.length) (hz : Zr t) : Least (leastRound t) := fun m h1 h2 h3 hp => by
  have h := leastM_spec hl
  rw [leastRound_len hl] at h2 h3
  have q := h.2.2.2.2 m h1 h2
  have hp2 := thin_per h.1 h.2.1 (leastM_per hl) hz hp
  unfold good at q
  rw [round_of h1 hp2, Bool.and_true, decide_eq_false_iff_not] at q
  exact q (Nat.mod_eq_zero_of_dvd (Nat.dvd_trans (Nat.dvd_of_mod_eq_zero h3) (Nat.dvd_of_mod_eq_zero h.2.2.1)))
theorem thin_whole {t : List P} (hl : 1 ≤ t.length) : thin t t.length = t := by
  unfold thin
  rw [List.take_length]
  conv => rhs; rw [← List.map_id t]
  refine List.map_congr_left fun p _ => ?_
  rw [Int.mul_ediv_cancel _ (by omega)]
  rfl
theorem leastRound_id {t : List P} (hl : 1 ≤ t.length) (h : Least t) : leastRound t = t := by
  have s := leastM_spec hl
  have e : leastM t = t.length := by
    rcases Nat.lt_or_ge (leastM t) t.length with q | q
    · exact absurd (leastM_per hl) (h _ s.1 q s.2.2.1)
    · omega
  unfold leastRound
  rw [e, thin_whole hl]
/-! ### the head led back -/
def ahead (p : P) : Option Int := p.1.map fun a => a - p.2
def last (t : List P) : P := t.getLastD (none, 0)
def rot (t : List P) : List P := (ahead (last t), (last t).2) :: t.dropLast
def strip : List (Option Int) → List P → List (Option Int) × List P
  | [], t => ([], t)
  | a :: r, t => if a = ahead (last t) then strip r (rot t) else (a :: r, t)
theorem rot_len {t : List P} (hl : 1 ≤ t.length) : (rot t).length = t.length := by unfold rot; rw [List.length_cons, List.length_dropLast]; omega
theorem last_get {t : List P} (hl : 1 ≤ t.length) : last t = get t (t.length - 1) := by
  unfold last get
  rw [List.getLastD_eq_getLast?, List.getLast?_eq_getElem?, List.getD_eq_getElem?_getD]
theorem rot_get {t : List P} {i : Nat} (hi : i + 1 < t.length) : get (rot t) (i + 1) = get t i := by
  unfold get rot
  rw [List.getD_eq_getElem?_getD, List.getD_eq_getElem?_getD, List.getElem?_cons_succ, List.getElem?_dropLast, if_pos (by omega)]
theorem rot_split {t : List P} (hl : 1 ≤ t.length) (k : Nat) : ((k + 1) % t.length = k % t.length + 1 ∧ (k + 1) / t.length = k / t.length ∧ k % t.length + 1 < t.length) ∨ ((k + 1) % t.length = 0 ∧ (k + 1) / t.length = k / t.length + 1 ∧ k % t.length = t.length - 1) := by
  have hk := Nat.div_add_mod k t.length
  have hlt : k % t.length < t.length := Nat.mod_lt _ (by omega)
  by_cases q : k % t.length + 1 < t.length
  · refine .inl ⟨?_, ?_, q⟩
    · rw [← Nat.mod_add_mod, Nat.mod_eq_of_lt q]
    · rw [show k + 1 = (k % t.length + 1) + t.length * (k / t.length) by omega, Nat.add_mul_div_left _ _ (by omega), Nat.div_eq_of_lt q]; omega
  · have e : k + 1 = t.length * (k / t.length + 1) := by rw [Nat.mul_add, Nat.mul_one]; omega
    refine .inr ⟨?_, ?_, by omega⟩
    · rw [e, Nat.mul_mod_right]
    · rw [e, Nat.mul_div_cancel_left _ (by omega)]
theorem rot_at {t : List P} (hl : 1 ≤ t.length) (k : Nat) : at' (rot t) (k + 1) = at' t k ∧ ris (rot t) (k + 1) = ris t k := by
  unfold at' ris
  rw [rot_len hl]
  rcases rot_split hl k with ⟨e1, e2, e3⟩ | ⟨e1, e2, e3⟩
  · rw [e1, e2, rot_get e3]; exact ⟨rfl, rfl⟩
  · rw [e1, e2, e3, ← last_get hl]
    refine ⟨?_, rfl⟩
    show (ahead (last t)).map _ = _
    unfold ahead
    show ((last t).1.map _).map (fun a => a + ((k / t.length + 1 : Nat) : Int) * (last t).2) = _
    rw [Option.map_map]
    congr 1
    funext a
    show a - (last t).2 + ((k / t.length + 1 : Nat) : Int) * (last t).2 = a + ((k / t.length : Nat) : Int) * (last t).2
    rw [Int.natCast_add, Int.add_mul]
    simp
    omega
theorem rot_least {t : List P} (hl : 1 ≤ t.length) (h : Least t) : Least (rot t) := fun m h1 h2 h3 hp => by
  rw [rot_len hl] at h2 h3
  refine h m h1 h2 h3 fun k => ?_
  obtain ⟨a, b⟩ := hp (k + 1)
  rw [show k + 1 + m = (k + m) + 1 by omega, (rot_at hl _).2, (rot_at hl _).2, (rot_at hl _).1, (rot_at hl _).1, rot_len hl] at *
  exact ⟨a, b⟩
theorem rot_zero {t : List P} (hl : 1 ≤ t.length) : at' (rot t) 0 = ahead (last t) := by
  rw [at_lt (by rw [rot_len hl]; omega)]
  rfl
end Frm

set_option Elab.async false
set_option linter.all false
set_option maxRecDepth 100000
namespace Mp
open PySem PyProof.Rows
/-! ### tables, as Lean has them -/
def encA : Option Int → Val
  | none => .non
  | some i => .int i
@[simp] theorem encA_none : encA none = .non := rfl
@[simp] theorem encA_some (i : Int) : encA (some i) = .int i := rfl
def encP (p : Option Int × Int) : Val := .tup [encA p.1, .int p.2]
structure Tab where
  head : List (Option Int)
  turn : List (Option Int × Int)
def encT (T : Tab) : Val := .tup [.tup (T.head.map encA), .tup (T.turn.map encP)]
def okA : Option Int → Prop
  | none => True
  | some i => 0 ≤ i
def okP (p : Option Int × Int) : Prop := 0 ≤ p.2 ∧ p.2 < 2 ^ 60 ∧ match p.1 with
  | none => p.2 = 0
  | some i => 0 ≤ i
structure Tab.Ok (T : Tab) : Prop where
  h1 : T.head.length ≤ 1000
  l1 : 1 ≤ T.turn.length
  l2 : T.turn.length ≤ 120
  ha : ∀ a ∈ T.head, okA a
  hp : ∀ p ∈ T.turn, okP p
def Tab.val (T : Tab) (n : Nat) : Option Int := if n < T.head.length then T.head.getD n none else Frm.at' T.turn (n - T.head.length)
theorem encA_amt {a : Option Int} (h : okA a) : (encA a).isAmt = true := by
  cases a with
  | none => simp
  | some i => simpa [encA, okA] using h
theorem encA_data (a : Option Int) : (encA a).data = true := by cases a <;> simp -implicitDefEqProofs [encA, Val.data]
theorem encA_pl (a : Option Int) (n : Nat) : (encA a).bel n = true := by cases a <;> simp -implicitDefEqProofs [encA, Val.bel]
theorem encP_plc {p : Option Int × Int} (h : okP p) : (encP p).isPlc = true := by
  obtain ⟨a, r⟩ := p
  obtain ⟨h1, h2, h3⟩ := h
  cases a <;> simp_all [encP]
theorem encP_data (p : Option Int × Int) : (encP p).data = true := by simp -implicitDefEqProofs [encP, Val.data, dataL, encA_data]
theorem encP_pl (p : Option Int × Int) (n : Nat) : (encP p).bel n = true := by simp -implicitDefEqProofs [encP, Val.bel, belL, encA_pl]
theorem belL_map {α : Type} {f : α → Val} {l : List α} {n : Nat} (h : ∀ x ∈ l, (f x).bel n = true) : belL n (l.map f) = true := belL_get.mpr fun v hv => by
  obtain ⟨x, hx, rfl⟩ := List.mem_map.mp hv
  exact h x hx
theorem dataL_map {α : Type} {f : α → Val} {l : List α} (h : ∀ x ∈ l, (f x).data = true) : dataL (l.map f) = true := dataL_all.mpr fun v hv => by
  obtain ⟨x, hx, rfl⟩ := List.mem_map.mp hv
  exact h x hx
theorem encT_data (T : Tab) : (encT T).data = true := by
  simp -implicitDefEqProofs [encT, Val.data, dataL]
  exact ⟨dataL_map fun x _ => encA_data x, dataL_map fun x _ => encP_data x⟩
theorem encT_pl (T : Tab) (n : Nat) : (encT T).bel n = true := by
  simp -implicitDefEqProofs [encT, Val.bel, belL]
  exact ⟨belL_map fun x _ => encA_pl x n, belL_map fun x _ => encP_pl x n⟩
theorem encT_tab {T : Tab} (h : T.Ok) : (encT T).isTab = true := by
  simp -implicitDefEqProofs [encT, Val.isTab, tabL, h.h1, h.l1, h.l2]
  exact ⟨fun a ha => encA_amt (h.ha a ha), fun a b hp => encP_plc (h.hp (a, b) hp)⟩
/-! ### the least form of a table -/
theorem okP_zr {t : List Frm.P} (h : ∀ p ∈ t, okP p) : Frm.Zr t := fun p hp e => by
  have z := (h p hp).2.2
  rw [e] at z
  exact z
theorem okP_thin {t : List Frm.P} {m : Nat} (hm : 1 ≤ m) (hl : m ≤ t.length) (h : ∀ p ∈ t, okP p) : ∀ p ∈ Frm.thin t m, okP p := fun p hp => by
  unfold Frm.thin at hp
  obtain ⟨q, hq, rfl⟩ := List.mem_map.mp hp
  obtain ⟨h1, h2, h3⟩ := h q (List.mem_of_mem_take hq)
  obtain ⟨a, r⟩ := q
  simp only at h1 h2 h3
  have z1 : 0 ≤ r * (m : Int) / (t.length : Int) := Int.ediv_nonneg (Int.mul_nonneg h1 (by omega)) (by omega)
  have z2 : r * (m : Int) / (t.length : Int) ≤ r := by
    refine Int.ediv_le_of_le_mul (by omega) ?_
    exact Int.mul_le_mul_of_nonneg_left (by omega) h1
  refine ⟨z1, Int.lt_of_le_of_lt z2 h2, ?_⟩
  cases a with
  | none =>
    have : r = 0 := h3
    subst this
    simp
  | some a => exact h3
theorem getLast_mem' {t : List Frm.P} (hl : 1 ≤ t.length) : Frm.last t ∈ t := by rw [Frm.last_get hl]; exact Frm.get_mem (by omega)
theorem okP_rot {t : List Frm.P} (hl : 1 ≤ t.length) (h : ∀ p ∈ t, okP p) {a : Option Int} (ha : okA a) (e : a = Frm.ahead (Frm.last t)) : ∀ p ∈ Frm.rot t, okP p := fun p hp => by
  unfold Frm.rot at hp
  rcases List.mem_cons.mp hp with rfl | hp
  · obtain ⟨h1, h2, h3⟩ := h _ (getLast_mem' hl)
    rw [e] at ha
    refine ⟨h1, h2, ?_⟩
    generalize Frm.last t = q at *
    obtain ⟨x, r⟩ := q
    cases x with
    | none => exact h3
    | some x => exact ha
  · exact h p (List.dropLast_subset _ hp)
def vals (hd : List (Option Int)) (t : List Frm.P) (n : Nat) : Option Int := if n < hd.length then hd.getD n none else Frm.at' t (n - hd.length)
theorem strip_all : ∀ (rh : List (Option Int)) (t : List Frm.P), 1 ≤ t.length → (∀ a ∈ rh, okA a) → (∀ p ∈ t, okP p) → Frm.Least t →
    (Frm.strip rh t).2.length = t.length ∧ (∀ a ∈ (Frm.strip rh t).1, okA a) ∧ (∀ p ∈ (Frm.strip rh t).2, okP p) ∧ Frm.Least (Frm.strip rh t).2 ∧ (Frm.strip rh t).1.length ≤ rh.length ∧
    Frm.strip (Frm.strip rh t).1 (Frm.strip rh t).2 = Frm.strip rh t ∧ ∀ n, vals (Frm.strip rh t).1.reverse (Frm.strip rh t).2 n = vals rh.reverse t n
  | [], t, hl, ha, hp, hL => by
    unfold Frm.strip
    exact ⟨rfl, ha, hp, hL, Nat.le_refl _, by simp [Frm.strip], fun _ => rfl⟩
  | a :: r, t, hl, ha, hp, hL => by
    by_cases q : a = Frm.ahead (Frm.last t)
    · rw [show Frm.strip (a :: r) t = Frm.strip r (Frm.rot t) by rw [Frm.strip, if_pos q]]
      have hp2 := okP_rot hl hp (ha a (by simp)) q
      obtain ⟨h1, h2, h3, h4, h5, h6, h7⟩ := strip_all r (Frm.rot t) (by rw [Frm.rot_len hl]; exact hl) (fun b hb => ha b (by simp [hb])) hp2 (Frm.rot_least hl hL)
      refine ⟨h1.trans (Frm.rot_len hl), h2, h3, h4, by simp; omega, ?_, fun n => (h7 n).trans ?_⟩
      · rw [h6]
      · unfold vals
        rw [List.length_reverse, List.length_reverse, List.length_cons, List.reverse_cons]
        rcases Nat.lt_trichotomy n r.length with c | c | c
        · rw [if_pos c, if_pos (by omega), List.getD_eq_getElem?_getD, List.getD_eq_getElem?_getD, List.getElem?_append_left (by rw [List.length_reverse]; exact c)]
        · subst c
          rw [if_neg (by omega), if_pos (by omega), Nat.sub_self, Frm.rot_zero hl, ← q, List.getD_eq_getElem?_getD, List.getElem?_append_right (by rw [List.length_reverse]; exact Nat.le_refl _), List.length_reverse, Nat.sub_self]
          rfl
        · rw [if_neg (by omega), if_neg (by omega), show n - r.length = (n - (r.length + 1)) + 1 by omega, (Frm.rot_at hl _).1]
    · have e : Frm.strip (a :: r) t = (a :: r, t) := by rw [Frm.strip, if_neg q]
      rw [e]
      exact ⟨rfl, ha, hp, hL, Nat.le_refl _, e, fun _ => rfl⟩
def Tab.least (T : Tab) : Tab := ⟨(Frm.strip T.head.reverse (Frm.leastRound T.turn)).1.reverse, (Frm.strip T.head.reverse (Frm.leastRound T.turn)).2⟩
theorem Tab.val_eq (T : Tab) (n : Nat) : T.val n = vals T.head T.turn n := rfl
theorem least_all {T : Tab} (ok : T.Ok) : T.least.Ok ∧ (∀ n, T.least.val n = T.val n) ∧ T.least.least = T.least ∧ T.least.head.length ≤ T.head.length ∧ T.least.turn.length ≤ T.turn.length ∧ Frm.leastRound T.least.turn = T.least.turn := by
  have sp := Frm.leastM_spec ok.l1
  have z := okP_zr ok.hp
  have len := Frm.leastRound_len ok.l1
  have l1 : 1 ≤ (Frm.leastRound T.turn).length := by omega
  obtain ⟨h1, h2, h3, h4, h5, h6, h7⟩ := strip_all T.head.reverse (Frm.leastRound T.turn) l1 (fun a ha => ok.ha a (by simpa using ha)) (okP_thin sp.1 sp.2.1 ok.hp) (Frm.leastRound_least ok.l1 z)
  have k1 := ok.h1
  have k2 := ok.l2
  rw [List.length_reverse] at h5
  have idr : Frm.leastRound (Frm.strip T.head.reverse (Frm.leastRound T.turn)).2 = (Frm.strip T.head.reverse (Frm.leastRound T.turn)).2 := Frm.leastRound_id (by omega) h4
  refine ⟨⟨?_, ?_, ?_, ?_, ?_⟩, fun n => ?_, ?_, ?_, ?_, idr⟩
  · unfold Tab.least; rw [List.length_reverse]; omega
  · unfold Tab.least; show 1 ≤ (Frm.strip _ _).2.length; omega
  · unfold Tab.least; show (Frm.strip _ _).2.length ≤ 120; omega
  · unfold Tab.least; exact fun a ha => h2 a (by simpa using ha)
  · unfold Tab.least; exact h3
  · rw [Tab.val_eq, Tab.val_eq]
    unfold Tab.least
    rw [h7 n, List.reverse_reverse]
    unfold vals
    rw [Frm.leastRound_at ok.l1 z]
  · conv => lhs; unfold Tab.least
    show Tab.mk (Frm.strip (Tab.least T).head.reverse (Frm.leastRound (Tab.least T).turn)).1.reverse (Frm.strip (Tab.least T).head.reverse (Frm.leastRound (Tab.least T).turn)).2 = _
    have e : (Tab.least T).head.reverse = (Frm.strip T.head.reverse (Frm.leastRound T.turn)).1 := by unfold Tab.least; exact List.reverse_reverse _
    rw [e, show (Tab.least T).turn = (Frm.strip T.head.reverse (Frm.leastRound T.turn)).2 from rfl, idr, h6]
    rfl
  · unfold Tab.least; rw [List.length_reverse]; exact h5
  · unfold Tab.least; show (Frm.strip _ _).2.length ≤ _; omega
end Mp

set_option Elab.async false
set_option linter.all false
set_option maxRecDepth 100000
namespace Mp
open PySem PyProof.Rows
/-! ### == of what Lean types hold -/
structure PD {α : Type} [DecidableEq α] (f : α → Val) (d : Nat) : Prop where
  ex : ∃ g : α → PyData, ∀ a, (f a).pd = some (g a) ∧ (g a).canLay0 = true ∧ (g a).depth ≤ d ∧ ∀ b, PyData.eqv (g a) (g b) = decide (a = b)
theorem pd_not_ref {v : Val} {d : PyData} (h : v.pd = some d) (H : Hh) : pdOf v H = some d := by
  cases v with
  | ref n => unfold Val.pd at h; cases h
  | _ => exact h
section
variable {α β : Type} [DecidableEq α] [DecidableEq β] {f : α → Val} {f' : β → Val} {d e : Nat} {h : Hh}
theorem eq_pd (p : PD f d) (hd : d ≤ 64) (a b : α) : eqP (f a) (f b) h = .ok (.bl (decide (a = b))) h := by
  obtain ⟨g, hg⟩ := p.ex
  obtain ⟨a1, a2, a3, a4⟩ := hg a
  obtain ⟨b1, b2, b3, _⟩ := hg b
  unfold eqP
  rw [pd_not_ref a1, pd_not_ref b1]
  dsimp only
  have s1 : SeqAt.shaped (g a) = true := by unfold SeqAt.shaped; rw [a2, decide_eq_true (by omega)]; rfl
  have s2 : SeqAt.shaped (g b) = true := by unfold SeqAt.shaped; rw [b2, decide_eq_true (by omega)]; rfl
  rw [if_pos ⟨s1, s2⟩, a4]
theorem ne_pd (p : PD f d) (hd : d ≤ 64) (a b : α) : neP (f a) (f b) h = .ok (.bl (!decide (a = b))) h := by
  obtain ⟨g, hg⟩ := p.ex
  obtain ⟨a1, a2, a3, a4⟩ := hg a
  obtain ⟨b1, b2, b3, _⟩ := hg b
  unfold neP
  rw [pd_not_ref a1, pd_not_ref b1]
  dsimp only
  have s1 : SeqAt.shaped (g a) = true := by unfold SeqAt.shaped; rw [a2, decide_eq_true (by omega)]; rfl
  have s2 : SeqAt.shaped (g b) = true := by unfold SeqAt.shaped; rw [b2, decide_eq_true (by omega)]; rfl
  rw [if_pos ⟨s1, s2⟩, a4]
theorem pd_int : PD Val.int 0 := ⟨PyData.int, fun a => ⟨rfl, by simp [PyData.canLay0], by simp [PyData.depth], fun b => by simp [PyData.eqv]; exact Bool.eq_iff_iff.mpr (by simp)⟩⟩
theorem pd_optInt : PD (fun a : Option Int => (match a with | none => Val.non | some i => Val.int i)) 0 :=
  ⟨fun a => match a with | none => .none | some i => .int i, fun a => by
    cases a with
    | none => exact ⟨rfl, by simp [PyData.canLay0], by simp [PyData.depth], fun b => by cases b <;> simp [PyData.eqv]⟩
    | some i => exact ⟨rfl, by simp [PyData.canLay0], by simp [PyData.depth], fun b => by
        cases b with
        | none => simp [PyData.eqv]
        | some j => simp [PyData.eqv]; exact Bool.eq_iff_iff.mpr (by simp)⟩⟩
theorem pd_A : PD encA 0 := by
  have e : encA = fun a : Option Int => (match a with | none => Val.non | some i => Val.int i) := by funext a; cases a <;> rfl
  rw [e]
  exact pd_optInt
theorem pdL_map {g : α → PyData} (hg : ∀ a, (f a).pd = some (g a)) : ∀ l : List α, pdL (l.map f) = some (l.map g)
  | [] => rfl
  | a :: l => by
    rw [List.map_cons, pdL, hg a, pdL_map hg l]
    rfl
theorem lay_map {g : α → PyData} (hg : ∀ a, (g a).canLay0 = true ∧ (g a).depth ≤ d) : ∀ l : List α, PyData.canLayAll0 (l.map g) = true ∧ PyData.depthAll (l.map g) ≤ d
  | [] => by simp [PyData.canLayAll0, PyData.depthAll]
  | a :: l => by
    obtain ⟨h1, h2⟩ := lay_map hg l
    obtain ⟨h3, h4⟩ := hg a
    simp only [List.map_cons, PyData.canLayAll0, PyData.depthAll, h1, h3, Bool.and_self, true_and]
    omega
theorem eqvAll_map {g : α → PyData} (hg : ∀ a b, PyData.eqv (g a) (g b) = decide (a = b)) : ∀ l r : List α, PyData.eqvAll (l.map g) (r.map g) = decide (l = r)
  | [], [] => by simp [PyData.eqvAll]
  | [], _ :: _ => by simp [PyData.eqvAll]
  | _ :: _, [] => by simp [PyData.eqvAll]
  | a :: l, b :: r => by
    rw [List.map_cons, List.map_cons, PyData.eqvAll, hg a b, eqvAll_map hg l r]
    simp
theorem pd_list (p : PD f d) : PD (fun l : List α => Val.tup (l.map f)) (d + 1) := by
  obtain ⟨g, hg⟩ := p.ex
  refine ⟨fun l => .tuple (l.map g), fun l => ?_⟩
  obtain ⟨h1, h2⟩ := lay_map (d := d) (g := g) (fun a => ⟨(hg a).2.1, (hg a).2.2.1⟩) l
  refine ⟨?_, ?_, ?_, fun r => ?_⟩
  · unfold Val.pd
    rw [pdL_map (g := g) (fun a => (hg a).1)]
    rfl
  · simp only [PyData.canLay0, h1]
  · simp only [PyData.depth]; omega
  · simp only [PyData.eqv]
    exact eqvAll_map (fun a b => (hg a).2.2.2 b) l r
theorem pd_pair (p : PD f d) (q : PD f' e) : PD (fun x : α × β => Val.tup [f x.1, f' x.2]) (max d e + 1) := by
  obtain ⟨g, hg⟩ := p.ex
  obtain ⟨g', hg'⟩ := q.ex
  refine ⟨fun x => .tuple [g x.1, g' x.2], fun x => ?_⟩
  obtain ⟨a1, a2, a3, a4⟩ := hg x.1
  obtain ⟨b1, b2, b3, b4⟩ := hg' x.2
  refine ⟨?_, ?_, ?_, fun r => ?_⟩
  · unfold Val.pd
    simp [pdL, a1, b1]
  · simp [PyData.canLay0, PyData.canLayAll0, a2, b2]
  · simp [PyData.depth, PyData.depthAll]; omega
  · obtain ⟨r1, r2⟩ := r
    obtain ⟨x1, x2⟩ := x
    simp [PyData.eqv, PyData.eqvAll, a4, b4]
theorem pd_via {γ : Type} [DecidableEq γ] (p : PD f d) (k : γ → α) (hk : ∀ a b, k a = k b → a = b) : PD (fun c => f (k c)) d := by
  obtain ⟨g, hg⟩ := p.ex
  refine ⟨fun c => g (k c), fun c => ?_⟩
  obtain ⟨a1, a2, a3, a4⟩ := hg (k c)
  exact ⟨a1, a2, a3, fun b => by rw [a4]; exact decide_eq_decide.mpr ⟨hk _ _, fun e => by rw [e]⟩⟩
end
theorem pd_P : PD encP 1 := pd_pair pd_A pd_int
instance : DecidableEq Tab := fun a b => decidable_of_iff (a.head = b.head ∧ a.turn = b.turn) (by cases a; cases b; simp)
theorem pd_T : PD encT 3 := pd_via (pd_pair (pd_list pd_A) (pd_list pd_P)) (fun T : Tab => (T.head, T.turn)) fun a b e => by
  cases a; cases b; simp at e; simp [e]
end Mp

set_option Elab.async false
set_option linter.all false
set_option maxRecDepth 100000
/-! ### the least round by second differences -/
namespace Frm
def goes (x y z : Option Int) : Bool := match x, y, z with
  | none, none, none => true
  | some a, some b, some c => decide (b - a = c - b)
  | _, _, _ => false
/-- all of two rounds go on by m -/
def allGo (F : Nat → Option Int) (L m : Nat) : Bool := (List.range (2 * L)).all fun k => goes (F k) (F (k + m)) (F (k + 2 * m))
section
variable {v ρ : Nat → Int} {L s : Nat}
theorem per_many {α : Type} {f : Nat → α} {m : Nat} (h : ∀ k, f (k + m) = f k) : ∀ q k, f (k + q * m) = f k
  | 0, k => by rw [Nat.zero_mul, Nat.add_zero]
  | q + 1, k => by rw [Nat.add_mul, Nat.one_mul, ← Nat.add_assoc, h, per_many h q k]
theorem per_mod {α : Type} {f : Nat → α} {m : Nat} (h : ∀ k, f (k + m) = f k) (k : Nat) : f k = f (k % m) := by
  have := per_many h (k / m) (k % m)
  rw [Nat.mul_comm, Nat.mod_add_div] at this
  exact this
theorem arith {δ : Int} {f : Nat → Int} {k : Nat} (h : ∀ q, f (k + (q + 1) * s) = f (k + q * s) + δ) : ∀ q : Nat, f (k + q * s) = f k + (q : Int) * δ
  | 0 => by simp
  | q + 1 => by
    rw [h q, arith h q, Int.natCast_add, Int.add_mul]
    simp
    omega
theorem second (hL : 1 ≤ L) (hρ : ∀ k, ρ (k + L) = ρ k) (hv : ∀ k, v (k + L) = v k + ρ k) (hg : ∀ k, k < 2 * L → v (k + 2 * s) - v (k + s) = v (k + s) - v k) :
    (∀ k, ρ (k + s) = ρ k) ∧ ∀ k, v (k + 2 * s) - v (k + s) = v (k + s) - v k := by
  have g1 : ∀ k, ρ (k + 2 * s) - ρ (k + s) = ρ (k + s) - ρ k := by
    have lo : ∀ k, k < L → ρ (k + 2 * s) - ρ (k + s) = ρ (k + s) - ρ k := fun k hk => by
      have a1 := hg k (by omega)
      have a2 := hg (k + L) (by omega)
      rw [show k + L + 2 * s = (k + 2 * s) + L by omega, show k + L + s = (k + s) + L by omega, hv, hv, hv] at a2
      omega
    intro k
    have e : ∀ c, ρ (k + c) = ρ (k % L + c) := fun c => by
      have := per_mod hρ (k + c)
      have t := per_mod hρ (k % L + c)
      rw [this, t, Nat.mod_add_mod]
    have e0 := e 0
    simp only [Nat.add_zero] at e0
    rw [e (2 * s), e s, e0]
    exact lo _ (Nat.mod_lt _ (by omega))
  have g2 : ∀ k, ρ (k + s) = ρ k := fun k => by
    have st : ∀ q, ρ (k + (q + 1) * s) = ρ (k + q * s) + (ρ (k + s) - ρ k) := fun q => by
      induction q with
      | zero => simp; omega
      | succ q ih =>
        have := g1 (k + q * s)
        rw [show k + (q + 1 + 1) * s = k + q * s + 2 * s by rw [Nat.add_mul, Nat.add_mul]; omega, show k + (q + 1) * s = k + q * s + s by rw [Nat.add_mul]; omega] at *
        omega
    have a := arith st L
    have b := per_many hρ s k
    rw [Nat.mul_comm] at b
    rw [b] at a
    have c : (L : Int) * (ρ (k + s) - ρ k) = 0 := by omega
    rcases Int.mul_eq_zero.mp c with z | z
    · omega
    · omega
  refine ⟨g2, ?_⟩
  have step : ∀ k, v (k + L + 2 * s) - v (k + L + s) - (v (k + L + s) - v (k + L)) = v (k + 2 * s) - v (k + s) - (v (k + s) - v k) := fun k => by
    rw [show k + L + 2 * s = (k + 2 * s) + L by omega, show k + L + s = (k + s) + L by omega, hv, hv, hv]
    have := g1 k
    omega
  intro k
  have e := per_mod (f := fun k => v (k + 2 * s) - v (k + s) - (v (k + s) - v k)) (m := L) step k
  have z := hg (k % L) (by have := Nat.mod_lt k (show L > 0 by omega); omega)
  omega
end
def num (x : Option Int) : Int := x.getD 0
theorem at_turn {t : List P} (hl : 1 ≤ t.length) (hz : Zr t) (k : Nat) : (at' t (k + t.length)).isSome = (at' t k).isSome ∧ num (at' t (k + t.length)) = num (at' t k) + ris t k ∧ ris t (k + t.length) = ris t k := by
  have hm := get_mem (t := t) (i := k % t.length) (Nat.mod_lt _ (by omega))
  have z := hz _ hm
  unfold at' ris num
  rw [Nat.add_mod_right, Nat.add_div_right _ (by omega)]
  generalize get t (k % t.length) = p at *
  obtain ⟨a, r⟩ := p
  cases a with
  | none => simp; exact (z rfl).symm
  | some a =>
    simp
    rw [Int.add_mul]
    omega
theorem goes_num {x y z : Option Int} (h : goes x y z = true) : y.isSome = x.isSome ∧ z.isSome = y.isSome ∧ num z - num y = num y - num x := by
  cases x <;> cases y <;> cases z <;> simp [goes, num] at h ⊢
  omega
theorem num_goes {x y z : Option Int} (h1 : y.isSome = x.isSome) (h2 : z.isSome = y.isSome) (h3 : num z - num y = num y - num x) : goes x y z = true := by
  cases x <;> cases y <;> cases z <;> simp [goes, num] at h1 h2 h3 ⊢
  omega
theorem allGo_num {t : List P} {s : Nat} (hl : 1 ≤ t.length) (hz : Zr t) (h : allGo (at' t) t.length s = true) : (∀ k, (at' t (k + s)).isSome = (at' t k).isSome) ∧ (∀ k, ris t (k + s) = ris t k) ∧ ∀ k, num (at' t (k + 2 * s)) - num (at' t (k + s)) = num (at' t (k + s)) - num (at' t k) := by
  have hg : ∀ k, k < 2 * t.length → goes (at' t k) (at' t (k + s)) (at' t (k + 2 * s)) = true := fun k hk => List.all_eq_true.mp h k (List.mem_range.mpr hk)
  obtain ⟨a, b⟩ := second (v := fun k => num (at' t k)) (ρ := ris t) (L := t.length) (s := s) hl (fun k => (at_turn hl hz k).2.2) (fun k => (at_turn hl hz k).2.1) (fun k hk => (goes_num (hg k hk)).2.2)
  refine ⟨fun k => ?_, a, b⟩
  have e : ∀ c, (at' t (k + c)).isSome = (at' t (k % t.length + c)).isSome := fun c => by
    have p1 := per_mod (f := fun k => (at' t k).isSome) (fun k => (at_turn hl hz k).1) (k + c)
    have p2 := per_mod (f := fun k => (at' t k).isSome) (fun k => (at_turn hl hz k).1) (k % t.length + c)
    rw [p1, p2, Nat.mod_add_mod]
  have e0 := e 0
  simp only [Nat.add_zero] at e0
  rw [e s, e0]
  exact (goes_num (hg _ (by have := Nat.mod_lt k (show t.length > 0 by omega); omega))).1
theorem go_of_per {t : List P} {s : Nat} (hl : 1 ≤ t.length) (h : Per t s) (k : Nat) : goes (at' t k) (at' t (k + s)) (at' t (k + 2 * s)) = true := by
  obtain ⟨h1, h2⟩ := h k
  obtain ⟨h3, h4⟩ := h (k + s)
  rw [h1] at h4
  rw [show k + 2 * s = k + s + s by omega]
  unfold rel at h2 h4
  cases e1 : at' t k <;> cases e2 : at' t (k + s) <;> cases e3 : at' t (k + s + s) <;> rw [e1, e2] at h2 <;> rw [e2, e3] at h4 <;> simp [goes] at h2 h4 ⊢
  exact cancel hl (h2.trans h4.symm)
/-- that goes on, and divides the round: a round -/
theorem per_of_go {t : List P} {s : Nat} (hs : 1 ≤ s) (hl : 1 ≤ t.length) (hz : Zr t) (hd : s ∣ t.length) (h : allGo (at' t) t.length s = true) : Per t s := fun k => by
  obtain ⟨h1, h2, h3⟩ := allGo_num hl hz h
  refine ⟨h2 k, ?_⟩
  obtain ⟨c, hc⟩ := hd
  have st : ∀ q, num (at' t (k + (q + 1) * s)) = num (at' t (k + q * s)) + (num (at' t (k + s)) - num (at' t k)) := fun q => by
    induction q with
    | zero => simp; omega
    | succ q ih =>
      have := h3 (k + q * s)
      rw [show k + (q + 1 + 1) * s = k + q * s + 2 * s by rw [Nat.add_mul, Nat.add_mul]; omega, show k + (q + 1) * s = k + q * s + s by rw [Nat.add_mul]; omega] at *
      omega
  have a := arith (f := fun k => num (at' t k)) st c
  have b := (at_turn hl hz k).2.1
  rw [show c * s = t.length by rw [hc, Nat.mul_comm]] at a
  rw [b] at a
  have r : ris t k = (c : Int) * (num (at' t (k + s)) - num (at' t k)) := by omega
  unfold rel
  have hs2 := h1 k
  cases e1 : at' t k <;> cases e2 : at' t (k + s) <;> rw [e1, e2] at hs2 <;> simp at hs2 ⊢
  rw [r, e1, e2]
  unfold num
  rw [hc, Int.natCast_mul]
  simp only [Option.getD_some]
  rw [Int.mul_comm (c : Int), Int.mul_assoc, Int.mul_comm (s : Int)]
def lawRound (t : List P) : Nat := ((List.range' 1 t.length).find? (allGo (at' t) t.length)).getD t.length
/-- the law's own search comes to the same round -/
theorem lawRound_eq {t : List P} (hl : 1 ≤ t.length) (hz : Zr t) : lawRound t = leastM t := by
  have sp := leastM_spec hl
  have whole : ∀ m, Per t m → allGo (at' t) t.length m = true := fun m hm => List.all_eq_true.mpr fun k _ => go_of_per hl hm k
  have hM := whole _ (leastM_per hl)
  have main : 1 ≤ lawRound t ∧ lawRound t ≤ t.length ∧ allGo (at' t) t.length (lawRound t) = true ∧ ∀ m, 1 ≤ m → m < lawRound t → allGo (at' t) t.length m = false := by
    unfold lawRound
    cases e : (List.range' 1 t.length).find? (allGo (at' t) t.length) with
    | none =>
      have z := List.find?_eq_none.mp e (leastM t) (by rw [List.mem_range']; exact ⟨leastM t - 1, by omega, by omega⟩)
      exact absurd hM z
    | some m =>
      rw [Option.getD_some]
      have q1 := List.find?_some e
      have q2 := List.mem_of_find?_eq_some e
      rw [List.mem_range'] at q2
      obtain ⟨i, hi, rfl⟩ := q2
      refine ⟨by omega, by omega, q1, fun n hn hlt => ?_⟩
      obtain ⟨j, e1, e2, e3⟩ := List.find?_eq_some_iff_getElem.mp e |>.2
      rw [List.length_range'] at e1
      rw [List.getElem_range'] at e2
      have q := e3 (n - 1) (by omega)
      rw [List.getElem_range', show 1 + 1 * (n - 1) = n by omega] at q
      simpa using q
  obtain ⟨m1, m2, m3, m4⟩ := main
  generalize lawRound t = s at *
  have le1 : s ≤ leastM t := by
    rcases Nat.lt_or_ge (leastM t) s with q | q
    · have := m4 _ sp.1 q
      rw [hM] at this
      cases this
    · exact q
  have dv : s ∣ t.length := by
    refine Nat.dvd_of_mod_eq_zero ?_
    rcases Nat.eq_zero_or_pos (t.length % s) with q | q
    · exact q
    · exfalso
      have hr : t.length % s < s := Nat.mod_lt _ (by omega)
      have bad := m4 _ q hr
      obtain ⟨u1, r1, g1⟩ := allGo_num hl hz m3
      have eL := Nat.div_add_mod t.length s
      generalize hr2 : t.length % s = r at *
      generalize t.length / s = c at *
      have eL2 : ∀ k, k + t.length = k + r + c * s := fun k => by rw [← eL, Nat.mul_comm]; omega
      have uu : ∀ k, (at' t (k + r)).isSome = (at' t k).isSome := fun k => by
        have a := (at_turn hl hz k).1
        rw [eL2, per_many (f := fun k => (at' t k).isSome) u1 c (k + r)] at a
        exact a
      have rr : ∀ k, ris t (k + r) = ris t k := fun k => by
        have a := (at_turn hl hz k).2.2
        rw [eL2, per_many r1 c (k + r)] at a
        exact a
      have d1 : ∀ k, num (at' t (k + s + s)) - num (at' t (k + s)) = num (at' t (k + s)) - num (at' t k) := fun k => by
        have := g1 k
        rw [show k + 2 * s = k + s + s by omega] at this
        exact this
      have d2 : ∀ k, num (at' t (k + r + s)) - num (at' t (k + r)) = num (at' t (k + s)) - num (at' t k) := fun k => by
        have a1 := (at_turn hl hz k).2.1
        have a2 := (at_turn hl hz (k + s)).2.1
        have e1 := per_many (f := fun k => num (at' t (k + s)) - num (at' t k)) (m := s) d1 c (k + r)
        rw [← eL2] at e1
        rw [show k + t.length + s = k + s + t.length by omega, a1, a2, r1] at e1
        omega
      have st : ∀ k q, num (at' t (k + (q + 1) * s)) = num (at' t (k + q * s)) + (num (at' t (k + s)) - num (at' t k)) := fun k q => by
        have := per_many (f := fun k => num (at' t (k + s)) - num (at' t k)) (m := s) d1 q k
        rw [show k + (q + 1) * s = k + q * s + s by rw [Nat.add_mul]; omega]
        omega
      have ee : ∀ k, num (at' t (k + r)) - num (at' t k) = ris t k - (c : Int) * (num (at' t (k + s)) - num (at' t k)) := fun k => by
        have a := arith (f := fun k => num (at' t k)) (st (k + r)) c
        have a1 := (at_turn hl hz k).2.1
        rw [← eL2, d2] at a
        omega
      have go : allGo (at' t) t.length r = true := List.all_eq_true.mpr fun k _ => num_goes (uu k) (by rw [show k + 2 * r = k + r + r by omega]; exact uu (k + r)) (by
        have e1 := ee k
        have e2 := ee (k + r)
        rw [d2, rr] at e2
        rw [show k + 2 * r = k + r + r by omega]
        omega)
      rw [go] at bad
      cases bad
  have hp := per_of_go m1 hl hz dv m3
  have gd : good t s = true := by
    unfold good
    rw [round_of m1 hp, decide_eq_true (Nat.mod_eq_zero_of_dvd dv)]
    rfl
  rcases Nat.lt_or_ge s (leastM t) with q | q
  · have := sp.2.2.2.2 s m1 q
    rw [gd] at this
    cases this
  · omega
end Frm

set_option Elab.async false
set_option linter.all false
set_option maxRecDepth 100000
namespace Frm
/-- a round begun one later -/
def rotL : List P → List P
  | [] => []
  | p :: t => t ++ [(p.1.map fun a => a + p.2, p.2)]
theorem rotL_len (t : List P) : (rotL t).length = t.length := by cases t <;> simp [rotL]
theorem rotL_last {p : P} {t : List P} : last (rotL (p :: t)) = (p.1.map fun a => a + p.2, p.2) := by
  unfold last rotL
  rw [List.getLastD_eq_getLast?, List.getLast?_concat]
  rfl
theorem rot_rotL {t : List P} (hl : 1 ≤ t.length) : rot (rotL t) = t := by
  cases t with
  | nil => simp at hl
  | cons p t =>
    unfold rot
    rw [rotL_last]
    unfold ahead rotL
    rw [List.dropLast_concat]
    obtain ⟨a, r⟩ := p
    cases a with
    | none => rfl
    | some a =>
      simp
theorem rotL_at {t : List P} (hl : 1 ≤ t.length) (k : Nat) : at' (rotL t) k = at' t (k + 1) ∧ ris (rotL t) k = ris t (k + 1) := by
  have h := rot_at (t := rotL t) (by rw [rotL_len]; exact hl) k
  rw [rot_rotL hl] at h
  exact ⟨h.1.symm, h.2.symm⟩
theorem at_zero {t : List P} (hl : 1 ≤ t.length) : at' t 0 = ahead (last (rotL t)) := by
  have h := rot_zero (t := rotL t) (by rw [rotL_len]; exact hl)
  rw [rot_rotL hl] at h
  exact h
theorem zr_rotL {t : List P} (h : Zr t) : Zr (rotL t) := fun p hp e => by
  cases t with
  | nil => cases hp
  | cons q t =>
    rcases List.mem_append.mp hp with hp | hp
    · exact h p (by simp [hp]) e
    · rw [List.mem_singleton.mp hp] at e ⊢
      refine h q (by simp) ?_
      obtain ⟨a, r⟩ := q
      cases a with
      | none => rfl
      | some a => simp at e
/-- a round is round from one ahead, too -/
theorem per_rotL {t : List P} {m : Nat} (hl : 1 ≤ t.length) (hz : Zr t) (h : Per (rotL t) m) : Per t m := by
  have up : ∀ k, ris t (k + 1 + m) = ris t (k + 1) ∧ rel t.length m (at' t (k + 1)) (at' t (k + 1 + m)) (ris t (k + 1)) := fun k => by
    obtain ⟨a, b⟩ := h k
    rw [(rotL_at hl _).2, (rotL_at hl _).2] at a
    rw [(rotL_at hl _).2, (rotL_at hl _).1, (rotL_at hl _).1, rotL_len] at b
    rw [show k + 1 + m = k + m + 1 by omega]
    exact ⟨a, b⟩
  intro k
  cases k with
  | succ k => exact up k
  | zero =>
    obtain ⟨a, b⟩ := up (t.length - 1)
    rw [show t.length - 1 + 1 = 0 + t.length by omega] at a b
    obtain ⟨u0, n0, r0⟩ := at_turn hl hz 0
    obtain ⟨um, nm, rm⟩ := at_turn hl hz (0 + m)
    rw [show 0 + t.length + m = 0 + m + t.length by omega] at a b
    rw [rm, r0] at a
    refine ⟨a, ?_⟩
    rw [r0] at b
    unfold rel at b ⊢
    cases e1 : at' t 0 <;> cases e2 : at' t (0 + m) <;> cases e3 : at' t (0 + t.length) <;> cases e4 : at' t (0 + m + t.length) <;> rw [e3, e4] at b <;> rw [e1, e3] at u0 n0 <;> rw [e2, e4] at um nm <;> simp [num] at b u0 um n0 nm ⊢
    rw [Nat.zero_add] at a
    rw [← b, n0, nm, a]
    congr 1
    omega
theorem least_rotL {t : List P} (hl : 1 ≤ t.length) (hz : Zr t) (h : Least t) : Least (rotL t) := fun m h1 h2 h3 hp => by
  rw [rotL_len] at h2 h3
  exact h m h1 h2 h3 (per_rotL hl hz hp)
theorem least_len {t : List P} (hl : 1 ≤ t.length) (h : Least t) : leastM t = t.length := by
  have s := leastM_spec hl
  rcases Nat.lt_or_ge (leastM t) t.length with q | q
  · exact absurd (leastM_per hl) (h _ s.1 q s.2.2.1)
  · omega
/-- rounds that tell the same are the same, where no part is one -/
theorem least_uniq {t u : List P} (hl : 1 ≤ t.length) (hu : 1 ≤ u.length) (zt : Zr t) (zu : Zr u) (lt : Least t) (lu : Least u) (h : ∀ k, at' t k = at' u k) : t = u := by
  have half : ∀ {t u : List P}, 1 ≤ t.length → 1 ≤ u.length → Zr t → Zr u → Least t → Least u → (∀ k, at' t k = at' u k) → t.length ≤ u.length := fun {t u} hl hu zt zu lt lu h => by
    rcases Nat.lt_or_ge u.length t.length with q | q
    · exfalso
      have pu : Per u u.length := by
        have := leastM_per hu
        rwa [least_len hu lu] at this
      have ag : allGo (at' t) t.length u.length = true := List.all_eq_true.mpr fun k _ => by
        rw [h, h, h]
        exact go_of_per hu pu k
      have e := lawRound_eq hl zt
      rw [least_len hl lt] at e
      unfold lawRound at e
      cases f : (List.range' 1 t.length).find? (allGo (at' t) t.length) with
      | none =>
        exact List.find?_eq_none.mp f u.length (by rw [List.mem_range']; exact ⟨u.length - 1, by omega, by omega⟩) ag
      | some m =>
        rw [f, Option.getD_some] at e
        subst e
        obtain ⟨j, e1, e2, e3⟩ := List.find?_eq_some_iff_getElem.mp f |>.2
        rw [List.length_range'] at e1
        rw [List.getElem_range'] at e2
        have q2 := e3 (u.length - 1) (by omega)
        rw [List.getElem_range', show 1 + 1 * (u.length - 1) = u.length by omega, ag] at q2
        cases q2
    · exact q
  have len : t.length = u.length := Nat.le_antisymm (half hl hu zt zu lt lu h) (half hu hl zu zt lu lt fun k => (h k).symm)
  apply List.ext_getElem len
  intro i h1 h2
  have gt : t[i] = get t i := by unfold get; rw [List.getD_eq_getElem?_getD, List.getElem?_eq_getElem h1]; rfl
  have gu : u[i] = get u i := by unfold get; rw [List.getD_eq_getElem?_getD, List.getElem?_eq_getElem h2]; rfl
  have a1 := h i
  rw [at_lt h1, at_lt h2] at a1
  have n1 := (at_turn hl zt i).2.1
  have n2 := (at_turn hu zu i).2.1
  rw [h, h, len, n2] at n1
  have r : ris t i = ris u i := by omega
  rw [ris_lt h1, ris_lt h2] at r
  rw [gt, gu]
  exact Prod.ext a1 r
end Frm
namespace Mp
/-- told one length further in the head -/
def Tab.more (T : Tab) : Tab := ⟨T.head ++ [Frm.at' T.turn 0], Frm.rotL T.turn⟩
def Tab.mores (T : Tab) : Nat → Tab
  | 0 => T
  | n + 1 => (T.mores n).more
/-- the least form by hand -/
def Tab.strip (T : Tab) : Tab := ⟨(Frm.strip T.head.reverse T.turn).1.reverse, (Frm.strip T.head.reverse T.turn).2⟩
structure Tab.L (T : Tab) : Prop where
  l : 1 ≤ T.turn.length
  z : Frm.Zr T.turn
  le : Frm.Least T.turn
theorem more_L {T : Tab} (h : T.L) : T.more.L := ⟨by show 1 ≤ (Frm.rotL _).length; rw [Frm.rotL_len]; exact h.l, Frm.zr_rotL h.z, Frm.least_rotL h.l h.z h.le⟩
theorem more_strip {T : Tab} (h : T.L) : T.more.strip = T.strip := by
  unfold Tab.strip Tab.more
  dsimp only
  rw [List.reverse_append]
  show Tab.mk (Frm.strip (Frm.at' T.turn 0 :: T.head.reverse) (Frm.rotL T.turn)).1.reverse (Frm.strip (Frm.at' T.turn 0 :: T.head.reverse) (Frm.rotL T.turn)).2 = _
  rw [Frm.strip, if_pos (Frm.at_zero h.l), Frm.rot_rotL h.l]
theorem more_val {T : Tab} (h : T.L) (n : Nat) : T.more.val n = T.val n := by
  unfold Tab.val Tab.more
  dsimp only
  rw [List.length_append, List.length_singleton]
  rcases Nat.lt_trichotomy n T.head.length with c | c | c
  · rw [if_pos (by omega), if_pos c, List.getD_eq_getElem?_getD, List.getD_eq_getElem?_getD, List.getElem?_append_left c]
  · subst c
    rw [if_pos (by omega), if_neg (by omega), Nat.sub_self, List.getD_eq_getElem?_getD, List.getElem?_append_right (Nat.le_refl _), Nat.sub_self]
    rfl
  · rw [if_neg (by omega), if_neg (by omega), (Frm.rotL_at h.l _).1]
    congr 1
    omega
theorem mores_all {T : Tab} (h : T.L) : ∀ n, (T.mores n).L ∧ (T.mores n).strip = T.strip ∧ (∀ k, (T.mores n).val k = T.val k) ∧ (T.mores n).head.length = T.head.length + n
  | 0 => ⟨h, rfl, fun _ => rfl, rfl⟩
  | n + 1 => by
    obtain ⟨a, b, c, d⟩ := mores_all h n
    refine ⟨more_L a, (more_strip a).trans b, fun k => (more_val a k).trans (c k), ?_⟩
    show ((T.mores n).head ++ [_]).length = _
    rw [List.length_append, d]
    rfl
/-- tables that tell the same have one least form -/
theorem strip_uniq {T U : Tab} (hT : T.L) (hU : U.L) (h : ∀ n, T.val n = U.val n) : T.strip = U.strip := by
  have same : ∀ {T U : Tab}, T.L → U.L → T.head.length = U.head.length → (∀ n, T.val n = U.val n) → T = U := fun {T U} hT hU hl h => by
    obtain ⟨hd, t⟩ := T
    obtain ⟨hd2, u⟩ := U
    dsimp only at hl
    have e1 : hd = hd2 := by
      apply List.ext_getElem hl
      intro i h1 h2
      have := h i
      unfold Tab.val at this
      dsimp only at this
      rw [if_pos h1, if_pos h2, List.getD_eq_getElem?_getD, List.getD_eq_getElem?_getD, List.getElem?_eq_getElem h1, List.getElem?_eq_getElem h2] at this
      exact this
    have e2 : t = u := Frm.least_uniq hT.l hU.l hT.z hU.z hT.le hU.le fun k => by
      have := h (hd.length + k)
      unfold Tab.val at this
      dsimp only at this
      rw [if_neg (by omega), if_neg (by omega), hl, Nat.add_sub_cancel_left] at this
      exact this
    rw [e1, e2]
  obtain ⟨a1, a2, a3, a4⟩ := mores_all hT U.head.length
  obtain ⟨b1, b2, b3, b4⟩ := mores_all hU T.head.length
  rw [← a2, ← b2, same a1 b1 (by rw [a4, b4]; omega) fun n => by rw [a3, b3, h]]
theorem least_uniq {T U : Tab} (hT : T.Ok) (hU : U.Ok) (h : ∀ n, T.val n = U.val n) : T.least = U.least := by
  have f : ∀ {T : Tab}, T.Ok → (⟨T.head, Frm.leastRound T.turn⟩ : Tab).L ∧ (∀ n, (⟨T.head, Frm.leastRound T.turn⟩ : Tab).val n = T.val n) := fun {T} ok => by
    have z := okP_zr ok.hp
    have sp := Frm.leastM_spec ok.l1
    refine ⟨⟨by show 1 ≤ (Frm.leastRound _).length; rw [Frm.leastRound_len ok.l1]; exact sp.1, okP_zr (okP_thin sp.1 sp.2.1 ok.hp), Frm.leastRound_least ok.l1 z⟩, fun n => ?_⟩
    unfold Tab.val
    dsimp only
    rw [Frm.leastRound_at ok.l1 z]
  exact strip_uniq (f hT).1 (f hU).1 fun n => by rw [(f hT).2, (f hU).2, h]
end Mp

set_option Elab.async false
set_option linter.all false
set_option maxRecDepth 100000
namespace Mp
/-! ### a law's own least form: second differences, led back -/
def lawHead (f : Nat → Option Int) (s : Nat) : Nat → Nat
  | 0 => 0
  | b + 1 => if Frm.goes (f b) (f (b + s)) (f (b + 2 * s)) = true then lawHead f s b else b + 1
def lawRise (x y : Option Int) : Int := match x, y with
  | some a, some b => b - a
  | _, _ => 0
def lawTab (f : Nat → Option Int) (b s : Nat) : Tab := ⟨(List.range b).map f, (List.range' b s).map fun n => (f n, lawRise (f n) (f (n + s)))⟩
theorem lawTab_self {hd : List (Option Int)} {t : List Frm.P} (hl : 1 ≤ t.length) (hz : Frm.Zr t) : lawTab (vals hd t) hd.length t.length = ⟨hd, t⟩ := by
  unfold lawTab
  have e1 : (List.range hd.length).map (vals hd t) = hd := by
    apply List.ext_getElem (by simp)
    intro i h1 h2
    rw [List.getElem_map, List.getElem_range]
    unfold vals
    rw [if_pos h2, List.getD_eq_getElem?_getD, List.getElem?_eq_getElem h2]
    rfl
  have e2 : ((List.range' hd.length t.length).map fun n => (vals hd t n, lawRise (vals hd t n) (vals hd t (n + t.length)))) = t := by
    apply List.ext_getElem (by simp)
    intro i h1 h2
    rw [List.getElem_map, List.getElem_range']
    have a1 : vals hd t (hd.length + 1 * i) = Frm.at' t i := by unfold vals; rw [if_neg (by omega)]; congr 1; omega
    have a2 : vals hd t (hd.length + 1 * i + t.length) = Frm.at' t (i + t.length) := by unfold vals; rw [if_neg (by omega)]; congr 1; omega
    rw [a1, a2]
    have gt : t[i] = Frm.get t i := by unfold Frm.get; rw [List.getD_eq_getElem?_getD, List.getElem?_eq_getElem h2]; rfl
    obtain ⟨u, n, r⟩ := Frm.at_turn hl hz i
    have z := hz _ (Frm.get_mem h2)
    rw [Frm.ris_lt h2] at n
    have fa := Frm.at_lt h2
    rw [gt]
    generalize Frm.get t i = p at *
    obtain ⟨a, ri⟩ := p
    dsimp only at fa
    rw [fa] at n u ⊢
    cases a with
    | none =>
      have : ri = 0 := z rfl
      subst this
      rfl
    | some a =>
      cases e : Frm.at' t (i + t.length) with
      | none => rw [e] at u; cases u
      | some b =>
        rw [e] at n
        simp only [Frm.num, Option.getD_some] at n
        show ((some a, b - a) : Frm.P) = (some a, ri)
        rw [show b - a = ri by omega]
  rw [e1, e2]
theorem lawHead_strip : ∀ (rh : List (Option Int)) (t : List Frm.P), 1 ≤ t.length → Frm.Zr t →
    lawTab (vals rh.reverse t) (lawHead (vals rh.reverse t) t.length rh.length) t.length = ⟨(Frm.strip rh t).1.reverse, (Frm.strip rh t).2⟩
  | [], t, hl, hz => by
    have := lawTab_self (hd := []) hl hz
    exact this
  | a :: r, t, hl, hz => by
    have v0 : vals (a :: r).reverse t r.length = a := by
      unfold vals
      rw [List.length_reverse, List.length_cons, if_pos (by omega), List.reverse_cons, List.getD_eq_getElem?_getD, List.getElem?_append_right (by rw [List.length_reverse]; exact Nat.le_refl _), List.length_reverse, Nat.sub_self]
      rfl
    have lastE := Frm.last_get hl
    have v1 : vals (a :: r).reverse t (r.length + t.length) = (Frm.last t).1 := by
      unfold vals
      rw [List.length_reverse, List.length_cons, if_neg (by omega), show r.length + t.length - (r.length + 1) = t.length - 1 by omega, Frm.at_lt (by omega), lastE]
    have tn := Frm.at_turn hl hz (t.length - 1)
    have v2 : vals (a :: r).reverse t (r.length + 2 * t.length) = Frm.at' t (t.length - 1 + t.length) := by
      unfold vals
      rw [List.length_reverse, List.length_cons, if_neg (by omega)]
      congr 1
      omega
    rw [Frm.at_lt (i := t.length - 1) (by omega), Frm.ris_lt (i := t.length - 1) (by omega), ← lastE] at tn
    have key : Frm.goes (vals (a :: r).reverse t r.length) (vals (a :: r).reverse t (r.length + t.length)) (vals (a :: r).reverse t (r.length + 2 * t.length)) = decide (a = Frm.ahead (Frm.last t)) := by
      rw [v0, v1, v2]
      obtain ⟨u, n, _⟩ := tn
      unfold Frm.ahead
      generalize Frm.last t = p at *
      obtain ⟨b, ri⟩ := p
      dsimp only at *
      cases b with
      | none =>
        cases e : Frm.at' t (t.length - 1 + t.length) with
        | some c => rw [e] at u; cases u
        | none => cases a <;> simp [Frm.goes]
      | some b =>
        cases e : Frm.at' t (t.length - 1 + t.length) with
        | none => rw [e] at u; cases u
        | some c =>
          rw [e] at n
          simp only [Frm.num, Option.getD_some] at n
          cases a with
          | none => simp [Frm.goes]
          | some a =>
            simp only [Frm.goes, Option.map_some, Option.some.injEq]
            exact decide_eq_decide.mpr (by omega)
    have hlen : (a :: r).length = r.length + 1 := rfl
    rw [hlen, lawHead, key]
    by_cases q : a = Frm.ahead (Frm.last t)
    · rw [decide_eq_true q, if_pos rfl, Frm.strip, if_pos q]
      have zr : Frm.Zr (Frm.rot t) := fun p hp e => by
        unfold Frm.rot at hp
        rcases List.mem_cons.mp hp with rfl | hp
        · have z := hz _ (getLast_mem' hl)
          refine z ?_
          unfold Frm.ahead at e
          cases h1 : (Frm.last t).1 with
          | none => rfl
          | some x => dsimp only at e; rw [h1] at e; cases e
        · exact hz p (List.dropLast_subset _ hp) e
      have ih := lawHead_strip r (Frm.rot t) (by rw [Frm.rot_len hl]; exact hl) zr
      have fe : vals (a :: r).reverse t = vals r.reverse (Frm.rot t) := by
        funext n
        unfold vals
        rw [List.length_reverse, List.length_reverse, List.length_cons, List.reverse_cons]
        rcases Nat.lt_trichotomy n r.length with c | c | c
        · rw [if_pos (by omega), if_pos c, List.getD_eq_getElem?_getD, List.getD_eq_getElem?_getD, List.getElem?_append_left (by rw [List.length_reverse]; exact c)]
        · subst c
          rw [if_pos (by omega), if_neg (by omega), Nat.sub_self, Frm.rot_zero hl, ← q, List.getD_eq_getElem?_getD, List.getElem?_append_right (by rw [List.length_reverse]; exact Nat.le_refl _), List.length_reverse, Nat.sub_self]
          rfl
        · rw [if_neg (by omega), if_neg (by omega), show n - r.length = (n - (r.length + 1)) + 1 by omega, (Frm.rot_at hl _).1]
      rw [fe]
      rw [Frm.rot_len hl] at ih
      exact ih
    · rw [decide_eq_false q, if_neg (by decide), Frm.strip, if_neg q]
      have := lawTab_self (hd := (a :: r).reverse) hl hz
      rw [List.length_reverse] at this
      exact this
/-- the law's own least form is the least form -/
theorem lawLeast_eq {T : Tab} (ok : T.Ok) : lawTab T.val (lawHead T.val (Frm.leastM T.turn) T.head.length) (Frm.leastM T.turn) = T.least := by
  have z := okP_zr ok.hp
  have sp := Frm.leastM_spec ok.l1
  have len := Frm.leastRound_len ok.l1
  have h := lawHead_strip T.head.reverse (Frm.leastRound T.turn) (by omega) (okP_zr (okP_thin sp.1 sp.2.1 ok.hp))
  rw [List.reverse_reverse, List.length_reverse, len] at h
  have fe : vals T.head (Frm.leastRound T.turn) = T.val := by
    funext n
    rw [Tab.val_eq]
    unfold vals
    rw [Frm.leastRound_at ok.l1 z]
  rw [fe] at h
  exact h
end Mp

set_option Elab.async false
set_option linter.all false
set_option maxRecDepth 100000
namespace Mp
/-! ### lines: the least number t with q * t at least p * n and lift together -/
def line (p : Int) (q : Nat) (lift : Int) (n : Nat) : Int := max 0 (-(-(p * (n : Int) + lift) / (q : Int)))
theorem line_nn (p : Int) (q : Nat) (lift : Int) (n : Nat) : 0 ≤ line p q lift n := Int.le_max_left _ _
theorem line_step {p : Int} {q : Nat} {lift : Int} {n : Nat} (hq : 1 ≤ q) (hp : 0 ≤ p) (h : 0 ≤ p * (n : Int) + lift) : line p q lift (n + q) = line p q lift n + p := by
  unfold line
  have e : -(p * ((n + q : Nat) : Int) + lift) = -(p * (n : Int) + lift) + (-p) * (q : Int) := by
    rw [Int.natCast_add, Int.mul_add, Int.neg_mul]
    omega
  have hq0 : (q : Int) ≠ 0 := by omega
  rw [e, Int.add_mul_ediv_right _ _ hq0]
  have z : -(p * (n : Int) + lift) / (q : Int) ≤ 0 := Int.ediv_nonpos_of_nonpos_of_neg (by omega) (by omega)
  generalize -(p * (n : Int) + lift) / (q : Int) = y at *
  rw [Int.max_eq_right (by omega), Int.max_eq_right (by omega)]
  omega
theorem line_flat {q : Nat} {lift : Int} (n m : Nat) : line 0 q lift n = line 0 q lift m := by unfold line; rw [Int.zero_mul, Int.zero_mul]
/-- a table of a line, its head of b amounts -/
def lineTab (p : Int) (q : Nat) (lift : Int) (b : Nat) : Tab := ⟨(List.range b).map fun n => some (line p q lift n), (List.range' b q).map fun n => (some (line p q lift n), p)⟩
/-- from b on it goes on -/
def Goes (p : Int) (q : Nat) (lift : Int) (b : Nat) : Prop := ∀ n, b ≤ n → line p q lift (n + q) = line p q lift n + p
theorem goes_many {p : Int} {q : Nat} {lift : Int} {b : Nat} (h : Goes p q lift b) : ∀ (k n : Nat), b ≤ n → line p q lift (n + k * q) = line p q lift n + (k : Int) * p
  | 0, n, _ => by simp
  | k + 1, n, hn => by
    rw [show n + (k + 1) * q = n + k * q + q by rw [Nat.add_mul]; omega, h _ (by omega), goes_many h k n hn, Int.natCast_add, Int.add_mul]
    simp
    omega
theorem lineTab_val {p : Int} {q : Nat} {lift : Int} {b : Nat} (hq : 1 ≤ q) (h : Goes p q lift b) (n : Nat) : (lineTab p q lift b).val n = some (line p q lift n) := by
  unfold Tab.val lineTab
  dsimp only
  rw [List.length_map, List.length_range]
  by_cases c : n < b
  · rw [if_pos c, List.getD_eq_getElem?_getD, List.getElem?_map, List.getElem?_range c]
    rfl
  · rw [if_neg c]
    unfold Frm.at' Frm.get
    rw [List.length_map, List.length_range']
    have hk : (n - b) % q < q := Nat.mod_lt _ (by omega)
    have e1 := Nat.div_add_mod (n - b) q
    generalize (n - b) % q = i at *
    generalize (n - b) / q = k at *
    have hg : ((List.range' b q).map fun n => ((some (line p q lift n), p) : Frm.P)).getD i (none, 0) = (some (line p q lift (b + i)), p) := by
      rw [List.getD_eq_getElem?_getD, List.getElem?_map, List.getElem?_range' hk]
      simp
    rw [hg]
    show some (line p q lift (b + i) + (k : Int) * p) = _
    rw [← goes_many h k (b + i) (by omega), show b + i + k * q = n by rw [Nat.mul_comm]; omega]
theorem lineTab_ok {p : Int} {q : Nat} {lift : Int} {b : Nat} (hb : b ≤ 1000) (hq : 1 ≤ q) (hq2 : q ≤ 120) (hp : 0 ≤ p) (hp2 : p < 2 ^ 60) : (lineTab p q lift b).Ok := by
  refine ⟨by show ((List.range b).map _).length ≤ _; simpa using hb, by show 1 ≤ ((List.range' b q).map _).length; simpa using hq, by show ((List.range' b q).map _).length ≤ _; simpa using hq2, fun a ha => ?_, fun x hx => ?_⟩
  · obtain ⟨n, _, rfl⟩ := List.mem_map.mp ha
    exact line_nn p q lift n
  · obtain ⟨n, _, rfl⟩ := List.mem_map.mp hx
    exact ⟨hp, hp2, line_nn p q lift n⟩
/-- all tables of one line have one least form -/
theorem lineTab_least {p : Int} {q : Nat} {lift : Int} {b c : Nat} (hb : b ≤ 1000) (hc : c ≤ 1000) (hq : 1 ≤ q) (hq2 : q ≤ 120) (hp : 0 ≤ p) (hp2 : p < 2 ^ 60) (h1 : Goes p q lift b) (h2 : Goes p q lift c) : (lineTab p q lift b).least = (lineTab p q lift c).least :=
  least_uniq (lineTab_ok hb hq hq2 hp hp2) (lineTab_ok hc hq hq2 hp hp2) fun n => by rw [lineTab_val hq h1, lineTab_val hq h2]
theorem goes_of {p : Int} {q : Nat} {lift : Int} {b : Nat} (hq : 1 ≤ q) (hp : 0 ≤ p) (h : p = 0 ∨ 0 ≤ p * (b : Int) + lift) : Goes p q lift b := fun n hn => by
  rcases h with rfl | h
  · rw [line_flat (n + q) n]; omega
  · refine line_step hq hp ?_
    have := Int.mul_le_mul_of_nonneg_left (show (b : Int) ≤ (n : Int) by omega) hp
    omega
end Mp

set_option Elab.async false
set_option linter.all false
set_option maxRecDepth 100000
namespace Mp
open PySem PySem.Spec PyProof.Rows L2
/-! ### loops and comprehensions by typed items: rules to rewrite with -/
theorem while_t {c : Tv} {b : Sv} {env e2 : Env} {h h1 h2 : Hh} (ec : c env h = .ok true h1) (eb : b env h1 = .nx e2 h2) : sWhile c b env h = sWhile c b e2 h2 := by
  rw [sWhile_unf, ec, lift_ok, if_pos rfl, eb]
theorem while_f {c : Tv} {b : Sv} {env : Env} {h h1 : Hh} (ec : c env h = .ok false h1) : sWhile c b env h = .nx env h1 := by
  rw [sWhile_unf, ec, lift_ok, if_neg (by decide)]
section
variable {α σ : Type} {g : Gv} {b : Sv}
/-- a loop that goes on, its state carried: E the names, M the lists -/
theorem for_fold (enc : α → Val) (E : σ → Env) (M : σ → Hh) (f : σ → α → σ) (P : σ → Prop) : ∀ (l : List α) (s : σ), P s →
    (∀ a ∈ l, ∀ s, P s → P (f s a) ∧ ∃ e1, g (enc a) (E s) (M s) = .ok e1 (M s) ∧ (b e1 (M s) = .nx (E (f s a)) (M (f s a)) ∨ b e1 (M s) = .ct (E (f s a)) (M (f s a)))) →
    forL g b [] (l.map enc) (E s) (M s) = .nx (E (l.foldl f s)) (M (l.foldl f s)) ∧ P (l.foldl f s)
  | [], s, hP, _ => by rw [List.map_nil, forL_nil]; exact ⟨rfl, hP⟩
  | a :: l, s, hP, hb => by
    obtain ⟨h1, e1, h2, h3⟩ := hb a List.mem_cons_self s hP
    have ih := for_fold enc E M f P l (f s a) h1 fun x hx => hb x (List.mem_cons_of_mem _ hx)
    rw [List.map_cons, forL_cons, h2, lift_ok]
    rcases h3 with h3 | h3 <;> rw [h3] <;> exact ih
/-- a loop that appends to the last list -/
theorem for_app {enc : α → Val} (F : α → Val) {env : Env} {h : Hh} : ∀ {l : List α} {acc : List Val},
    (∀ a ∈ l, ∀ acc : List Val, acc.length < 1000000 → ∃ e1, g (enc a) env (h ++ [.lst acc]) = .ok e1 (h ++ [.lst acc]) ∧ (b e1 (h ++ [.lst acc]) = .nx env (h ++ [.lst (acc ++ [F a])]) ∨ b e1 (h ++ [.lst acc]) = .ct env (h ++ [.lst (acc ++ [F a])]))) →
    acc.length + l.length ≤ 1000000 → forL g b [] (l.map enc) env (h ++ [.lst acc]) = .nx env (h ++ [.lst (acc ++ l.map F)])
  | [], acc, _, _ => by rw [List.map_nil, forL_nil, List.map_nil, List.append_nil]
  | a :: l, acc, hb, hz => by
    rw [List.length_cons] at hz
    obtain ⟨e1, h2, h3⟩ := hb a List.mem_cons_self acc (by omega)
    have ih := for_app (acc := acc ++ [F a]) F (fun x hx => hb x (List.mem_cons_of_mem _ hx)) (by rw [List.length_append, List.length_singleton]; omega)
    rw [List.map_cons, forL_cons, h2, lift_ok]
    rw [List.append_assoc] at ih
    rcases h3 with h3 | h3 <;> rw [h3] <;> exact ih
/-- a loop that leaves at the first item of a kind -/
theorem for_ret {enc : α → Val} (q : α → Bool) (R : α → Val) {env : Env} {h : Hh} : ∀ {l : List α},
    (∀ a ∈ l, ∃ e1, g (enc a) env h = .ok e1 h ∧ ((q a = true ∧ b e1 h = .rt (R a) h) ∨ (q a = false ∧ (b e1 h = .nx env h ∨ b e1 h = .ct env h)))) →
    forL g b [] (l.map enc) env h = match l.find? q with | some a => .rt (R a) h | none => .nx env h
  | [], _ => by rw [List.map_nil, forL_nil, List.find?_nil]
  | a :: l, hb => by
    obtain ⟨e1, h2, h3⟩ := hb a List.mem_cons_self
    rw [List.map_cons, forL_cons, h2, lift_ok]
    rcases h3 with ⟨q1, h3⟩ | ⟨q1, h3 | h3⟩
    · rw [h3, List.find?_cons_of_pos q1]
    · rw [h3, List.find?_cons_of_neg (by rw [q1]; decide)]; exact for_ret q R fun x hx => hb x (List.mem_cons_of_mem _ hx)
    · rw [h3, List.find?_cons_of_neg (by rw [q1]; decide)]; exact for_ret q R fun x hx => hb x (List.mem_cons_of_mem _ hx)
end
section
variable {α : Type} {own : List Nat} {it : Iev} {tg : Gv} {tt : Tv} {el : Ev} {env : Env} {h : Hh}
theorem compE (enc F : α → Val) (l : List α) (e0 : it env h = .ok ⟨l.map enc, []⟩ h) (hz : l.length ≤ 1000000) (hb : ∀ a ∈ l, ∃ e1, tg (enc a) (wipeE env own) h = .ok e1 h ∧ el e1 h = .ok (F a) h) :
    eComp false own it tg tTrue el env h = .ok (.lst (l.map F)) h := by
  refine x_comp e0 ?_
  have go : ∀ (l : List α) (acc : List Val), (∀ a ∈ l, ∃ e1, tg (enc a) (wipeE env own) h = .ok e1 h ∧ el e1 h = .ok (F a) h) → acc.length + l.length ≤ sizeLine → compL tg tTrue el [] (l.map enc) acc (wipeE env own) h = .ok (acc ++ l.map F) h := by
    intro l
    induction l with
    | nil => intro acc _ _; rw [List.map_nil, compL_nil, List.map_nil, List.append_nil]
    | cons a l ih =>
      intro acc hb hz
      rw [List.length_cons] at hz
      obtain ⟨e1, h1, h2⟩ := hb a List.mem_cons_self
      rw [List.map_cons, compL_cons, h1]
      dsimp only
      rw [x_tTrue]
      dsimp only
      rw [h2]
      dsimp only
      rw [if_pos (by omega), ih _ (fun x hx => hb x (List.mem_cons_of_mem _ hx)) (by rw [List.length_append, List.length_singleton]; omega), List.append_assoc]
      rfl
  exact go l [] hb (Nat.le_trans (by simpa using hz) (by rw [sizeLine_eq]; decide))
theorem compF (enc F : α → Val) (p : α → Bool) (l : List α) (e0 : it env h = .ok ⟨l.map enc, []⟩ h) (hz : l.length ≤ 1000000) (hb : ∀ a ∈ l, ∃ e1, tg (enc a) (wipeE env own) h = .ok e1 h ∧ tt e1 h = .ok (p a) h ∧ (p a = true → el e1 h = .ok (F a) h)) :
    eComp false own it tg tt el env h = .ok (.lst ((l.filter p).map F)) h := by
  refine x_comp e0 ?_
  have go : ∀ (l : List α) (acc : List Val), (∀ a ∈ l, ∃ e1, tg (enc a) (wipeE env own) h = .ok e1 h ∧ tt e1 h = .ok (p a) h ∧ (p a = true → el e1 h = .ok (F a) h)) → acc.length + l.length ≤ sizeLine → compL tg tt el [] (l.map enc) acc (wipeE env own) h = .ok (acc ++ (l.filter p).map F) h := by
    intro l
    induction l with
    | nil => intro acc _ _; rw [List.map_nil, compL_nil, List.filter_nil, List.map_nil, List.append_nil]
    | cons a l ih =>
      intro acc hb hz
      rw [List.length_cons] at hz
      obtain ⟨e1, h1, h2, h3⟩ := hb a List.mem_cons_self
      rw [List.map_cons, compL_cons, h1]
      dsimp only
      rw [h2]
      cases q : p a with
      | false =>
        dsimp only
        rw [ih _ (fun x hx => hb x (List.mem_cons_of_mem _ hx)) (by omega), List.filter_cons_of_neg (by rw [q]; decide)]
      | true =>
        dsimp only
        rw [h3 q]
        dsimp only
        rw [if_pos (by omega), ih _ (fun x hx => hb x (List.mem_cons_of_mem _ hx)) (by rw [List.length_append, List.length_singleton]; omega), List.append_assoc, List.filter_cons_of_pos q]
        rfl
  exact go l [] hb (Nat.le_trans (by simpa using hz) (by rw [sizeLine_eq]; decide))
end
/-! ### ranges by naturals -/
theorem rangeV_nat (a n : Nat) : rangeV (a : Int) ((a : Int) + (n : Int)) = (List.range' a n).map fun (i : Nat) => Val.int (i : Int) := by
  unfold rangeV
  rw [List.range'_eq_map_range, List.map_map, show ((a : Int) + (n : Int) - (a : Int)).toNat = n by omega]
  refine List.map_congr_left fun i _ => ?_
  show Val.int ((a : Int) + (i : Int)) = Val.int ((a + i : Nat) : Int)
  rw [Int.natCast_add]
theorem rangeV_0 (n : Nat) : rangeV 0 (n : Int) = (List.range n).map fun (i : Nat) => Val.int (i : Int) := by
  have := rangeV_nat 0 n
  rw [← List.range_eq_range'] at this
  rw [← this]
  congr 1
  omega
/-- range over naturals, below a bound that the machine takes -/
theorem rg1 {n : Nat} {h : Hh} (hn : n ≤ 1000000000) : rng1I [.int (n : Int)] h = .ok ⟨(List.range n).map fun (i : Nat) => Val.int (i : Int), []⟩ h := by
  rw [← rangeV_0]; exact rng1 (by omega) (by omega)
theorem rg2 {a n : Nat} {z : Int} {h : Hh} (e : z = (a : Int) + (n : Int)) (hn : a + n ≤ 1000000000) : rng2I [.int (a : Int), .int z] h = .ok ⟨(List.range' a n).map fun (i : Nat) => Val.int (i : Int), []⟩ h := by
  subst e
  rw [← rangeV_nat]; exact rng2 (by omega) (by omega) (by omega) (by omega)
/-! ### the lists made last -/
@[simp] theorem mk_f' (l : List Val) (h : Hh) : mk false l h = .ok (.lst l) h := rfl
@[simp] theorem mk_t (l : List Val) (h : Hh) : mk true l h = .ok (.ref h.length) (h ++ [.lst l]) := rfl
theorem app_end {l : List Val} {v : Val} {h : Hh} {n : Nat} (hn : n = h.length) (hl : l.length < 1000000) (hv : v.bel 0 = true) : appP (.ref n) [v] (h ++ [.lst l]) = .ok .non (h ++ [.lst (l ++ [v])]) := by
  subst hn
  unfold appP
  dsimp only
  have e : (h ++ [Ob.lst l])[h.length]? = some (.lst l) := by simp
  rw [e]
  dsimp only
  rw [if_pos ⟨Nat.lt_of_lt_of_le hl (by rw [sizeLine_eq]; decide), bel_mono (Nat.zero_le _) v hv⟩]
  simp
theorem lsq_end {l : List Val} {h : Hh} {n : Nat} (hn : n = h.length) : lsq (.ref n) (h ++ [.lst l]) = some l := by
  subst hn
  unfold lsq
  have e : (h ++ [Ob.lst l])[h.length]? = some (.lst l) := by simp
  dsimp only
  rw [e]
theorem tuple_end {l : List Val} {h : Hh} {n : Nat} (hn : n = h.length) : tupleP [.ref n] (h ++ [.lst l]) = .ok (.tup l) (h ++ [.lst l]) := by
  unfold tupleP
  dsimp only
  rw [lsq_end hn]
@[simp] theorem tuple_lst (l : List Val) (h : Hh) : tupleP [.lst l] h = .ok (.tup l) h := rfl
@[simp] theorem tuple_tup (l : List Val) (h : Hh) : tupleP [.tup l] h = .ok (.tup l) h := rfl
@[simp] theorem list_tup' (l : List Val) (h : Hh) : listP false [.tup l] h = .ok (.lst l) h := rfl
@[simp] theorem list_lst' (l : List Val) (h : Hh) : listP false [.lst l] h = .ok (.lst l) h := rfl
@[simp] theorem take_end (h t : Hh) : (h ++ t).take h.length = h := List.take_left
theorem max2 (a b : Int) (h : Hh) : maxP [.int a, .int b] h = .ok (.int (max a b)) h := by
  show R.ok (Val.int (if b > a then b else a)) h = _
  by_cases q : b > a
  · rw [if_pos q, Int.max_eq_right (by omega)]
  · rw [if_neg q, Int.max_eq_left (by omega)]
theorem min2 (a b : Int) (h : Hh) : minP [.int a, .int b] h = .ok (.int (min a b)) h := by
  show R.ok (Val.int (if b < a then b else a)) h = _
  by_cases q : b < a
  · rw [if_pos q, Int.min_eq_right (by omega)]
  · rw [if_neg q, Int.min_eq_left (by omega)]
@[simp] theorem neg_int' (a : Int) (h : Hh) : negP (.int a) h = .ok (.int (-a)) h := rfl
@[simp] theorem x_raiseA (n : Nat) (f : Str) (a : Ev) {env : Env} {h : Hh} : sRaiseA n f a env h = lift (a env h) env fun v h1 => .exc ⟨n, [(f, v)]⟩ env h1 := rfl
@[simp] theorem x_tryA (L : List Nat) (s : Sv) (hs : List (Nat × Option Nat × (Ex → Sv))) {env : Env} {h : Hh} : sTryA L s hs env h = match s env h with
  | .exc x e h1 => catchA L hs x e h1
  | .nx e h1 => .nx e h1
  | .rt v h1 => .rt v h1
  | .bk e h1 => .bk e h1
  | .ct e h1 => .ct e h1
  | .bad => .bad := rfl
theorem run_excA {N : Nat} {b : Sv} {args : List Val} {x : Nat} {f : Str} {i : Int} {en : Env} {h h1 : Hh} (e : b (args.map some ++ List.replicate (N - args.length) none) h = .exc ⟨x, [(f, .int i)]⟩ en h1) (hh : h1.take h.length = h) : runFn N b args h = .exc ⟨x, [(f, .int i)]⟩ h := by
  unfold runFn
  rw [e]
  show finX h ⟨x, [(f, .int i)]⟩ h1 = _
  unfold finX
  rw [if_pos (by simp [Val.bel]), hh]
theorem szz {n : Nat} (h : n ≤ 1000000) : (n ≤ sizeLine) = True := eq_true (Nat.le_trans h (by rw [sizeLine_eq]; decide))
/-- a part rewritten to what it gives; that it does so is shown behind -/
theorem rwto {α : Type} {a b : α} (h : a = b) : a = b := h
end Mp

set_option Elab.async false
set_option linter.all false
set_option maxRecDepth 100000
set_option maxHeartbeats 2000000
namespace Mp
open PySem PySem.Spec PyProof.Rows L2
/-! ### min(xs, key = f), f a def of the program: keys are ints or tuples of ints -/
def tlt : Val → Val → Option Bool
  | .int i, .int j => some (decide (i < j))
  | .tup a, .tup b => match intsOf a, intsOf b with
    | some x, some y => some (HT.lexLt x y)
    | _, _ => none
  | _, _ => none
open Classical in
noncomputable def minKL (g : List Val → Hh → R Val) (c : List (Nat × List Val)) : Val → Val → List Val → Hh → R Val
  | b, kb, [], h => if chkOk c h then .ok b h else .bad
  | b, kb, x :: r, h => if chkOk c h then match g [x] h with
      | .ok k h1 => match tlt k kb with
        | some true => minKL g c x k r h1
        | some false => minKL g c b kb r h1
        | none => .bad
      | _ => .bad
    else .bad
noncomputable def minK (g : List Val → Hh → R Val) (v : Val) (h : Hh) : R Val := match lsq v h with
  | some (x :: r) => match g [x] h with
    | .ok k h1 => minKL g (chkOf v h) x k r h1
    | _ => .bad
  | _ => .bad
noncomputable def eMinK (g : List Val → Hh → R Val) (a : Ev) : Ev := fun env h => (a env h).bnd fun v h1 => minK g v h1
section
variable {X : Cx} {pins : List (Addr × Obj)} {σ : St} {H : Hp} {s : Shared}
/-- what is untracked, new and the program's own business: its object is pinned -/
structure Own (X : Cx) (pins : List (Addr × Obj)) (a : Addr) : Prop where
  above : X.s_0.heap.objs.size ≤ a
  frs : a ∉ frs X.stack
  apart : ∀ p ∈ X.pn ++ pins, p.1 ≠ a
theorem own_new (I : Inv X pins σ H s) {a : Addr} (ha : s.heap.objs.size ≤ a) : Own X pins a :=
  ⟨Nat.le_trans I.sz ha, fun z => by
    rcases List.mem_cons.mp (I.stkSub _ z) with e | e
    · have := I.lt
      rw [← e] at this
      exact Nat.lt_irrefl _ (Nat.lt_of_lt_of_le this ha)
    · exact I.nofs ha e, fun p hp e => by
    have := Heap.lt_size (I.pin p hp).1
    rw [e] at this
    exact Nat.lt_irrefl _ (Nat.lt_of_lt_of_le this ha)⟩
/-- a new object, pinned -/
theorem inv_pin (I : Inv X pins σ H s) {a : Addr} {o : Obj} {h' : Heap} (ha : s.heap.objs.size ≤ a) (k : ∀ b u, s.heap.get? b = some u → h'.get? b = some u) (e : h'.get? a = some o) (nc : ∀ v, o.data ≠ .cell v) : Inv X ((a, o) :: pins) σ H { s with heap := h' } :=
  (I.kept (t' := s.toks) k).pins_of fun p hp => by
    rcases List.mem_cons.mp hp with rfl | hp
    · exact ⟨e, I.hok.fresh ha, fun z => by have := I.lt; rw [← z] at this; exact Nat.lt_irrefl _ (Nat.lt_of_lt_of_le this ha), I.nofs ha, nc⟩
    · exact (I.kept (t' := s.toks) k).pin p (List.mem_append_right _ hp)
/-- a pinned object of one's own, changed in any way -/
theorem inv_any {a : Addr} {o : Obj} {h' : Heap} {t' : Nat} (I : Inv X ((a, o) :: pins) σ H s) (W : Own X pins a) (k : ∀ b u, b ≠ a → s.heap.get? b = some u → h'.get? b = some u) : Inv X pins σ H { s with heap := h', toks := t' } := by
  have pa := I.pin (a, o) (List.mem_append_right _ List.mem_cons_self)
  have J : Inv X pins σ H s := I.pins_of fun p hp => I.pin p (List.mem_append_right _ (List.mem_cons_of_mem _ hp))
  have neA : ∀ b u, H b = some u → b ≠ a := fun b u e z => by rw [z, pa.2.1] at e; cases e
  exact J.call' (ch := [a]) rfl
    ⟨fun b u q _ _ hx => k b u (by simpa using hx) q, fun b u q _ _ hx => ⟨u.slots, k b u (by simpa using hx) q⟩, fun _ _ _ n _ => n, fun b u q hx => ⟨u, k b u (by simpa using hx) q⟩, fun _ _ q => q, fun _ _ _ q => q, fun _ _ q => ⟨#[], by simpa using q⟩⟩
    (fun b u q => (J.hok b u q).stay (fun d v hd q2 => k d v (by
      rcases hd with rfl | hd
      · exact neA _ _ q
      · exact neA _ _ hd) q2) (fun _ q => q) fun _ _ q => q) J.bare fun b hb => by
      have eb : b = a := by simpa using hb
      subst eb
      refine ⟨.inr W.above, pa.2.2.1, fun x c hc z => ?_, W.apart⟩
      obtain ⟨v, ob, q1, q2⟩ := J.cell x c hc
      rw [z, pa.1] at q1
      cases q1
      exact pa.2.2.2.2 v q2
/-- .. and pinned anew -/
theorem inv_put {a : Addr} {o o' : Obj} {h' : Heap} {t' : Nat} (I : Inv X ((a, o) :: pins) σ H s) (W : Own X pins a) (k : ∀ b u, b ≠ a → s.heap.get? b = some u → h'.get? b = some u) (e : h'.get? a = some o') (nc : ∀ v, o'.data ≠ .cell v) : Inv X ((a, o') :: pins) σ H { s with heap := h', toks := t' } := by
  have pa := I.pin (a, o) (List.mem_append_right _ List.mem_cons_self)
  have J2 := inv_any (t' := t') I W k
  exact J2.pins_of fun p hp => by
    rcases List.mem_cons.mp hp with rfl | hp
    · exact ⟨e, pa.2.1, pa.2.2.1, pa.2.2.2.1, nc⟩
    · exact J2.pin p (List.mem_append_right _ hp)
theorem inv_swap {p q : Addr × Obj} (I : Inv X (p :: q :: pins) σ H s) : Inv X (q :: p :: pins) σ H s := I.pins_of fun r hr => I.pin r (List.mem_append_right _ (by
  simp only [List.mem_cons] at hr ⊢
  rcases hr with h | h | h
  · exact .inr (.inl h)
  · exact .inl h
  · exact .inr (.inr h)))
/-- keys compared -/
theorem tlt_ok {T : Tr} {k kb : Val} {x y : V} {u w : Value} {b : Bool} {A : Around} {Q E : Value → Shared → Prop} (I : Inv X pins σ H s) (e : tlt k kb = some b) (r1 : RepV X.K H T k x) (r2 : RepV X.K H T kb y) (ru : RelV x u) (rw' : RelV y w) (hu : A.units < cLine) (q : Q (.bool b) s) :
    wpAny (model X.prog X.w) A (richCompare .Lt u w) Q E s := by
  unfold tlt at e
  split at e
  · rename_i i j
    cases r1; cases r2
    obtain ⟨t1, rfl⟩ := ru
    obtain ⟨t2, rfl⟩ := rw'
    refine CmpOf.ints_lt (prog := X.prog) (w := X.w) (A := A) (P := fun n v => ∃ t, v = .int (if n = 0 then i else j) t) (fun n => if n = 0 then i else j) (fun n v h => h) 0 1 _ _ _ _ _ ⟨t1, rfl⟩ ⟨t2, rfl⟩ ?_
    have e' : b = decide (i < j) := (Option.some.inj e).symm
    rw [e'] at q
    exact q
  · rename_i a c
    split at e
    · rename_i xs ys ea ec
      cases e
      obtain ⟨p1, as, rfl, h1, l1⟩ := tup_rep r1
      obtain ⟨p2, bs, rfl, h2, l2⟩ := tup_rep r2
      cases ru; cases rw'
      have q1 : as = xs.map V.int := ints_of ea l1
      have q2 : bs = ys.map V.int := ints_of ec l2
      subst q1 q2
      obtain ⟨its, s1, t1, _⟩ := I.tuple h1
      obtain ⟨its2, s2, t2, _⟩ := I.tuple h2
      exact HT.lt_tupInts t1 t2 (L2.intsAre_of (by simpa using s1)) (L2.intsAre_of (by simpa using s2)) hu q
    · cases e
  · cases e
where
  ints_of {K : PySem.W.Frag} {T : Tr} {H : Hp} {l : List Val} {xs : List Int} {ys : List V} (e : intsOf l = some xs) (r : RepL K H T l ys) : ys = xs.map V.int := by
    rw [intsOf_eq e] at r
    exact ints_inv xs r
  ints_inv {K : PySem.W.Frag} {T : Tr} {H : Hp} : ∀ (xs : List Int) {ys : List V}, RepL K H T (xs.map Val.int) ys → ys = xs.map V.int
    | [], _, r => by cases r; rfl
    | x :: xs, _, r => by
      cases r with
      | cons h r =>
        cases h
        rw [ints_inv xs r]
        rfl
theorem callKey {P' : List (Addr × Obj)} {k : Nat} {q : Addr} {fd : FuncData} {ps : List Str} {g : List Val → Hh → R Val} {T : Tr} {μ μ1 : Hh} {x kx : Val} {xv : V} {u : Value} (I : Inv X P' σ H s) (F : FnOk X.prog X.w X.K X.mg X.base (L2.CX X.prog X.w) k q fd ps (spG X.K X.mg 1 g)) (hb : Binds X.K fd ps [])
    (hp : ps.length = 1) (hr : Room (k + 1) X.A) (hs : HSim X.K T μ H) (r : RepV X.K H T x xv) (ru : RelV xv u) (e : g [x] μ = .ok kx μ1) :
    wpAny (model X.prog X.w) X.A.in1 (call (.ref q) [u]) (fun u' s' => ∃ T1 H1 xk, Step T H T1 H1 ∧ HSim X.K T1 μ1 H1 ∧ Inv X P' σ H1 s' ∧ RepV X.K H1 T1 kx xk ∧ RelV xk u') (fun _ _ => False) s := by
  have rc := F.run X.A.in1 X.stack s H ⟨[u], []⟩ [u] [xv] (fun v H1 => ∃ T1, Step T H T1 H1 ∧ HSim X.K T1 μ1 H1 ∧ RepV X.K H1 T1 kx v) (fun _ _ _ => False) hr.in1 I.env0.in1 (by simpa using hb s [u] I.kIn (by simp [hp])) (.cons ru .nil)
    ⟨T, μ, [x], hs, .cons r .nil, rfl, by rw [e]; exact fun T' H' b st hs' rl => ⟨T', st, hs', rl⟩⟩
  refine wpAny_call (codeAny_mono rc fun r s2 hq => ?_)
  cases r with
  | error e =>
    obtain ⟨_, _, _, _, _, _, _, _, _, _, _, _, z⟩ := hq
    exact z.elim
  | ok fl =>
    cases fl with
    | ret u' =>
      obtain ⟨v, H1, I1, rv, T1, st, hs1, rl⟩ := I.after hq
      exact ⟨T1, H1, v, st, hs1, I1, rl, rv⟩
    | next => exact hq.elim
    | brk => exact hq.elim
    | cont => exact hq.elim
/-- what is wanted of the built-in's end -/
def minEnd (X : Cx) (pins : List (Addr × Obj)) (σ : St) (Q : VK) (r : Result) (s' : Shared) : Prop := match r with
  | .ok (.ret v) => EP X pins σ Q v s'
  | .ok _ => False
  | .error e => X.xe e s'
theorem minKey_loop {k : Nat} {q l S It : Addr} {fd : FuncData} {ps : List Str} {g : List Val → Hh → R Val} {v : Val} {L : List Val} {T0 : Tr} {μ0 : Hh} {H0 : Hp} {Q : VK} (F : FnOk X.prog X.w X.K X.mg X.base (L2.CX X.prog X.w) k q fd ps (spG X.K X.mg 1 g)) (hb : Binds X.K fd ps [])
    (hp : ps.length = 1) (hr : Room (k + 1) X.A) (r0 : RepV X.K H0 T0 v (.ref l)) (e0 : lsq v μ0 = some L) (wS : Own X ((It, default) :: pins) S) (wI : ∀ oS, Own X ((S, oS) :: pins) It) (hSI : S ≠ It) :
    ∀ (rest : List Val) (j : Nat) (T : Tr) (μ : Hh) (H : Hp) (s : Shared) (b kb : Val) (xb xk : V) (vb vk : Value) (oI : Obj) (c : Nat), rest = L.drop j → j ≤ L.length → Step T0 H0 T H → HSim X.K T μ H → Inv X ((S, seqObj "list" #[vb, vk] c) :: (It, oI) :: pins) σ H s → s.heap.IsListIter It l j →
      RepV X.K H T b xb → RelV xb vb → RepV X.K H T kb xk → RelV xk vk → Post X.K (RV X.K) T H (minKL g (chkOf v μ0) b kb rest μ) Q (fun _ _ _ => False) →
      codeAny (model X.prog X.w) X.A (.builtin "min.loop" ⟨[.ref It, .ref q, .ref S], []⟩) (minEnd X pins σ Q) s := by
  have hname : (toString "min" ++ toString ".loop" : String) = "min.loop" := by decide
  have hh : X.A.in1.handled = none := hr.hd
  have noc : ∀ (vb vk : Value) (c : Nat) (z : Option Value), (seqObj "list" #[vb, vk] c).data ≠ .cell z := fun _ _ _ _ z => nomatch z
  intro rest
  induction rest with
  | nil =>
    intro j T μ H s b kb xb xk vb vk oI c hrest hj st hs I hit rb rvb rk rvk post
    unfold minKL at post
    split at post
    · rename_i ck
      have hjl : j = L.length := by
        have := congrArg List.length hrest
        rw [List.length_nil, List.length_drop] at this
        omega
      obtain ⟨a', xs, ea, h1, l1⟩ := lsq_rep hs (r0.step st) (lsq_keep e0 ck)
      cases ea
      obtain ⟨its, rv, ⟨ol, nl, gl, cl, dl, dd⟩, hsz⟩ := I.list h1
      have hlen : its.toArray.size = L.length := by simp [← rv.length, l1.length]
      have hlI : l ≠ It := fun z => by
        have := (I.pin (It, oI) (List.mem_append_right _ (.tail _ (.head _)))).1
        rw [z] at gl
        rw [gl] at this
        obtain ⟨o2, g2, c2, _⟩ := hit
        rw [gl] at g2; cases g2
        rw [cl] at c2
        simp at c2
      have W := Walks.list (prog := X.prog) (w := X.w) (A := X.A.in1) hh It l hlI its.toArray
      have pS := I.pin (S, seqObj "list" #[vb, vk] c) (List.mem_append_right _ (.head _))
      refine codeAny_builtin PySem.F.entry_min_loop ?_
      rw [Around.under_plainId PySem.F.plain_min_loop _]
      show wpAny _ X.A.in1 (seqItems? (.ref S) >>= _) _ _ _
      refine wpAny_bind (wpAny_seqItems pS.1 rfl ?_)
      show wpAny _ X.A.in1 (tryCatch (pyNext (.ref It)) _ >>= _) _ _ _
      refine wpAny_bind (wpAny_tryCatch (W.done _ _ _ ⟨by rw [hlen, ← hjl]; exact hit, ⟨ol, gl, cl, nl, dd⟩⟩ fun h' tk' hk' => ?_))
      have I2 : Inv X ((S, seqObj "list" #[vb, vk] c) :: pins) σ H { s with heap := h', toks := tk' } := inv_any (inv_swap I) (wI _) fun b u hb e => hk' b u (by simpa using hb) e
      have pS2 := I2.pin (S, seqObj "list" #[vb, vk] c) (List.mem_append_right _ (.head _))
      have s1 := Heap.SameBut.update h' S (Obj.mapSeq fun _ => (#[] : Array Value))
      show wpAny _ X.A.in1 (updateSeq S (fun _ => #[]) >>= _) _ _ _
      refine wpAny_bind ?_
      refine wpAny_updateSeq pS2.1 rfl (wpAny_bind (wpAny_letGo (wpAny_pure ?_)))
      have I3 := inv_any (t' := tk') (h' := h'.update S (Obj.mapSeq fun _ => (#[] : Array Value))) I2 ⟨wS.above, wS.frs, fun p hp => wS.apart p (by
        rcases List.mem_append.mp hp with z | z
        · exact List.mem_append_left _ z
        · exact List.mem_append_right _ (List.mem_cons_of_mem _ z))⟩ fun b u hb e => (s1.2 b hb).trans e
      exact ⟨xb, H, I3, rvb, Post.now post hs rb⟩
    · exact post.elim
  | cons x r ih =>
    intro j T μ H s b kb xb xk vb vk oI c hrest hj st hs I hit rb rvb rk rvk post
    unfold minKL at post
    split at post
    · rename_i ck
      have hjl : j < L.length := by
        have := congrArg List.length hrest
        rw [List.length_cons, List.length_drop] at this
        omega
      have hd := List.drop_eq_getElem_cons hjl
      rw [← hrest] at hd
      have hx : L[j] = x := (List.cons.inj hd).1.symm
      have hr2 : r = L.drop (j + 1) := (List.cons.inj hd).2
      obtain ⟨a', xs, ea, h1, l1⟩ := lsq_rep hs (r0.step st) (lsq_keep e0 ck)
      cases ea
      obtain ⟨its, rv, ⟨ol, nl, gl, cl, dl, dd⟩, hsz⟩ := I.list h1
      have hlen : its.toArray.size = L.length := by simp [← rv.length, l1.length]
      have hlI : l ≠ It := fun z => by
        have := (I.pin (It, oI) (List.mem_append_right _ (.tail _ (.head _)))).1
        rw [z] at gl
        obtain ⟨o2, g2, c2, _⟩ := hit
        rw [gl] at g2; cases g2
        rw [cl] at c2
        simp at c2
      have W := Walks.list (prog := X.prog) (w := X.w) (A := X.A.in1) hh It l hlI its.toArray
      have pS := I.pin (S, seqObj "list" #[vb, vk] c) (List.mem_append_right _ (.head _))
      refine codeAny_builtin PySem.F.entry_min_loop ?_
      rw [Around.under_plainId PySem.F.plain_min_loop _]
      show wpAny _ X.A.in1 (seqItems? (.ref S) >>= _) _ _ _
      refine wpAny_bind (wpAny_seqItems pS.1 rfl ?_)
      show wpAny _ X.A.in1 (tryCatch (pyNext (.ref It)) _ >>= _) _ _ _
      refine wpAny_bind (wpAny_tryCatch (W.item j _ _ _ (by rw [hlen]; exact hjl) ⟨hit, ⟨ol, gl, cl, nl, dd⟩⟩ fun u h' tk' hP hst' hk' => ?_))
      obtain ⟨oI', gI', cI', dI'⟩ := id hst'.1
      have I2 := inv_put (t' := tk') (h' := h') (inv_swap I) (wI _) (fun b u hb e => hk' b u (by simpa using hb) e) gI' (fun z e => by rw [dI'] at e; cases e)
      have I3 := inv_swap I2
      obtain ⟨xx, ex, rx⟩ := l1.get (List.getElem?_eq_getElem hjl)
      obtain ⟨u2, eu, rxu⟩ := rv.get ex
      have eu2 : u2 = u := by
        have : its[j]? = some u := by simpa using hP
        rw [eu] at this
        exact Option.some.inj this
      subst eu2
      rw [hx] at rx
      cases hg : g [x] μ with
      | exc y m => rw [hg] at post; exact post.elim
      | bad => rw [hg] at post; exact post.elim
      | ok kx μ1 =>
        rw [hg] at post
        dsimp only at post
        show wpAny _ X.A.in1 (tryCatch (holding [u2] (call (.ref q) [u2])) _ >>= _) _ _ _
        refine wpAny_bind (wpAny_tryCatch (wpAny_holding (wpAny_mono (callKey I3 F hb hp hr hs rx rxu hg) (fun kv s2 he => ?_) fun _ _ hF => hF.elim)))
        obtain ⟨T1, H1, xk2, st1, hs1, I4, rk2, rvk2⟩ := he
        have pS4 := I4.pin (S, seqObj "list" #[vb, vk] c) (List.mem_append_right _ (.head _))
        have pI4 := I4.pin (It, oI') (List.mem_append_right _ (.tail _ (.head _)))
        cases ht : tlt kx kb with
        | none => rw [ht] at post; exact post.elim
        | some lt =>
          rw [ht] at post
          show wpAny _ X.A.in1 (tryCatch (holding [u2, kv] (richCompare .Lt kv vk >>= _)) _ >>= _) _ _ _
          refine wpAny_bind (wpAny_tryCatch (wpAny_holding (wpAny_bind (tlt_ok I4 ht rk2 (rk.step st1) rvk2 rvk (by have := hr.un; show X.A.units + 1 < cLine; omega) ?_))))
          refine wpAny_bind (wpAny_holding (wpAny_truthy_bool ?_))
          refine wpAny_bind (wpAny_letGo (wpAny_pure ?_))
          cases lt with
          | true =>
            dsimp only at post
            have s1 := Heap.SameBut.update s2.heap S (Obj.mapSeq fun _ => #[u2, kv])
            obtain ⟨c2, hc2⟩ : ∃ c2, (s2.heap.update S (Obj.mapSeq fun _ => #[u2, kv])).get? S = some (seqObj "list" #[u2, kv] c2) := ⟨_, get?_update_seq pS4.1 fun _ => #[u2, kv]⟩
            simp only [if_true]
            refine wpAny_bind ?_
            refine wpAny_updateSeq pS4.1 rfl (wpAny_bind (wpAny_letGo ?_))
            rw [hname]
            have wS2 : Own X ((It, oI') :: pins) S := ⟨wS.above, wS.frs, fun p hp => by
              rcases List.mem_append.mp hp with z | z
              · exact wS.apart p (List.mem_append_left _ z)
              · rcases List.mem_cons.mp z with rfl | z
                · exact hSI.symm
                · exact wS.apart p (List.mem_append_right _ (List.mem_cons_of_mem _ z))⟩
            have I5 := inv_put (t' := s2.toks) (h' := s2.heap.update S (Obj.mapSeq fun _ => #[u2, kv])) I4 wS2 (fun b u hb e => (s1.2 b hb).trans e) hc2 (noc _ _ _)
            exact wpAny_pure ⟨plainId_quiet PySem.F.plain_min_loop _, ih (j + 1) T1 μ1 H1 _ x kx xx xk2 u2 kv oI' c2 hr2 hjl (st.trans st1) hs1 I5 ⟨oI', (s1.2 It hSI.symm).trans pI4.1, cI', dI'⟩ (rx.step st1) rxu rk2 rvk2 (Post.step post st1)⟩
          | false =>
            dsimp only at post
            simp only [Bool.false_eq_true, if_false]
            refine wpAny_bind (wpAny_letGo ?_)
            rw [hname]
            exact wpAny_pure ⟨plainId_quiet PySem.F.plain_min_loop _, ih (j + 1) T1 μ1 H1 _ b kb xb xk vb vk oI' c hr2 hjl (st.trans st1) hs1 I4 ⟨oI', pI4.1, cI', dI'⟩ (rb.step st1) rvb (rk.step st1) rvk (Post.step post st1)⟩
    · exact post.elim
theorem minKey_call {k : Nat} {q : Addr} {fd : FuncData} {ps : List Str} {g : List Val → Hh → R Val} (F : FnOk X.prog X.w X.K X.mg X.base (L2.CX X.prog X.w) k q fd ps (spG X.K X.mg 1 g)) (hb : Binds X.K fd ps []) (hp : ps.length = 1) (hr : Room (k + 1) X.A) :
    CallRK X (.builtin "min") ["key"] (fun xs zs H Q => zs = [.ref q] ∧ ∃ T μ v x, xs = [x] ∧ HSim X.K T μ H ∧ RepV X.K H T v x ∧ Post X.K (RV X.K) T H (minK g v μ) Q (fun _ _ _ => False)) := by
  intro pins s σ H xs zs us ws Q I rx rz ⟨ez, T, μ, v, x, ex, hs, r, post⟩
  subst ez ex
  obtain ⟨u, rfl, ru⟩ : ∃ u, us = [u] ∧ RelV x u := by
    cases rx with
    | cons a b => cases b; exact ⟨_, rfl, a⟩
  obtain ⟨z, rfl, ru2⟩ : ∃ z, ws = [z] ∧ RelV (.ref q) z := by
    cases rz with
    | cons a b => cases b; exact ⟨_, rfl, a⟩
  cases ru2
  have hname : (toString "min" ++ toString ".loop" : String) = "min.loop" := by decide
  unfold minK at post
  split at post
  · rename_i y L e0
    obtain ⟨l, ys, rfl, h1, l1⟩ := lsq_rep hs r e0
    cases ru
    obtain ⟨its, rv, ⟨ol, nl, gl, cl, dl, dd⟩, hsz⟩ := I.list h1
    have hlen : its.toArray.size = (y :: L).length := by simp only [List.size_toArray, ← rv.length, l1.length]
    show wpAny (model X.prog X.w) X.A (call (.builtin "min") [.ref l] [(Str.ofString "key", .ref q)]) _ _ s
    refine kmk_tree PySem.F.kind_min PySem.F.plain_min PySem.F.entry_min (kmk_min_key _ _) ?_
    show wpAny _ X.A.in1 (Builtin.Builtins.bindParams "min" ["key", "default"] 0 ⟨[], [(Str.ofString "key", .ref q)]⟩ >>= _) _ _ s
    refine wpAny_bind (wpAny_of_eq (show Builtin.Builtins.bindParams "min" ["key", "default"] 0 ⟨[], [(Str.ofString "key", .ref q)]⟩ = pure [some (.ref q), none] from rfl) ?_)
    refine wpAny_bind (wpAny_pure ?_)
    refine wpAny_bind (wpAny_pyIter_list (items := its.toArray) ⟨ol, gl, cl, nl, dd⟩ ?_)
    refine wpAny_bind (wpAny_newList ?_ (Nat.zero_le _))
    rw [hname]
    -- the iterator, the list of the best
    generalize hI : s.heap.objs.size = It
    have gI : (s.heap.push { cls := .type "list_iterator", data := .fields #[.ref l, .int 0 0] }).get? It = some { cls := .type "list_iterator", data := .fields #[.ref l, .int 0 0] } := by rw [← hI]; exact Heap.get?_push_size _ rfl
    have wI := own_new I (a := It) (by rw [hI]; exact Nat.le_refl _)
    have I1 := inv_pin I (a := It) (h' := s.heap.push { cls := .type "list_iterator", data := .fields #[.ref l, .int 0 0] }) (by rw [hI]; exact Nat.le_refl _) (fun b u e => Heap.get?_push_of_some _ e) gI (fun v z => nomatch z)
    have szP : (s.heap.push { cls := .type "list_iterator", data := .fields #[.ref l, .int 0 0] }).objs.size = It + 1 := by rw [← hI]; exact size_push' ..
    generalize hS : (s.heap.push { cls := .type "list_iterator", data := .fields #[.ref l, .int 0 0] }).objs.size = S at szP ⊢
    have hSI : S ≠ It := by rw [szP]; exact Nat.ne_of_gt (Nat.lt_succ_self _)
    have wS := own_new I1 (a := S) (by rw [← hS]; exact Nat.le_refl _)
    have gS : ((s.heap.push { cls := .type "list_iterator", data := .fields #[.ref l, .int 0 0] }).push (seqObj "list" #[] 0)).get? S = some (seqObj "list" #[] 0) := by rw [← hS]; exact Heap.get?_push_size _ rfl
    have I2 := inv_pin I1 (a := S) (o := seqObj "list" #[] 0) (h' := (s.heap.push { cls := .type "list_iterator", data := .fields #[.ref l, .int 0 0] }).push (seqObj "list" #[] 0)) (by rw [← hS]; exact Nat.le_refl _) (fun b u e => Heap.get?_push_of_some _ e) gS (fun v z => nomatch z)
    have wI2 : ∀ oS, Own X ((S, oS) :: pins) It := fun oS => ⟨wI.above, wI.frs, fun p hp => by
      rcases List.mem_append.mp hp with z | z
      · exact wI.apart p (List.mem_append_left _ z)
      · rcases List.mem_cons.mp z with rfl | z
        · exact hSI
        · exact wI.apart p (List.mem_append_right _ z)⟩
    have wS2 : ∀ oI, Own X ((It, oI) :: pins) S := fun oI => ⟨wS.above, wS.frs, fun p hp => by
      rcases List.mem_append.mp hp with z | z
      · exact wS.apart p (List.mem_append_left _ z)
      · rcases List.mem_cons.mp z with rfl | z
        · exact hSI.symm
        · exact wS.apart p (List.mem_append_right _ (List.mem_cons_of_mem _ z))⟩
    have hlI : l ≠ It := fun z => by
      have := Heap.lt_size gl
      rw [z, hI] at this
      exact Nat.lt_irrefl _ this
    have hh : X.A.in1.handled = none := hr.hd
    have W := Walks.list (prog := X.prog) (w := X.w) (A := X.A.in1) hh It l hlI its.toArray
    refine wpAny_pure ⟨plainId_quiet PySem.F.plain_min_loop _, ?_⟩
    have pI := I2.pin (It, _) (List.mem_append_right _ (.tail _ (.head _)))
    have pS := I2.pin (S, seqObj "list" #[] 0) (List.mem_append_right _ (.head _))
    have gl2 : ((s.heap.push { cls := .type "list_iterator", data := .fields #[.ref l, .int 0 0] }).push (seqObj "list" #[] 0)).get? l = some ol := Heap.get?_push_of_some _ (Heap.get?_push_of_some _ gl)
    refine codeAny_builtin PySem.F.entry_min_loop ?_
    rw [Around.under_plainId PySem.F.plain_min_loop _]
    show wpAny _ X.A.in1 (seqItems? (.ref S) >>= _) _ _ _
    refine wpAny_bind (wpAny_seqItems pS.1 rfl ?_)
    show wpAny _ X.A.in1 (tryCatch (pyNext (.ref It)) _ >>= _) _ _ _
    refine wpAny_bind (wpAny_tryCatch (W.item 0 _ _ _ (by rw [hlen]; exact Nat.succ_pos _) ⟨⟨_, pI.1, rfl, rfl⟩, ⟨ol, gl2, cl, nl, dd⟩⟩ fun u h' tk' hP hst' hk' => ?_))
    obtain ⟨oI', gI', cI', dI'⟩ := id hst'.1
    have I3 := inv_swap (inv_put (t' := tk') (h' := h') (inv_swap I2) (wI2 _) (fun b u hb e => hk' b u (by simpa using hb) e) gI' (fun z e => by rw [dI'] at e; cases e))
    obtain ⟨xx, ex, rx⟩ := l1.get (i := 0) (v := y) rfl
    obtain ⟨u2, eu, rxu⟩ := rv.get ex
    have eu2 : u2 = u := by
      have : its[0]? = some u := by simpa using hP
      rw [eu] at this
      exact Option.some.inj this
    subst eu2
    cases hg : g [y] μ with
    | exc y m => rw [hg] at post; exact post.elim
    | bad => rw [hg] at post; exact post.elim
    | ok kx μ1 =>
      rw [hg] at post
      dsimp only at post
      show wpAny _ X.A.in1 (tryCatch (holding [u2] (call (.ref q) [u2])) _ >>= _) _ _ _
      refine wpAny_bind (wpAny_tryCatch (wpAny_holding (wpAny_mono (callKey I3 F hb hp hr hs rx rxu hg) (fun kv s2 he => ?_) fun _ _ hF => hF.elim)))
      obtain ⟨T1, H1, xk2, st1, hs1, I4, rk2, rvk2⟩ := he
      have pS4 := I4.pin (S, seqObj "list" #[] 0) (List.mem_append_right _ (.head _))
      have pI4 := I4.pin (It, oI') (List.mem_append_right _ (.tail _ (.head _)))
      have s1 := Heap.SameBut.update s2.heap S (Obj.mapSeq fun _ => #[u2, kv])
      obtain ⟨c2, hc2⟩ : ∃ c2, (s2.heap.update S (Obj.mapSeq fun _ => #[u2, kv])).get? S = some (seqObj "list" #[u2, kv] c2) := ⟨_, get?_update_seq pS4.1 fun _ => #[u2, kv]⟩
      show wpAny _ X.A.in1 (updateSeq S (fun _ => #[u2, kv]) >>= _) _ _ _
      refine wpAny_bind ?_
      refine wpAny_updateSeq pS4.1 rfl ?_
      rw [hname]
      have I5 := inv_put (t' := s2.toks) (h' := s2.heap.update S (Obj.mapSeq fun _ => #[u2, kv])) I4 (wS2 oI') (fun b u hb e => (s1.2 b hb).trans e) hc2 (fun _ z => nomatch z)
      have lp := minKey_loop (Q := Q) F hb hp hr r e0 (wS2 default) wI2 hSI L 1 T1 μ1 H1 _ y kx xx xk2 u2 kv oI' c2 rfl (by simp) st1 hs1 I5 ⟨oI', (s1.2 It hSI.symm).trans pI4.1, cI', dI'⟩ (rx.step st1) rxu rk2 rvk2 (Post.step post st1)
      refine wpAny_pure ⟨plainId_quiet PySem.F.plain_min_loop _, codeAny_mono lp fun r s3 hq => ?_⟩
      cases r with
      | error e => exact hq
      | ok fl =>
        cases fl with
        | ret u => exact hq
        | next => exact hq
        | brk => exact hq
        | cont => exact hq
  · exact post.elim
end
section
variable {X : Cx} {W : WX} {a : Expr} {ea : Ev} {p p2 kp pos : Pos}
/-- min(xs, key = f) -/
theorem ge_minK {x : Str} {ps : List Str} {k : Nat} {g : List Val → Hh → R Val} (F : FnG X.prog X.w X.K X.mg X.base k x ps 1 g) (hp : ps.length = 1) (hr : Room (k + 1) X.A) (hg : Gl X "min") (hm : X.mg "min" = none) (hv : bootBuiltins "min" = some (.builtin "min")) (hgx : Gl X x) (ha : PE X a (GE X.K X.mg W ea))
    (hd : (x == ("__debug__" : Str)) = false := by decide) (hs : starEach [a] X.env = (false, eval a X.env) :: starEach [] X.env := by rfl)
    (he : backTo pos (starEach [a] X.env) = (false, eval a X.env) :: backTo pos (starEach [] X.env) := by rfl) (hpl : (backTo pos (starEach [a] X.env)).any (·.1) = false := by rfl)
    (hall : (backToKw pos (keywordEach [⟨some "key", .Name x p2, kp⟩] X.env)).all (·.1.isSome) = true := by rfl) (hnone : (backToKw pos (keywordEach [⟨some "key", .Name x p2, kp⟩] X.env)).any (·.1.isNone) = false := by rfl) (hks : (backToKw pos (keywordEach [⟨some "key", .Name x p2, kp⟩] X.env)).filterMap (·.1) = [Str.ofString "key"] := by rfl) :
    PE X (.Call (.Name "min" p) [a] [⟨some "key", .Name x p2, kp⟩] pos) (GE X.K X.mg W (eMinK g ea)) := by
  obtain ⟨f, fd, hmx, hk, hb, F, _⟩ := F.ex
  refine PE.imp (pe_callBK (minKey_call F hb hp hr) hg hm hv (pa_cons ha pa_nil hs) (pk_cons (pe_glob (v := .ref f) hgx hmx rfl hd) pk_nil) (by decide) (by decide) he hpl hall hnone hks) fun σ H Q ⟨T, μ, env, hs, es, q⟩ => ⟨T, μ, env, hs, es, ?_⟩
  unfold eMinK at q
  refine Post.seq q fun v μ1 T1 H1 x s1 hs1 r1 q1 => ?_
  refine ⟨rfl, T1, μ1, v, x, rfl, hs1, r1, ?_⟩
  cases hr2 : minK g v μ1 with
  | ok a m => rw [hr2] at q1; exact q1
  | exc y m => exact absurd hr2 (noexc _ _)
  | bad => rw [hr2] at q1; exact q1
where
  noexcL {g : List Val → Hh → R Val} {c} : ∀ (r : List Val) (b kb : Val) (h : Hh) (y : Ex) (m : Hh), minKL g c b kb r h ≠ .exc y m
    | [], b, kb, h, y, m => fun e => by unfold minKL at e; split at e <;> cases e
    | x :: r, b, kb, h, y, m => fun e => by
      unfold minKL at e
      split at e
      · split at e
        · split at e
          · exact noexcL r _ _ _ _ _ e
          · exact noexcL r _ _ _ _ _ e
          · cases e
        · cases e
      · cases e
  noexc {g : List Val → Hh → R Val} {v : Val} {h : Hh} (y : Ex) (m : Hh) : minK g v h ≠ .exc y m := fun e => by
    unfold minK at e
    split at e
    · split at e
      · exact noexcL _ _ _ _ _ _ e
      · cases e
    · cases e
end
/-! running it -/
@[simp] theorem x_minK (g : List Val → Hh → R Val) (a : Ev) {env : Env} {h : Hh} : eMinK g a env h = (a env h).bnd fun v h1 => minK g v h1 := rfl
end Mp


set_option Elab.async false
set_option linter.all false
set_option maxRecDepth 100000
open PySem PySem.Spec PyProof.Rows L2
namespace Mp
/-! ### tuple * number: none of it, one of it -/
theorem tup_mul0 (l : Addr) (items : Array Value) (n : Nat) (dd : Option Addr) (sl : Array (Option Value)) (x : Int) (u : Tok) (c0 : (decide (x < -(2 ^ 63)) || decide (x ≥ 2 ^ 63)) = false) (c1 : (items.isEmpty || x == 1) = false) (c2 : (decide (x ≤ 0) || items.isEmpty) = true) :
    Meets (Builtin.«tuple.__mul__» ⟨[.ref l, .int x u], []⟩) (fun _ R s => s.heap.get? l = some { cls := .type "tuple", dict := dd, data := .seq items n, slots := sl } ∧
      R (.ok (.ret (Value.ref s.heap.objs.size))) { s with heap := s.heap.push { cls := Value.type "tuple", data := Data.seq #[] }, toks := s.toks }) :=
  .of_wp fun prog w A R s h => by
    obtain ⟨hp, g, d, tk, os⟩ := s
    obtain ⟨hl, h⟩ := h
    have f1 := AutoSeq1.idx_int
    wp_walk using wpAny_loadPart' hl
    repeat (first
      | (refine wpAny_ite_false (decide_eq_false (by rw [c0]; exact Bool.false_ne_true)) ?_; wp_walk using wpAny_loadPart' hl)
      | (refine wpAny_ite_false (decide_eq_false (by rw [c1]; exact Bool.false_ne_true)) ?_; wp_walk using wpAny_loadPart' hl)
      | (refine wpAny_ite_true (decide_eq_true c2) ?_; wp_walk using wpAny_loadPart' hl))
    exact ⟨_, rfl, h⟩
theorem tup_mul1 (l : Addr) (items : Array Value) (n : Nat) (dd : Option Addr) (sl : Array (Option Value)) (x : Int) (u : Tok) (c0 : (decide (x < -(2 ^ 63)) || decide (x ≥ 2 ^ 63)) = false) (c1 : (items.isEmpty || x == 1) = true) :
    Meets (Builtin.«tuple.__mul__» ⟨[.ref l, .int x u], []⟩) (fun _ R s => s.heap.get? l = some { cls := .type "tuple", dict := dd, data := .seq items n, slots := sl } ∧
      R (.ok (.ret (Value.ref l))) s) :=
  .of_wp fun prog w A R s h => by
    obtain ⟨hp, g, d, tk, os⟩ := s
    obtain ⟨hl, h⟩ := h
    have f1 := AutoSeq1.idx_int
    wp_walk using wpAny_loadPart' hl
    repeat (first
      | (refine wpAny_ite_false (decide_eq_false (by rw [c0]; exact Bool.false_ne_true)) ?_; wp_walk using wpAny_loadPart' hl)
      | (refine wpAny_ite_true (decide_eq_true c1) ?_; wp_walk using wpAny_loadPart' hl))
    exact ⟨_, rfl, h⟩
/-- tuple * int, of no more than one -/
def rRep01 (K : PySem.W.Frag) : R2 := fun x y H Q => ∃ a n vs, x = .ref a ∧ y = .int n ∧ SqT K H a vs ∧ vs ≠ [] ∧ -(2 ^ 63) ≤ n ∧ ((n = 1 ∧ Q (.ref a) H) ∨ (n ≤ 0 ∧ ∀ q, H q = none → Q (.ref q) (upd H q (.tup []))))
theorem op_rep01 {X : Cx} : OpR X (binaryOp .Mult) (rRep01 X.K) := by
  intro pins s σ H x y v u Q I rx ry hq
  obtain ⟨a, n, vs, rfl, rfl, tT, nE, low, fin⟩ := hq
  cases rx
  obtain ⟨tk, rfl⟩ := ry
  obtain ⟨ws, rv, ⟨⟨c0, d0, da, so⟩, lk, ec, m, ed⟩, hz⟩ := I.tuple tT
  simp only at ec ed
  subst ec ed
  have len : ws.length = vs.length := rv.length.symm
  have nW : ws ≠ [] := fun z => nE (List.eq_nil_of_length_eq_zero (by rw [← len, z]; rfl))
  have em : ws.toArray.isEmpty = false := by
    cases ws with
    | nil => exact absurd rfl nW
    | cons _ _ => rfl
  have outer := int_rmul_tuple n tk a ws.toArray m d0 so
  refine wpAny_binaryOp_repeat_ref (T := "tuple") (U := "int") (by decide) ⟨_, lk, rfl⟩ (fun s' => typeIs_int s' n tk) noFill_tuple_mul F.fills_int_mul F.slot_int_rmul repeat_tuple F.slot_int_index.lookup ?_
  refine call_meets F.slot_int_rmul (typeIs_int s n tk) F.entry_int_rmul (F.args_int_rmul_2 _ _) outer ⟨lk, rfl, ⟨_, lk, rfl⟩, ?_⟩
  rcases fin with ⟨e, fin⟩ | ⟨e, fin⟩
  · subst e
    have e0 : (decide ((1 : Int) < -(2 ^ 63)) || decide ((1 : Int) ≥ 2 ^ 63)) = false := by decide
    have e1 : (ws.toArray.isEmpty || (1 : Int) == 1) = true := by rw [em]; rfl
    have inner := tup_mul1 a ws.toArray m d0 so 1 tk e0 e1
    refine call_meets F.slot_tuple_mul ⟨_, lk, rfl⟩ F.entry_tuple_mul (F.args_tuple_mul_2 _ _) inner ⟨lk, ?_⟩
    exact ⟨.ref a, H, I, rfl, fin⟩
  · have e0 : (decide (n < -(2 ^ 63)) || decide (n ≥ 2 ^ 63)) = false := by
      rw [decide_eq_false (by omega), decide_eq_false (by omega)] <;> rfl
    have e1 : (ws.toArray.isEmpty || n == 1) = false := by
      rw [em, Bool.false_or]; exact beq_eq_false_iff_ne.mpr (by omega)
    have e2 : (decide (n ≤ 0) || ws.toArray.isEmpty) = true := by
      rw [decide_eq_true e]; rfl
    have inner := tup_mul0 a ws.toArray m d0 so n tk e0 e1 e2
    refine call_meets F.slot_tuple_mul ⟨_, lk, rfl⟩ F.entry_tuple_mul (F.args_tuple_mul_2 _ _) inner ⟨lk, ?_⟩
    refine ⟨.ref s.heap.objs.size, _, I.laid (t' := s.toks) (o := .tup []) (fun b ob z => Heap.get?_push_of_some _ z) (Nat.le_refl _) ⟨?_, _, .nil, IsTup.new _ _⟩, rfl, fin _ (I.hok.fresh (Nat.le_refl _))⟩
    exact Nat.zero_le _
/-- times, of a tuple too any number of times -/
def mulQ (m : Bool) (v w : Val) (h : Hh) : R Val := match v, w with
  | .tup a, .int k => if a ≠ [] ∧ -(2 ^ 63) ≤ k ∧ k ≤ 1 then .ok (.tup (List.replicate k.toNat a).flatten) h else mulP m (.tup a) (.int k) h
  | v, w => mulP m v w h
theorem opMulQ {X : Cx} : OpR X (binaryOp .Mult) (fun x y H Q => rRep01 X.K x y H Q ∨ (rI CMul (fun i j => .int (i * j)) x y H Q ∨ rI CMulW (fun i j => .int (i * j)) x y H Q ∨ rRepB X.K x y H Q ∨ rRep x y H Q)) := op_rep01.or opMul
theorem p2_mulQ {K : PySem.W.Frag} (m : Bool) : P2 K (fun x y H Q => rRep01 K x y H Q ∨ (rI CMul (fun i j => .int (i * j)) x y H Q ∨ rI CMulW (fun i j => .int (i * j)) x y H Q ∨ rRepB K x y H Q ∨ rRep x y H Q)) (mulQ m) := by
  intro T μ H v w x y Q E hs r1 r2 q
  unfold mulQ at q
  split at q
  · rename_i a k
    split at q
    · rename_i hk
      obtain ⟨p, xs, rfl, h1, l1⟩ := tup_rep r1
      cases r2
      refine .inl ⟨p, k, xs, rfl, rfl, h1, fun e => hk.1 ?_, hk.2.1, ?_⟩
      · subst e; cases l1; rfl
      · by_cases c : k = 1
        · subst c
          refine .inl ⟨rfl, ?_⟩
          have e : (List.replicate (1 : Int).toNat a).flatten = a := by simp
          rw [e] at q
          exact Post.now q hs r1
        · refine .inr ⟨by omega, fun p hp => ?_⟩
          have e : (List.replicate k.toNat a).flatten = [] := by rw [show k.toNat = 0 by omega]; rfl
          rw [e] at q
          exact tup_post rfl hs .nil hp q
    · exact .inr (p2_mul m T μ H _ _ x y Q E hs r1 r2 q)
  · exact .inr (p2_mul m T μ H v w x y Q E hs r1 r2 q)
end Mp

set_option Elab.async false
set_option linter.all false
set_option maxRecDepth 100000
open PySem PySem.Spec PyProof.Rows L2
namespace Mp
/-- a call without arguments -/
theorem ge_fn0 {X : Cx} {W : WX} {pos : Pos} {x : Str} {p : Pos} {k : Nat} {g : List Val → Hh → R Val} (F : FnG X.prog X.w X.K X.mg X.base k x [] 0 g) (hr : Room k X.A) (tk : Takes X W) (hg : Gl X x)
    (hdb : (x == ("__debug__" : Str)) = false := by decide) : PE X (.Call (.Name x p) [] [] pos) (GE X.K X.mg W (eFn g aNil)) := by
  obtain ⟨f, fd, hm, hk, hb, F, _⟩ := F.ex
  refine ⟨fun pins s σ H Q I h => ?_⟩
  refine wpAny_Call_Name_kw (ld_glob I hg hm ?_ hdb)
  obtain ⟨T, μ, env, hs, es, q⟩ := h
  refine PySem.W.callWith_K0 I.kIn hk ?_
  exact run_fnS F hr hb (passAt tk σ) I .nil ⟨T, μ, [], hs, .nil, rfl, q⟩
end Mp

set_option Elab.async false
set_option linter.all false
set_option maxRecDepth 100000
set_option maxHeartbeats 4000000
namespace Ev
open PySem PySem.Spec PyProof.Rows L2 Mp
/-! is_integer -/
noncomputable def S_is_integer : Sv :=
  (sRet (eAnd (eCall isiP (aCons (eVar 0) (aCons (eC (.ty .int)) aNil))) (eNot (eCall isiP (aCons (eVar 0) (aCons (eC (.ty .bl)) aNil))))))
noncomputable def F_is_integer : List Val → Hh → R Val := runFn 1 S_is_integer
/-! is_within -/
noncomputable def S_is_within : Sv :=
  (sRet (eAnd (eFn F_is_integer (aCons (eVar 0) aNil)) (eChain leP leP (eVar 1) (eVar 0) (eVar 2))))
noncomputable def F_is_within : List Val → Hh → R Val := runFn 3 S_is_within
/-! is_number -/
noncomputable def S_is_number : Sv :=
  (sRet (eAnd (eFn F_is_integer (aCons (eVar 0) aNil)) (eOp geP (eVar 0) (eC (.int 0)))))
noncomputable def F_is_number : List Val → Hh → R Val := runFn 1 S_is_number
/-! is_sized -/
noncomputable def S_is_sized : Sv :=
  (sRet (eAnd (eCall isiP (aCons (eVar 0) (aCons (eC (.ty .tup)) aNil))) (eChain leP leP (eVar 1) (eCall lenP (aCons (eVar 0) aNil)) (eVar 2))))
noncomputable def F_is_sized : List Val → Hh → R Val := runFn 3 S_is_sized
/-! is_amount -/
noncomputable def S_is_amount : Sv :=
  (sRet (eOr (eOp isNP (eVar 0) (eC .non)) (eFn F_is_number (aCons (eVar 0) aNil))))
noncomputable def F_is_amount : List Val → Hh → R Val := runFn 1 S_is_amount
/-! is_place -/
noncomputable def S_is_place : Sv :=
  (sSeq (sIf (Mp.tOr (Mp.tNot (tB (eFn F_is_sized (aCons (eVar 0) (aCons (eC (.int 2)) (aCons (eC (.int 2)) aNil)))))) (Mp.tOr (Mp.tNot (tB (eFn F_is_amount (aCons (eOp ixP (eVar 0) (eC (.int 0))) aNil)))) (Mp.tNot (tB (eFn F_is_number (aCons (eOp ixP (eVar 0) (eC (.int 1))) aNil)))))) (sRet (eC (.bl false))) sNext)
  (sRet (eOr (eOp notNP (eOp ixP (eVar 0) (eC (.int 0))) (eC .non)) (eOp eqP (eOp ixP (eVar 0) (eC (.int 1))) (eC (.int 0))))))
noncomputable def F_is_place : List Val → Hh → R Val := runFn 1 S_is_place
/-! is_table -/
noncomputable def S_is_table : Sv :=
  (sSeq (sIf (Mp.tOr (Mp.tNot (tB (eFn F_is_sized (aCons (eVar 0) (aCons (eC (.int 2)) (aCons (eC (.int 2)) aNil)))))) (Mp.tOr (Mp.tNot (tB (eFn F_is_sized (aCons (eOp ixP (eVar 0) (eC (.int 0))) (aCons (eC (.int 0)) (aCons (eC (.int 1000)) aNil)))))) (Mp.tNot (tB (eFn F_is_sized (aCons (eOp ixP (eVar 0) (eC (.int 1))) (aCons (eC (.int 1)) (aCons (eC (.int 120)) aNil)))))))) (sRet (eC (.bl false))) sNext)
  (sRet (eAnd (eCall allP (aCons (eComp false [1] (iSeq (eOp ixP (eVar 0) (eC (.int 0)))) (gName 1) tTrue (eFn F_is_amount (aCons (eVar 1) aNil))) aNil)) (eCall allP (aCons (eComp false [1] (iSeq (eOp ixP (eVar 0) (eC (.int 1)))) (gName 1) tTrue (eFn F_is_place (aCons (eVar 1) aNil))) aNil)))))
noncomputable def F_is_table : List Val → Hh → R Val := runFn 2 S_is_table
/-! check_table -/
noncomputable def S_check_table : Sv :=
  (sIf (Mp.tNot (tB (eFn F_is_table (aCons (eVar 0) aNil)))) (sRaise 29) sNext)
noncomputable def F_check_table : List Val → Hh → R Val := runFn 1 S_check_table
/-! check_length -/
noncomputable def S_check_length : Sv :=
  (sIf (Mp.tNot (tB (eFn F_is_number (aCons (eVar 0) aNil)))) (sRaise 9) sNext)
noncomputable def F_check_length : List Val → Hh → R Val := runFn 1 S_check_length
/-! raw_value -/
noncomputable def S_raw_value : Sv :=
  (sSeq (sAsg (gTup (gCons (gName 2) (gCons (gName 3) gNil))) (eVar 0))
  (sSeq (sIf (tB (eOp ltP (eVar 1) (eCall lenP (aCons (eVar 2) aNil)))) (sRet (eOp ixP (eVar 2) (eVar 1))) sNext)
  (sSeq (sPar 4 5 (eOp divP (eOp subP (eVar 1) (eCall lenP (aCons (eVar 2) aNil))) (eCall lenP (aCons (eVar 3) aNil))) (eOp modP (eOp subP (eVar 1) (eCall lenP (aCons (eVar 2) aNil))) (eCall lenP (aCons (eVar 3) aNil))))
  (sSeq (sAsg (gTup (gCons (gName 6) (gCons (gName 7) gNil))) (eOp ixP (eVar 3) (eVar 5)))
  (sRet (eIf (tB (eOp isNP (eVar 6) (eC .non))) (eC .non) (eOp (addP false) (eVar 6) (eOp (mulP false) (eVar 4) (eVar 7)))))))))
noncomputable def F_raw_value : List Val → Hh → R Val := runFn 8 S_raw_value
/-! value -/
noncomputable def S_value : Sv :=
  (sSeq (sExpr (eFn F_check_table (aCons (eVar 0) aNil)))
  (sSeq (sExpr (eFn F_check_length (aCons (eVar 1) aNil)))
  (sRet (eFn F_raw_value (aCons (eVar 0) (aCons (eVar 1) aNil))))))
noncomputable def F_value : List Val → Hh → R Val := runFn 2 S_value
/-! row_of -/
noncomputable def S_row_of : Sv :=
  (sSeq (sExpr (eFn F_check_table (aCons (eVar 0) aNil)))
  (sSeq (sExpr (eFn F_check_length (aCons (eVar 1) aNil)))
  (sSeq (sIf (Mp.tNot (tB (eFn F_is_within (aCons (eVar 2) (aCons (eC (.int 0)) (aCons (eC (.int 2000)) aNil)))))) (sRaise 14) sNext)
  (sRet (eCall tupleP (aCons (eComp false [3] (iRng1 (aCons (eVar 2) aNil)) (gName 3) tTrue (eFn F_raw_value (aCons (eVar 0) (aCons (eOp (addP false) (eVar 1) (eVar 3)) aNil)))) aNil))))))
noncomputable def F_row_of : List Val → Hh → R Val := runFn 4 S_row_of
/-! is_round -/
noncomputable def B_is_round_0 : Sv :=
  (sSeq (sAsg (gTup (gCons (gTup (gCons (gName 4) (gCons (gName 5) gNil))) (gCons (gTup (gCons (gName 6) (gCons (gName 7) gNil))) gNil))) (eTup (aCons (eOp ixP (eVar 0) (eOp modP (eVar 3) (eVar 1))) (aCons (eOp ixP (eVar 0) (eVar 3)) aNil))))
  (sSeq (sIf (Mp.tOr (tB (eOp neP (eVar 5) (eVar 7))) (tB (eOp neP (eOp isNP (eVar 4) (eC .non)) (eOp isNP (eVar 6) (eC .non))))) (sRet (eC (.bl false))) sNext)
  (sIf (Mp.tAnd (tB (eOp notNP (eVar 4) (eC .non))) (tB (eOp neP (eOp (mulP false) (eOp subP (eVar 6) (eVar 4)) (eVar 2)) (eOp (mulP false) (eVar 5) (eOp subP (eVar 3) (eOp modP (eVar 3) (eVar 1))))))) (sRet (eC (.bl false))) sNext)))
noncomputable def S_is_round : Sv :=
  (sSeq (sSet 2 (eCall lenP (aCons (eVar 0) aNil)))
  (sSeq (sFor (iRng2 (aCons (eVar 1) (aCons (eVar 2) aNil))) (gName 3) B_is_round_0)
  (sRet (eC (.bl true)))))
noncomputable def F_is_round : List Val → Hh → R Val := runFn 8 S_is_round
/-! least_round -/
noncomputable def B_least_round_0 : Sv :=
  (sIf (Mp.tAnd (tB (eOp eqP (eOp modP (eVar 1) (eVar 2)) (eC (.int 0)))) (tB (eFn F_is_round (aCons (eVar 0) (aCons (eVar 2) aNil))))) (sRet (eCall tupleP (aCons (eComp false [3, 4] (iSeq (eSl false (eVar 0) oNone (oSome (eVar 2)))) (gTup (gCons (gName 3) (gCons (gName 4) gNil))) tTrue (eTup (aCons (eVar 3) (aCons (eOp divP (eOp (mulP false) (eVar 4) (eVar 2)) (eVar 1)) aNil)))) aNil))) sNext)
noncomputable def S_least_round : Sv :=
  (sSeq (sSet 1 (eCall lenP (aCons (eVar 0) aNil)))
  (sSeq (sFor (iRng2 (aCons (eC (.int 1)) (aCons (eOp (addP false) (eVar 1) (eC (.int 1))) aNil))) (gName 2) B_least_round_0)
  (sRet (eCall tupleP (aCons (eVar 0) aNil)))))
noncomputable def F_least_round : List Val → Hh → R Val := runFn 5 S_least_round
/-! raw_least -/
noncomputable def T_raw_least_0 : Tv :=
  (tB (eOp gtP (eCall lenP (aCons (eVar 0) aNil)) (eC (.int 0))))
noncomputable def B_raw_least_1 : Sv :=
  (sSeq (sAsg (gTup (gCons (gName 3) (gCons (gName 4) gNil))) (eOp ixP (eVar 1) (eUn negP (eC (.int 1)))))
  (sSeq (sSet 2 (eIf (tB (eOp isNP (eVar 3) (eC .non))) (eC .non) (eOp subP (eVar 3) (eVar 4))))
  (sSeq (sIf (tB (eOp neP (eOp ixP (eVar 0) (eUn negP (eC (.int 1)))) (eVar 2))) sBrk sNext)
  (sSeq (sSet 1 (eOp (addP false) (eLst false (aCons (eTup (aCons (eVar 2) (aCons (eVar 4) aNil))) aNil)) (eSl false (eVar 1) oNone (oSome (eUn negP (eC (.int 1)))))))
  (sExpr (eMeth0 isL popP (eVar 0)))))))
noncomputable def S_raw_least : Sv :=
  (sSeq (sPar 1 0 (eCall (listP false) (aCons (eFn F_least_round (aCons (eVar 1) aNil)) aNil)) (eCall (listP true) (aCons (eVar 0) aNil)))
  (sSeq (sWhile T_raw_least_0 B_raw_least_1)
  (sRet (eTup (aCons (eCall tupleP (aCons (eVar 0) aNil)) (aCons (eCall tupleP (aCons (eVar 1) aNil)) aNil))))))
noncomputable def F_raw_least : List Val → Hh → R Val := runFn 5 S_raw_least
/-! least -/
noncomputable def S_least : Sv :=
  (sSeq (sExpr (eFn F_check_table (aCons (eVar 0) aNil)))
  (sRet (eFn F_raw_least (aCons (eOp ixP (eVar 0) (eC (.int 0))) (aCons (eOp ixP (eVar 0) (eC (.int 1))) aNil)))))
noncomputable def F_least : List Val → Hh → R Val := runFn 1 S_least
/-! is_form -/
noncomputable def S_is_form : Sv :=
  (sRet (eAnd (eFn F_is_table (aCons (eVar 0) aNil)) (eOp eqP (eFn F_raw_least (aCons (eOp ixP (eVar 0) (eC (.int 0))) (aCons (eOp ixP (eVar 0) (eC (.int 1))) aNil))) (eVar 0))))
noncomputable def F_is_form : List Val → Hh → R Val := runFn 1 S_is_form
/-! check_form -/
noncomputable def S_check_form : Sv :=
  (sIf (Mp.tNot (tB (eFn F_is_form (aCons (eVar 0) aNil)))) (sRaise 7) sNext)
noncomputable def F_check_form : List Val → Hh → R Val := runFn 1 S_check_form
/-! first_places -/
/-! first_walk -/
/-! next_amount -/
/-! _law_hand -/
noncomputable def S__law_hand : Sv :=
  (sSeq (sSet 1 (eComp false [2] (iSeq (eSl false (eVar 0) oNone (oSome (eC (.int 63))))) (gName 2) tTrue (eCall absP (aCons (eCall intP (aCons (eVar 2) aNil)) aNil))))
  (sRet (eLst true (aCons (eVar 1) (aCons (eC (.int 0)) (aCons (eC (.int 0)) (aCons (eOp (addP false) (eC (.int 83)) (eOp (mulP false) (eC (.int 7)) (eCall lenP (aCons (eVar 1) aNil)))) (aCons (eC (.int 0)) aNil))))))))
noncomputable def F__law_hand : List Val → Hh → R Val := runFnM 3 S__law_hand
/-! _law_draw -/
noncomputable def S__law_draw : Sv :=
  (sSeq (sIf (Mp.tAnd (tB (eOp eqP (eOp ixP (eVar 0) (eC (.int 2))) (eC (.int 0)))) (tB (eOp ltP (eOp ixP (eVar 0) (eC (.int 1))) (eCall lenP (aCons (eOp ixP (eVar 0) (eC (.int 0))) aNil))))) (sSeq (sSet 2 (eOp ixP (eOp ixP (eVar 0) (eC (.int 0))) (eOp ixP (eVar 0) (eC (.int 1)))))
  (sSeq (sAsg (gSub (eVar 0) (eC (.int 1))) (eOp (addP false) (eOp ixP (eVar 0) (eC (.int 1))) (eC (.int 1))))
  (sSeq (sAsg (gSub (eVar 0) (eC (.int 3))) (eOp modP (eCall intP (aCons (eOp (addP false) (eOp (addP false) (eOp (mulP false) (eOp ixP (eVar 0) (eC (.int 3))) (eC (.int 69621))) (eVar 2)) (eC (.int 29))) aNil)) (eC (.int 2147483629))))
  (sIf (tB (eOp geP (eVar 2) (eOp powP (eC (.int 10)) (eC (.int 18))))) (sAsg (gSub (eVar 0) (eC (.int 2))) (eVar 2)) sNext)))) sNext)
  (sSeq (sIf (tB (eOp gtP (eOp ixP (eVar 0) (eC (.int 2))) (eC (.int 0)))) (sSeq (sSet 3 (eOp modP (eCall intP (aCons (eOp ixP (eVar 0) (eC (.int 2))) aNil)) (eVar 1)))
  (sSeq (sAsg (gSub (eVar 0) (eC (.int 2))) (eOp divP (eOp ixP (eVar 0) (eC (.int 2))) (eVar 1)))
  (sRet (eVar 3)))) sNext)
  (sSeq (sAsg (gSub (eVar 0) (eC (.int 4))) (eOp (addP false) (eOp ixP (eVar 0) (eC (.int 4))) (eC (.int 1))))
  (sSeq (sSet 4 (eOp modP (eCall intP (aCons (eOp (mulP false) (eCall intP (aCons (eOp (addP false) (eOp ixP (eVar 0) (eC (.int 3))) (eOp (mulP false) (eC (.int 7919)) (eOp ixP (eVar 0) (eC (.int 4))))) aNil)) (eC (.int 48271))) aNil)) (eC (.int 2147483647))))
  (sSeq (sSet 4 (eOp modP (eCall intP (aCons (eOp (mulP false) (eVar 4) (eOp (addP false) (eOp divP (eVar 4) (eC (.int 1009))) (eC (.int 69621)))) aNil)) (eC (.int 2147483647))))
  (sSeq (sSet 4 (eOp modP (eCall intP (aCons (eOp (mulP false) (eVar 4) (eOp (addP false) (eOp divP (eVar 4) (eC (.int 2003))) (eC (.int 40692)))) aNil)) (eC (.int 2147483399))))
  (sRet (eOp modP (eCall intP (aCons (eOp divP (eVar 4) (eC (.int 16))) aNil)) (eVar 1)))))))))
noncomputable def F__law_draw : List Val → Hh → R Val := runFn 5 S__law_draw
/-! _law_is -/
noncomputable def S__law_is (g : List Val → Hh → R Val) : Sv :=
  (sSeq (sIf (tB (eCall isiP (aCons (eVar 1) (aCons (eTup (aCons (eC (.ty .tup)) (aCons (eC (.ty .lst)) aNil))) aNil)))) (sSeq (sIf (tB (eOp neP (eCall isiP (aCons (eVar 0) (aCons (eC (.ty .tup)) aNil))) (eCall isiP (aCons (eVar 1) (aCons (eC (.ty .tup)) aNil))))) (sRet (eC (.bl false))) sNext)
  (sSeq (sIf (Mp.tOr (tB (eOp neP (eCall isiP (aCons (eVar 0) (aCons (eC (.ty .lst)) aNil))) (eCall isiP (aCons (eVar 1) (aCons (eC (.ty .lst)) aNil))))) (tB (eOp neP (eCall lenP (aCons (eVar 0) aNil)) (eCall lenP (aCons (eVar 1) aNil))))) (sRet (eC (.bl false))) sNext)
  (sRet (eCall allP (aCons (eComp false [2, 3] (iZp (aCons (eVar 0) (aCons (eVar 1) aNil))) (gTup (gCons (gName 2) (gCons (gName 3) gNil))) tTrue (eFn g (aCons (eVar 2) (aCons (eVar 3) aNil)))) aNil))))) sNext)
  (sSeq (sIf (Mp.tOr (tB (eOp isNP (eVar 1) (eC .non))) (tB (eOp isNP (eVar 0) (eC .non)))) (sRet (eAnd (eOp isNP (eVar 1) (eC .non)) (eOp isNP (eVar 0) (eC .non)))) sNext)
  (sSeq (sIf (tB (eOp neP (eCall isiP (aCons (eVar 0) (aCons (eC (.ty .bl)) aNil))) (eCall isiP (aCons (eVar 1) (aCons (eC (.ty .bl)) aNil))))) (sRet (eC (.bl false))) sNext)
  (sRet (eAnd (eOp eqP (eCall isiP (aCons (eVar 0) (aCons (eC (.ty .str)) aNil))) (eCall isiP (aCons (eVar 1) (aCons (eC (.ty .str)) aNil)))) (eOp eqP (eVar 0) (eVar 1)))))))
noncomputable def F__law_is : Nat → List Val → Hh → R Val
  | 0 => fun _ _ => .bad
  | d + 1 => runFn 4 (S__law_is (F__law_is d))
/-! _law_amount -/
noncomputable def S__law_amount : Sv :=
  (sSeq (sIf (tB (eOp eqP (eFn F__law_draw (aCons (eVar 0) (aCons (eC (.int 4)) aNil))) (eC (.int 0)))) (sRet (eC .non)) sNext)
  (sRet (eFn F__law_draw (aCons (eVar 0) (aCons (eVar 1) aNil)))))
noncomputable def F__law_amount : List Val → Hh → R Val := runFn 2 S__law_amount
/-! _law_table -/
noncomputable def B__law_table_0 : Sv :=
  (sExpr (eMeth isL appP (eVar 4) (aCons (eFn F__law_amount (aCons (eVar 0) (aCons (eVar 3) aNil))) aNil)))
noncomputable def B__law_table_1 : Sv :=
  (sSeq (sSet 7 (eFn F__law_amount (aCons (eVar 0) (aCons (eVar 3) aNil))))
  (sSeq (sSet 8 (eC (.int 0)))
  (sSeq (sIf (tB (eOp notNP (eVar 7) (eC .non))) (sSet 8 (eFn F__law_draw (aCons (eVar 0) (aCons (eC (.int 4)) aNil)))) sNext)
  (sExpr (eMeth isL appP (eVar 6) (aCons (eTup (aCons (eVar 7) (aCons (eVar 8) aNil))) aNil))))))
noncomputable def S__law_table : Sv :=
  (sSeq (sSet 4 (eLst true aNil))
  (sSeq (sFor (iRng1 (aCons (eFn F__law_draw (aCons (eVar 0) (aCons (eOp (addP false) (eVar 1) (eC (.int 1))) aNil))) aNil)) (gName 5) B__law_table_0)
  (sSeq (sSet 6 (eLst true aNil))
  (sSeq (sFor (iRng1 (aCons (eOp (addP false) (eC (.int 1)) (eFn F__law_draw (aCons (eVar 0) (aCons (eVar 2) aNil)))) aNil)) (gName 5) B__law_table_1)
  (sRet (eTup (aCons (eCall tupleP (aCons (eVar 4) aNil)) (aCons (eCall tupleP (aCons (eVar 6) aNil)) aNil))))))))
noncomputable def F__law_table : List Val → Hh → R Val := runFn 9 S__law_table
/-! _law_at -/
noncomputable def S__law_at : Sv :=
  (sSeq (sAsg (gTup (gCons (gName 2) (gCons (gName 3) gNil))) (eVar 0))
  (sSeq (sIf (tB (eOp ltP (eVar 1) (eCall lenP (aCons (eVar 2) aNil)))) (sRet (eOp ixP (eVar 2) (eVar 1))) sNext)
  (sSeq (sSet 4 (eOp divP (eOp subP (eVar 1) (eCall lenP (aCons (eVar 2) aNil))) (eCall lenP (aCons (eVar 3) aNil))))
  (sSeq (sAsg (gTup (gCons (gName 5) (gCons (gName 6) gNil))) (eOp ixP (eVar 3) (eOp subP (eOp subP (eVar 1) (eCall lenP (aCons (eVar 2) aNil))) (eOp (mulP false) (eVar 4) (eCall lenP (aCons (eVar 3) aNil))))))
  (sSeq (sIf (tB (eOp isNP (eVar 5) (eC .non))) (sRet (eC .non)) sNext)
  (sRet (eOp (addP false) (eVar 5) (eOp (mulP false) (eVar 4) (eVar 6)))))))))
noncomputable def F__law_at : List Val → Hh → R Val := runFn 7 S__law_at
/-! _law_told -/
/-! _law_great -/
noncomputable def B__law_great_0 : Sv :=
  (sSet 2 (eOp (addP false) (eOp (mulP false) (eVar 2) (eC (.int 10))) (eFn F__law_draw (aCons (eVar 0) (aCons (eC (.int 10)) aNil)))))
noncomputable def S__law_great : Sv :=
  (sSeq (sSet 2 (eC (.int 0)))
  (sSeq (sFor (iRng1 (aCons (eOp (addP false) (eC (.int 1)) (eFn F__law_draw (aCons (eVar 0) (aCons (eVar 1) aNil)))) aNil)) (gName 3) B__law_great_0)
  (sRet (eVar 2))))
noncomputable def F__law_great : List Val → Hh → R Val := runFn 4 S__law_great
/-! _law_wrong -/
/-! _law_rises -/
/-! _law_asked -/
/-! law -/
end Ev

set_option Elab.async false
set_option linter.all false
set_option maxRecDepth 100000
set_option maxHeartbeats 4000000
namespace Ev
open PySem PySem.Spec PyProof.Rows L2 Mp
/-! common_part -/
noncomputable def T_common_part_0 : Tv :=
  (tB (eOp gtP (eVar 1) (eC (.int 0))))
noncomputable def B_common_part_1 : Sv :=
  (sTidy [] (sPar 0 1 (eVar 1) (eOp modP (eVar 0) (eVar 1))))
noncomputable def S_common_part : Sv :=
  (sSeq (sWhile T_common_part_0 B_common_part_1)
  (sRet (eVar 0)))
noncomputable def F_common_part : List Val → Hh → R Val := runFn 2 S_common_part
/-! common_round -/
noncomputable def S_common_round : Sv :=
  (sRet (eOp divP (eOp (mulP false) (eVar 0) (eVar 1)) (eFn F_common_part (aCons (eVar 0) (aCons (eVar 1) aNil)))))
noncomputable def F_common_round : List Val → Hh → R Val := runFn 2 S_common_round
/-! check_number -/
noncomputable def S_check_number : Sv :=
  (sIf (Mp.tOr (Mp.tNot (tB (eFn F_is_number (aCons (eVar 0) aNil)))) (tB (eOp geP (eVar 0) (eC (.int 10000000000000000000000000000000000000000))))) (sRaise 14) sNext)
noncomputable def F_check_number : List Val → Hh → R Val := runFn 1 S_check_number
/-! check_forms -/
noncomputable def S_check_forms : Sv :=
  (sSeq (sExpr (eFn F_check_form (aCons (eVar 0) aNil)))
  (sExpr (eFn F_check_form (aCons (eVar 1) aNil))))
noncomputable def F_check_forms : List Val → Hh → R Val := runFn 2 S_check_forms
/-! head_many -/
noncomputable def S_head_many : Sv :=
  (sSeq (sExpr (eFn F_check_form (aCons (eVar 0) aNil)))
  (sRet (eCall lenP (aCons (eOp ixP (eVar 0) (eC (.int 0))) aNil))))
noncomputable def F_head_many : List Val → Hh → R Val := runFn 1 S_head_many
/-! round_many -/
noncomputable def S_round_many : Sv :=
  (sSeq (sExpr (eFn F_check_form (aCons (eVar 0) aNil)))
  (sRet (eCall lenP (aCons (eOp ixP (eVar 0) (eC (.int 1))) aNil))))
noncomputable def F_round_many : List Val → Hh → R Val := runFn 1 S_round_many
/-! joint_round -/
noncomputable def S_joint_round : Sv :=
  (sSeq (sSet 2 (eFn F_common_round (aCons (eCall lenP (aCons (eOp ixP (eVar 0) (eC (.int 1))) aNil)) (aCons (eCall lenP (aCons (eOp ixP (eVar 1) (eC (.int 1))) aNil)) aNil))))
  (sSeq (sIf (tB (eOp gtP (eVar 2) (eC (.int 120)))) (sRaiseA 41 "most" (eC (.int 120))) sNext)
  (sRet (eVar 2))))
noncomputable def F_joint_round : List Val → Hh → R Val := runFn 3 S_joint_round
/-! checked -/
noncomputable def S_checked : Sv :=
  (sSeq (sSet 2 (eFn F_raw_least (aCons (eVar 0) (aCons (eVar 1) aNil))))
  (sSeq (sIf (tB (eOp gtP (eCall lenP (aCons (eOp ixP (eVar 2) (eC (.int 0))) aNil)) (eC (.int 1000)))) (sRaiseA 41 "most" (eC (.int 1000))) sNext)
  (sRet (eVar 2))))
noncomputable def F_checked : List Val → Hh → R Val := runFn 3 S_checked
/-! greatest -/
noncomputable def S_greatest : Sv :=
  (sRet (eIf (Mp.tOr (tB (eOp isNP (eVar 0) (eC .non))) (tB (eOp isNP (eVar 1) (eC .non)))) (eC .non) (eCall maxP (aCons (eVar 0) (aCons (eVar 1) aNil)))))
noncomputable def F_greatest : List Val → Hh → R Val := runFn 2 S_greatest
/-! rise_at -/
noncomputable def S_rise_at : Sv :=
  (sSeq (sSet 3 (eFn F_raw_value (aCons (eVar 0) (aCons (eVar 1) aNil))))
  (sRet (eIf (tB (eOp isNP (eVar 3) (eC .non))) (eC (.int 0)) (eOp subP (eFn F_raw_value (aCons (eVar 0) (aCons (eOp (addP false) (eVar 1) (eVar 2)) aNil))) (eVar 3)))))
noncomputable def F_rise_at : List Val → Hh → R Val := runFn 4 S_rise_at
/-! settled -/
noncomputable def B_settled_0 : Sv :=
  (sTidy [5, 6, 7, 8, 9] (sSeq (sPar 6 7 (eFn F_raw_value (aCons (eVar 0) (aCons (eVar 5) aNil))) (eFn F_raw_value (aCons (eVar 1) (aCons (eVar 5) aNil))))
  (sIf (Mp.tAnd (tB (eOp notNP (eVar 6) (eC .non))) (tB (eOp notNP (eVar 7) (eC .non)))) (sSeq (sPar 8 9 (eOp subP (eVar 6) (eVar 7)) (eOp subP (eFn F_rise_at (aCons (eVar 0) (aCons (eVar 5) (aCons (eVar 2) aNil)))) (eFn F_rise_at (aCons (eVar 1) (aCons (eVar 5) (aCons (eVar 2) aNil))))))
  (sIf (tB (eOp ltP (eOp (mulP false) (eVar 8) (eVar 9)) (eC (.int 0)))) (sSet 4 (eCall maxP (aCons (eVar 4) (aCons (eOp (addP false) (eVar 5) (eOp (mulP false) (eVar 2) (eOp subP (eC (.int 1)) (eOp divP (eUn negP (eCall absP (aCons (eVar 8) aNil))) (eCall absP (aCons (eVar 9) aNil)))))) aNil)))) sNext)) sNext)))
noncomputable def S_settled : Sv :=
  (sSeq (sSet 3 (eCall maxP (aCons (eCall lenP (aCons (eOp ixP (eVar 0) (eC (.int 0))) aNil)) (aCons (eCall lenP (aCons (eOp ixP (eVar 1) (eC (.int 0))) aNil)) aNil))))
  (sSeq (sSet 4 (eVar 3))
  (sSeq (sFor (iRng2 (aCons (eVar 3) (aCons (eOp (addP false) (eVar 3) (eVar 2)) aNil))) (gName 5) B_settled_0)
  (sSeq (sIf (tB (eOp gtP (eVar 4) (eOp (mulP false) (eC (.int 9)) (eC (.int 1000))))) (sRaiseA 41 "most" (eC (.int 1000))) sNext)
  (sRet (eVar 4))))))
noncomputable def F_settled : List Val → Hh → R Val := runFn 10 S_settled
/-! raw_greater -/
noncomputable def B_raw_greater_0 : Sv :=
  (sTidy [6, 7, 8] (sSeq (sSet 7 (eFn F_greatest (aCons (eFn F_raw_value (aCons (eVar 0) (aCons (eVar 6) aNil))) (aCons (eFn F_raw_value (aCons (eVar 1) (aCons (eVar 6) aNil))) aNil))))
  (sSeq (sSet 8 (eFn F_greatest (aCons (eFn F_raw_value (aCons (eVar 0) (aCons (eOp (addP false) (eVar 6) (eVar 2)) aNil))) (aCons (eFn F_raw_value (aCons (eVar 1) (aCons (eOp (addP false) (eVar 6) (eVar 2)) aNil))) aNil))))
  (sExpr (eMeth isL appP (eVar 5) (aCons (eIf (tB (eOp isNP (eVar 7) (eC .non))) (eTup (aCons (eC .non) (aCons (eC (.int 0)) aNil))) (eTup (aCons (eVar 7) (aCons (eOp subP (eVar 8) (eVar 7)) aNil)))) aNil))))))
noncomputable def S_raw_greater : Sv :=
  (sSeq (sSet 2 (eFn F_joint_round (aCons (eVar 0) (aCons (eVar 1) aNil))))
  (sSeq (sSet 3 (eFn F_settled (aCons (eVar 0) (aCons (eVar 1) (aCons (eVar 2) aNil)))))
  (sSeq (sSet 4 (eComp false [6] (iRng1 (aCons (eVar 3) aNil)) (gName 6) tTrue (eFn F_greatest (aCons (eFn F_raw_value (aCons (eVar 0) (aCons (eVar 6) aNil))) (aCons (eFn F_raw_value (aCons (eVar 1) (aCons (eVar 6) aNil))) aNil)))))
  (sSeq (sSet 5 (eLst true aNil))
  (sSeq (sFor (iRng2 (aCons (eVar 3) (aCons (eOp (addP false) (eVar 3) (eVar 2)) aNil))) (gName 6) B_raw_greater_0)
  (sRet (eFn F_checked (aCons (eVar 4) (aCons (eVar 5) aNil)))))))))
noncomputable def F_raw_greater : List Val → Hh → R Val := runFn 9 S_raw_greater
/-! greater -/
noncomputable def S_greater : Sv :=
  (sSeq (sExpr (eFn F_check_forms (aCons (eVar 0) (aCons (eVar 1) aNil))))
  (sRet (eFn F_raw_greater (aCons (eVar 0) (aCons (eVar 1) aNil)))))
noncomputable def F_greater : List Val → Hh → R Val := runFn 2 S_greater
/-! raw_dearer -/
noncomputable def S_raw_dearer : Sv :=
  (sSeq (sSet 2 (eComp false [3] (iSeq (eOp ixP (eVar 0) (eC (.int 0)))) (gName 3) tTrue (eIf (tB (eOp isNP (eVar 3) (eC .non))) (eC .non) (eOp (addP false) (eVar 1) (eVar 3)))))
  (sRet (eTup (aCons (eCall tupleP (aCons (eVar 2) aNil)) (aCons (eCall tupleP (aCons (eComp false [4, 5] (iSeq (eOp ixP (eVar 0) (eC (.int 1)))) (gTup (gCons (gName 4) (gCons (gName 5) gNil))) tTrue (eTup (aCons (eIf (tB (eOp isNP (eVar 4) (eC .non))) (eC .non) (eOp (addP false) (eVar 1) (eVar 4))) (aCons (eVar 5) aNil)))) aNil)) aNil)))))
noncomputable def F_raw_dearer : List Val → Hh → R Val := runFn 6 S_raw_dearer
/-! dearer -/
noncomputable def S_dearer : Sv :=
  (sSeq (sExpr (eFn F_check_form (aCons (eVar 0) aNil)))
  (sSeq (sExpr (eFn F_check_number (aCons (eVar 1) aNil)))
  (sRet (eFn F_raw_dearer (aCons (eVar 0) (aCons (eVar 1) aNil))))))
noncomputable def F_dearer : List Val → Hh → R Val := runFn 2 S_dearer
/-! is_rate -/
noncomputable def S_is_rate : Sv :=
  (sRet (eAnd (eFn F_is_sized (aCons (eVar 0) (aCons (eC (.int 2)) (aCons (eC (.int 2)) aNil)))) (eAnd (eFn F_is_within (aCons (eOp ixP (eVar 0) (eC (.int 0))) (aCons (eC (.int 0)) (aCons (eC (.int 1000000000)) aNil)))) (eFn F_is_within (aCons (eOp ixP (eVar 0) (eC (.int 1))) (aCons (eC (.int 1)) (aCons (eC (.int 1000000000)) aNil)))))))
noncomputable def F_is_rate : List Val → Hh → R Val := runFn 1 S_is_rate
/-! is_lift -/
noncomputable def S_is_lift : Sv :=
  (sRet (eAnd (eFn F_is_integer (aCons (eVar 0) aNil)) (eOp leP (eCall absP (aCons (eVar 0) aNil)) (eC (.int 1000000)))))
noncomputable def F_is_lift : List Val → Hh → R Val := runFn 1 S_is_lift
/-! line_at -/
noncomputable def S_line_at : Sv :=
  (sRet (eCall maxP (aCons (eC (.int 0)) (aCons (eUn negP (eOp divP (eUn negP (eOp (addP false) (eOp (mulP false) (eOp ixP (eVar 0) (eC (.int 0))) (eVar 2)) (eVar 1))) (eOp ixP (eVar 0) (eC (.int 1))))) aNil))))
noncomputable def F_line_at : List Val → Hh → R Val := runFn 3 S_line_at
/-! raw_line -/
noncomputable def S_raw_line : Sv :=
  (sSeq (sSet 2 (eC (.int 0)))
  (sSeq (sIf (Mp.tAnd (tB (eOp ltP (eVar 1) (eC (.int 0)))) (tB (eOp gtP (eOp ixP (eVar 0) (eC (.int 0))) (eC (.int 0))))) (sSet 2 (eUn negP (eOp divP (eVar 1) (eOp ixP (eVar 0) (eC (.int 0)))))) sNext)
  (sSeq (sIf (tB (eOp gtP (eVar 2) (eOp (addP false) (eC (.int 1000)) (eOp ixP (eVar 0) (eC (.int 1)))))) (sRaiseA 41 "most" (eC (.int 1000))) sNext)
  (sSeq (sSet 3 (eComp false [4] (iRng1 (aCons (eVar 2) aNil)) (gName 4) tTrue (eFn F_line_at (aCons (eVar 0) (aCons (eVar 1) (aCons (eVar 4) aNil))))))
  (sRet (eFn F_checked (aCons (eVar 3) (aCons (eComp false [4] (iRng2 (aCons (eVar 2) (aCons (eOp (addP false) (eVar 2) (eOp ixP (eVar 0) (eC (.int 1)))) aNil))) (gName 4) tTrue (eTup (aCons (eFn F_line_at (aCons (eVar 0) (aCons (eVar 1) (aCons (eVar 4) aNil)))) (aCons (eOp ixP (eVar 0) (eC (.int 0))) aNil)))) aNil))))))))
noncomputable def F_raw_line : List Val → Hh → R Val := runFn 5 S_raw_line
/-! check_low_rate -/
noncomputable def S_check_low_rate : Sv :=
  (sIf (Mp.tOr (Mp.tNot (tB (eFn F_is_rate (aCons (eVar 0) aNil)))) (tB (eOp gtP (eOp ixP (eVar 0) (eC (.int 1))) (eC (.int 120))))) (sRaise 22) sNext)
noncomputable def F_check_low_rate : List Val → Hh → R Val := runFn 1 S_check_low_rate
/-! line_form -/
noncomputable def S_line_form : Sv :=
  (sSeq (sExpr (eFn F_check_low_rate (aCons (eVar 0) aNil)))
  (sSeq (sIf (Mp.tNot (tB (eFn F_is_lift (aCons (eVar 1) aNil)))) (sRaise 14) sNext)
  (sRet (eFn F_raw_line (aCons (eVar 0) (aCons (eVar 1) aNil))))))
noncomputable def F_line_form : List Val → Hh → R Val := runFn 2 S_line_form
/-! slopes -/
noncomputable def S_slopes : Sv :=
  (sRet (eComp false [1, 2] (iSeq (eOp ixP (eVar 0) (eC (.int 1)))) (gTup (gCons (gName 1) (gCons (gName 2) gNil))) (tB (eOp notNP (eVar 1) (eC .non))) (eVar 2)))
noncomputable def F_slopes : List Val → Hh → R Val := runFn 3 S_slopes
/-! as_slope -/
noncomputable def S_as_slope : Sv :=
  (sSeq (sSet 2 (eFn F_common_part (aCons (eVar 1) (aCons (eVar 0) aNil))))
  (sRet (eTup (aCons (eOp divP (eVar 0) (eVar 2)) (aCons (eOp divP (eVar 1) (eVar 2)) aNil)))))
noncomputable def F_as_slope : List Val → Hh → R Val := runFn 3 S_as_slope
/-! slope_of -/
noncomputable def S_slope_of : Sv :=
  (sSeq (sExpr (eFn F_check_form (aCons (eVar 0) aNil)))
  (sSeq (sSet 1 (eFn F_slopes (aCons (eVar 0) aNil)))
  (sRet (eIf (tB (eOp gtP (eCall lenP (aCons (eVar 1) aNil)) (eC (.int 0)))) (eFn F_as_slope (aCons (eCall minP (aCons (eVar 1) aNil)) (aCons (eCall lenP (aCons (eOp ixP (eVar 0) (eC (.int 1))) aNil)) aNil))) (eC .non)))))
noncomputable def F_slope_of : List Val → Hh → R Val := runFn 2 S_slope_of
/-! _law_goes -/
noncomputable def S__law_goes : Sv :=
  (sSeq (sSet 3 (eFn F__law_at (aCons (eVar 0) (aCons (eVar 1) aNil))))
  (sSeq (sSet 4 (eFn F__law_at (aCons (eVar 0) (aCons (eOp (addP false) (eVar 1) (eVar 2)) aNil))))
  (sSeq (sSet 5 (eFn F__law_at (aCons (eVar 0) (aCons (eOp (addP false) (eVar 1) (eOp (mulP false) (eC (.int 2)) (eVar 2))) aNil))))
  (sSeq (sIf (tB (eOp (inP false) (eC .non) (eLst false (aCons (eVar 3) (aCons (eVar 4) (aCons (eVar 5) aNil)))))) (sRet (eAnd (eOp isNP (eVar 3) (eC .non)) (eAnd (eOp isNP (eVar 4) (eC .non)) (eOp isNP (eVar 5) (eC .non))))) sNext)
  (sRet (eOp eqP (eOp subP (eVar 4) (eVar 3)) (eOp subP (eVar 5) (eVar 4))))))))
noncomputable def F__law_goes : List Val → Hh → R Val := runFn 6 S__law_goes
/-! _law_round -/
noncomputable def B__law_round_0 : Sv :=
  (sTidy [3] (sIf (tB (eOp eqP (eCall lenP (aCons (eComp false [4] (iRng2 (aCons (eVar 1) (aCons (eOp (addP false) (eVar 1) (eOp (mulP false) (eC (.int 2)) (eVar 2))) aNil))) (gName 4) (Mp.tNot (tB (eFn F__law_goes (aCons (eVar 0) (aCons (eVar 4) (aCons (eVar 3) aNil)))))) (eVar 4)) aNil)) (eC (.int 0)))) (sRet (eVar 3)) sNext))
noncomputable def S__law_round : Sv :=
  (sSeq (sSet 1 (eCall lenP (aCons (eOp ixP (eVar 0) (eC (.int 0))) aNil)))
  (sSeq (sSet 2 (eCall lenP (aCons (eOp ixP (eVar 0) (eC (.int 1))) aNil)))
  (sSeq (sFor (iRng2 (aCons (eC (.int 1)) (aCons (eOp (addP false) (eVar 2) (eC (.int 1))) aNil))) (gName 3) B__law_round_0)
  (sRet (eVar 2)))))
noncomputable def F__law_round : List Val → Hh → R Val := runFn 5 S__law_round
/-! _law_least -/
noncomputable def T__law_least_0 : Tv :=
  (Mp.tAnd (tB (eOp gtP (eVar 2) (eC (.int 0)))) (tB (eFn F__law_goes (aCons (eVar 0) (aCons (eOp subP (eVar 2) (eC (.int 1))) (aCons (eVar 1) aNil))))))
noncomputable def B__law_least_1 : Sv :=
  (sTidy [] (sSet 2 (eOp subP (eVar 2) (eC (.int 1)))))
noncomputable def B__law_least_2 : Sv :=
  (sTidy [4, 5, 6] (sSeq (sSet 5 (eFn F__law_at (aCons (eVar 0) (aCons (eVar 4) aNil))))
  (sSeq (sSet 6 (eC (.int 0)))
  (sSeq (sIf (tB (eOp notNP (eVar 5) (eC .non))) (sSet 6 (eOp subP (eFn F__law_at (aCons (eVar 0) (aCons (eOp (addP false) (eVar 4) (eVar 1)) aNil))) (eVar 5))) sNext)
  (sExpr (eMeth isL appP (eVar 3) (aCons (eTup (aCons (eVar 5) (aCons (eVar 6) aNil))) aNil)))))))
noncomputable def S__law_least : Sv :=
  (sSeq (sSet 1 (eFn F__law_round (aCons (eVar 0) aNil)))
  (sSeq (sSet 2 (eCall lenP (aCons (eOp ixP (eVar 0) (eC (.int 0))) aNil)))
  (sSeq (sWhile T__law_least_0 B__law_least_1)
  (sSeq (sSet 3 (eLst true aNil))
  (sSeq (sFor (iRng2 (aCons (eVar 2) (aCons (eOp (addP false) (eVar 2) (eVar 1)) aNil))) (gName 4) B__law_least_2)
  (sRet (eTup (aCons (eCall tupleP (aCons (eComp false [4] (iRng1 (aCons (eVar 2) aNil)) (gName 4) tTrue (eFn F__law_at (aCons (eVar 0) (aCons (eVar 4) aNil)))) aNil)) (aCons (eCall tupleP (aCons (eVar 3) aNil)) aNil)))))))))
noncomputable def F__law_least : List Val → Hh → R Val := runFn 7 S__law_least
/-! _law_due -/
noncomputable def S__law_due : Sv :=
  (sRet (eCall maxP (aCons (eC (.int 0)) (aCons (eOp subP (eC (.int 0)) (eOp divP (eOp subP (eOp subP (eC (.int 0)) (eOp (mulP false) (eVar 0) (eVar 3))) (eVar 2)) (eVar 1))) aNil))))
noncomputable def F__law_due : List Val → Hh → R Val := runFn 4 S__law_due
/-! _law_told -/
noncomputable def S__law_told_v54 : Sv :=
  (sSeq (sSet 2 (eC (.str "none")))
  (sSeq (sTryA [14, 22, 41] (sExpr (eFn F_line_form (aCons (eVar 0) (aCons (eVar 1) aNil)))) ((41, some 3, (aPick 2 "other" "many" 1000 "most")) :: ((22, none, fun _ => (sSet 2 (eC (.str "rate")))) :: ((14, none, fun _ => (sSet 2 (eC (.str "number")))) :: []))))
  (sRet (eVar 2))))
noncomputable def F__law_told_v54 : List Val → Hh → R Val := runFn 4 S__law_told_v54
/-! _law_table -/
noncomputable def T__law_table_v54_0 : Tv :=
  (Mp.tAnd (tB (eOp ltP (eVar 3) (eC (.int 300)))) (Mp.tAnd (tB (eOp leP (eOp (addP false) (eOp (mulP false) (eVar 0) (eVar 3)) (eVar 2)) (eC (.int 0)))) (tB (eOp gtP (eVar 0) (eC (.int 0))))))
noncomputable def B__law_table_v54_1 : Sv :=
  (sTidy [] (sSet 3 (eOp (addP false) (eVar 3) (eC (.int 1)))))
noncomputable def B__law_table_v54_2 : Sv :=
  (sTidy [5] (sExpr (eMeth isL appP (eVar 4) (aCons (eTup (aCons (eFn F__law_due (aCons (eVar 0) (aCons (eVar 1) (aCons (eVar 2) (aCons (eVar 5) aNil))))) (aCons (eVar 0) aNil))) aNil))))
noncomputable def S__law_table_v54 : Sv :=
  (sSeq (sSet 3 (eC (.int 0)))
  (sSeq (sWhile T__law_table_v54_0 B__law_table_v54_1)
  (sSeq (sSet 4 (eLst true aNil))
  (sSeq (sFor (iRng2 (aCons (eVar 3) (aCons (eOp (addP false) (eVar 3) (eVar 1)) aNil))) (gName 5) B__law_table_v54_2)
  (sRet (eTup (aCons (eCall tupleP (aCons (eComp false [5] (iRng1 (aCons (eVar 3) aNil)) (gName 5) tTrue (eFn F__law_due (aCons (eVar 0) (aCons (eVar 1) (aCons (eVar 2) (aCons (eVar 5) aNil)))))) aNil)) (aCons (eCall tupleP (aCons (eVar 4) aNil)) aNil))))))))
noncomputable def F__law_table_v54 : List Val → Hh → R Val := runFn 6 S__law_table_v54
/-! _law_lowest -/
noncomputable def T__law_lowest_0 : Tv :=
  (tB (eOp gtP (eVar 3) (eC (.int 0))))
noncomputable def B__law_lowest_1 : Sv :=
  (sTidy [4] (sSeq (sSet 4 (eOp modP (eCall intP (aCons (eVar 2) aNil)) (eVar 3)))
  (sSeq (sSet 2 (eVar 3))
  (sSet 3 (eVar 4)))))
noncomputable def S__law_lowest : Sv :=
  (sSeq (sSet 2 (eVar 0))
  (sSeq (sSet 3 (eVar 1))
  (sSeq (sWhile T__law_lowest_0 B__law_lowest_1)
  (sRet (eTup (aCons (eOp divP (eVar 0) (eVar 2)) (aCons (eOp divP (eVar 1) (eVar 2)) aNil)))))))
noncomputable def F__law_lowest : List Val → Hh → R Val := runFn 5 S__law_lowest
/-! law -/
noncomputable def B_law_v54_0 : Sv :=
  (sTidy [9] (sIf (Mp.tNot (tB (eFn (F__law_is 8) (aCons (eFn F_value (aCons (eVar 6) (aCons (eVar 9) aNil))) (aCons (eFn F__law_due (aCons (eVar 2) (aCons (eVar 3) (aCons (eVar 4) (aCons (eVar 9) aNil))))) aNil))))) (sRet (eC (.bl false))) sNext))
noncomputable def B_law_v54_1 : Sv :=
  (sTidy [11] (sIf (Mp.tOr (tB (eOp neP (eFn F__law_told_v54 (aCons (eVar 11) (aCons (eVar 4) aNil))) (eC (.str "rate")))) (tB (eOp neP (eFn F__law_told_v54 (aCons (eVar 11) (aCons (eC .non) aNil))) (eC (.str "rate"))))) (sRet (eC (.bl false))) sNext))
noncomputable def B_law_v54_2 : Sv :=
  (sTidy [12] (sIf (tB (eOp neP (eFn F__law_told_v54 (aCons (eTup (aCons (eVar 2) (aCons (eVar 3) aNil))) (aCons (eVar 12) aNil))) (eC (.str "number")))) (sRet (eC (.bl false))) sNext))
noncomputable def S_law_v54 : Sv :=
  (sSeq (sSet 1 (eFn F__law_hand (aCons (eVar 0) aNil)))
  (sSeq (sSet 2 (eFn F__law_draw (aCons (eVar 1) (aCons (eC (.int 13)) aNil))))
  (sSeq (sSet 3 (eOp (addP false) (eC (.int 1)) (eFn F__law_draw (aCons (eVar 1) (aCons (eC (.int 12)) aNil)))))
  (sSeq (sIf (tB (eOp eqP (eFn F__law_draw (aCons (eVar 1) (aCons (eC (.int 4)) aNil))) (eC (.int 0)))) (sSet 3 (eOp (addP false) (eC (.int 1)) (eFn F__law_draw (aCons (eVar 1) (aCons (eC (.int 120)) aNil))))) sNext)
  (sSeq (sSet 4 (eOp subP (eFn F__law_draw (aCons (eVar 1) (aCons (eC (.int 401)) aNil))) (eC (.int 200))))
  (sSeq (sSet 5 (eOp subP (eFn F__law_draw (aCons (eVar 1) (aCons (eC (.int 401)) aNil))) (eC (.int 200))))
  (sSeq (sSet 6 (eFn F_line_form (aCons (eTup (aCons (eVar 2) (aCons (eVar 3) aNil))) (aCons (eVar 4) aNil))))
  (sSeq (sIf (tB (eOp notBP (eFn F_is_form (aCons (eVar 6) aNil)) (eC (.bl true)))) (sRet (eC (.bl false))) sNext)
  (sSeq (sSet 7 (eFn F__law_table_v54 (aCons (eVar 2) (aCons (eVar 3) (aCons (eVar 4) aNil)))))
  (sSeq (sSet 8 (eFn F__law_least (aCons (eVar 7) aNil)))
  (sSeq (sIf (Mp.tOr (Mp.tNot (tB (eFn (F__law_is 8) (aCons (eVar 6) (aCons (eVar 8) aNil))))) (Mp.tNot (tB (eFn (F__law_is 8) (aCons (eFn F_least (aCons (eVar 7) aNil)) (aCons (eVar 8) aNil)))))) (sRet (eC (.bl false))) sNext)
  (sSeq (sIf (Mp.tOr (tB (eOp neP (eFn F_head_many (aCons (eVar 6) aNil)) (eCall lenP (aCons (eOp ixP (eVar 8) (eC (.int 0))) aNil)))) (tB (eOp neP (eFn F_round_many (aCons (eVar 6) aNil)) (eCall lenP (aCons (eOp ixP (eVar 8) (eC (.int 1))) aNil))))) (sRet (eC (.bl false))) sNext)
  (sSeq (sFor (iSeq (eOp (addP false) (eRgL false (aCons (eC (.int 300)) aNil)) (eLst false (aCons (eFn F__law_great (aCons (eVar 1) (aCons (eC (.int 37)) aNil))) (aCons (eFn F__law_great (aCons (eVar 1) (aCons (eC (.int 37)) aNil))) aNil))))) (gName 9) B_law_v54_0)
  (sSeq (sIf (tB (eOp neP (eFn F_slope_of (aCons (eVar 6) aNil)) (eFn F__law_lowest (aCons (eVar 2) (aCons (eVar 3) aNil))))) (sRet (eC (.bl false))) sNext)
  (sSeq (sIf (Mp.tNot (tB (eFn (F__law_is 8) (aCons (eFn F_greater (aCons (eVar 6) (aCons (eFn F_line_form (aCons (eTup (aCons (eVar 2) (aCons (eVar 3) aNil))) (aCons (eVar 5) aNil))) aNil))) (aCons (eFn F_line_form (aCons (eTup (aCons (eVar 2) (aCons (eVar 3) aNil))) (aCons (eCall maxP (aCons (eVar 4) (aCons (eVar 5) aNil))) aNil))) aNil))))) (sRet (eC (.bl false))) sNext)
  (sSeq (sIf (Mp.tAnd (tB (eOp geP (eVar 4) (eC (.int 0)))) (Mp.tNot (tB (eFn (F__law_is 8) (aCons (eFn F_line_form (aCons (eTup (aCons (eVar 2) (aCons (eVar 3) aNil))) (aCons (eOp (addP false) (eVar 4) (eOp (mulP false) (eC (.int 3)) (eVar 3))) aNil))) (aCons (eFn F_dearer (aCons (eVar 6) (aCons (eC (.int 3)) aNil))) aNil)))))) (sRet (eC (.bl false))) sNext)
  (sSeq (sIf (Mp.tAnd (tB (eOp ltP (eOp (mulP false) (eC (.int 2)) (eVar 3)) (eC (.int 121)))) (Mp.tNot (tB (eFn (F__law_is 8) (aCons (eFn F_line_form (aCons (eTup (aCons (eOp (mulP false) (eC (.int 2)) (eVar 2)) (aCons (eOp (mulP false) (eC (.int 2)) (eVar 3)) aNil))) (aCons (eOp (mulP false) (eC (.int 2)) (eVar 4)) aNil))) (aCons (eVar 6) aNil)))))) (sRet (eC (.bl false))) sNext)
  (sSeq (sSet 10 (eLst false (aCons (eTup (aCons (eVar 2) (aCons (eC (.int 0)) aNil))) (aCons (eTup (aCons (eVar 2) (aCons (eC (.int 121)) aNil))) (aCons (eTup (aCons (eOp subP (eC (.int 0)) (eC (.int 1))) (aCons (eC (.int 1)) aNil))) (aCons (eTup (aCons (eOp (addP false) (eOp powP (eC (.int 10)) (eC (.int 9))) (eC (.int 1))) (aCons (eC (.int 1)) aNil))) (aCons (eLst false (aCons (eVar 2) (aCons (eVar 3) aNil))) (aCons (eTup (aCons (eVar 2) aNil)) (aCons (eTup (aCons (eC (.bl true)) (aCons (eVar 3) aNil))) (aCons (eTup (aCons (eVar 2) (aCons (eC (.bl false)) aNil))) (aCons (eC .non) (aCons (eTup (aCons (eVar 2) (aCons (eVar 3) (aCons (eC (.int 1)) aNil)))) aNil))))))))))))
  (sSeq (sFor (iSeq (eVar 10)) (gName 11) B_law_v54_1)
  (sSeq (sFor (iSeq (eLst false (aCons (eOp (addP false) (eOp powP (eC (.int 10)) (eC (.int 6))) (eC (.int 1))) (aCons (eOp subP (eOp subP (eC (.int 0)) (eOp powP (eC (.int 10)) (eC (.int 6)))) (eC (.int 1))) (aCons (eC (.bl true)) (aCons (eC .non) (aCons (eC (.str "1")) aNil))))))) (gName 12) B_law_v54_2)
  (sRet (eOp eqP (eFn F__law_told_v54 (aCons (eTup (aCons (eC (.int 1)) (aCons (eC (.int 1)) aNil))) (aCons (eOp subP (eC (.int 0)) (eOp powP (eC (.int 10)) (eC (.int 6)))) aNil))) (eC (.str "many"))))))))))))))))))))))))
noncomputable def F_law_v54 : List Val → Hh → R Val := runFn 13 S_law_v54
end Ev

set_option Elab.async false
set_option linter.all false
set_option maxRecDepth 100000
set_option maxHeartbeats 4000000
namespace Ev
open PySem PySem.Spec PyProof.Rows L2 Mp
/-! rises -/
/-! points_of -/
noncomputable def S_points_of : Sv :=
  (sRet (eComp false [1, 2] (iEn (aCons (eOp ixP (eVar 0) (eC (.int 0))) aNil)) (gTup (gCons (gName 1) (gCons (gName 2) gNil))) (tB (eOp notNP (eVar 2) (eC .non))) (eTup (aCons (eVar 1) (aCons (eVar 2) aNil)))))
noncomputable def F_points_of : List Val → Hh → R Val := runFn 3 S_points_of
/-! rays_of -/
noncomputable def S_rays_of : Sv :=
  (sSeq (sAsg (gTup (gCons (gName 1) (gCons (gName 2) gNil))) (eTup (aCons (eCall lenP (aCons (eOp ixP (eVar 0) (eC (.int 1))) aNil)) (aCons (eCall lenP (aCons (eOp ixP (eVar 0) (eC (.int 0))) aNil)) aNil))))
  (sRet (eComp false [3, 4] (iEn (aCons (eOp ixP (eVar 0) (eC (.int 1))) aNil)) (gTup (gCons (gName 3) (gCons (gName 4) gNil))) (tB (eOp notNP (eOp ixP (eVar 4) (eC (.int 0))) (eC .non))) (eTup (aCons (eOp (addP false) (eVar 2) (eVar 3)) (aCons (eOp ixP (eVar 4) (eC (.int 0))) (aCons (eVar 1) (aCons (eOp ixP (eVar 4) (eC (.int 1))) aNil))))))))
noncomputable def F_rays_of : List Val → Hh → R Val := runFn 5 S_rays_of
/-! round_of -/
noncomputable def B_round_of_0 : Sv :=
  (sTidy [2, 3, 4, 5] (sSeq (sSet 1 (eFn F_common_round (aCons (eVar 1) (aCons (eVar 4) aNil))))
  (sIf (tB (eOp gtP (eVar 1) (eC (.int 120)))) (sRaiseA 41 "most" (eC (.int 120))) sNext)))
noncomputable def S_round_of : Sv :=
  (sSeq (sSet 1 (eC (.int 1)))
  (sSeq (sFor (iSeq (eVar 0)) (gTup (gCons (gName 2) (gCons (gName 3) (gCons (gName 4) (gCons (gName 5) gNil))))) B_round_of_0)
  (sRet (eVar 1))))
noncomputable def F_round_of : List Val → Hh → R Val := runFn 6 S_round_of
/-! classes_of -/
noncomputable def B_classes_of_0 : Sv :=
  (sTidy [8, 9, 10] (sSeq (sPar 9 10 (eOp (addP false) (eVar 3) (eOp (mulP false) (eVar 8) (eVar 5))) (eOp (addP false) (eVar 4) (eOp (mulP false) (eVar 8) (eVar 6))))
  (sExpr (eMeth isL appP (eOp ixP (eVar 2) (eOp modP (eVar 9) (eVar 1))) (aCons (eTup (aCons (eOp divP (eVar 9) (eVar 1)) (aCons (eOp subP (eVar 10) (eOp (mulP false) (eOp divP (eVar 9) (eVar 1)) (eVar 7))) (aCons (eVar 7) aNil)))) aNil)))))
noncomputable def B_classes_of_1 : Sv :=
  (sTidy [3, 4, 5, 6, 7, 8, 9, 10] (sSeq (sSet 7 (eOp divP (eOp (mulP false) (eVar 6) (eVar 1)) (eVar 5)))
  (sFor (iRng1 (aCons (eOp divP (eVar 1) (eVar 5)) aNil)) (gName 8) B_classes_of_0)))
noncomputable def S_classes_of : Sv :=
  (sSeq (sSet 2 (eComp false [11] (iRng1 (aCons (eVar 1) aNil)) (gName 11) tTrue (eLst true aNil)))
  (sSeq (sFor (iSeq (eVar 0)) (gTup (gCons (gName 3) (gCons (gName 4) (gCons (gName 5) (gCons (gName 6) gNil))))) B_classes_of_1)
  (sRet (eVar 2))))
noncomputable def F_classes_of : List Val → Hh → R Val := runFn 12 S_classes_of
/-! last_turn -/
noncomputable def B_last_turn_0 : Sv :=
  (sTidy [6, 7, 8] (sIf (Mp.tAnd (tB (eOp gtP (eVar 8) (eVar 4))) (tB (eOp ltP (eVar 7) (eVar 3)))) (sSet 5 (eCall maxP (aCons (eVar 5) (aCons (eUn negP (eOp divP (eOp subP (eVar 7) (eVar 3)) (eOp subP (eVar 8) (eVar 4)))) aNil)))) sNext))
noncomputable def S_last_turn : Sv :=
  (sSeq (sAsg (gTup (gCons (gName 2) (gCons (gName 3) (gCons (gName 4) gNil)))) (eVar 1))
  (sSeq (sSet 5 (eVar 2))
  (sSeq (sFor (iSeq (eVar 0)) (gTup (gCons (gName 6) (gCons (gName 7) (gCons (gName 8) gNil)))) B_last_turn_0)
  (sRet (eVar 5)))))
noncomputable def F_last_turn : List Val → Hh → R Val := runFn 9 S_last_turn
/-! by_rate -/
noncomputable def S_by_rate : Sv :=
  (sRet (eTup (aCons (eOp ixP (eVar 0) (eC (.int 2))) (aCons (eOp ixP (eVar 0) (eC (.int 1))) (aCons (eOp ixP (eVar 0) (eC (.int 0))) aNil)))))
noncomputable def F_by_rate : List Val → Hh → R Val := runFn 1 S_by_rate
/-! head_size -/
noncomputable def B_head_size_0 : Sv :=
  (sTidy [4, 5] (sIf (tB (eOp gtP (eCall lenP (aCons (eVar 5) aNil)) (eC (.int 0)))) (sSet 2 (eCall maxP (aCons (eVar 2) (aCons (eOp (addP false) (eVar 4) (eOp (mulP false) (eVar 3) (eFn F_last_turn (aCons (eVar 5) (aCons (eMinK F_by_rate (eVar 5)) aNil))))) aNil)))) sNext))
noncomputable def S_head_size : Sv :=
  (sSeq (sPar 2 3 (eCall maxP (aCons (eOp (addP false) (eLst false (aCons (eC (.int 0)) aNil)) (eComp false [6, 7] (iSeq (eVar 0)) (gTup (gCons (gName 6) (gCons (gName 7) gNil))) tTrue (eOp (addP false) (eVar 6) (eC (.int 1))))) aNil)) (eCall lenP (aCons (eVar 1) aNil)))
  (sSeq (sFor (iEn (aCons (eVar 1) aNil)) (gTup (gCons (gName 4) (gCons (gName 5) gNil))) B_head_size_0)
  (sSeq (sIf (tB (eOp gtP (eVar 2) (eC (.int 9000)))) (sRaiseA 41 "most" (eC (.int 1000))) sNext)
  (sRet (eVar 2)))))
noncomputable def F_head_size : List Val → Hh → R Val := runFn 8 S_head_size
/-! put_least -/
noncomputable def S_put_least : Sv :=
  (sIf (Mp.tAnd (tB (eOp ltP (eVar 1) (eCall lenP (aCons (eVar 0) aNil)))) (Mp.tOr (tB (eOp isNP (eOp ixP (eVar 0) (eVar 1)) (eC .non))) (tB (eOp ltP (eVar 2) (eOp ixP (eVar 0) (eVar 1)))))) (sAsg (gSub (eVar 0) (eVar 1)) (eVar 2)) sNext)
noncomputable def F_put_least : List Val → Hh → R Val := runFn 3 S_put_least
/-! made -/
noncomputable def B_made_0 : Sv :=
  (sTidy [6, 7] (sExpr (eFn F_put_least (aCons (eVar 5) (aCons (eVar 6) (aCons (eVar 7) aNil))))))
noncomputable def B_made_1 : Sv :=
  (sTidy [10] (sExpr (eFn F_put_least (aCons (eVar 5) (aCons (eOp (addP false) (eVar 6) (eOp (mulP false) (eVar 10) (eVar 8))) (aCons (eOp (addP false) (eVar 7) (eOp (mulP false) (eVar 10) (eVar 9))) aNil))))))
noncomputable def B_made_2 : Sv :=
  (sTidy [6, 7, 8, 9, 10] (sFor (iRng1 (aCons (eCall maxP (aCons (eC (.int 0)) (aCons (eOp divP (eOp subP (eOp (addP false) (eOp subP (eVar 4) (eVar 6)) (eVar 8)) (eC (.int 1))) (eVar 8)) aNil))) aNil)) (gName 10) B_made_1))
noncomputable def B_made_3 : Sv :=
  (sTidy [6, 12, 13] (sSeq (sSet 12 (eOp ixP (eVar 3) (eOp modP (eVar 6) (eVar 2))))
  (sSeq (sSet 13 (eIf (tB (eOp gtP (eCall lenP (aCons (eVar 12) aNil)) (eC (.int 0)))) (eMinK F_by_rate (eVar 12)) (eC .non)))
  (sExpr (eMeth isL appP (eVar 11) (aCons (eIf (tB (eOp isNP (eVar 13) (eC .non))) (eTup (aCons (eC .non) (aCons (eC (.int 0)) aNil))) (eTup (aCons (eOp (addP false) (eOp ixP (eVar 13) (eC (.int 1))) (eOp (mulP false) (eOp divP (eVar 6) (eVar 2)) (eOp ixP (eVar 13) (eC (.int 2))))) (aCons (eOp ixP (eVar 13) (eC (.int 2))) aNil)))) aNil))))))
noncomputable def S_made : Sv :=
  (sSeq (sIf (Mp.tAnd (tB (eOp eqP (eCall lenP (aCons (eVar 1) aNil)) (eC (.int 0)))) (tB (eOp eqP (eCall lenP (aCons (eVar 0) aNil)) (eC (.int 0))))) (sRet (eC (.tup [(.tup []), (.tup [(.tup [.non, (.int 0)])])]))) sNext)
  (sSeq (sSet 2 (eFn F_round_of (aCons (eVar 1) aNil)))
  (sSeq (sSet 3 (eFn F_classes_of (aCons (eVar 1) (aCons (eVar 2) aNil))))
  (sSeq (sSet 4 (eFn F_head_size (aCons (eVar 0) (aCons (eVar 3) aNil))))
  (sSeq (sSet 5 (eOp (mulP true) (eLst false (aCons (eC .non) aNil)) (eVar 4)))
  (sSeq (sFor (iSeq (eVar 0)) (gTup (gCons (gName 6) (gCons (gName 7) gNil))) B_made_0)
  (sSeq (sFor (iSeq (eVar 1)) (gTup (gCons (gName 6) (gCons (gName 7) (gCons (gName 8) (gCons (gName 9) gNil))))) B_made_2)
  (sSeq (sSet 11 (eLst true aNil))
  (sSeq (sFor (iRng2 (aCons (eVar 4) (aCons (eOp (addP false) (eVar 4) (eVar 2)) aNil))) (gName 6) B_made_3)
  (sSeq (sSet 14 (eFn F_raw_least (aCons (eVar 5) (aCons (eVar 11) aNil))))
  (sSeq (sIf (tB (eOp gtP (eCall lenP (aCons (eOp ixP (eVar 14) (eC (.int 0))) aNil)) (eC (.int 1000)))) (sRaiseA 41 "most" (eC (.int 1000))) sNext)
  (sRet (eVar 14)))))))))))))
noncomputable def F_made : List Val → Hh → R Val := runFn 15 S_made
/-! raw_lesser -/
noncomputable def S_raw_lesser : Sv :=
  (sRet (eFn F_made (aCons (eOp (addP false) (eFn F_points_of (aCons (eVar 0) aNil)) (eFn F_points_of (aCons (eVar 1) aNil))) (aCons (eOp (addP false) (eFn F_rays_of (aCons (eVar 0) aNil)) (eFn F_rays_of (aCons (eVar 1) aNil))) aNil))))
noncomputable def F_raw_lesser : List Val → Hh → R Val := runFn 2 S_raw_lesser
/-! lesser -/
/-! _law_loose -/
/-! _law_told -/
/-! _law_other -/
/-! _law_one -/
/-! law -/
end Ev

set_option Elab.async false
set_option linter.all false
set_option maxRecDepth 100000
set_option maxHeartbeats 4000000
namespace Ev
open PySem PySem.Spec PyProof.Rows L2 Mp
/-! are_amounts -/
noncomputable def S_are_amounts : Sv :=
  (sRet (eAnd (eFn F_is_sized (aCons (eVar 0) (aCons (eC (.int 2)) (aCons (eC (.int 1000)) aNil)))) (eCall allP (aCons (eComp false [1] (iSeq (eVar 0)) (gName 1) tTrue (eFn F_is_amount (aCons (eVar 1) aNil))) aNil))))
noncomputable def F_are_amounts : List Val → Hh → R Val := runFn 2 S_are_amounts
/-! form_by -/
noncomputable def B_form_by_0 : Sv :=
  (sTidy [3, 4] (sSeq (sIf (Mp.tOr (tB (eOp neP (eOp isNP (eVar 3) (eC .non)) (eOp isNP (eVar 4) (eC .non)))) (Mp.tAnd (tB (eOp notNP (eVar 3) (eC .non))) (tB (eOp ltP (eVar 3) (eVar 4))))) (sRaise 23) sNext)
  (sExpr (eMeth isL appP (eVar 2) (aCons (eIf (tB (eOp isNP (eVar 3) (eC .non))) (eTup (aCons (eC .non) (aCons (eC (.int 0)) aNil))) (eTup (aCons (eVar 3) (aCons (eOp subP (eVar 3) (eVar 4)) aNil)))) aNil)))))
noncomputable def S_form_by : Sv :=
  (sSeq (sIf (Mp.tNot (tB (eFn F_are_amounts (aCons (eVar 0) aNil)))) (sRaise 23) sNext)
  (sSeq (sIf (Mp.tNot (tB (eFn F_is_within (aCons (eVar 1) (aCons (eC (.int 1)) (aCons (eCall minP (aCons (eC (.int 120)) (aCons (eOp divP (eCall lenP (aCons (eVar 0) aNil)) (eC (.int 2))) aNil))) aNil)))))) (sRaise 14) sNext)
  (sSeq (sSet 2 (eLst true aNil))
  (sSeq (sFor (iZp (aCons (eSl false (eVar 0) (oSome (eUn negP (eVar 1))) oNone) (aCons (eSl false (eVar 0) (oSome (eOp (mulP false) (eUn negP (eC (.int 2))) (eVar 1))) (oSome (eOp subP (eCall lenP (aCons (eVar 0) aNil)) (eVar 1)))) aNil))) (gTup (gCons (gName 3) (gCons (gName 4) gNil))) B_form_by_0)
  (sRet (eFn F_raw_least (aCons (eSl false (eVar 0) oNone (oSome (eOp subP (eCall lenP (aCons (eVar 0) aNil)) (eVar 1)))) (aCons (eVar 2) aNil))))))))
noncomputable def F_form_by : List Val → Hh → R Val := runFn 5 S_form_by
/-! never -/
noncomputable def S_never : Sv :=
  (sRet (eC (.tup [(.tup []), (.tup [(.tup [.non, (.int 0)])])])))
noncomputable def F_never : List Val → Hh → R Val := runFn 0 S_never
/-! raw_alone -/
noncomputable def S_raw_alone : Sv :=
  (sRet (eTup (aCons (eOp (addP false) (eOp (mulQ false) (eTup (aCons (eC .non) aNil)) (eVar 0)) (eTup (aCons (eVar 1) aNil))) (aCons (eTup (aCons (eTup (aCons (eC .non) (aCons (eC (.int 0)) aNil))) aNil)) aNil))))
noncomputable def F_raw_alone : List Val → Hh → R Val := runFn 2 S_raw_alone
/-! alone -/
noncomputable def S_alone : Sv :=
  (sSeq (sIf (Mp.tNot (tB (eFn F_is_within (aCons (eVar 0) (aCons (eC (.int 0)) (aCons (eC (.int 300)) aNil)))))) (sRaise 9) sNext)
  (sSeq (sExpr (eFn F_check_number (aCons (eVar 1) aNil)))
  (sRet (eFn F_raw_alone (aCons (eVar 0) (aCons (eVar 1) aNil))))))
noncomputable def F_alone : List Val → Hh → R Val := runFn 2 S_alone
/-! check_many -/
noncomputable def S_check_many : Sv :=
  (sIf (Mp.tOr (Mp.tNot (tB (eFn F_is_sized (aCons (eVar 0) (aCons (eC (.int 1)) (aCons (eC (.int 8)) aNil)))))) (Mp.tNot (tB (eCall allP (aCons (eComp false [1] (iSeq (eVar 0)) (gName 1) tTrue (eFn F_is_form (aCons (eVar 1) aNil))) aNil))))) (sRaise 8) sNext)
noncomputable def F_check_many : List Val → Hh → R Val := runFn 2 S_check_many
/-! lesser_all -/
noncomputable def B_lesser_all_0 : Sv :=
  (sTidy [2] (sSet 1 (eFn F_raw_lesser (aCons (eVar 1) (aCons (eVar 2) aNil)))))
noncomputable def S_lesser_all : Sv :=
  (sSeq (sExpr (eFn F_check_many (aCons (eVar 0) aNil)))
  (sSeq (sSet 1 (eOp ixP (eVar 0) (eC (.int 0))))
  (sSeq (sFor (iSeq (eSl false (eVar 0) (oSome (eC (.int 1))) oNone)) (gName 2) B_lesser_all_0)
  (sRet (eVar 1)))))
noncomputable def F_lesser_all : List Val → Hh → R Val := runFn 3 S_lesser_all
/-! _law_told -/
noncomputable def S__law_told_v03 : Sv :=
  (sSeq (sSet 3 (eC (.str "none")))
  (sSeq (sTry [9, 14, 23, 41] (sSeq (sIf (tB (eOp eqP (eVar 0) (eC (.int 0)))) (sExpr (eFn F_form_by (aCons (eVar 1) (aCons (eVar 2) aNil)))) sNext)
  (sIf (tB (eOp eqP (eVar 0) (eC (.int 1)))) (sExpr (eFn F_alone (aCons (eVar 1) (aCons (eVar 2) aNil)))) sNext)) ((41, (sSet 3 (eC (.str "many")))) :: ((23, (sSet 3 (eC (.str "row")))) :: ((9, (sSet 3 (eC (.str "length")))) :: ((14, (sSet 3 (eC (.str "number")))) :: [])))))
  (sRet (eVar 3))))
noncomputable def F__law_told_v03 : List Val → Hh → R Val := runFn 4 S__law_told_v03
/-! _law_on -/
noncomputable def B__law_on_0 : Sv :=
  (sTidy [3, 4, 5] (sSeq (sSet 4 (eOp ixP (eVar 0) (eOp subP (eVar 3) (eVar 1))))
  (sSeq (sSet 5 (eOp ixP (eVar 0) (eVar 3)))
  (sSeq (sIf (tB (eOp neP (eOp isNP (eVar 4) (eC .non)) (eOp isNP (eVar 5) (eC .non)))) (sRet (eC .non)) sNext)
  (sIf (tB (eOp isNP (eVar 5) (eC .non))) (sExpr (eMeth isL appP (eVar 2) (aCons (eTup (aCons (eC .non) (aCons (eC (.int 0)) aNil))) aNil))) (sIf (tB (eOp ltP (eVar 5) (eVar 4))) (sRet (eC .non)) (sExpr (eMeth isL appP (eVar 2) (aCons (eTup (aCons (eVar 5) (aCons (eOp subP (eVar 5) (eVar 4)) aNil))) aNil)))))))))
noncomputable def S__law_on : Sv :=
  (sSeq (sSet 2 (eLst true aNil))
  (sSeq (sFor (iRng2 (aCons (eOp subP (eCall lenP (aCons (eVar 0) aNil)) (eVar 1)) (aCons (eCall lenP (aCons (eVar 0) aNil)) aNil))) (gName 3) B__law_on_0)
  (sRet (eTup (aCons (eCall tupleP (aCons (eSl false (eVar 0) oNone (oSome (eOp subP (eCall lenP (aCons (eVar 0) aNil)) (eVar 1)))) aNil)) (aCons (eCall tupleP (aCons (eVar 2) aNil)) aNil))))))
noncomputable def F__law_on : List Val → Hh → R Val := runFn 6 S__law_on
/-! _law_row -/
noncomputable def B__law_row_0 : Sv :=
  (sTidy [4] (sExpr (eMeth isL appP (eVar 3) (aCons (eFn F__law_amount (aCons (eVar 0) (aCons (eC (.int 9)) aNil))) aNil))))
noncomputable def S__law_row : Sv :=
  (sSeq (sIf (tB (eOp eqP (eFn F__law_draw (aCons (eVar 0) (aCons (eC (.int 2)) aNil))) (eC (.int 0)))) (sSeq (sSet 1 (eFn F__law_table (aCons (eVar 0) (aCons (eC (.int 4)) (aCons (eC (.int 3)) (aCons (eC (.int 9)) aNil))))))
  (sSeq (sSet 2 (eOp (addP false) (eOp (addP false) (eCall lenP (aCons (eOp ixP (eVar 1) (eC (.int 0))) aNil)) (eOp (mulP false) (eC (.int 2)) (eCall lenP (aCons (eOp ixP (eVar 1) (eC (.int 1))) aNil)))) (eFn F__law_draw (aCons (eVar 0) (aCons (eC (.int 3)) aNil)))))
  (sRet (eTup (aCons (eComp false [5] (iRng1 (aCons (eCall maxP (aCons (eC (.int 2)) (aCons (eVar 2) aNil))) aNil)) (gName 5) tTrue (eFn F__law_at (aCons (eVar 1) (aCons (eVar 5) aNil)))) (aCons (eCall lenP (aCons (eOp ixP (eVar 1) (eC (.int 1))) aNil)) aNil)))))) sNext)
  (sSeq (sSet 3 (eLst true aNil))
  (sSeq (sFor (iRng1 (aCons (eOp (addP false) (eC (.int 2)) (eFn F__law_draw (aCons (eVar 0) (aCons (eC (.int 13)) aNil)))) aNil)) (gName 4) B__law_row_0)
  (sRet (eTup (aCons (eVar 3) (aCons (eOp (addP false) (eC (.int 1)) (eFn F__law_draw (aCons (eVar 0) (aCons (eOp divP (eCall lenP (aCons (eVar 3) aNil)) (eC (.int 2))) aNil)))) aNil)))))))
noncomputable def F__law_row : List Val → Hh → R Val := runFn 6 S__law_row
/-! _law_alone -/
noncomputable def S__law_alone : Sv :=
  (sSeq (sSet 2 (eFn F_alone (aCons (eVar 0) (aCons (eVar 1) aNil))))
  (sSeq (sIf (Mp.tOr (tB (eOp notBP (eFn F_is_form (aCons (eVar 2) aNil)) (eC (.bl true)))) (Mp.tNot (tB (eFn (F__law_is 8) (aCons (eVar 2) (aCons (eTup (aCons (eOp (addP false) (eOp (mulQ false) (eTup (aCons (eC .non) aNil)) (eVar 0)) (eTup (aCons (eVar 1) aNil))) (aCons (eTup (aCons (eTup (aCons (eC .non) (aCons (eC (.int 0)) aNil))) aNil)) aNil))) aNil)))))) (sRet (eC (.bl false))) sNext)
  (sRet (eAnd (eOp eqP (eFn F_value (aCons (eVar 2) (aCons (eVar 0) aNil))) (eVar 1)) (eOp isNP (eFn F_value (aCons (eVar 2) (aCons (eOp (addP false) (eVar 0) (eC (.int 1))) aNil))) (eC .non))))))
noncomputable def F__law_alone : List Val → Hh → R Val := runFn 3 S__law_alone
/-! law -/
noncomputable def B_law_v03_0 : Sv :=
  (sTidy [6] (sIf (Mp.tNot (tB (eFn (F__law_is 8) (aCons (eFn F_value (aCons (eVar 5) (aCons (eVar 6) aNil))) (aCons (eFn F__law_at (aCons (eVar 4) (aCons (eVar 6) aNil))) aNil))))) (sRet (eC (.bl false))) sNext))
noncomputable def B_law_v03_1 : Sv :=
  (sTidy [12] (sIf (Mp.tOr (tB (eOp neP (eFn F__law_told_v03 (aCons (eC (.int 0)) (aCons (eVar 12) (aCons (eC (.int 1)) aNil)))) (eC (.str "row")))) (tB (eOp neP (eFn F__law_told_v03 (aCons (eC (.int 0)) (aCons (eVar 12) (aCons (eC .non) aNil)))) (eC (.str "row"))))) (sRet (eC (.bl false))) sNext))
noncomputable def B_law_v03_2 : Sv :=
  (sTidy [12] (sIf (tB (eOp neP (eFn F__law_told_v03 (aCons (eC (.int 0)) (aCons (eOp (mulQ false) (eTup (aCons (eC (.int 1)) aNil)) (eCall lenP (aCons (eVar 2) aNil))) (aCons (eVar 12) aNil)))) (eC (.str "number")))) (sRet (eC (.bl false))) sNext))
noncomputable def B_law_v03_3 : Sv :=
  (sTidy [12] (sIf (tB (eOp neP (eFn F__law_told_v03 (aCons (eC (.int 1)) (aCons (eVar 12) (aCons (eC .non) aNil)))) (eC (.str "length")))) (sRet (eC (.bl false))) sNext))
noncomputable def S_law_v03 : Sv :=
  (sSeq (sSet 1 (eFn F__law_hand (aCons (eVar 0) aNil)))
  (sSeq (sAsg (gTup (gCons (gName 2) (gCons (gName 3) gNil))) (eFn F__law_row (aCons (eVar 1) aNil)))
  (sSeq (sSet 2 (eCall tupleP (aCons (eVar 2) aNil)))
  (sSeq (sSet 4 (eFn F__law_on (aCons (eVar 2) (aCons (eVar 3) aNil))))
  (sSeq (sIf (tB (eOp isNP (eVar 4) (eC .non))) (sIf (tB (eOp neP (eFn F__law_told_v03 (aCons (eC (.int 0)) (aCons (eVar 2) (aCons (eVar 3) aNil)))) (eC (.str "row")))) (sRet (eC (.bl false))) sNext) (sSeq (sSet 5 (eFn F_form_by (aCons (eVar 2) (aCons (eVar 3) aNil))))
  (sSeq (sIf (Mp.tOr (Mp.tNot (tB (eFn (F__law_is 8) (aCons (eVar 5) (aCons (eFn F__law_least (aCons (eVar 4) aNil)) aNil))))) (Mp.tNot (tB (eFn (F__law_is 8) (aCons (eFn F_row_of (aCons (eVar 5) (aCons (eC (.int 0)) (aCons (eCall lenP (aCons (eVar 2) aNil)) aNil)))) (aCons (eVar 2) aNil)))))) (sRet (eC (.bl false))) sNext)
  (sFor (iRng2 (aCons (eCall lenP (aCons (eVar 2) aNil)) (aCons (eOp (addP false) (eCall lenP (aCons (eVar 2) aNil)) (eOp (mulP false) (eC (.int 3)) (eVar 3))) aNil))) (gName 6) B_law_v03_0))))
  (sSeq (sSet 7 (eFn F__law_least (aCons (eFn F__law_table (aCons (eVar 1) (aCons (eC (.int 4)) (aCons (eC (.int 4)) (aCons (eC (.int 9)) aNil))))) aNil)))
  (sSeq (sSet 8 (eCall lenP (aCons (eOp ixP (eVar 7) (eC (.int 1))) aNil)))
  (sSeq (sSet 9 (eFn F_row_of (aCons (eVar 7) (aCons (eC (.int 0)) (aCons (eOp (addP false) (eOp (addP false) (eCall lenP (aCons (eOp ixP (eVar 7) (eC (.int 0))) aNil)) (eOp (mulP false) (eC (.int 2)) (eVar 8))) (eFn F__law_draw (aCons (eVar 1) (aCons (eC (.int 9)) aNil)))) aNil)))))
  (sSeq (sIf (Mp.tNot (tB (eFn (F__law_is 8) (aCons (eFn F_form_by (aCons (eVar 9) (aCons (eVar 8) aNil))) (aCons (eVar 7) aNil))))) (sRet (eC (.bl false))) sNext)
  (sSeq (sIf (Mp.tOr (Mp.tNot (tB (eFn (F__law_is 8) (aCons (eFn F_never aNil) (aCons (eTup (aCons (eTup aNil) (aCons (eTup (aCons (eTup (aCons (eC .non) (aCons (eC (.int 0)) aNil))) aNil)) aNil))) aNil))))) (Mp.tNot (tB (eFn F__law_alone (aCons (eFn F__law_draw (aCons (eVar 1) (aCons (eC (.int 301)) aNil))) (aCons (eFn F__law_draw (aCons (eVar 1) (aCons (eOp powP (eC (.int 10)) (eC (.int 9))) aNil))) aNil)))))) (sRet (eC (.bl false))) sNext)
  (sSeq (sSet 10 (eComp false [6] (iRng1 (aCons (eCall minP (aCons (eC (.int 8)) (aCons (eCall lenP (aCons (eVar 2) aNil)) aNil))) aNil)) (gName 6) (tB (eOp notNP (eOp ixP (eVar 2) (eVar 6)) (eC .non))) (eFn F_alone (aCons (eVar 6) (aCons (eOp ixP (eVar 2) (eVar 6)) aNil)))))
  (sSeq (sIf (tB (eOp gtP (eCall lenP (aCons (eVar 10) aNil)) (eC (.int 0)))) (sSeq (sSet 11 (eFn F__law_least (aCons (eTup (aCons (eSl false (eVar 2) oNone (oSome (eC (.int 8)))) (aCons (eTup (aCons (eTup (aCons (eC .non) (aCons (eC (.int 0)) aNil))) aNil)) aNil))) aNil)))
  (sIf (Mp.tNot (tB (eFn (F__law_is 8) (aCons (eFn F_lesser_all (aCons (eCall tupleP (aCons (eVar 10) aNil)) aNil)) (aCons (eVar 11) aNil))))) (sRet (eC (.bl false))) sNext)) sNext)
  (sSeq (sFor (iSeq (eLst false (aCons (eC .non) (aCons (eCall (listP false) (aCons (eVar 2) aNil)) (aCons (eSl false (eVar 2) oNone (oSome (eC (.int 1)))) (aCons (eOp (mulQ false) (eTup (aCons (eC .non) aNil)) (eC (.int 1001))) (aCons (eOp (addP false) (eVar 2) (eTup (aCons (eOp subP (eC (.int 0)) (eC (.int 1))) aNil))) (aCons (eOp (addP false) (eVar 2) (eTup (aCons (eC (.bl true)) aNil))) (aCons (eOp (addP false) (eVar 2) (eTup (aCons (eC (.str "1")) aNil))) (aCons (eTup aNil) aNil)))))))))) (gName 12) B_law_v03_1)
  (sSeq (sFor (iSeq (eLst false (aCons (eC (.int 0)) (aCons (eOp (addP false) (eOp divP (eCall lenP (aCons (eVar 2) aNil)) (eC (.int 2))) (eC (.int 1))) (aCons (eC (.int 121)) (aCons (eC (.bl true)) (aCons (eC .non) aNil))))))) (gName 12) B_law_v03_2)
  (sSeq (sFor (iSeq (eLst false (aCons (eC (.int 301)) (aCons (eOp subP (eC (.int 0)) (eC (.int 1))) (aCons (eC (.bl true)) (aCons (eC .non) aNil)))))) (gName 12) B_law_v03_3)
  (sRet (eOp eqP (eCall lenP (aCons (eComp false [13] (iSeq (eLst false (aCons (eOp subP (eC (.int 0)) (eC (.int 1))) (aCons (eC (.bl true)) (aCons (eC .non) (aCons (eC (.str "1")) aNil)))))) (gName 13) (tB (eOp neP (eFn F__law_told_v03 (aCons (eC (.int 1)) (aCons (eC (.int 3)) (aCons (eVar 13) aNil)))) (eC (.str "number")))) (eVar 13)) aNil)) (eC (.int 0)))))))))))))))))))
noncomputable def F_law_v03 : List Val → Hh → R Val := runFn 14 S_law_v03
end Ev

set_option Elab.async false
set_option linter.all false
set_option maxRecDepth 100000
set_option maxHeartbeats 4000000
namespace K03
open PySem PySem.Spec PyProof.Rows L2 Mp Ev
def topS (i : Nat) : Stmt := PySem.Challenge.pw_everylength_k03_whole_forms_from_rows.main.body.getD i (.Pass ⟨0, 0, 0, 0⟩)
abbrev XL : List Nat := [9, 14, 23, 41]
abbrev s_is_integer : Stmt := topS 1
theorem sc_is_integer : FnScope ["thing"] ["thing"] (defScope s_is_integer) := ⟨rfl, rfl, rfl, by decide +kernel, rfl, by decide +kernel, by decide +kernel⟩
abbrev s_is_within : Stmt := topS 2
theorem sc_is_within : FnScope ["thing", "low", "high"] ["thing", "low", "high"] (defScope s_is_within) := ⟨rfl, rfl, rfl, by decide +kernel, rfl, by decide +kernel, by decide +kernel⟩
abbrev s_is_number : Stmt := topS 3
theorem sc_is_number : FnScope ["thing"] ["thing"] (defScope s_is_number) := ⟨rfl, rfl, rfl, by decide +kernel, rfl, by decide +kernel, by decide +kernel⟩
abbrev s_is_sized : Stmt := topS 4
theorem sc_is_sized : FnScope ["thing", "low", "high"] ["thing", "low", "high"] (defScope s_is_sized) := ⟨rfl, rfl, rfl, by decide +kernel, rfl, by decide +kernel, by decide +kernel⟩
abbrev s_common_part : Stmt := topS 5
theorem sc_common_part : FnScope ["one", "other"] ["one", "other"] (defScope s_common_part) := ⟨rfl, rfl, rfl, by decide +kernel, rfl, by decide +kernel, by decide +kernel⟩
abbrev s_common_round : Stmt := topS 6
theorem sc_common_round : FnScope ["one", "other"] ["one", "other"] (defScope s_common_round) := ⟨rfl, rfl, rfl, by decide +kernel, rfl, by decide +kernel, by decide +kernel⟩
abbrev s_is_amount : Stmt := topS 21
theorem sc_is_amount : FnScope ["thing"] ["thing"] (defScope s_is_amount) := ⟨rfl, rfl, rfl, by decide +kernel, rfl, by decide +kernel, by decide +kernel⟩
abbrev s_is_place : Stmt := topS 22
theorem sc_is_place : FnScope ["thing"] ["thing"] (defScope s_is_place) := ⟨rfl, rfl, rfl, by decide +kernel, rfl, by decide +kernel, by decide +kernel⟩
abbrev s_is_table : Stmt := topS 23
theorem sc_is_table : FnScope ["thing", "one"] ["thing"] (defScope s_is_table) := ⟨rfl, rfl, rfl, by decide +kernel, rfl, by decide +kernel, by decide +kernel⟩
abbrev s_check_table : Stmt := topS 24
theorem sc_check_table : FnScope ["table"] ["table"] (defScope s_check_table) := ⟨rfl, rfl, rfl, by decide +kernel, rfl, by decide +kernel, by decide +kernel⟩
abbrev s_check_length : Stmt := topS 25
theorem sc_check_length : FnScope ["n"] ["n"] (defScope s_check_length) := ⟨rfl, rfl, rfl, by decide +kernel, rfl, by decide +kernel, by decide +kernel⟩
abbrev s_check_number : Stmt := topS 26
theorem sc_check_number : FnScope ["number"] ["number"] (defScope s_check_number) := ⟨rfl, rfl, rfl, by decide +kernel, rfl, by decide +kernel, by decide +kernel⟩
abbrev s_raw_value : Stmt := topS 27
theorem sc_raw_value : FnScope ["table", "n", "head", "places", "turns", "r", "amount", "rise"] ["table", "n"] (defScope s_raw_value) := ⟨rfl, rfl, rfl, by decide +kernel, rfl, by decide +kernel, by decide +kernel⟩
abbrev s_value : Stmt := topS 28
theorem sc_value : FnScope ["table", "n"] ["table", "n"] (defScope s_value) := ⟨rfl, rfl, rfl, by decide +kernel, rfl, by decide +kernel, by decide +kernel⟩
abbrev s_row_of : Stmt := topS 29
theorem sc_row_of : FnScope ["table", "n", "many", "at"] ["table", "n", "many"] (defScope s_row_of) := ⟨rfl, rfl, rfl, by decide +kernel, rfl, by decide +kernel, by decide +kernel⟩
abbrev s_is_round : Stmt := topS 30
theorem sc_is_round : FnScope ["places", "many", "size", "at", "first", "rise", "here", "its"] ["places", "many"] (defScope s_is_round) := ⟨rfl, rfl, rfl, by decide +kernel, rfl, by decide +kernel, by decide +kernel⟩
abbrev s_least_round : Stmt := topS 31
theorem sc_least_round : FnScope ["places", "size", "many", "amount", "rise"] ["places"] (defScope s_least_round) := ⟨rfl, rfl, rfl, by decide +kernel, rfl, by decide +kernel, by decide +kernel⟩
abbrev s_raw_least : Stmt := topS 32
theorem sc_raw_least : FnScope ["head", "places", "ahead", "amount", "rise"] ["head", "places"] (defScope s_raw_least) := ⟨rfl, rfl, rfl, by decide +kernel, rfl, by decide +kernel, by decide +kernel⟩
abbrev s_is_form : Stmt := topS 33
theorem sc_is_form : FnScope ["thing"] ["thing"] (defScope s_is_form) := ⟨rfl, rfl, rfl, by decide +kernel, rfl, by decide +kernel, by decide +kernel⟩
abbrev s_are_amounts : Stmt := topS 34
theorem sc_are_amounts : FnScope ["thing", "one"] ["thing"] (defScope s_are_amounts) := ⟨rfl, rfl, rfl, by decide +kernel, rfl, by decide +kernel, by decide +kernel⟩
abbrev s_form_by : Stmt := topS 35
theorem sc_form_by : FnScope ["row", "many", "places", "here", "ahead"] ["row", "many"] (defScope s_form_by) := ⟨rfl, rfl, rfl, by decide +kernel, rfl, by decide +kernel, by decide +kernel⟩
abbrev s_never : Stmt := topS 37
theorem sc_never : FnScope [] [] (defScope s_never) := ⟨rfl, rfl, rfl, by decide +kernel, rfl, by decide +kernel, by decide +kernel⟩
abbrev s_raw_alone : Stmt := topS 38
theorem sc_raw_alone : FnScope ["n", "cost"] ["n", "cost"] (defScope s_raw_alone) := ⟨rfl, rfl, rfl, by decide +kernel, rfl, by decide +kernel, by decide +kernel⟩
abbrev s_alone : Stmt := topS 39
theorem sc_alone : FnScope ["n", "cost"] ["n", "cost"] (defScope s_alone) := ⟨rfl, rfl, rfl, by decide +kernel, rfl, by decide +kernel, by decide +kernel⟩
abbrev s_points_of : Stmt := topS 42
theorem sc_points_of : FnScope ["form", "n", "amount"] ["form"] (defScope s_points_of) := ⟨rfl, rfl, rfl, by decide +kernel, rfl, by decide +kernel, by decide +kernel⟩
abbrev s_rays_of : Stmt := topS 43
theorem sc_rays_of : FnScope ["form", "size", "begin", "r", "place"] ["form"] (defScope s_rays_of) := ⟨rfl, rfl, rfl, by decide +kernel, rfl, by decide +kernel, by decide +kernel⟩
abbrev s_round_of : Stmt := topS 44
theorem sc_round_of : FnScope ["rays", "found", "n", "amount", "step", "rise"] ["rays"] (defScope s_round_of) := ⟨rfl, rfl, rfl, by decide +kernel, rfl, by decide +kernel, by decide +kernel⟩
abbrev s_classes_of : Stmt := topS 45
theorem sc_classes_of : FnScope ["rays", "turn", "found", "n", "amount", "step", "rise", "more", "at", "begin", "here", "rest"] ["rays", "turn"] (defScope s_classes_of) := ⟨rfl, rfl, rfl, by decide +kernel, rfl, by decide +kernel, by decide +kernel⟩
abbrev s_last_turn : Stmt := topS 46
theorem sc_last_turn : FnScope ["rows", "best", "begin", "base", "rise", "found", "first", "amount", "more"] ["rows", "best"] (defScope s_last_turn) := ⟨rfl, rfl, rfl, by decide +kernel, rfl, by decide +kernel, by decide +kernel⟩
abbrev s_by_rate : Stmt := topS 47
theorem sc_by_rate : FnScope ["row"] ["row"] (defScope s_by_rate) := ⟨rfl, rfl, rfl, by decide +kernel, rfl, by decide +kernel, by decide +kernel⟩
abbrev s_head_size : Stmt := topS 48
theorem sc_head_size : FnScope ["points", "classes", "found", "turn", "rest", "rows", "n", "amount"] ["points", "classes"] (defScope s_head_size) := ⟨rfl, rfl, rfl, by decide +kernel, rfl, by decide +kernel, by decide +kernel⟩
abbrev s_put_least : Stmt := topS 49
theorem sc_put_least : FnScope ["head", "n", "amount"] ["head", "n", "amount"] (defScope s_put_least) := ⟨rfl, rfl, rfl, by decide +kernel, rfl, by decide +kernel, by decide +kernel⟩
abbrev s_made : Stmt := topS 50
theorem sc_made : FnScope ["points", "rays", "turn", "classes", "size", "head", "n", "amount", "step", "rise", "at", "places", "rows", "best", "found"] ["points", "rays"] (defScope s_made) := ⟨rfl, rfl, rfl, by decide +kernel, rfl, by decide +kernel, by decide +kernel⟩
abbrev s_raw_lesser : Stmt := topS 53
theorem sc_raw_lesser : FnScope ["form", "other"] ["form", "other"] (defScope s_raw_lesser) := ⟨rfl, rfl, rfl, by decide +kernel, rfl, by decide +kernel, by decide +kernel⟩
abbrev s_check_many : Stmt := topS 54
theorem sc_check_many : FnScope ["forms", "one"] ["forms"] (defScope s_check_many) := ⟨rfl, rfl, rfl, by decide +kernel, rfl, by decide +kernel, by decide +kernel⟩
abbrev s_lesser_all : Stmt := topS 55
theorem sc_lesser_all : FnScope ["forms", "found", "one"] ["forms"] (defScope s_lesser_all) := ⟨rfl, rfl, rfl, by decide +kernel, rfl, by decide +kernel, by decide +kernel⟩
abbrev s__law_hand : Stmt := topS 57
theorem sc__law_hand : FnScope ["script", "cells", "cell"] ["script"] (defScope s__law_hand) := ⟨rfl, rfl, rfl, by decide +kernel, rfl, by decide +kernel, by decide +kernel⟩
abbrev s__law_draw : Stmt := topS 58
theorem sc__law_draw : FnScope ["hand", "many", "cell", "digit", "number"] ["hand", "many"] (defScope s__law_draw) := ⟨rfl, rfl, rfl, by decide +kernel, rfl, by decide +kernel, by decide +kernel⟩
abbrev s__law_is : Stmt := topS 59
theorem sc__law_is : FnScope ["got", "due", "one", "other"] ["got", "due"] (defScope s__law_is) := ⟨rfl, rfl, rfl, by decide +kernel, rfl, by decide +kernel, by decide +kernel⟩
abbrev s__law_amount : Stmt := topS 60
theorem sc__law_amount : FnScope ["hand", "most"] ["hand", "most"] (defScope s__law_amount) := ⟨rfl, rfl, rfl, by decide +kernel, rfl, by decide +kernel, by decide +kernel⟩
abbrev s__law_table : Stmt := topS 61
theorem sc__law_table : FnScope ["hand", "head", "rounds", "most", "first", "turn_made", "found", "amount", "rise"] ["hand", "head", "rounds", "most"] (defScope s__law_table) := ⟨rfl, rfl, rfl, by decide +kernel, rfl, by decide +kernel, by decide +kernel⟩
abbrev s__law_at : Stmt := topS 62
theorem sc__law_at : FnScope ["table", "n", "head", "turn", "times", "amount", "rise"] ["table", "n"] (defScope s__law_at) := ⟨rfl, rfl, rfl, by decide +kernel, rfl, by decide +kernel, by decide +kernel⟩
abbrev s__law_goes : Stmt := topS 63
theorem sc__law_goes : FnScope ["table", "n", "size", "one", "other", "third"] ["table", "n", "size"] (defScope s__law_goes) := ⟨rfl, rfl, rfl, by decide +kernel, rfl, by decide +kernel, by decide +kernel⟩
abbrev s__law_round : Stmt := topS 64
theorem sc__law_round : FnScope ["table", "begin", "many", "size", "n"] ["table"] (defScope s__law_round) := ⟨rfl, rfl, rfl, by decide +kernel, rfl, by decide +kernel, by decide +kernel⟩
abbrev s__law_least : Stmt := topS 65
theorem sc__law_least : FnScope ["table", "size", "begin", "found", "n", "amount", "rise"] ["table"] (defScope s__law_least) := ⟨rfl, rfl, rfl, by decide +kernel, rfl, by decide +kernel, by decide +kernel⟩
abbrev s__law_told_v03 : Stmt := topS 66
theorem sc__law_told_v03 : FnScope ["number", "one", "other", "told"] ["number", "one", "other"] (defScope s__law_told_v03) := ⟨rfl, rfl, rfl, by decide +kernel, rfl, by decide +kernel, by decide +kernel⟩
abbrev s__law_on : Stmt := topS 67
theorem sc__law_on : FnScope ["row", "many", "turn", "at", "one", "other"] ["row", "many"] (defScope s__law_on) := ⟨rfl, rfl, rfl, by decide +kernel, rfl, by decide +kernel, by decide +kernel⟩
abbrev s__law_row : Stmt := topS 68
theorem sc__law_row : FnScope ["hand", "table", "size", "row", "turn_made", "n"] ["hand"] (defScope s__law_row) := ⟨rfl, rfl, rfl, by decide +kernel, rfl, by decide +kernel, by decide +kernel⟩
abbrev s__law_alone : Stmt := topS 69
theorem sc__law_alone : FnScope ["n", "cost", "found"] ["n", "cost"] (defScope s__law_alone) := ⟨rfl, rfl, rfl, by decide +kernel, rfl, by decide +kernel, by decide +kernel⟩
abbrev s_law_v03 : Stmt := topS 70
theorem sc_law_v03 : FnScope ["script", "hand", "row", "many", "table", "found", "n", "whole", "size", "long", "ones", "due", "wrong", "one"] ["script"] (defScope s_law_v03) := ⟨rfl, rfl, rfl, by decide +kernel, rfl, by decide +kernel, by decide +kernel⟩
theorem sci_TooMany : FnScope ["self", "most"] ["self", "most"] (defScope (clsDef (topS 14))) := ⟨rfl, rfl, rfl, by decide +kernel, rfl, by decide +kernel, by decide +kernel⟩
theorem hbi_TooMany {P : Program} {w : World} {K : PySem.W.Frag} {mg : Str → Option Value} {base : Heap} (fI : Addr) (A : Around) (outer : List PySem.Env) (s : Shared) (H : Hp) (E : XK) (cdv : Value) : PSs (cxOf (L2.CX P w) P w K mg base ["self", "most"] "TooMany.__init__" (defScope (clsDef (topS 14))) fI cdv A outer s H E) (defBody (clsDef (topS 14))) (tOst K "most" (tVar 0) (tVar 1)) := pss_one (ps_ost (pv 0) (pv 1))
structure Facts (K : PySem.W.Frag) (mg : Str → Option Value) : Prop where
  D_is_integer : DefG K mg "is_integer" s_is_integer ["thing"]
  D_is_within : DefG K mg "is_within" s_is_within ["thing", "low", "high"]
  D_is_number : DefG K mg "is_number" s_is_number ["thing"]
  D_is_sized : DefG K mg "is_sized" s_is_sized ["thing", "low", "high"]
  D_common_part : DefG K mg "common_part" s_common_part ["one", "other"]
  D_common_round : DefG K mg "common_round" s_common_round ["one", "other"]
  D_is_amount : DefG K mg "is_amount" s_is_amount ["thing"]
  D_is_place : DefG K mg "is_place" s_is_place ["thing"]
  D_is_table : DefG K mg "is_table" s_is_table ["thing"]
  D_check_table : DefG K mg "check_table" s_check_table ["table"]
  D_check_length : DefG K mg "check_length" s_check_length ["n"]
  D_check_number : DefG K mg "check_number" s_check_number ["number"]
  D_raw_value : DefG K mg "raw_value" s_raw_value ["table", "n"]
  D_value : DefG K mg "value" s_value ["table", "n"]
  D_row_of : DefG K mg "row_of" s_row_of ["table", "n", "many"]
  D_is_round : DefG K mg "is_round" s_is_round ["places", "many"]
  D_least_round : DefG K mg "least_round" s_least_round ["places"]
  D_raw_least : DefG K mg "raw_least" s_raw_least ["head", "places"]
  D_is_form : DefG K mg "is_form" s_is_form ["thing"]
  D_are_amounts : DefG K mg "are_amounts" s_are_amounts ["thing"]
  D_form_by : DefG K mg "form_by" s_form_by ["row", "many"]
  D_never : DefG K mg "never" s_never []
  D_raw_alone : DefG K mg "raw_alone" s_raw_alone ["n", "cost"]
  D_alone : DefG K mg "alone" s_alone ["n", "cost"]
  D_points_of : DefG K mg "points_of" s_points_of ["form"]
  D_rays_of : DefG K mg "rays_of" s_rays_of ["form"]
  D_round_of : DefG K mg "round_of" s_round_of ["rays"]
  D_classes_of : DefG K mg "classes_of" s_classes_of ["rays", "turn"]
  D_last_turn : DefG K mg "last_turn" s_last_turn ["rows", "best"]
  D_by_rate : DefG K mg "by_rate" s_by_rate ["row"]
  D_head_size : DefG K mg "head_size" s_head_size ["points", "classes"]
  D_put_least : DefG K mg "put_least" s_put_least ["head", "n", "amount"]
  D_made : DefG K mg "made" s_made ["points", "rays"]
  D_raw_lesser : DefG K mg "raw_lesser" s_raw_lesser ["form", "other"]
  D_check_many : DefG K mg "check_many" s_check_many ["forms"]
  D_lesser_all : DefG K mg "lesser_all" s_lesser_all ["forms"]
  D__law_hand : DefG K mg "_law_hand" s__law_hand ["script"]
  D__law_draw : DefG K mg "_law_draw" s__law_draw ["hand", "many"]
  D__law_is : DefG K mg "_law_is" s__law_is ["got", "due"]
  D__law_amount : DefG K mg "_law_amount" s__law_amount ["hand", "most"]
  D__law_table : DefG K mg "_law_table" s__law_table ["hand", "head", "rounds", "most"]
  D__law_at : DefG K mg "_law_at" s__law_at ["table", "n"]
  D__law_goes : DefG K mg "_law_goes" s__law_goes ["table", "n", "size"]
  D__law_round : DefG K mg "_law_round" s__law_round ["table"]
  D__law_least : DefG K mg "_law_least" s__law_least ["table"]
  D__law_told_v03 : DefG K mg "_law_told" s__law_told_v03 ["number", "one", "other"]
  D__law_on : DefG K mg "_law_on" s__law_on ["row", "many"]
  D__law_row : DefG K mg "_law_row" s__law_row ["hand"]
  D__law_alone : DefG K mg "_law_alone" s__law_alone ["n", "cost"]
  D_law_v03 : DefG K mg "law" s_law_v03 ["script"]
  z_int : mg "int" = none
  z_isinstance : mg "isinstance" = none
  z_bool : mg "bool" = none
  z_tuple : mg "tuple" = none
  z_len : mg "len" = none
  z_all : mg "all" = none
  z_range : mg "range" = none
  z_list : mg "list" = none
  z_min : mg "min" = none
  z_zip : mg "zip" = none
  z_enumerate : mg "enumerate" = none
  z_max : mg "max" = none
  z_abs : mg "abs" = none
  z_str : mg "str" = none
  c_MOST_HEAD : ∃ t, mg "MOST_HEAD" = some (.int 1000 t)
  c_MOST_ROUND : ∃ t, mg "MOST_ROUND" = some (.int 120 t)
  c_MOST_SHORT : ∃ t, mg "MOST_SHORT" = some (.int 10000000000000000000000000000000000000000 t)
  c_MOST_ROW : ∃ t, mg "MOST_ROW" = some (.int 2000 t)
  c_NEVER : ∃ a, mg "NEVER" = some (.ref a) ∧ ∀ H T, RepV K H T (.tup [(.tup []), (.tup [(.tup [.non, (.int 0)])])]) (.ref a)
  c_MOST_SHIFT : ∃ t, mg "MOST_SHIFT" = some (.int 300 t)
  c_MOST_WORK : ∃ t, mg "MOST_WORK" = some (.int 9000 t)
  c_MOST_FORMS : ∃ t, mg "MOST_FORMS" = some (.int 8 t)
  x_NoTable : XC K mg 29
  x_NoLength : XC K mg 9
  x_NoNumber : XC K mg 14
  x_NoRow : XC K mg 23
  x_NoForms : XC K mg 8
  xa_TooMany : XA K mg 41 "most" "TooMany.__init__" (clsDef (topS 14))
  xt : XT K mg XL
section
variable {P : Program} {w : World} {K : PySem.W.Frag} {mg : Str → Option Value} {base : Heap}
theorem ok_is_integer (Φ : Facts K mg) : FnG P w K mg base 1 "is_integer" ["thing"] 1 F_is_integer := fn_g Φ.D_is_integer sc_is_integer rfl fun f cdv A outer s H E hr tk po => by
  unfold S_is_integer
  exact (gs_one (gs_ret (ge_and (ge_callB cIsi pl_isi (by rfl) Φ.z_isinstance bb_isinstance (ga_cons (ge_var 0) (ga_cons (ge_ty (t := .int) (by rfl) Φ.z_int bb_int) ga_nil))) (ge_one (ge_not (ge_callB cIsi pl_isi (by rfl) Φ.z_isinstance bb_isinstance (ga_cons (ge_var 0) (ga_cons (ge_ty (t := .bl) (by rfl) Φ.z_bool bb_bool) ga_nil))))))))
theorem ok_is_within (Φ : Facts K mg) : FnG P w K mg base 2 "is_within" ["thing", "low", "high"] 3 F_is_within := fn_g Φ.D_is_within sc_is_within rfl fun f cdv A outer s H E hr tk po => by
  unfold S_is_within
  exact (gs_one (gs_ret (ge_and (ge_fn ((ok_is_integer Φ).mono (by decide)) hr tk (by rfl) (ga_cons (ge_var 0) ga_nil) (al1 al0)) (ge_one (ge_chain op_le (p2_cmp _) op_le (p2_cmp _) (ge_var 1) (ge_var 0) (ge_var 2) (by rfl))))))
theorem ok_is_number (Φ : Facts K mg) : FnG P w K mg base 2 "is_number" ["thing"] 1 F_is_number := fn_g Φ.D_is_number sc_is_number rfl fun f cdv A outer s H E hr tk po => by
  unfold S_is_number
  exact (gs_one (gs_ret (ge_and (ge_fn ((ok_is_integer Φ).mono (by decide)) hr tk (by rfl) (ga_cons (ge_var 0) ga_nil) (al1 al0)) (ge_one (ge_cmp op_ge (p2_cmp _) (ge_var 0) ge_int (by rfl))))))
theorem ok_is_sized (Φ : Facts K mg) : FnG P w K mg base 1 "is_sized" ["thing", "low", "high"] 3 F_is_sized := fn_g Φ.D_is_sized sc_is_sized rfl fun f cdv A outer s H E hr tk po => by
  unfold S_is_sized
  exact (gs_one (gs_ret (ge_and (ge_callB cIsi pl_isi (by rfl) Φ.z_isinstance bb_isinstance (ga_cons (ge_var 0) (ga_cons (ge_ty (t := .tup) (by rfl) Φ.z_tuple bb_tuple) ga_nil))) (ge_one (ge_chain op_le (p2_cmp _) op_le (p2_cmp _) (ge_var 1) (ge_callB cLen pl_len (by rfl) Φ.z_len bb_len (ga_cons (ge_var 0) ga_nil)) (ge_var 2) (by rfl))))))
theorem ok_common_part (Φ : Facts K mg) : FnG P w K mg base 1 "common_part" ["one", "other"] 2 F_common_part := fn_g Φ.D_common_part sc_common_part rfl fun f cdv A outer s H E hr tk po => by
  unfold S_common_part
  exact (gs_cons (gs_while po (gt_cmp op_gt (p2_cmp _) (ge_var 1) ge_int (by rfl)) (gs_tidy [] (gs_one (gs_par (i := 0) (j := 1) rfl sc_common_part.nd rfl rfl (by decide) rfl rfl (ge_var 1) (ge_op op_mod p2_mod (ge_var 0) (ge_var 1)) rfl))))
  (gs_one (gs_ret (ge_var 0))))
theorem ok_common_round (Φ : Facts K mg) : FnG P w K mg base 2 "common_round" ["one", "other"] 2 F_common_round := fn_g Φ.D_common_round sc_common_round rfl fun f cdv A outer s H E hr tk po => by
  unfold S_common_round
  exact (gs_one (gs_ret (ge_op op_fdivW p2_div (ge_op opMul (p2_mul false) (ge_var 0) (ge_var 1)) (ge_fn ((ok_common_part Φ).mono (by decide)) hr tk (by rfl) (ga_cons (ge_var 0) (ga_cons (ge_var 1) ga_nil)) (al1 (al1 al0))))))
theorem ok_is_amount (Φ : Facts K mg) : FnG P w K mg base 3 "is_amount" ["thing"] 1 F_is_amount := fn_g Φ.D_is_amount sc_is_amount rfl fun f cdv A outer s H E hr tk po => by
  unfold S_is_amount
  exact (gs_one (gs_ret (ge_or (ge_cmp op_isN p2_isN (ge_var 0) ge_non (by rfl)) (ge_one (ge_fn ((ok_is_number Φ).mono (by decide)) hr tk (by rfl) (ga_cons (ge_var 0) ga_nil) (al1 al0))))))
theorem ok_is_place (Φ : Facts K mg) : FnG P w K mg base 4 "is_place" ["thing"] 1 F_is_place := fn_g Φ.D_is_place sc_is_place rfl fun f cdv A outer s H E hr tk po => by
  unfold S_is_place
  exact (gs_cons (gs_if (gw_or (gt_not (gt_val (ge_fn ((ok_is_sized Φ).mono (by decide)) hr tk (by rfl) (ga_cons (ge_var 0) (ga_cons ge_int (ga_cons ge_int ga_nil))) (al1 (al1 (al1 al0)))))) (gw_or (gt_not (gt_val (ge_fn ((ok_is_amount Φ).mono (by decide)) hr tk (by rfl) (ga_cons (ge_ix ix_seq p2_ix (ge_var 0) ge_int (fun _ _ => rfl)) ga_nil) (al1 al0)))) (gw_or1 (gt_not (gt_val (ge_fn ((ok_is_number Φ).mono (by decide)) hr tk (by rfl) (ga_cons (ge_ix ix_seq p2_ix (ge_var 0) ge_int (fun _ _ => rfl)) ga_nil) (al1 al0))))))).pt (gs_one (gs_ret ge_bl)) gs_nil)
  (gs_one (gs_ret (ge_or (ge_cmp op_notN p2_notN (ge_ix ix_seq p2_ix (ge_var 0) ge_int (fun _ _ => rfl)) ge_non (by rfl)) (ge_one (ge_cmp (op_eqD hr.units) p2_eq (ge_ix ix_seq p2_ix (ge_var 0) ge_int (fun _ _ => rfl)) ge_int (by rfl)))))))
theorem ok_is_table (Φ : Facts K mg) : FnG P w K mg base 5 "is_table" ["thing"] 1 F_is_table := fn_g Φ.D_is_table sc_is_table rfl fun f cdv A outer s H E hr tk po => by
  unfold S_is_table
  exact (gs_cons (gs_if (gw_or (gt_not (gt_val (ge_fn ((ok_is_sized Φ).mono (by decide)) hr tk (by rfl) (ga_cons (ge_var 0) (ga_cons ge_int (ga_cons ge_int ga_nil))) (al1 (al1 (al1 al0)))))) (gw_or (gt_not (gt_val (ge_fn ((ok_is_sized Φ).mono (by decide)) hr tk (by rfl) (ga_cons (ge_ix ix_seq p2_ix (ge_var 0) ge_int (fun _ _ => rfl)) (ga_cons ge_int (ga_cons (ge_gi (by rfl) Φ.c_MOST_HEAD) ga_nil))) (al1 (al1 (al1 al0)))))) (gw_or1 (gt_not (gt_val (ge_fn ((ok_is_sized Φ).mono (by decide)) hr tk (by rfl) (ga_cons (ge_ix ix_seq p2_ix (ge_var 0) ge_int (fun _ _ => rfl)) (ga_cons ge_int (ga_cons (ge_gi (by rfl) Φ.c_MOST_ROUND) ga_nil))) (al1 (al1 (al1 al0))))))))).pt (gs_one (gs_ret ge_bl)) gs_nil)
  (gs_one (gs_ret (ge_and (ge_callB (cr_all rfl) pl_all (by rfl) Φ.z_all bb_all (ga_cons (ge_lc (m := false) (own := [("one", 1)]) rfl sc_is_table.nd (gi_seq (ge_ix ix_seq p2_ix (ge_var 0) ge_int (fun _ _ => rfl))) (blkOk_by (by rfl)) (fun s H C cl fp => (go_name (i := 1) (by decide) sc_is_table.nd rfl (by first | exact .inl rfl | exact .inr rfl))) (fun s H C cl fp => gts_nil) (fun s H C cl fp => (ge_fn ((ok_is_amount Φ).mono (by decide)) hr takes0 (by rfl) (ga_cons (ge_var 1) ga_nil) (al1 al0)))) ga_nil)) (ge_one (ge_callB (cr_all rfl) pl_all (by rfl) Φ.z_all bb_all (ga_cons (ge_lc (m := false) (own := [("one", 1)]) rfl sc_is_table.nd (gi_seq (ge_ix ix_seq p2_ix (ge_var 0) ge_int (fun _ _ => rfl))) (blkOk_by (by rfl)) (fun s H C cl fp => (go_name (i := 1) (by decide) sc_is_table.nd rfl (by first | exact .inl rfl | exact .inr rfl))) (fun s H C cl fp => gts_nil) (fun s H C cl fp => (ge_fn ((ok_is_place Φ).mono (by decide)) hr takes0 (by rfl) (ga_cons (ge_var 1) ga_nil) (al1 al0)))) ga_nil)))))))
theorem ok_check_table (Φ : Facts K mg) : FnG P w K mg base 6 "check_table" ["table"] 1 F_check_table := fn_g Φ.D_check_table sc_check_table rfl fun f cdv A outer s H E hr tk po => by
  unfold S_check_table
  exact (gs_one (gs_if (gt_not (gt_val (ge_fn ((ok_is_table Φ).mono (by decide)) hr tk (by rfl) (ga_cons (ge_var 0) ga_nil) (al1 al0)))) (gs_one (gs_raise 29 Φ.x_NoTable (by rfl) rfl tk (by rfl))) gs_nil))
theorem ok_check_length (Φ : Facts K mg) : FnG P w K mg base 3 "check_length" ["n"] 1 F_check_length := fn_g Φ.D_check_length sc_check_length rfl fun f cdv A outer s H E hr tk po => by
  unfold S_check_length
  exact (gs_one (gs_if (gt_not (gt_val (ge_fn ((ok_is_number Φ).mono (by decide)) hr tk (by rfl) (ga_cons (ge_var 0) ga_nil) (al1 al0)))) (gs_one (gs_raise 9 Φ.x_NoLength (by rfl) rfl tk (by rfl))) gs_nil))
theorem ok_check_number (Φ : Facts K mg) : FnG P w K mg base 3 "check_number" ["number"] 1 F_check_number := fn_g Φ.D_check_number sc_check_number rfl fun f cdv A outer s H E hr tk po => by
  unfold S_check_number
  exact (gs_one (gs_if (gw_or (gt_not (gt_val (ge_fn ((ok_is_number Φ).mono (by decide)) hr tk (by rfl) (ga_cons (ge_var 0) ga_nil) (al1 al0)))) (gw_or1 (gt_cmp op_ge (p2_cmp _) (ge_var 0) (ge_gi (by rfl) Φ.c_MOST_SHORT) (by rfl)))).pt (gs_one (gs_raise 14 Φ.x_NoNumber (by rfl) rfl tk (by rfl))) gs_nil))
theorem ok_raw_value (Φ : Facts K mg) : FnG P w K mg base 1 "raw_value" ["table", "n"] 2 F_raw_value := fn_g Φ.D_raw_value sc_raw_value rfl fun f cdv A outer s H E hr tk po => by
  unfold S_raw_value
  exact (gs_cons (gs_asg (ge_var 0) (GQ.gg (gq_tup (W := W0) (gl1 (gl1 gl0)) (nx1 nxN (nx1 nxN nx0)) rfl (ggs_cons (gq_name (i := 2) sc_raw_value.nd rfl (by first | exact .inl rfl | exact .inr rfl)) (ggs_cons (gq_name (i := 3) sc_raw_value.nd rfl (by first | exact .inl rfl | exact .inr rfl)) ggs_nil))) (nxT (nx1 nxN (nx1 nxN nx0)))))
  (gs_cons (gs_if (gt_cmp op_lt (p2_cmp _) (ge_var 1) (ge_callB cLen pl_len (by rfl) Φ.z_len bb_len (ga_cons (ge_var 2) ga_nil)) (by rfl)) (gs_one (gs_ret (ge_ix ix_seq p2_ix (ge_var 2) (ge_var 1) (fun _ _ => rfl)))) gs_nil)
  (gs_cons (gs_par (i := 4) (j := 5) rfl sc_raw_value.nd rfl rfl (by decide) rfl rfl (ge_op op_fdivW p2_div (ge_op op_sub p2_sub (ge_var 1) (ge_callB cLen pl_len (by rfl) Φ.z_len bb_len (ga_cons (ge_var 2) ga_nil))) (ge_callB cLen pl_len (by rfl) Φ.z_len bb_len (ga_cons (ge_var 3) ga_nil))) (ge_op op_mod p2_mod (ge_op op_sub p2_sub (ge_var 1) (ge_callB cLen pl_len (by rfl) Φ.z_len bb_len (ga_cons (ge_var 2) ga_nil))) (ge_callB cLen pl_len (by rfl) Φ.z_len bb_len (ga_cons (ge_var 3) ga_nil))) rfl)
  (gs_cons (gs_asg (ge_ix ix_seq p2_ix (ge_var 3) (ge_var 5) (fun _ _ => rfl)) (GQ.gg (gq_tup (W := W0) (gl1 (gl1 gl0)) (nx1 nxN (nx1 nxN nx0)) rfl (ggs_cons (gq_name (i := 6) sc_raw_value.nd rfl (by first | exact .inl rfl | exact .inr rfl)) (ggs_cons (gq_name (i := 7) sc_raw_value.nd rfl (by first | exact .inl rfl | exact .inr rfl)) ggs_nil))) (nxT (nx1 nxN (nx1 nxN nx0)))))
  (gs_one (gs_ret (ge_if (gt_cmp op_isN p2_isN (ge_var 6) ge_non (by rfl)) ge_non (ge_op opAdd (p2_add false) (ge_var 6) (ge_op opMul (p2_mul false) (ge_var 4) (ge_var 7))))))))))
theorem ok_value (Φ : Facts K mg) : FnG P w K mg base 7 "value" ["table", "n"] 2 F_value := fn_g Φ.D_value sc_value rfl fun f cdv A outer s H E hr tk po => by
  unfold S_value
  exact (gs_cons (gs_expr (ge_fn ((ok_check_table Φ).mono (by decide)) hr tk (by rfl) (ga_cons (ge_var 0) ga_nil) (al1 al0)))
  (gs_cons (gs_expr (ge_fn ((ok_check_length Φ).mono (by decide)) hr tk (by rfl) (ga_cons (ge_var 1) ga_nil) (al1 al0)))
  (gs_one (gs_ret (ge_fn ((ok_raw_value Φ).mono (by decide)) hr tk (by rfl) (ga_cons (ge_var 0) (ga_cons (ge_var 1) ga_nil)) (al1 (al1 al0)))))))
theorem ok_row_of (Φ : Facts K mg) : FnG P w K mg base 7 "row_of" ["table", "n", "many"] 3 F_row_of := fn_g Φ.D_row_of sc_row_of rfl fun f cdv A outer s H E hr tk po => by
  unfold S_row_of
  exact (gs_cons (gs_expr (ge_fn ((ok_check_table Φ).mono (by decide)) hr tk (by rfl) (ga_cons (ge_var 0) ga_nil) (al1 al0)))
  (gs_cons (gs_expr (ge_fn ((ok_check_length Φ).mono (by decide)) hr tk (by rfl) (ga_cons (ge_var 1) ga_nil) (al1 al0)))
  (gs_cons (gs_if (gt_not (gt_val (ge_fn ((ok_is_within Φ).mono (by decide)) hr tk (by rfl) (ga_cons (ge_var 2) (ga_cons ge_int (ga_cons (ge_gi (by rfl) Φ.c_MOST_ROW) ga_nil))) (al1 (al1 (al1 al0)))))) (gs_one (gs_raise 14 Φ.x_NoNumber (by rfl) rfl tk (by rfl))) gs_nil)
  (gs_one (gs_ret (ge_callT call_tuple_of pl_tuple (by rfl) Φ.z_tuple bb_tuple (ga_cons (ge_lc (m := false) (own := [("at", 3)]) rfl sc_row_of.nd (gi_range1 (by rfl) Φ.z_range (ga_cons (ge_var 2) ga_nil)) (blkOk_by (by rfl)) (fun s H C cl fp => (go_name (i := 3) (by decide) sc_row_of.nd rfl (by first | exact .inl rfl | exact .inr rfl))) (fun s H C cl fp => gts_nil) (fun s H C cl fp => (ge_fn ((ok_raw_value Φ).mono (by decide)) hr takes0 (by rfl) (ga_cons (ge_var 0) (ga_cons (ge_op opAdd (p2_add false) (ge_var 1) (ge_var 3)) ga_nil)) (al1 (al1 al0))))) ga_nil)))))))
theorem ok_is_round (Φ : Facts K mg) : FnG P w K mg base 1 "is_round" ["places", "many"] 2 F_is_round := fn_g Φ.D_is_round sc_is_round rfl fun f cdv A outer s H E hr tk po => by
  unfold S_is_round
  exact (gs_cons (gs_set (i := 2) sc_is_round.nd rfl (by first | exact .inl rfl | exact .inr rfl) (ge_callB cLen pl_len (by rfl) Φ.z_len bb_len (ga_cons (ge_var 0) ga_nil)))
  (gs_cons (gs_for po rfl (gi_range2 (by rfl) Φ.z_range (ga_cons (ge_var 1) (ga_cons (ge_var 2) ga_nil))) (gg_name (i := 3) sc_is_round.nd rfl (by first | exact .inl rfl | exact .inr rfl)) (gs_cons (gs_asg (ge_tup (ga_cons (ge_ix ix_seq p2_ix (ge_var 0) (ge_op op_mod p2_mod (ge_var 3) (ge_var 1)) (fun _ _ => rfl)) (ga_cons (ge_ix ix_seq p2_ix (ge_var 0) (ge_var 3) (fun _ _ => rfl)) ga_nil))) (GQ.gg (gq_tup (W := W0) (gl1 (gl1 gl0)) (nx1 (nxT (nx1 nxN (nx1 nxN nx0))) (nx1 (nxT (nx1 nxN (nx1 nxN nx0))) nx0)) rfl (ggs_cons (gq_tup (W := W0) (gl1 (gl1 gl0)) (nx1 nxN (nx1 nxN nx0)) rfl (ggs_cons (gq_name (i := 4) sc_is_round.nd rfl (by first | exact .inl rfl | exact .inr rfl)) (ggs_cons (gq_name (i := 5) sc_is_round.nd rfl (by first | exact .inl rfl | exact .inr rfl)) ggs_nil))) (ggs_cons (gq_tup (W := W0) (gl1 (gl1 gl0)) (nx1 nxN (nx1 nxN nx0)) rfl (ggs_cons (gq_name (i := 6) sc_is_round.nd rfl (by first | exact .inl rfl | exact .inr rfl)) (ggs_cons (gq_name (i := 7) sc_is_round.nd rfl (by first | exact .inl rfl | exact .inr rfl)) ggs_nil))) ggs_nil))) (nxT (nx1 (nxT (nx1 nxN (nx1 nxN nx0))) (nx1 (nxT (nx1 nxN (nx1 nxN nx0))) nx0)))))
  (gs_cons (gs_if (gw_or (gt_cmp (op_neD hr.units) p2_ne (ge_var 5) (ge_var 7) (by rfl)) (gw_or1 (gt_cmp (op_neD hr.units) p2_ne (ge_cmp op_isN p2_isN (ge_var 4) ge_non (by rfl)) (ge_cmp op_isN p2_isN (ge_var 6) ge_non (by rfl)) (by rfl)))).pt (gs_one (gs_ret ge_bl)) gs_nil)
  (gs_one (gs_if (gw_and (gt_cmp op_notN p2_notN (ge_var 4) ge_non (by rfl)) (gw_and1 (gt_cmp (op_neD hr.units) p2_ne (ge_op opMul (p2_mul false) (ge_op op_sub p2_sub (ge_var 6) (ge_var 4)) (ge_var 2)) (ge_op opMul (p2_mul false) (ge_var 5) (ge_op op_sub p2_sub (ge_var 3) (ge_op op_mod p2_mod (ge_var 3) (ge_var 1)))) (by rfl)))).pt (gs_one (gs_ret ge_bl)) gs_nil)))))
  (gs_one (gs_ret ge_bl))))
theorem ok_least_round (Φ : Facts K mg) : FnG P w K mg base 2 "least_round" ["places"] 1 F_least_round := fn_g Φ.D_least_round sc_least_round rfl fun f cdv A outer s H E hr tk po => by
  unfold S_least_round
  exact (gs_cons (gs_set (i := 1) sc_least_round.nd rfl (by first | exact .inl rfl | exact .inr rfl) (ge_callB cLen pl_len (by rfl) Φ.z_len bb_len (ga_cons (ge_var 0) ga_nil)))
  (gs_cons (gs_for po rfl (gi_range2 (by rfl) Φ.z_range (ga_cons ge_int (ga_cons (ge_op opAdd (p2_add false) (ge_var 1) ge_int) ga_nil))) (gg_name (i := 2) sc_least_round.nd rfl (by first | exact .inl rfl | exact .inr rfl)) (gs_one (gs_if (gw_and (gt_cmp (op_eqD hr.units) p2_eq (ge_op op_mod p2_mod (ge_var 1) (ge_var 2)) ge_int (by rfl)) (gw_and1 (gt_val (ge_fn ((ok_is_round Φ).mono (by decide)) hr tk (by rfl) (ga_cons (ge_var 0) (ga_cons (ge_var 2) ga_nil)) (al1 (al1 al0)))))).pt (gs_one (gs_ret (ge_callT call_tuple_of pl_tuple (by rfl) Φ.z_tuple bb_tuple (ga_cons (ge_lc (m := false) (own := [("amount", 3), ("rise", 4)]) rfl sc_least_round.nd (gi_seq (ge_sl false (ge_var 0) go_none (go_some (ge_var 2)))) (blkOk_by (by rfl)) (fun s H C cl fp => (go_tup (gl1 (gl1 gl0)) (nx1 nxN (nx1 nxN nx0)) rfl (gos_cons (go_name (i := 3) (by decide) sc_least_round.nd rfl (by first | exact .inl rfl | exact .inr rfl)) (gos_cons (go_name (i := 4) (by decide) sc_least_round.nd rfl (by first | exact .inl rfl | exact .inr rfl)) gos_nil)))) (fun s H C cl fp => gts_nil) (fun s H C cl fp => (ge_tup (ga_cons (ge_var 3) (ga_cons (ge_op op_fdivW p2_div (ge_op opMul (p2_mul false) (ge_var 4) (ge_var 2)) (ge_var 1)) ga_nil))))) ga_nil)))) gs_nil)))
  (gs_one (gs_ret (ge_callT call_tuple_of pl_tuple (by rfl) Φ.z_tuple bb_tuple (ga_cons (ge_var 0) ga_nil))))))
theorem ok_raw_least (Φ : Facts K mg) : FnG P w K mg base 3 "raw_least" ["head", "places"] 2 F_raw_least := fn_g Φ.D_raw_least sc_raw_least rfl fun f cdv A outer s H E hr tk po => by
  unfold S_raw_least
  exact (gs_cons (gs_par (i := 1) (j := 0) rfl sc_raw_least.nd rfl rfl (by decide) rfl rfl (ge_callT call_list_of (pl_list false) (by rfl) Φ.z_list bb_list (ga_cons (ge_fn ((ok_least_round Φ).mono (by decide)) hr tk (by rfl) (ga_cons (ge_var 1) ga_nil) (al1 al0)) ga_nil)) (ge_callT call_list_of (pl_list true) (by rfl) Φ.z_list bb_list (ga_cons (ge_var 0) ga_nil)) rfl)
  (gs_cons (gs_while po (gt_cmp op_gt (p2_cmp _) (ge_callB cLen pl_len (by rfl) Φ.z_len bb_len (ga_cons (ge_var 0) ga_nil)) ge_int (by rfl)) (gs_cons (gs_asg (ge_ix ix_seq p2_ix (ge_var 1) (ge_un un_neg p1_neg ge_int) (fun _ _ => rfl)) (GQ.gg (gq_tup (W := W0) (gl1 (gl1 gl0)) (nx1 nxN (nx1 nxN nx0)) rfl (ggs_cons (gq_name (i := 3) sc_raw_least.nd rfl (by first | exact .inl rfl | exact .inr rfl)) (ggs_cons (gq_name (i := 4) sc_raw_least.nd rfl (by first | exact .inl rfl | exact .inr rfl)) ggs_nil))) (nxT (nx1 nxN (nx1 nxN nx0)))))
  (gs_cons (gs_set (i := 2) sc_raw_least.nd rfl (by first | exact .inl rfl | exact .inr rfl) (ge_if (gt_cmp op_isN p2_isN (ge_var 3) ge_non (by rfl)) ge_non (ge_op op_sub p2_sub (ge_var 3) (ge_var 4))))
  (gs_cons (gs_if (gt_cmp (op_neD hr.units) p2_ne (ge_ix ix_seq p2_ix (ge_var 0) (ge_un un_neg p1_neg ge_int) (fun _ _ => rfl)) (ge_var 2) (by rfl)) (gs_one gs_brk) gs_nil)
  (gs_cons (gs_set (i := 1) sc_raw_least.nd rfl (by first | exact .inl rfl | exact .inr rfl) (ge_op opAdd (p2_add false) (ge_lst false (ga_cons (ge_tup (ga_cons (ge_var 2) (ga_cons (ge_var 4) ga_nil))) ga_nil)) (ge_sl false (ge_var 1) go_none (go_some (ge_un un_neg p1_neg ge_int)))))
  (gs_one (gs_expr (ge_bm0 PySem.F.plainAttrs_list PySem.F.slot_list_pop PySem.F.type_list_pop mt_pop pm_pop tyL (ge_var 0)))))))))
  (gs_one (gs_ret (ge_tup (ga_cons (ge_callT call_tuple_of pl_tuple (by rfl) Φ.z_tuple bb_tuple (ga_cons (ge_var 0) ga_nil)) (ga_cons (ge_callT call_tuple_of pl_tuple (by rfl) Φ.z_tuple bb_tuple (ga_cons (ge_var 1) ga_nil)) ga_nil)))))))
theorem ok_is_form (Φ : Facts K mg) : FnG P w K mg base 6 "is_form" ["thing"] 1 F_is_form := fn_g Φ.D_is_form sc_is_form rfl fun f cdv A outer s H E hr tk po => by
  unfold S_is_form
  exact (gs_one (gs_ret (ge_and (ge_fn ((ok_is_table Φ).mono (by decide)) hr tk (by rfl) (ga_cons (ge_var 0) ga_nil) (al1 al0)) (ge_one (ge_cmp (op_eqD hr.units) p2_eq (ge_fn ((ok_raw_least Φ).mono (by decide)) hr tk (by rfl) (ga_cons (ge_ix ix_seq p2_ix (ge_var 0) ge_int (fun _ _ => rfl)) (ga_cons (ge_ix ix_seq p2_ix (ge_var 0) ge_int (fun _ _ => rfl)) ga_nil)) (al1 (al1 al0))) (ge_var 0) (by rfl))))))
theorem ok_are_amounts (Φ : Facts K mg) : FnG P w K mg base 4 "are_amounts" ["thing"] 1 F_are_amounts := fn_g Φ.D_are_amounts sc_are_amounts rfl fun f cdv A outer s H E hr tk po => by
  unfold S_are_amounts
  exact (gs_one (gs_ret (ge_and (ge_fn ((ok_is_sized Φ).mono (by decide)) hr tk (by rfl) (ga_cons (ge_var 0) (ga_cons ge_int (ga_cons (ge_gi (by rfl) Φ.c_MOST_HEAD) ga_nil))) (al1 (al1 (al1 al0)))) (ge_one (ge_callB (cr_all rfl) pl_all (by rfl) Φ.z_all bb_all (ga_cons (ge_lc (m := false) (own := [("one", 1)]) rfl sc_are_amounts.nd (gi_seq (ge_var 0)) (blkOk_by (by rfl)) (fun s H C cl fp => (go_name (i := 1) (by decide) sc_are_amounts.nd rfl (by first | exact .inl rfl | exact .inr rfl))) (fun s H C cl fp => gts_nil) (fun s H C cl fp => (ge_fn ((ok_is_amount Φ).mono (by decide)) hr takes0 (by rfl) (ga_cons (ge_var 1) ga_nil) (al1 al0)))) ga_nil))))))
theorem ok_form_by (Φ : Facts K mg) : FnG P w K mg base 5 "form_by" ["row", "many"] 2 F_form_by := fn_g Φ.D_form_by sc_form_by rfl fun f cdv A outer s H E hr tk po => by
  unfold S_form_by
  exact (gs_cons (gs_if (gt_not (gt_val (ge_fn ((ok_are_amounts Φ).mono (by decide)) hr tk (by rfl) (ga_cons (ge_var 0) ga_nil) (al1 al0)))) (gs_one (gs_raise 23 Φ.x_NoRow (by rfl) rfl tk (by rfl))) gs_nil)
  (gs_cons (gs_if (gt_not (gt_val (ge_fn ((ok_is_within Φ).mono (by decide)) hr tk (by rfl) (ga_cons (ge_var 1) (ga_cons ge_int (ga_cons (ge_callB (cMin rfl) pl_min (by rfl) Φ.z_min bb_min (ga_cons (ge_gi (by rfl) Φ.c_MOST_ROUND) (ga_cons (ge_op op_fdivW p2_div (ge_callB cLen pl_len (by rfl) Φ.z_len bb_len (ga_cons (ge_var 0) ga_nil)) ge_int) ga_nil))) ga_nil))) (al1 (al1 (al1 al0)))))) (gs_one (gs_raise 14 Φ.x_NoNumber (by rfl) rfl tk (by rfl))) gs_nil)
  (gs_cons (gs_set (i := 2) sc_form_by.nd rfl (by first | exact .inl rfl | exact .inr rfl) (ge_lst true ga_nil))
  (gs_cons (gs_for po rfl (gi_zip (by rfl) Φ.z_zip (ga_cons (ge_sl false (ge_var 0) (go_some (ge_un un_neg p1_neg (ge_var 1))) go_none) (ga_cons (ge_sl false (ge_var 0) (go_some (ge_op opMul (p2_mul false) (ge_un un_neg p1_neg ge_int) (ge_var 1))) (go_some (ge_op op_sub p2_sub (ge_callB cLen pl_len (by rfl) Φ.z_len bb_len (ga_cons (ge_var 0) ga_nil)) (ge_var 1)))) ga_nil))) (GQ.gg (gq_tup (W := W0) (gl1 (gl1 gl0)) (nx1 nxN (nx1 nxN nx0)) rfl (ggs_cons (gq_name (i := 3) sc_form_by.nd rfl (by first | exact .inl rfl | exact .inr rfl)) (ggs_cons (gq_name (i := 4) sc_form_by.nd rfl (by first | exact .inl rfl | exact .inr rfl)) ggs_nil))) (nxT (nx1 nxN (nx1 nxN nx0)))) (gs_tidy [3, 4] (gs_cons (gs_if (gw_or (gt_cmp (op_neD hr.units) p2_ne (ge_cmp op_isN p2_isN (ge_var 3) ge_non (by rfl)) (ge_cmp op_isN p2_isN (ge_var 4) ge_non (by rfl)) (by rfl)) (gw_or1 (gw_and (gt_cmp op_notN p2_notN (ge_var 3) ge_non (by rfl)) (gw_and1 (gt_cmp op_lt (p2_cmp _) (ge_var 3) (ge_var 4) (by rfl)))).pt)).pt (gs_one (gs_raise 23 Φ.x_NoRow (by rfl) rfl tk (by rfl))) gs_nil)
  (gs_one (gs_expr (ge_bm PySem.F.plainAttrs_list PySem.F.slot_list_append PySem.F.type_list_append mt_append pm_app tyL (ge_var 2) (ga_cons (ge_if (gt_cmp op_isN p2_isN (ge_var 3) ge_non (by rfl)) (ge_tup (ga_cons ge_non (ga_cons ge_int ga_nil))) (ge_tup (ga_cons (ge_var 3) (ga_cons (ge_op op_sub p2_sub (ge_var 3) (ge_var 4)) ga_nil)))) ga_nil)))))))
  (gs_one (gs_ret (ge_fn ((ok_raw_least Φ).mono (by decide)) hr tk (by rfl) (ga_cons (ge_sl false (ge_var 0) go_none (go_some (ge_op op_sub p2_sub (ge_callB cLen pl_len (by rfl) Φ.z_len bb_len (ga_cons (ge_var 0) ga_nil)) (ge_var 1)))) (ga_cons (ge_var 2) ga_nil)) (al1 (al1 al0)))))))))
theorem ok_never (Φ : Facts K mg) : FnG P w K mg base 1 "never" [] 0 F_never := fn_g Φ.D_never sc_never rfl fun f cdv A outer s H E hr tk po => by
  unfold S_never
  exact (gs_one (gs_ret (ge_gt (by rfl) Φ.c_NEVER)))
theorem ok_raw_alone (Φ : Facts K mg) : FnG P w K mg base 1 "raw_alone" ["n", "cost"] 2 F_raw_alone := fn_g Φ.D_raw_alone sc_raw_alone rfl fun f cdv A outer s H E hr tk po => by
  unfold S_raw_alone
  exact (gs_one (gs_ret (ge_tup (ga_cons (ge_op opAdd (p2_add false) (ge_op opMulQ (p2_mulQ false) (ge_tup (ga_cons ge_non ga_nil)) (ge_var 0)) (ge_tup (ga_cons (ge_var 1) ga_nil))) (ga_cons (ge_tup (ga_cons (ge_tup (ga_cons ge_non (ga_cons ge_int ga_nil))) ga_nil)) ga_nil)))))
theorem ok_alone (Φ : Facts K mg) : FnG P w K mg base 4 "alone" ["n", "cost"] 2 F_alone := fn_g Φ.D_alone sc_alone rfl fun f cdv A outer s H E hr tk po => by
  unfold S_alone
  exact (gs_cons (gs_if (gt_not (gt_val (ge_fn ((ok_is_within Φ).mono (by decide)) hr tk (by rfl) (ga_cons (ge_var 0) (ga_cons ge_int (ga_cons (ge_gi (by rfl) Φ.c_MOST_SHIFT) ga_nil))) (al1 (al1 (al1 al0)))))) (gs_one (gs_raise 9 Φ.x_NoLength (by rfl) rfl tk (by rfl))) gs_nil)
  (gs_cons (gs_expr (ge_fn ((ok_check_number Φ).mono (by decide)) hr tk (by rfl) (ga_cons (ge_var 1) ga_nil) (al1 al0)))
  (gs_one (gs_ret (ge_fn ((ok_raw_alone Φ).mono (by decide)) hr tk (by rfl) (ga_cons (ge_var 0) (ga_cons (ge_var 1) ga_nil)) (al1 (al1 al0)))))))
theorem ok_points_of (Φ : Facts K mg) : FnG P w K mg base 1 "points_of" ["form"] 1 F_points_of := fn_g Φ.D_points_of sc_points_of rfl fun f cdv A outer s H E hr tk po => by
  unfold S_points_of
  exact (gs_one (gs_ret (ge_lc (m := false) (own := [("n", 1), ("amount", 2)]) rfl sc_points_of.nd (gi_en (by rfl) Φ.z_enumerate (ga_cons (ge_ix ix_seq p2_ix (ge_var 0) ge_int (fun _ _ => rfl)) ga_nil)) (blkOk_by (by rfl)) (fun s H C cl fp => (go_tup (gl1 (gl1 gl0)) (nx1 nxN (nx1 nxN nx0)) rfl (gos_cons (go_name (i := 1) (by decide) sc_points_of.nd rfl (by first | exact .inl rfl | exact .inr rfl)) (gos_cons (go_name (i := 2) (by decide) sc_points_of.nd rfl (by first | exact .inl rfl | exact .inr rfl)) gos_nil)))) (fun s H C cl fp => (gts_one (gt_cmp op_notN p2_notN (ge_var 2) ge_non (by rfl)))) (fun s H C cl fp => (ge_tup (ga_cons (ge_var 1) (ga_cons (ge_var 2) ga_nil)))))))
theorem ok_rays_of (Φ : Facts K mg) : FnG P w K mg base 1 "rays_of" ["form"] 1 F_rays_of := fn_g Φ.D_rays_of sc_rays_of rfl fun f cdv A outer s H E hr tk po => by
  unfold S_rays_of
  exact (gs_cons (gs_asg (ge_tup (ga_cons (ge_callB cLen pl_len (by rfl) Φ.z_len bb_len (ga_cons (ge_ix ix_seq p2_ix (ge_var 0) ge_int (fun _ _ => rfl)) ga_nil)) (ga_cons (ge_callB cLen pl_len (by rfl) Φ.z_len bb_len (ga_cons (ge_ix ix_seq p2_ix (ge_var 0) ge_int (fun _ _ => rfl)) ga_nil)) ga_nil))) (GQ.gg (gq_tup (W := W0) (gl1 (gl1 gl0)) (nx1 nxN (nx1 nxN nx0)) rfl (ggs_cons (gq_name (i := 1) sc_rays_of.nd rfl (by first | exact .inl rfl | exact .inr rfl)) (ggs_cons (gq_name (i := 2) sc_rays_of.nd rfl (by first | exact .inl rfl | exact .inr rfl)) ggs_nil))) (nxT (nx1 nxN (nx1 nxN nx0)))))
  (gs_one (gs_ret (ge_lc (m := false) (own := [("r", 3), ("place", 4)]) rfl sc_rays_of.nd (gi_en (by rfl) Φ.z_enumerate (ga_cons (ge_ix ix_seq p2_ix (ge_var 0) ge_int (fun _ _ => rfl)) ga_nil)) (blkOk_by (by rfl)) (fun s H C cl fp => (go_tup (gl1 (gl1 gl0)) (nx1 nxN (nx1 nxN nx0)) rfl (gos_cons (go_name (i := 3) (by decide) sc_rays_of.nd rfl (by first | exact .inl rfl | exact .inr rfl)) (gos_cons (go_name (i := 4) (by decide) sc_rays_of.nd rfl (by first | exact .inl rfl | exact .inr rfl)) gos_nil)))) (fun s H C cl fp => (gts_one (gt_cmp op_notN p2_notN (ge_ix ix_seq p2_ix (ge_var 4) ge_int (fun _ _ => rfl)) ge_non (by rfl)))) (fun s H C cl fp => (ge_tup (ga_cons (ge_op opAdd (p2_add false) (ge_var 2) (ge_var 3)) (ga_cons (ge_ix ix_seq p2_ix (ge_var 4) ge_int (fun _ _ => rfl)) (ga_cons (ge_var 1) (ga_cons (ge_ix ix_seq p2_ix (ge_var 4) ge_int (fun _ _ => rfl)) ga_nil))))))))))
theorem ok_round_of (Φ : Facts K mg) : FnG P w K mg base 3 "round_of" ["rays"] 1 F_round_of := fn_g Φ.D_round_of sc_round_of rfl fun f cdv A outer s H E hr tk po => by
  unfold S_round_of
  exact (gs_cons (gs_set (i := 1) sc_round_of.nd rfl (by first | exact .inl rfl | exact .inr rfl) ge_int)
  (gs_cons (gs_for po rfl (gi_seq (ge_var 0)) (GQ.gg (gq_tup (W := W0) (gl1 (gl1 (gl1 (gl1 gl0)))) (nx1 nxN (nx1 nxN (nx1 nxN (nx1 nxN nx0)))) rfl (ggs_cons (gq_name (i := 2) sc_round_of.nd rfl (by first | exact .inl rfl | exact .inr rfl)) (ggs_cons (gq_name (i := 3) sc_round_of.nd rfl (by first | exact .inl rfl | exact .inr rfl)) (ggs_cons (gq_name (i := 4) sc_round_of.nd rfl (by first | exact .inl rfl | exact .inr rfl)) (ggs_cons (gq_name (i := 5) sc_round_of.nd rfl (by first | exact .inl rfl | exact .inr rfl)) ggs_nil))))) (nxT (nx1 nxN (nx1 nxN (nx1 nxN (nx1 nxN nx0)))))) (gs_tidy [2, 3, 4, 5] (gs_cons (gs_set (i := 1) sc_round_of.nd rfl (by first | exact .inl rfl | exact .inr rfl) (ge_fn ((ok_common_round Φ).mono (by decide)) hr tk (by rfl) (ga_cons (ge_var 1) (ga_cons (ge_var 4) ga_nil)) (al1 (al1 al0))))
  (gs_one (gs_if (gt_cmp op_gt (p2_cmp _) (ge_var 1) (ge_gi (by rfl) Φ.c_MOST_ROUND) (by rfl)) (gs_one (gs_raiseA 41 (k := 0) Φ.xa_TooMany sci_TooMany (fun fI A outer s H E cdv => hbi_TooMany fI A outer s H E cdv) (by rfl) rfl tk (hr.mono (by decide)) (by rfl) (ge_gi (by rfl) Φ.c_MOST_ROUND))) gs_nil)))))
  (gs_one (gs_ret (ge_var 1)))))
theorem ok_classes_of (Φ : Facts K mg) : FnG P w K mg base 1 "classes_of" ["rays", "turn"] 2 F_classes_of := fn_g Φ.D_classes_of sc_classes_of rfl fun f cdv A outer s H E hr tk po => by
  unfold S_classes_of
  exact (gs_cons (gs_setLc (m := false) (i := 2) (own := [("rest", 11)]) rfl sc_classes_of.nd rfl rfl (sw_true rfl rfl rfl rfl) (gi_range1 (by rfl) Φ.z_range (ga_cons (ge_var 1) ga_nil)) (blkOk_by (by rfl)) (fun s H C cl fp => (go_name (i := 11) (by decide) sc_classes_of.nd rfl (by first | exact .inl rfl | exact .inr rfl))) (fun s H C cl fp => gts_nil) (fun s H C cl fp => (ge_lst true ga_nil)))
  (gs_cons (gs_for po rfl (gi_seq (ge_var 0)) (GQ.gg (gq_tup (W := W0) (gl1 (gl1 (gl1 (gl1 gl0)))) (nx1 nxN (nx1 nxN (nx1 nxN (nx1 nxN nx0)))) rfl (ggs_cons (gq_name (i := 3) sc_classes_of.nd rfl (by first | exact .inl rfl | exact .inr rfl)) (ggs_cons (gq_name (i := 4) sc_classes_of.nd rfl (by first | exact .inl rfl | exact .inr rfl)) (ggs_cons (gq_name (i := 5) sc_classes_of.nd rfl (by first | exact .inl rfl | exact .inr rfl)) (ggs_cons (gq_name (i := 6) sc_classes_of.nd rfl (by first | exact .inl rfl | exact .inr rfl)) ggs_nil))))) (nxT (nx1 nxN (nx1 nxN (nx1 nxN (nx1 nxN nx0)))))) (gs_tidy [3, 4, 5, 6, 7, 8, 9, 10] (gs_cons (gs_set (i := 7) sc_classes_of.nd rfl (by first | exact .inl rfl | exact .inr rfl) (ge_op op_fdivW p2_div (ge_op opMul (p2_mul false) (ge_var 6) (ge_var 1)) (ge_var 5)))
  (gs_one (gs_for po rfl (gi_range1 (by rfl) Φ.z_range (ga_cons (ge_op op_fdivW p2_div (ge_var 1) (ge_var 5)) ga_nil)) (gg_name (i := 8) sc_classes_of.nd rfl (by first | exact .inl rfl | exact .inr rfl)) (gs_tidy [8, 9, 10] (gs_cons (gs_par (i := 9) (j := 10) rfl sc_classes_of.nd rfl rfl (by decide) rfl rfl (ge_op opAdd (p2_add false) (ge_var 3) (ge_op opMul (p2_mul false) (ge_var 8) (ge_var 5))) (ge_op opAdd (p2_add false) (ge_var 4) (ge_op opMul (p2_mul false) (ge_var 8) (ge_var 6))) rfl)
  (gs_one (gs_expr (ge_bm PySem.F.plainAttrs_list PySem.F.slot_list_append PySem.F.type_list_append mt_append pm_app tyL (ge_ix ix_seq p2_ix (ge_var 2) (ge_op op_mod p2_mod (ge_var 9) (ge_var 1)) (fun _ _ => rfl)) (ga_cons (ge_tup (ga_cons (ge_op op_fdivW p2_div (ge_var 9) (ge_var 1)) (ga_cons (ge_op op_sub p2_sub (ge_var 10) (ge_op opMul (p2_mul false) (ge_op op_fdivW p2_div (ge_var 9) (ge_var 1)) (ge_var 7))) (ga_cons (ge_var 7) ga_nil)))) ga_nil)))))))))))
  (gs_one (gs_ret (ge_var 2)))))
theorem ok_last_turn (Φ : Facts K mg) : FnG P w K mg base 1 "last_turn" ["rows", "best"] 2 F_last_turn := fn_g Φ.D_last_turn sc_last_turn rfl fun f cdv A outer s H E hr tk po => by
  unfold S_last_turn
  exact (gs_cons (gs_asg (ge_var 1) (GQ.gg (gq_tup (W := W0) (gl1 (gl1 (gl1 gl0))) (nx1 nxN (nx1 nxN (nx1 nxN nx0))) rfl (ggs_cons (gq_name (i := 2) sc_last_turn.nd rfl (by first | exact .inl rfl | exact .inr rfl)) (ggs_cons (gq_name (i := 3) sc_last_turn.nd rfl (by first | exact .inl rfl | exact .inr rfl)) (ggs_cons (gq_name (i := 4) sc_last_turn.nd rfl (by first | exact .inl rfl | exact .inr rfl)) ggs_nil)))) (nxT (nx1 nxN (nx1 nxN (nx1 nxN nx0))))))
  (gs_cons (gs_set (i := 5) sc_last_turn.nd rfl (by first | exact .inl rfl | exact .inr rfl) (ge_var 2))
  (gs_cons (gs_for po rfl (gi_seq (ge_var 0)) (GQ.gg (gq_tup (W := W0) (gl1 (gl1 (gl1 gl0))) (nx1 nxN (nx1 nxN (nx1 nxN nx0))) rfl (ggs_cons (gq_name (i := 6) sc_last_turn.nd rfl (by first | exact .inl rfl | exact .inr rfl)) (ggs_cons (gq_name (i := 7) sc_last_turn.nd rfl (by first | exact .inl rfl | exact .inr rfl)) (ggs_cons (gq_name (i := 8) sc_last_turn.nd rfl (by first | exact .inl rfl | exact .inr rfl)) ggs_nil)))) (nxT (nx1 nxN (nx1 nxN (nx1 nxN nx0))))) (gs_tidy [6, 7, 8] (gs_one (gs_if (gw_and (gt_cmp op_gt (p2_cmp _) (ge_var 8) (ge_var 4) (by rfl)) (gw_and1 (gt_cmp op_lt (p2_cmp _) (ge_var 7) (ge_var 3) (by rfl)))).pt (gs_one (gs_set (i := 5) sc_last_turn.nd rfl (by first | exact .inl rfl | exact .inr rfl) (ge_callB (cMax rfl) pl_max (by rfl) Φ.z_max bb_max (ga_cons (ge_var 5) (ga_cons (ge_un un_neg p1_neg (ge_op op_fdivW p2_div (ge_op op_sub p2_sub (ge_var 7) (ge_var 3)) (ge_op op_sub p2_sub (ge_var 8) (ge_var 4)))) ga_nil))))) gs_nil))))
  (gs_one (gs_ret (ge_var 5))))))
theorem ok_by_rate (Φ : Facts K mg) : FnG P w K mg base 1 "by_rate" ["row"] 1 F_by_rate := fn_g Φ.D_by_rate sc_by_rate rfl fun f cdv A outer s H E hr tk po => by
  unfold S_by_rate
  exact (gs_one (gs_ret (ge_tup (ga_cons (ge_ix ix_seq p2_ix (ge_var 0) ge_int (fun _ _ => rfl)) (ga_cons (ge_ix ix_seq p2_ix (ge_var 0) ge_int (fun _ _ => rfl)) (ga_cons (ge_ix ix_seq p2_ix (ge_var 0) ge_int (fun _ _ => rfl)) ga_nil))))))
theorem ok_head_size (Φ : Facts K mg) : FnG P w K mg base 3 "head_size" ["points", "classes"] 2 F_head_size := fn_g Φ.D_head_size sc_head_size rfl fun f cdv A outer s H E hr tk po => by
  unfold S_head_size
  exact (gs_cons (gs_par (i := 2) (j := 3) rfl sc_head_size.nd rfl rfl (by decide) rfl rfl (ge_callB (cMax rfl) pl_max (by rfl) Φ.z_max bb_max (ga_cons (ge_op opAdd (p2_add false) (ge_lst false (ga_cons ge_int ga_nil)) (ge_lc (m := false) (own := [("n", 6), ("amount", 7)]) rfl sc_head_size.nd (gi_seq (ge_var 0)) (blkOk_by (by rfl)) (fun s H C cl fp => (go_tup (gl1 (gl1 gl0)) (nx1 nxN (nx1 nxN nx0)) rfl (gos_cons (go_name (i := 6) (by decide) sc_head_size.nd rfl (by first | exact .inl rfl | exact .inr rfl)) (gos_cons (go_name (i := 7) (by decide) sc_head_size.nd rfl (by first | exact .inl rfl | exact .inr rfl)) gos_nil)))) (fun s H C cl fp => gts_nil) (fun s H C cl fp => (ge_op opAdd (p2_add false) (ge_var 6) ge_int)))) ga_nil)) (ge_callB cLen pl_len (by rfl) Φ.z_len bb_len (ga_cons (ge_var 1) ga_nil)) rfl)
  (gs_cons (gs_for po rfl (gi_en (by rfl) Φ.z_enumerate (ga_cons (ge_var 1) ga_nil)) (GQ.gg (gq_tup (W := W0) (gl1 (gl1 gl0)) (nx1 nxN (nx1 nxN nx0)) rfl (ggs_cons (gq_name (i := 4) sc_head_size.nd rfl (by first | exact .inl rfl | exact .inr rfl)) (ggs_cons (gq_name (i := 5) sc_head_size.nd rfl (by first | exact .inl rfl | exact .inr rfl)) ggs_nil))) (nxT (nx1 nxN (nx1 nxN nx0)))) (gs_tidy [4, 5] (gs_one (gs_if (gt_cmp op_gt (p2_cmp _) (ge_callB cLen pl_len (by rfl) Φ.z_len bb_len (ga_cons (ge_var 5) ga_nil)) ge_int (by rfl)) (gs_one (gs_set (i := 2) sc_head_size.nd rfl (by first | exact .inl rfl | exact .inr rfl) (ge_callB (cMax rfl) pl_max (by rfl) Φ.z_max bb_max (ga_cons (ge_var 2) (ga_cons (ge_op opAdd (p2_add false) (ge_var 4) (ge_op opMul (p2_mul false) (ge_var 3) (ge_fn ((ok_last_turn Φ).mono (by decide)) hr tk (by rfl) (ga_cons (ge_var 5) (ga_cons (ge_minK (ok_by_rate Φ) rfl (hr.mono (by decide)) (by rfl) Φ.z_min bb_min (by rfl) (ge_var 5)) ga_nil)) (al1 (al1 al0))))) ga_nil))))) gs_nil))))
  (gs_cons (gs_if (gt_cmp op_gt (p2_cmp _) (ge_var 2) (ge_gi (by rfl) Φ.c_MOST_WORK) (by rfl)) (gs_one (gs_raiseA 41 (k := 0) Φ.xa_TooMany sci_TooMany (fun fI A outer s H E cdv => hbi_TooMany fI A outer s H E cdv) (by rfl) rfl tk (hr.mono (by decide)) (by rfl) (ge_gi (by rfl) Φ.c_MOST_HEAD))) gs_nil)
  (gs_one (gs_ret (ge_var 2))))))
theorem ok_put_least (Φ : Facts K mg) : FnG P w K mg base 1 "put_least" ["head", "n", "amount"] 3 F_put_least := fn_g Φ.D_put_least sc_put_least rfl fun f cdv A outer s H E hr tk po => by
  unfold S_put_least
  exact (gs_one (gs_if (gw_and (gt_cmp op_lt (p2_cmp _) (ge_var 1) (ge_callB cLen pl_len (by rfl) Φ.z_len bb_len (ga_cons (ge_var 0) ga_nil)) (by rfl)) (gw_and1 (gw_or (gt_cmp op_isN p2_isN (ge_ix ix_seq p2_ix (ge_var 0) (ge_var 1) (fun _ _ => rfl)) ge_non (by rfl)) (gw_or1 (gt_cmp op_lt (p2_cmp _) (ge_var 2) (ge_ix ix_seq p2_ix (ge_var 0) (ge_var 1) (fun _ _ => rfl)) (by rfl)))).pt)).pt (gs_one (gs_asg (ge_var 2) (gg_sub (ge_var 0) (ge_var 1)))) gs_nil))
theorem ok_made (Φ : Facts K mg) : FnG P w K mg base 4 "made" ["points", "rays"] 2 F_made := fn_g Φ.D_made sc_made rfl fun f cdv A outer s H E hr tk po => by
  unfold S_made
  exact (gs_cons (gs_if (gw_and (gt_cmp (op_eqD hr.units) p2_eq (ge_callB cLen pl_len (by rfl) Φ.z_len bb_len (ga_cons (ge_var 1) ga_nil)) ge_int (by rfl)) (gw_and1 (gt_cmp (op_eqD hr.units) p2_eq (ge_callB cLen pl_len (by rfl) Φ.z_len bb_len (ga_cons (ge_var 0) ga_nil)) ge_int (by rfl)))).pt (gs_one (gs_ret (ge_gt (by rfl) Φ.c_NEVER))) gs_nil)
  (gs_cons (gs_set (i := 2) sc_made.nd rfl (by first | exact .inl rfl | exact .inr rfl) (ge_fn ((ok_round_of Φ).mono (by decide)) hr tk (by rfl) (ga_cons (ge_var 1) ga_nil) (al1 al0)))
  (gs_cons (gs_set (i := 3) sc_made.nd rfl (by first | exact .inl rfl | exact .inr rfl) (ge_fn ((ok_classes_of Φ).mono (by decide)) hr tk (by rfl) (ga_cons (ge_var 1) (ga_cons (ge_var 2) ga_nil)) (al1 (al1 al0))))
  (gs_cons (gs_set (i := 4) sc_made.nd rfl (by first | exact .inl rfl | exact .inr rfl) (ge_fn ((ok_head_size Φ).mono (by decide)) hr tk (by rfl) (ga_cons (ge_var 0) (ga_cons (ge_var 3) ga_nil)) (al1 (al1 al0))))
  (gs_cons (gs_set (i := 5) sc_made.nd rfl (by first | exact .inl rfl | exact .inr rfl) (ge_op opMul (p2_mul true) (ge_lst false (ga_cons ge_non ga_nil)) (ge_var 4)))
  (gs_cons (gs_for po rfl (gi_seq (ge_var 0)) (GQ.gg (gq_tup (W := W0) (gl1 (gl1 gl0)) (nx1 nxN (nx1 nxN nx0)) rfl (ggs_cons (gq_name (i := 6) sc_made.nd rfl (by first | exact .inl rfl | exact .inr rfl)) (ggs_cons (gq_name (i := 7) sc_made.nd rfl (by first | exact .inl rfl | exact .inr rfl)) ggs_nil))) (nxT (nx1 nxN (nx1 nxN nx0)))) (gs_tidy [6, 7] (gs_one (gs_expr (ge_fn ((ok_put_least Φ).mono (by decide)) hr tk (by rfl) (ga_cons (ge_var 5) (ga_cons (ge_var 6) (ga_cons (ge_var 7) ga_nil))) (al1 (al1 (al1 al0))))))))
  (gs_cons (gs_for po rfl (gi_seq (ge_var 1)) (GQ.gg (gq_tup (W := W0) (gl1 (gl1 (gl1 (gl1 gl0)))) (nx1 nxN (nx1 nxN (nx1 nxN (nx1 nxN nx0)))) rfl (ggs_cons (gq_name (i := 6) sc_made.nd rfl (by first | exact .inl rfl | exact .inr rfl)) (ggs_cons (gq_name (i := 7) sc_made.nd rfl (by first | exact .inl rfl | exact .inr rfl)) (ggs_cons (gq_name (i := 8) sc_made.nd rfl (by first | exact .inl rfl | exact .inr rfl)) (ggs_cons (gq_name (i := 9) sc_made.nd rfl (by first | exact .inl rfl | exact .inr rfl)) ggs_nil))))) (nxT (nx1 nxN (nx1 nxN (nx1 nxN (nx1 nxN nx0)))))) (gs_tidy [6, 7, 8, 9, 10] (gs_one (gs_for po rfl (gi_range1 (by rfl) Φ.z_range (ga_cons (ge_callB (cMax rfl) pl_max (by rfl) Φ.z_max bb_max (ga_cons ge_int (ga_cons (ge_op op_fdivW p2_div (ge_op op_sub p2_sub (ge_op opAdd (p2_add false) (ge_op op_sub p2_sub (ge_var 4) (ge_var 6)) (ge_var 8)) ge_int) (ge_var 8)) ga_nil))) ga_nil)) (gg_name (i := 10) sc_made.nd rfl (by first | exact .inl rfl | exact .inr rfl)) (gs_tidy [10] (gs_one (gs_expr (ge_fn ((ok_put_least Φ).mono (by decide)) hr tk (by rfl) (ga_cons (ge_var 5) (ga_cons (ge_op opAdd (p2_add false) (ge_var 6) (ge_op opMul (p2_mul false) (ge_var 10) (ge_var 8))) (ga_cons (ge_op opAdd (p2_add false) (ge_var 7) (ge_op opMul (p2_mul false) (ge_var 10) (ge_var 9))) ga_nil))) (al1 (al1 (al1 al0)))))))))))
  (gs_cons (gs_set (i := 11) sc_made.nd rfl (by first | exact .inl rfl | exact .inr rfl) (ge_lst true ga_nil))
  (gs_cons (gs_for po rfl (gi_range2 (by rfl) Φ.z_range (ga_cons (ge_var 4) (ga_cons (ge_op opAdd (p2_add false) (ge_var 4) (ge_var 2)) ga_nil))) (gg_name (i := 6) sc_made.nd rfl (by first | exact .inl rfl | exact .inr rfl)) (gs_tidy [6, 12, 13] (gs_cons (gs_set (i := 12) sc_made.nd rfl (by first | exact .inl rfl | exact .inr rfl) (ge_ix ix_seq p2_ix (ge_var 3) (ge_op op_mod p2_mod (ge_var 6) (ge_var 2)) (fun _ _ => rfl)))
  (gs_cons (gs_set (i := 13) sc_made.nd rfl (by first | exact .inl rfl | exact .inr rfl) (ge_if (gt_cmp op_gt (p2_cmp _) (ge_callB cLen pl_len (by rfl) Φ.z_len bb_len (ga_cons (ge_var 12) ga_nil)) ge_int (by rfl)) (ge_minK (ok_by_rate Φ) rfl (hr.mono (by decide)) (by rfl) Φ.z_min bb_min (by rfl) (ge_var 12)) ge_non))
  (gs_one (gs_expr (ge_bm PySem.F.plainAttrs_list PySem.F.slot_list_append PySem.F.type_list_append mt_append pm_app tyL (ge_var 11) (ga_cons (ge_if (gt_cmp op_isN p2_isN (ge_var 13) ge_non (by rfl)) (ge_tup (ga_cons ge_non (ga_cons ge_int ga_nil))) (ge_tup (ga_cons (ge_op opAdd (p2_add false) (ge_ix ix_seq p2_ix (ge_var 13) ge_int (fun _ _ => rfl)) (ge_op opMul (p2_mul false) (ge_op op_fdivW p2_div (ge_var 6) (ge_var 2)) (ge_ix ix_seq p2_ix (ge_var 13) ge_int (fun _ _ => rfl)))) (ga_cons (ge_ix ix_seq p2_ix (ge_var 13) ge_int (fun _ _ => rfl)) ga_nil)))) ga_nil))))))))
  (gs_cons (gs_set (i := 14) sc_made.nd rfl (by first | exact .inl rfl | exact .inr rfl) (ge_fn ((ok_raw_least Φ).mono (by decide)) hr tk (by rfl) (ga_cons (ge_var 5) (ga_cons (ge_var 11) ga_nil)) (al1 (al1 al0))))
  (gs_cons (gs_if (gt_cmp op_gt (p2_cmp _) (ge_callB cLen pl_len (by rfl) Φ.z_len bb_len (ga_cons (ge_ix ix_seq p2_ix (ge_var 14) ge_int (fun _ _ => rfl)) ga_nil)) (ge_gi (by rfl) Φ.c_MOST_HEAD) (by rfl)) (gs_one (gs_raiseA 41 (k := 0) Φ.xa_TooMany sci_TooMany (fun fI A outer s H E cdv => hbi_TooMany fI A outer s H E cdv) (by rfl) rfl tk (hr.mono (by decide)) (by rfl) (ge_gi (by rfl) Φ.c_MOST_HEAD))) gs_nil)
  (gs_one (gs_ret (ge_var 14))))))))))))))
theorem ok_raw_lesser (Φ : Facts K mg) : FnG P w K mg base 5 "raw_lesser" ["form", "other"] 2 F_raw_lesser := fn_g Φ.D_raw_lesser sc_raw_lesser rfl fun f cdv A outer s H E hr tk po => by
  unfold S_raw_lesser
  exact (gs_one (gs_ret (ge_fn ((ok_made Φ).mono (by decide)) hr tk (by rfl) (ga_cons (ge_op opAdd (p2_add false) (ge_fn ((ok_points_of Φ).mono (by decide)) hr tk (by rfl) (ga_cons (ge_var 0) ga_nil) (al1 al0)) (ge_fn ((ok_points_of Φ).mono (by decide)) hr tk (by rfl) (ga_cons (ge_var 1) ga_nil) (al1 al0))) (ga_cons (ge_op opAdd (p2_add false) (ge_fn ((ok_rays_of Φ).mono (by decide)) hr tk (by rfl) (ga_cons (ge_var 0) ga_nil) (al1 al0)) (ge_fn ((ok_rays_of Φ).mono (by decide)) hr tk (by rfl) (ga_cons (ge_var 1) ga_nil) (al1 al0))) ga_nil)) (al1 (al1 al0)))))
theorem ok_check_many (Φ : Facts K mg) : FnG P w K mg base 7 "check_many" ["forms"] 1 F_check_many := fn_g Φ.D_check_many sc_check_many rfl fun f cdv A outer s H E hr tk po => by
  unfold S_check_many
  exact (gs_one (gs_if (gw_or (gt_not (gt_val (ge_fn ((ok_is_sized Φ).mono (by decide)) hr tk (by rfl) (ga_cons (ge_var 0) (ga_cons ge_int (ga_cons (ge_gi (by rfl) Φ.c_MOST_FORMS) ga_nil))) (al1 (al1 (al1 al0)))))) (gw_or1 (gt_not (gt_val (ge_callB (cr_all rfl) pl_all (by rfl) Φ.z_all bb_all (ga_cons (ge_lc (m := false) (own := [("one", 1)]) rfl sc_check_many.nd (gi_seq (ge_var 0)) (blkOk_by (by rfl)) (fun s H C cl fp => (go_name (i := 1) (by decide) sc_check_many.nd rfl (by first | exact .inl rfl | exact .inr rfl))) (fun s H C cl fp => gts_nil) (fun s H C cl fp => (ge_fn ((ok_is_form Φ).mono (by decide)) hr takes0 (by rfl) (ga_cons (ge_var 1) ga_nil) (al1 al0)))) ga_nil)))))).pt (gs_one (gs_raise 8 Φ.x_NoForms (by rfl) rfl tk (by rfl))) gs_nil))
theorem ok_lesser_all (Φ : Facts K mg) : FnG P w K mg base 8 "lesser_all" ["forms"] 1 F_lesser_all := fn_g Φ.D_lesser_all sc_lesser_all rfl fun f cdv A outer s H E hr tk po => by
  unfold S_lesser_all
  exact (gs_cons (gs_expr (ge_fn ((ok_check_many Φ).mono (by decide)) hr tk (by rfl) (ga_cons (ge_var 0) ga_nil) (al1 al0)))
  (gs_cons (gs_set (i := 1) sc_lesser_all.nd rfl (by first | exact .inl rfl | exact .inr rfl) (ge_ix ix_seq p2_ix (ge_var 0) ge_int (fun _ _ => rfl)))
  (gs_cons (gs_for po rfl (gi_seq (ge_sl false (ge_var 0) (go_some ge_int) go_none)) (gg_name (i := 2) sc_lesser_all.nd rfl (by first | exact .inl rfl | exact .inr rfl)) (gs_tidy [2] (gs_one (gs_set (i := 1) sc_lesser_all.nd rfl (by first | exact .inl rfl | exact .inr rfl) (ge_fn ((ok_raw_lesser Φ).mono (by decide)) hr tk (by rfl) (ga_cons (ge_var 1) (ga_cons (ge_var 2) ga_nil)) (al1 (al1 al0)))))))
  (gs_one (gs_ret (ge_var 1))))))
theorem ok__law_hand (Φ : Facts K mg) : FnG P w K mg base 1 "_law_hand" ["script"] 1 F__law_hand := fn_gM Φ.D__law_hand sc__law_hand rfl fun f cdv A outer s H E hr tk po => by
  unfold S__law_hand
  exact (gs_cons (gs_setLc (m := false) (i := 1) (own := [("cell", 2)]) rfl sc__law_hand.nd rfl rfl (sw_true rfl rfl rfl rfl) (gi_seq (ge_sl false (ge_var 0) go_none (go_some ge_int))) (blkOk_by (by rfl)) (fun s H C cl fp => (go_name (i := 2) (by decide) sc__law_hand.nd rfl (by first | exact .inl rfl | exact .inr rfl))) (fun s H C cl fp => gts_nil) (fun s H C cl fp => (ge_callB call_abs pl_abs (by rfl) Φ.z_abs bb_abs (ga_cons (ge_callT call_int1 pl_int (by rfl) Φ.z_int bb_int (ga_cons (ge_var 2) ga_nil)) ga_nil))))
  (gs_one (gs_ret (ge_lst true (ga_cons (ge_var 1) (ga_cons ge_int (ga_cons ge_int (ga_cons (ge_op opAdd (p2_add false) ge_int (ge_op opMul (p2_mul false) ge_int (ge_callB cLen pl_len (by rfl) Φ.z_len bb_len (ga_cons (ge_var 1) ga_nil)))) (ga_cons ge_int ga_nil)))))))))
theorem ok__law_draw (Φ : Facts K mg) : FnG P w K mg base 1 "_law_draw" ["hand", "many"] 2 F__law_draw := fn_g Φ.D__law_draw sc__law_draw rfl fun f cdv A outer s H E hr tk po => by
  unfold S__law_draw
  exact (gs_cons (gs_if (gw_and (gt_cmp (op_eqD hr.units) p2_eq (ge_ix ix_seq p2_ix (ge_var 0) ge_int (fun _ _ => rfl)) ge_int (by rfl)) (gw_and1 (gt_cmp op_lt (p2_cmp _) (ge_ix ix_seq p2_ix (ge_var 0) ge_int (fun _ _ => rfl)) (ge_callB cLen pl_len (by rfl) Φ.z_len bb_len (ga_cons (ge_ix ix_seq p2_ix (ge_var 0) ge_int (fun _ _ => rfl)) ga_nil)) (by rfl)))).pt (gs_cons (gs_set (i := 2) sc__law_draw.nd rfl (by first | exact .inl rfl | exact .inr rfl) (ge_ix ix_seq p2_ix (ge_ix ix_seq p2_ix (ge_var 0) ge_int (fun _ _ => rfl)) (ge_ix ix_seq p2_ix (ge_var 0) ge_int (fun _ _ => rfl)) (fun _ _ => rfl)))
  (gs_cons (gs_asg (ge_op opAdd (p2_add false) (ge_ix ix_seq p2_ix (ge_var 0) ge_int (fun _ _ => rfl)) ge_int) (gg_sub (ge_var 0) ge_int))
  (gs_cons (gs_asg (ge_op op_mod p2_mod (ge_callT call_int1 pl_int (by rfl) Φ.z_int bb_int (ga_cons (ge_op opAdd (p2_add false) (ge_op opAdd (p2_add false) (ge_op opMul (p2_mul false) (ge_ix ix_seq p2_ix (ge_var 0) ge_int (fun _ _ => rfl)) ge_int) (ge_var 2)) ge_int) ga_nil)) ge_int) (gg_sub (ge_var 0) ge_int))
  (gs_one (gs_if (gt_cmp op_ge (p2_cmp _) (ge_var 2) (ge_op op_pow p2_pow ge_int ge_int) (by rfl)) (gs_one (gs_asg (ge_var 2) (gg_sub (ge_var 0) ge_int))) gs_nil))))) gs_nil)
  (gs_cons (gs_if (gt_cmp op_gt (p2_cmp _) (ge_ix ix_seq p2_ix (ge_var 0) ge_int (fun _ _ => rfl)) ge_int (by rfl)) (gs_cons (gs_set (i := 3) sc__law_draw.nd rfl (by first | exact .inl rfl | exact .inr rfl) (ge_op op_mod p2_mod (ge_callT call_int1 pl_int (by rfl) Φ.z_int bb_int (ga_cons (ge_ix ix_seq p2_ix (ge_var 0) ge_int (fun _ _ => rfl)) ga_nil)) (ge_var 1)))
  (gs_cons (gs_asg (ge_op op_fdivW p2_div (ge_ix ix_seq p2_ix (ge_var 0) ge_int (fun _ _ => rfl)) (ge_var 1)) (gg_sub (ge_var 0) ge_int))
  (gs_one (gs_ret (ge_var 3))))) gs_nil)
  (gs_cons (gs_asg (ge_op opAdd (p2_add false) (ge_ix ix_seq p2_ix (ge_var 0) ge_int (fun _ _ => rfl)) ge_int) (gg_sub (ge_var 0) ge_int))
  (gs_cons (gs_set (i := 4) sc__law_draw.nd rfl (by first | exact .inl rfl | exact .inr rfl) (ge_op op_mod p2_mod (ge_callT call_int1 pl_int (by rfl) Φ.z_int bb_int (ga_cons (ge_op opMul (p2_mul false) (ge_callT call_int1 pl_int (by rfl) Φ.z_int bb_int (ga_cons (ge_op opAdd (p2_add false) (ge_ix ix_seq p2_ix (ge_var 0) ge_int (fun _ _ => rfl)) (ge_op opMul (p2_mul false) ge_int (ge_ix ix_seq p2_ix (ge_var 0) ge_int (fun _ _ => rfl)))) ga_nil)) ge_int) ga_nil)) ge_int))
  (gs_cons (gs_set (i := 4) sc__law_draw.nd rfl (by first | exact .inl rfl | exact .inr rfl) (ge_op op_mod p2_mod (ge_callT call_int1 pl_int (by rfl) Φ.z_int bb_int (ga_cons (ge_op opMul (p2_mul false) (ge_var 4) (ge_op opAdd (p2_add false) (ge_op op_fdivW p2_div (ge_var 4) ge_int) ge_int)) ga_nil)) ge_int))
  (gs_cons (gs_set (i := 4) sc__law_draw.nd rfl (by first | exact .inl rfl | exact .inr rfl) (ge_op op_mod p2_mod (ge_callT call_int1 pl_int (by rfl) Φ.z_int bb_int (ga_cons (ge_op opMul (p2_mul false) (ge_var 4) (ge_op opAdd (p2_add false) (ge_op op_fdivW p2_div (ge_var 4) ge_int) ge_int)) ga_nil)) ge_int))
  (gs_one (gs_ret (ge_op op_mod p2_mod (ge_callT call_int1 pl_int (by rfl) Φ.z_int bb_int (ga_cons (ge_op op_fdivW p2_div (ge_var 4) ge_int) ga_nil)) (ge_var 1))))))))))
theorem ok__law_is (Φ : Facts K mg) : ∀ d : Nat, FnG P w K mg base (0 + d) "_law_is" ["got", "due"] 2 (F__law_is d)
  | 0 => fn_g0 Φ.D__law_is rfl
  | d + 1 => by
    have ih := ok__law_is Φ d
    exact fn_g Φ.D__law_is sc__law_is rfl (fun f cdv A outer s H E hr tk po => (show PSs _ _ (GS K mg _ (S__law_is (F__law_is d))) from by
    unfold S__law_is
    exact (gs_cons (gs_if (gt_val (ge_callB cIsi pl_isi (by rfl) Φ.z_isinstance bb_isinstance (ga_cons (ge_var 1) (ga_cons (ge_tup (ga_cons (ge_ty (t := .tup) (by rfl) Φ.z_tuple bb_tuple) (ga_cons (ge_ty (t := .lst) (by rfl) Φ.z_list bb_list) ga_nil))) ga_nil)))) (gs_cons (gs_if (gt_cmp (op_neD hr.units) p2_ne (ge_callB cIsi pl_isi (by rfl) Φ.z_isinstance bb_isinstance (ga_cons (ge_var 0) (ga_cons (ge_ty (t := .tup) (by rfl) Φ.z_tuple bb_tuple) ga_nil))) (ge_callB cIsi pl_isi (by rfl) Φ.z_isinstance bb_isinstance (ga_cons (ge_var 1) (ga_cons (ge_ty (t := .tup) (by rfl) Φ.z_tuple bb_tuple) ga_nil))) (by rfl)) (gs_one (gs_ret ge_bl)) gs_nil)
  (gs_cons (gs_if (gw_or (gt_cmp (op_neD hr.units) p2_ne (ge_callB cIsi pl_isi (by rfl) Φ.z_isinstance bb_isinstance (ga_cons (ge_var 0) (ga_cons (ge_ty (t := .lst) (by rfl) Φ.z_list bb_list) ga_nil))) (ge_callB cIsi pl_isi (by rfl) Φ.z_isinstance bb_isinstance (ga_cons (ge_var 1) (ga_cons (ge_ty (t := .lst) (by rfl) Φ.z_list bb_list) ga_nil))) (by rfl)) (gw_or1 (gt_cmp (op_neD hr.units) p2_ne (ge_callB cLen pl_len (by rfl) Φ.z_len bb_len (ga_cons (ge_var 0) ga_nil)) (ge_callB cLen pl_len (by rfl) Φ.z_len bb_len (ga_cons (ge_var 1) ga_nil)) (by rfl)))).pt (gs_one (gs_ret ge_bl)) gs_nil)
  (gs_one (gs_ret (ge_callB (cr_all rfl) pl_all (by rfl) Φ.z_all bb_all (ga_cons (ge_lc (m := false) (own := [("one", 2), ("other", 3)]) rfl sc__law_is.nd (gi_zip (by rfl) Φ.z_zip (ga_cons (ge_var 0) (ga_cons (ge_var 1) ga_nil))) (blkOk_by (by rfl)) (fun s H C cl fp => (go_tup (gl1 (gl1 gl0)) (nx1 nxN (nx1 nxN nx0)) rfl (gos_cons (go_name (i := 2) (by decide) sc__law_is.nd rfl (by first | exact .inl rfl | exact .inr rfl)) (gos_cons (go_name (i := 3) (by decide) sc__law_is.nd rfl (by first | exact .inl rfl | exact .inr rfl)) gos_nil)))) (fun s H C cl fp => gts_nil) (fun s H C cl fp => (ge_fn ih hr takes0 (by rfl) (ga_cons (ge_var 2) (ga_cons (ge_var 3) ga_nil)) (al1 (al1 al0))))) ga_nil)))))) gs_nil)
  (gs_cons (gs_if (gw_or (gt_cmp op_isN p2_isN (ge_var 1) ge_non (by rfl)) (gw_or1 (gt_cmp op_isN p2_isN (ge_var 0) ge_non (by rfl)))).pt (gs_one (gs_ret (ge_and (ge_cmp op_isN p2_isN (ge_var 1) ge_non (by rfl)) (ge_one (ge_cmp op_isN p2_isN (ge_var 0) ge_non (by rfl)))))) gs_nil)
  (gs_cons (gs_if (gt_cmp (op_neD hr.units) p2_ne (ge_callB cIsi pl_isi (by rfl) Φ.z_isinstance bb_isinstance (ga_cons (ge_var 0) (ga_cons (ge_ty (t := .bl) (by rfl) Φ.z_bool bb_bool) ga_nil))) (ge_callB cIsi pl_isi (by rfl) Φ.z_isinstance bb_isinstance (ga_cons (ge_var 1) (ga_cons (ge_ty (t := .bl) (by rfl) Φ.z_bool bb_bool) ga_nil))) (by rfl)) (gs_one (gs_ret ge_bl)) gs_nil)
  (gs_one (gs_ret (ge_and (ge_cmp (op_eqD hr.units) p2_eq (ge_callB cIsi pl_isi (by rfl) Φ.z_isinstance bb_isinstance (ga_cons (ge_var 0) (ga_cons (ge_ty (t := .str) (by rfl) Φ.z_str bb_str) ga_nil))) (ge_callB cIsi pl_isi (by rfl) Φ.z_isinstance bb_isinstance (ga_cons (ge_var 1) (ga_cons (ge_ty (t := .str) (by rfl) Φ.z_str bb_str) ga_nil))) (by rfl)) (ge_one (ge_cmp (op_eqD hr.units) p2_eq (ge_var 0) (ge_var 1) (by rfl)))))))))))
theorem ok__law_amount (Φ : Facts K mg) : FnG P w K mg base 2 "_law_amount" ["hand", "most"] 2 F__law_amount := fn_g Φ.D__law_amount sc__law_amount rfl fun f cdv A outer s H E hr tk po => by
  unfold S__law_amount
  exact (gs_cons (gs_if (gt_cmp (op_eqD hr.units) p2_eq (ge_fn ((ok__law_draw Φ).mono (by decide)) hr tk (by rfl) (ga_cons (ge_var 0) (ga_cons ge_int ga_nil)) (al1 (al1 al0))) ge_int (by rfl)) (gs_one (gs_ret ge_non)) gs_nil)
  (gs_one (gs_ret (ge_fn ((ok__law_draw Φ).mono (by decide)) hr tk (by rfl) (ga_cons (ge_var 0) (ga_cons (ge_var 1) ga_nil)) (al1 (al1 al0))))))
theorem ok__law_table (Φ : Facts K mg) : FnG P w K mg base 3 "_law_table" ["hand", "head", "rounds", "most"] 4 F__law_table := fn_g Φ.D__law_table sc__law_table rfl fun f cdv A outer s H E hr tk po => by
  unfold S__law_table
  exact (gs_cons (gs_set (i := 4) sc__law_table.nd rfl (by first | exact .inl rfl | exact .inr rfl) (ge_lst true ga_nil))
  (gs_cons (gs_for po rfl (gi_range1 (by rfl) Φ.z_range (ga_cons (ge_fn ((ok__law_draw Φ).mono (by decide)) hr tk (by rfl) (ga_cons (ge_var 0) (ga_cons (ge_op opAdd (p2_add false) (ge_var 1) ge_int) ga_nil)) (al1 (al1 al0))) ga_nil)) (gg_name (i := 5) sc__law_table.nd rfl (by first | exact .inl rfl | exact .inr rfl)) (gs_one (gs_expr (ge_bm PySem.F.plainAttrs_list PySem.F.slot_list_append PySem.F.type_list_append mt_append pm_app tyL (ge_var 4) (ga_cons (ge_fn ((ok__law_amount Φ).mono (by decide)) hr tk (by rfl) (ga_cons (ge_var 0) (ga_cons (ge_var 3) ga_nil)) (al1 (al1 al0))) ga_nil)))))
  (gs_cons (gs_set (i := 6) sc__law_table.nd rfl (by first | exact .inl rfl | exact .inr rfl) (ge_lst true ga_nil))
  (gs_cons (gs_for po rfl (gi_range1 (by rfl) Φ.z_range (ga_cons (ge_op opAdd (p2_add false) ge_int (ge_fn ((ok__law_draw Φ).mono (by decide)) hr tk (by rfl) (ga_cons (ge_var 0) (ga_cons (ge_var 2) ga_nil)) (al1 (al1 al0)))) ga_nil)) (gg_name (i := 5) sc__law_table.nd rfl (by first | exact .inl rfl | exact .inr rfl)) (gs_cons (gs_set (i := 7) sc__law_table.nd rfl (by first | exact .inl rfl | exact .inr rfl) (ge_fn ((ok__law_amount Φ).mono (by decide)) hr tk (by rfl) (ga_cons (ge_var 0) (ga_cons (ge_var 3) ga_nil)) (al1 (al1 al0))))
  (gs_cons (gs_set (i := 8) sc__law_table.nd rfl (by first | exact .inl rfl | exact .inr rfl) ge_int)
  (gs_cons (gs_if (gt_cmp op_notN p2_notN (ge_var 7) ge_non (by rfl)) (gs_one (gs_set (i := 8) sc__law_table.nd rfl (by first | exact .inl rfl | exact .inr rfl) (ge_fn ((ok__law_draw Φ).mono (by decide)) hr tk (by rfl) (ga_cons (ge_var 0) (ga_cons ge_int ga_nil)) (al1 (al1 al0))))) gs_nil)
  (gs_one (gs_expr (ge_bm PySem.F.plainAttrs_list PySem.F.slot_list_append PySem.F.type_list_append mt_append pm_app tyL (ge_var 6) (ga_cons (ge_tup (ga_cons (ge_var 7) (ga_cons (ge_var 8) ga_nil))) ga_nil))))))))
  (gs_one (gs_ret (ge_tup (ga_cons (ge_callT call_tuple_of pl_tuple (by rfl) Φ.z_tuple bb_tuple (ga_cons (ge_var 4) ga_nil)) (ga_cons (ge_callT call_tuple_of pl_tuple (by rfl) Φ.z_tuple bb_tuple (ga_cons (ge_var 6) ga_nil)) ga_nil)))))))))
theorem ok__law_at (Φ : Facts K mg) : FnG P w K mg base 1 "_law_at" ["table", "n"] 2 F__law_at := fn_g Φ.D__law_at sc__law_at rfl fun f cdv A outer s H E hr tk po => by
  unfold S__law_at
  exact (gs_cons (gs_asg (ge_var 0) (GQ.gg (gq_tup (W := W0) (gl1 (gl1 gl0)) (nx1 nxN (nx1 nxN nx0)) rfl (ggs_cons (gq_name (i := 2) sc__law_at.nd rfl (by first | exact .inl rfl | exact .inr rfl)) (ggs_cons (gq_name (i := 3) sc__law_at.nd rfl (by first | exact .inl rfl | exact .inr rfl)) ggs_nil))) (nxT (nx1 nxN (nx1 nxN nx0)))))
  (gs_cons (gs_if (gt_cmp op_lt (p2_cmp _) (ge_var 1) (ge_callB cLen pl_len (by rfl) Φ.z_len bb_len (ga_cons (ge_var 2) ga_nil)) (by rfl)) (gs_one (gs_ret (ge_ix ix_seq p2_ix (ge_var 2) (ge_var 1) (fun _ _ => rfl)))) gs_nil)
  (gs_cons (gs_set (i := 4) sc__law_at.nd rfl (by first | exact .inl rfl | exact .inr rfl) (ge_op op_fdivW p2_div (ge_op op_sub p2_sub (ge_var 1) (ge_callB cLen pl_len (by rfl) Φ.z_len bb_len (ga_cons (ge_var 2) ga_nil))) (ge_callB cLen pl_len (by rfl) Φ.z_len bb_len (ga_cons (ge_var 3) ga_nil))))
  (gs_cons (gs_asg (ge_ix ix_seq p2_ix (ge_var 3) (ge_op op_sub p2_sub (ge_op op_sub p2_sub (ge_var 1) (ge_callB cLen pl_len (by rfl) Φ.z_len bb_len (ga_cons (ge_var 2) ga_nil))) (ge_op opMul (p2_mul false) (ge_var 4) (ge_callB cLen pl_len (by rfl) Φ.z_len bb_len (ga_cons (ge_var 3) ga_nil)))) (fun _ _ => rfl)) (GQ.gg (gq_tup (W := W0) (gl1 (gl1 gl0)) (nx1 nxN (nx1 nxN nx0)) rfl (ggs_cons (gq_name (i := 5) sc__law_at.nd rfl (by first | exact .inl rfl | exact .inr rfl)) (ggs_cons (gq_name (i := 6) sc__law_at.nd rfl (by first | exact .inl rfl | exact .inr rfl)) ggs_nil))) (nxT (nx1 nxN (nx1 nxN nx0)))))
  (gs_cons (gs_if (gt_cmp op_isN p2_isN (ge_var 5) ge_non (by rfl)) (gs_one (gs_ret ge_non)) gs_nil)
  (gs_one (gs_ret (ge_op opAdd (p2_add false) (ge_var 5) (ge_op opMul (p2_mul false) (ge_var 4) (ge_var 6))))))))))
theorem ok__law_goes (Φ : Facts K mg) : FnG P w K mg base 2 "_law_goes" ["table", "n", "size"] 3 F__law_goes := fn_g Φ.D__law_goes sc__law_goes rfl fun f cdv A outer s H E hr tk po => by
  unfold S__law_goes
  exact (gs_cons (gs_set (i := 3) sc__law_goes.nd rfl (by first | exact .inl rfl | exact .inr rfl) (ge_fn ((ok__law_at Φ).mono (by decide)) hr tk (by rfl) (ga_cons (ge_var 0) (ga_cons (ge_var 1) ga_nil)) (al1 (al1 al0))))
  (gs_cons (gs_set (i := 4) sc__law_goes.nd rfl (by first | exact .inl rfl | exact .inr rfl) (ge_fn ((ok__law_at Φ).mono (by decide)) hr tk (by rfl) (ga_cons (ge_var 0) (ga_cons (ge_op opAdd (p2_add false) (ge_var 1) (ge_var 2)) ga_nil)) (al1 (al1 al0))))
  (gs_cons (gs_set (i := 5) sc__law_goes.nd rfl (by first | exact .inl rfl | exact .inr rfl) (ge_fn ((ok__law_at Φ).mono (by decide)) hr tk (by rfl) (ga_cons (ge_var 0) (ga_cons (ge_op opAdd (p2_add false) (ge_var 1) (ge_op opMul (p2_mul false) ge_int (ge_var 2))) ga_nil)) (al1 (al1 al0))))
  (gs_cons (gs_if (gt_cmp (op_inD (room65 hr)) p2_in ge_non (ge_lst false (ga_cons (ge_var 3) (ga_cons (ge_var 4) (ga_cons (ge_var 5) ga_nil)))) (by rfl)) (gs_one (gs_ret (ge_and (ge_cmp op_isN p2_isN (ge_var 3) ge_non (by rfl)) (ge_and (ge_cmp op_isN p2_isN (ge_var 4) ge_non (by rfl)) (ge_one (ge_cmp op_isN p2_isN (ge_var 5) ge_non (by rfl))))))) gs_nil)
  (gs_one (gs_ret (ge_cmp (op_eqD hr.units) p2_eq (ge_op op_sub p2_sub (ge_var 4) (ge_var 3)) (ge_op op_sub p2_sub (ge_var 5) (ge_var 4)) (by rfl))))))))
theorem ok__law_round (Φ : Facts K mg) : FnG P w K mg base 3 "_law_round" ["table"] 1 F__law_round := fn_g Φ.D__law_round sc__law_round rfl fun f cdv A outer s H E hr tk po => by
  unfold S__law_round
  exact (gs_cons (gs_set (i := 1) sc__law_round.nd rfl (by first | exact .inl rfl | exact .inr rfl) (ge_callB cLen pl_len (by rfl) Φ.z_len bb_len (ga_cons (ge_ix ix_seq p2_ix (ge_var 0) ge_int (fun _ _ => rfl)) ga_nil)))
  (gs_cons (gs_set (i := 2) sc__law_round.nd rfl (by first | exact .inl rfl | exact .inr rfl) (ge_callB cLen pl_len (by rfl) Φ.z_len bb_len (ga_cons (ge_ix ix_seq p2_ix (ge_var 0) ge_int (fun _ _ => rfl)) ga_nil)))
  (gs_cons (gs_for po rfl (gi_range2 (by rfl) Φ.z_range (ga_cons ge_int (ga_cons (ge_op opAdd (p2_add false) (ge_var 2) ge_int) ga_nil))) (gg_name (i := 3) sc__law_round.nd rfl (by first | exact .inl rfl | exact .inr rfl)) (gs_tidy [3] (gs_one (gs_if (gt_cmp (op_eqD hr.units) p2_eq (ge_callB cLen pl_len (by rfl) Φ.z_len bb_len (ga_cons (ge_lc (m := false) (own := [("n", 4)]) rfl sc__law_round.nd (gi_range2 (by rfl) Φ.z_range (ga_cons (ge_var 1) (ga_cons (ge_op opAdd (p2_add false) (ge_var 1) (ge_op opMul (p2_mul false) ge_int (ge_var 2))) ga_nil))) (blkOk_by (by rfl)) (fun s H C cl fp => (go_name (i := 4) (by decide) sc__law_round.nd rfl (by first | exact .inl rfl | exact .inr rfl))) (fun s H C cl fp => (gts_one (gt_not (gt_val (ge_fn ((ok__law_goes Φ).mono (by decide)) hr takes0 (by rfl) (ga_cons (ge_var 0) (ga_cons (ge_var 4) (ga_cons (ge_var 3) ga_nil))) (al1 (al1 (al1 al0)))))))) (fun s H C cl fp => (ge_var 4))) ga_nil)) ge_int (by rfl)) (gs_one (gs_ret (ge_var 3))) gs_nil))))
  (gs_one (gs_ret (ge_var 2))))))
theorem ok__law_least (Φ : Facts K mg) : FnG P w K mg base 4 "_law_least" ["table"] 1 F__law_least := fn_g Φ.D__law_least sc__law_least rfl fun f cdv A outer s H E hr tk po => by
  unfold S__law_least
  exact (gs_cons (gs_set (i := 1) sc__law_least.nd rfl (by first | exact .inl rfl | exact .inr rfl) (ge_fn ((ok__law_round Φ).mono (by decide)) hr tk (by rfl) (ga_cons (ge_var 0) ga_nil) (al1 al0)))
  (gs_cons (gs_set (i := 2) sc__law_least.nd rfl (by first | exact .inl rfl | exact .inr rfl) (ge_callB cLen pl_len (by rfl) Φ.z_len bb_len (ga_cons (ge_ix ix_seq p2_ix (ge_var 0) ge_int (fun _ _ => rfl)) ga_nil)))
  (gs_cons (gs_while po (gw_and (gt_cmp op_gt (p2_cmp _) (ge_var 2) ge_int (by rfl)) (gw_and1 (gt_val (ge_fn ((ok__law_goes Φ).mono (by decide)) hr tk (by rfl) (ga_cons (ge_var 0) (ga_cons (ge_op op_sub p2_sub (ge_var 2) ge_int) (ga_cons (ge_var 1) ga_nil))) (al1 (al1 (al1 al0))))))).pt (gs_tidy [] (gs_one (gs_set (i := 2) sc__law_least.nd rfl (by first | exact .inl rfl | exact .inr rfl) (ge_op op_sub p2_sub (ge_var 2) ge_int)))))
  (gs_cons (gs_set (i := 3) sc__law_least.nd rfl (by first | exact .inl rfl | exact .inr rfl) (ge_lst true ga_nil))
  (gs_cons (gs_for po rfl (gi_range2 (by rfl) Φ.z_range (ga_cons (ge_var 2) (ga_cons (ge_op opAdd (p2_add false) (ge_var 2) (ge_var 1)) ga_nil))) (gg_name (i := 4) sc__law_least.nd rfl (by first | exact .inl rfl | exact .inr rfl)) (gs_tidy [4, 5, 6] (gs_cons (gs_set (i := 5) sc__law_least.nd rfl (by first | exact .inl rfl | exact .inr rfl) (ge_fn ((ok__law_at Φ).mono (by decide)) hr tk (by rfl) (ga_cons (ge_var 0) (ga_cons (ge_var 4) ga_nil)) (al1 (al1 al0))))
  (gs_cons (gs_set (i := 6) sc__law_least.nd rfl (by first | exact .inl rfl | exact .inr rfl) ge_int)
  (gs_cons (gs_if (gt_cmp op_notN p2_notN (ge_var 5) ge_non (by rfl)) (gs_one (gs_set (i := 6) sc__law_least.nd rfl (by first | exact .inl rfl | exact .inr rfl) (ge_op op_sub p2_sub (ge_fn ((ok__law_at Φ).mono (by decide)) hr tk (by rfl) (ga_cons (ge_var 0) (ga_cons (ge_op opAdd (p2_add false) (ge_var 4) (ge_var 1)) ga_nil)) (al1 (al1 al0))) (ge_var 5)))) gs_nil)
  (gs_one (gs_expr (ge_bm PySem.F.plainAttrs_list PySem.F.slot_list_append PySem.F.type_list_append mt_append pm_app tyL (ge_var 3) (ga_cons (ge_tup (ga_cons (ge_var 5) (ga_cons (ge_var 6) ga_nil))) ga_nil)))))))))
  (gs_one (gs_ret (ge_tup (ga_cons (ge_callT call_tuple_of pl_tuple (by rfl) Φ.z_tuple bb_tuple (ga_cons (ge_lc (m := false) (own := [("n", 4)]) rfl sc__law_least.nd (gi_range1 (by rfl) Φ.z_range (ga_cons (ge_var 2) ga_nil)) (blkOk_by (by rfl)) (fun s H C cl fp => (go_name (i := 4) (by decide) sc__law_least.nd rfl (by first | exact .inl rfl | exact .inr rfl))) (fun s H C cl fp => gts_nil) (fun s H C cl fp => (ge_fn ((ok__law_at Φ).mono (by decide)) hr takes0 (by rfl) (ga_cons (ge_var 0) (ga_cons (ge_var 4) ga_nil)) (al1 (al1 al0))))) ga_nil)) (ga_cons (ge_callT call_tuple_of pl_tuple (by rfl) Φ.z_tuple bb_tuple (ga_cons (ge_var 3) ga_nil)) ga_nil))))))))))
theorem ok__law_told_v03 (Φ : Facts K mg) : FnG P w K mg base 6 "_law_told" ["number", "one", "other"] 3 F__law_told_v03 := fn_g Φ.D__law_told_v03 sc__law_told_v03 rfl fun f cdv A outer s H E hr tk po => by
  unfold S__law_told_v03
  exact (gs_cons (gs_set (i := 3) sc__law_told_v03.nd rfl (by first | exact .inl rfl | exact .inr rfl) ge_str)
  (gs_cons (gs_try (Φ.xt.sub (by decide)) rfl rfl tk (fun W pn xe tk2 po2 => (gs_cons (gs_if (gt_cmp (op_eqD hr.units) p2_eq (ge_var 0) ge_int (by rfl)) (gs_one (gs_expr (ge_fn ((ok_form_by Φ).mono (by decide)) hr tk2 (by rfl) (ga_cons (ge_var 1) (ga_cons (ge_var 2) ga_nil)) (al1 (al1 al0))))) gs_nil)
  (gs_one (gs_if (gt_cmp (op_eqD hr.units) p2_eq (ge_var 0) ge_int (by rfl)) (gs_one (gs_expr (ge_fn ((ok_alone Φ).mono (by decide)) hr tk2 (by rfl) (ga_cons (ge_var 1) (ga_cons (ge_var 2) ga_nil)) (al1 (al1 al0))))) gs_nil)))) (.cons (c := 41) (by rfl) (Φ.xa_TooMany.cls) (by rfl) (by decide) (fun a oe pn => (gs_one (gs_set (i := 3) sc__law_told_v03.nd rfl (by first | exact .inl rfl | exact .inr rfl) ge_str))) (.cons (c := 23) (by rfl) (Φ.x_NoRow.cls) (by rfl) (by decide) (fun a oe pn => (gs_one (gs_set (i := 3) sc__law_told_v03.nd rfl (by first | exact .inl rfl | exact .inr rfl) ge_str))) (.cons (c := 9) (by rfl) (Φ.x_NoLength.cls) (by rfl) (by decide) (fun a oe pn => (gs_one (gs_set (i := 3) sc__law_told_v03.nd rfl (by first | exact .inl rfl | exact .inr rfl) ge_str))) (.cons (c := 14) (by rfl) (Φ.x_NoNumber.cls) (by rfl) (by decide) (fun a oe pn => (gs_one (gs_set (i := 3) sc__law_told_v03.nd rfl (by first | exact .inl rfl | exact .inr rfl) ge_str))) .nil)))) (snx1 (snx_set enx_c) (snx1 (snx_set enx_c) (snx1 (snx_set enx_c) (snx1 (snx_set enx_c) snx0)))))
  (gs_one (gs_ret (ge_var 3)))))
theorem ok__law_on (Φ : Facts K mg) : FnG P w K mg base 1 "_law_on" ["row", "many"] 2 F__law_on := fn_g Φ.D__law_on sc__law_on rfl fun f cdv A outer s H E hr tk po => by
  unfold S__law_on
  exact (gs_cons (gs_set (i := 2) sc__law_on.nd rfl (by first | exact .inl rfl | exact .inr rfl) (ge_lst true ga_nil))
  (gs_cons (gs_for po rfl (gi_range2 (by rfl) Φ.z_range (ga_cons (ge_op op_sub p2_sub (ge_callB cLen pl_len (by rfl) Φ.z_len bb_len (ga_cons (ge_var 0) ga_nil)) (ge_var 1)) (ga_cons (ge_callB cLen pl_len (by rfl) Φ.z_len bb_len (ga_cons (ge_var 0) ga_nil)) ga_nil))) (gg_name (i := 3) sc__law_on.nd rfl (by first | exact .inl rfl | exact .inr rfl)) (gs_tidy [3, 4, 5] (gs_cons (gs_set (i := 4) sc__law_on.nd rfl (by first | exact .inl rfl | exact .inr rfl) (ge_ix ix_seq p2_ix (ge_var 0) (ge_op op_sub p2_sub (ge_var 3) (ge_var 1)) (fun _ _ => rfl)))
  (gs_cons (gs_set (i := 5) sc__law_on.nd rfl (by first | exact .inl rfl | exact .inr rfl) (ge_ix ix_seq p2_ix (ge_var 0) (ge_var 3) (fun _ _ => rfl)))
  (gs_cons (gs_if (gt_cmp (op_neD hr.units) p2_ne (ge_cmp op_isN p2_isN (ge_var 4) ge_non (by rfl)) (ge_cmp op_isN p2_isN (ge_var 5) ge_non (by rfl)) (by rfl)) (gs_one (gs_ret ge_non)) gs_nil)
  (gs_one (gs_if (gt_cmp op_isN p2_isN (ge_var 5) ge_non (by rfl)) (gs_one (gs_expr (ge_bm PySem.F.plainAttrs_list PySem.F.slot_list_append PySem.F.type_list_append mt_append pm_app tyL (ge_var 2) (ga_cons (ge_tup (ga_cons ge_non (ga_cons ge_int ga_nil))) ga_nil)))) (gs_one (gs_if (gt_cmp op_lt (p2_cmp _) (ge_var 5) (ge_var 4) (by rfl)) (gs_one (gs_ret ge_non)) (gs_one (gs_expr (ge_bm PySem.F.plainAttrs_list PySem.F.slot_list_append PySem.F.type_list_append mt_append pm_app tyL (ge_var 2) (ga_cons (ge_tup (ga_cons (ge_var 5) (ga_cons (ge_op op_sub p2_sub (ge_var 5) (ge_var 4)) ga_nil))) ga_nil)))))))))))))
  (gs_one (gs_ret (ge_tup (ga_cons (ge_callT call_tuple_of pl_tuple (by rfl) Φ.z_tuple bb_tuple (ga_cons (ge_sl false (ge_var 0) go_none (go_some (ge_op op_sub p2_sub (ge_callB cLen pl_len (by rfl) Φ.z_len bb_len (ga_cons (ge_var 0) ga_nil)) (ge_var 1)))) ga_nil)) (ga_cons (ge_callT call_tuple_of pl_tuple (by rfl) Φ.z_tuple bb_tuple (ga_cons (ge_var 2) ga_nil)) ga_nil)))))))
theorem ok__law_row (Φ : Facts K mg) : FnG P w K mg base 4 "_law_row" ["hand"] 1 F__law_row := fn_g Φ.D__law_row sc__law_row rfl fun f cdv A outer s H E hr tk po => by
  unfold S__law_row
  exact (gs_cons (gs_if (gt_cmp (op_eqD hr.units) p2_eq (ge_fn ((ok__law_draw Φ).mono (by decide)) hr tk (by rfl) (ga_cons (ge_var 0) (ga_cons ge_int ga_nil)) (al1 (al1 al0))) ge_int (by rfl)) (gs_cons (gs_set (i := 1) sc__law_row.nd rfl (by first | exact .inl rfl | exact .inr rfl) (ge_fn ((ok__law_table Φ).mono (by decide)) hr tk (by rfl) (ga_cons (ge_var 0) (ga_cons ge_int (ga_cons ge_int (ga_cons ge_int ga_nil)))) (al1 (al1 (al1 (al1 al0))))))
  (gs_cons (gs_set (i := 2) sc__law_row.nd rfl (by first | exact .inl rfl | exact .inr rfl) (ge_op opAdd (p2_add false) (ge_op opAdd (p2_add false) (ge_callB cLen pl_len (by rfl) Φ.z_len bb_len (ga_cons (ge_ix ix_seq p2_ix (ge_var 1) ge_int (fun _ _ => rfl)) ga_nil)) (ge_op opMul (p2_mul false) ge_int (ge_callB cLen pl_len (by rfl) Φ.z_len bb_len (ga_cons (ge_ix ix_seq p2_ix (ge_var 1) ge_int (fun _ _ => rfl)) ga_nil)))) (ge_fn ((ok__law_draw Φ).mono (by decide)) hr tk (by rfl) (ga_cons (ge_var 0) (ga_cons ge_int ga_nil)) (al1 (al1 al0)))))
  (gs_one (gs_ret (ge_tup (ga_cons (ge_lc (m := false) (own := [("n", 5)]) rfl sc__law_row.nd (gi_range1 (by rfl) Φ.z_range (ga_cons (ge_callB (cMax rfl) pl_max (by rfl) Φ.z_max bb_max (ga_cons ge_int (ga_cons (ge_var 2) ga_nil))) ga_nil)) (blkOk_by (by rfl)) (fun s H C cl fp => (go_name (i := 5) (by decide) sc__law_row.nd rfl (by first | exact .inl rfl | exact .inr rfl))) (fun s H C cl fp => gts_nil) (fun s H C cl fp => (ge_fn ((ok__law_at Φ).mono (by decide)) hr takes0 (by rfl) (ga_cons (ge_var 1) (ga_cons (ge_var 5) ga_nil)) (al1 (al1 al0))))) (ga_cons (ge_callB cLen pl_len (by rfl) Φ.z_len bb_len (ga_cons (ge_ix ix_seq p2_ix (ge_var 1) ge_int (fun _ _ => rfl)) ga_nil)) ga_nil))))))) gs_nil)
  (gs_cons (gs_set (i := 3) sc__law_row.nd rfl (by first | exact .inl rfl | exact .inr rfl) (ge_lst true ga_nil))
  (gs_cons (gs_for po rfl (gi_range1 (by rfl) Φ.z_range (ga_cons (ge_op opAdd (p2_add false) ge_int (ge_fn ((ok__law_draw Φ).mono (by decide)) hr tk (by rfl) (ga_cons (ge_var 0) (ga_cons ge_int ga_nil)) (al1 (al1 al0)))) ga_nil)) (gg_name (i := 4) sc__law_row.nd rfl (by first | exact .inl rfl | exact .inr rfl)) (gs_tidy [4] (gs_one (gs_expr (ge_bm PySem.F.plainAttrs_list PySem.F.slot_list_append PySem.F.type_list_append mt_append pm_app tyL (ge_var 3) (ga_cons (ge_fn ((ok__law_amount Φ).mono (by decide)) hr tk (by rfl) (ga_cons (ge_var 0) (ga_cons ge_int ga_nil)) (al1 (al1 al0))) ga_nil))))))
  (gs_one (gs_ret (ge_tup (ga_cons (ge_var 3) (ga_cons (ge_op opAdd (p2_add false) ge_int (ge_fn ((ok__law_draw Φ).mono (by decide)) hr tk (by rfl) (ga_cons (ge_var 0) (ga_cons (ge_op op_fdivW p2_div (ge_callB cLen pl_len (by rfl) Φ.z_len bb_len (ga_cons (ge_var 3) ga_nil)) ge_int) ga_nil)) (al1 (al1 al0)))) ga_nil))))))))
theorem ok__law_alone (Φ : Facts K mg) : FnG P w K mg base 9 "_law_alone" ["n", "cost"] 2 F__law_alone := fn_g Φ.D__law_alone sc__law_alone rfl fun f cdv A outer s H E hr tk po => by
  unfold S__law_alone
  exact (gs_cons (gs_set (i := 2) sc__law_alone.nd rfl (by first | exact .inl rfl | exact .inr rfl) (ge_fn ((ok_alone Φ).mono (by decide)) hr tk (by rfl) (ga_cons (ge_var 0) (ga_cons (ge_var 1) ga_nil)) (al1 (al1 al0))))
  (gs_cons (gs_if (gw_or (gt_cmp op_notBl p2_notB (ge_fn ((ok_is_form Φ).mono (by decide)) hr tk (by rfl) (ga_cons (ge_var 2) ga_nil) (al1 al0)) ge_bl (by rfl)) (gw_or1 (gt_not (gt_val (ge_fn ((ok__law_is Φ 8).mono (by decide)) hr tk (by rfl) (ga_cons (ge_var 2) (ga_cons (ge_tup (ga_cons (ge_op opAdd (p2_add false) (ge_op opMulQ (p2_mulQ false) (ge_tup (ga_cons ge_non ga_nil)) (ge_var 0)) (ge_tup (ga_cons (ge_var 1) ga_nil))) (ga_cons (ge_tup (ga_cons (ge_tup (ga_cons ge_non (ga_cons ge_int ga_nil))) ga_nil)) ga_nil))) ga_nil)) (al1 (al1 al0))))))).pt (gs_one (gs_ret ge_bl)) gs_nil)
  (gs_one (gs_ret (ge_and (ge_cmp (op_eqD hr.units) p2_eq (ge_fn ((ok_value Φ).mono (by decide)) hr tk (by rfl) (ga_cons (ge_var 2) (ga_cons (ge_var 0) ga_nil)) (al1 (al1 al0))) (ge_var 1) (by rfl)) (ge_one (ge_cmp op_isN p2_isN (ge_fn ((ok_value Φ).mono (by decide)) hr tk (by rfl) (ga_cons (ge_var 2) (ga_cons (ge_op opAdd (p2_add false) (ge_var 0) ge_int) ga_nil)) (al1 (al1 al0))) ge_non (by rfl))))))))
theorem ok_law_v03 (Φ : Facts K mg) : FnG P w K mg base 10 "law" ["script"] 1 F_law_v03 := fn_g Φ.D_law_v03 sc_law_v03 rfl fun f cdv A outer s H E hr tk po => by
  unfold S_law_v03
  exact (gs_cons (gs_set (i := 1) sc_law_v03.nd rfl (by first | exact .inl rfl | exact .inr rfl) (ge_fn ((ok__law_hand Φ).mono (by decide)) hr tk (by rfl) (ga_cons (ge_var 0) ga_nil) (al1 al0)))
  (gs_cons (gs_asg (ge_fn ((ok__law_row Φ).mono (by decide)) hr tk (by rfl) (ga_cons (ge_var 1) ga_nil) (al1 al0)) (GQ.gg (gq_tup (W := W0) (gl1 (gl1 gl0)) (nx1 nxN (nx1 nxN nx0)) rfl (ggs_cons (gq_name (i := 2) sc_law_v03.nd rfl (by first | exact .inl rfl | exact .inr rfl)) (ggs_cons (gq_name (i := 3) sc_law_v03.nd rfl (by first | exact .inl rfl | exact .inr rfl)) ggs_nil))) (nxT (nx1 nxN (nx1 nxN nx0)))))
  (gs_cons (gs_set (i := 2) sc_law_v03.nd rfl (by first | exact .inl rfl | exact .inr rfl) (ge_callT call_tuple_of pl_tuple (by rfl) Φ.z_tuple bb_tuple (ga_cons (ge_var 2) ga_nil)))
  (gs_cons (gs_set (i := 4) sc_law_v03.nd rfl (by first | exact .inl rfl | exact .inr rfl) (ge_fn ((ok__law_on Φ).mono (by decide)) hr tk (by rfl) (ga_cons (ge_var 2) (ga_cons (ge_var 3) ga_nil)) (al1 (al1 al0))))
  (gs_cons (gs_if (gt_cmp op_isN p2_isN (ge_var 4) ge_non (by rfl)) (gs_one (gs_if (gt_cmp (op_neD hr.units) p2_ne (ge_fn ((ok__law_told_v03 Φ).mono (by decide)) hr tk (by rfl) (ga_cons ge_int (ga_cons (ge_var 2) (ga_cons (ge_var 3) ga_nil))) (al1 (al1 (al1 al0)))) ge_str (by rfl)) (gs_one (gs_ret ge_bl)) gs_nil)) (gs_cons (gs_set (i := 5) sc_law_v03.nd rfl (by first | exact .inl rfl | exact .inr rfl) (ge_fn ((ok_form_by Φ).mono (by decide)) hr tk (by rfl) (ga_cons (ge_var 2) (ga_cons (ge_var 3) ga_nil)) (al1 (al1 al0))))
  (gs_cons (gs_if (gw_or (gt_not (gt_val (ge_fn ((ok__law_is Φ 8).mono (by decide)) hr tk (by rfl) (ga_cons (ge_var 5) (ga_cons (ge_fn ((ok__law_least Φ).mono (by decide)) hr tk (by rfl) (ga_cons (ge_var 4) ga_nil) (al1 al0)) ga_nil)) (al1 (al1 al0))))) (gw_or1 (gt_not (gt_val (ge_fn ((ok__law_is Φ 8).mono (by decide)) hr tk (by rfl) (ga_cons (ge_fn ((ok_row_of Φ).mono (by decide)) hr tk (by rfl) (ga_cons (ge_var 5) (ga_cons ge_int (ga_cons (ge_callB cLen pl_len (by rfl) Φ.z_len bb_len (ga_cons (ge_var 2) ga_nil)) ga_nil))) (al1 (al1 (al1 al0)))) (ga_cons (ge_var 2) ga_nil)) (al1 (al1 al0))))))).pt (gs_one (gs_ret ge_bl)) gs_nil)
  (gs_one (gs_for po rfl (gi_range2 (by rfl) Φ.z_range (ga_cons (ge_callB cLen pl_len (by rfl) Φ.z_len bb_len (ga_cons (ge_var 2) ga_nil)) (ga_cons (ge_op opAdd (p2_add false) (ge_callB cLen pl_len (by rfl) Φ.z_len bb_len (ga_cons (ge_var 2) ga_nil)) (ge_op opMul (p2_mul false) ge_int (ge_var 3))) ga_nil))) (gg_name (i := 6) sc_law_v03.nd rfl (by first | exact .inl rfl | exact .inr rfl)) (gs_tidy [6] (gs_one (gs_if (gt_not (gt_val (ge_fn ((ok__law_is Φ 8).mono (by decide)) hr tk (by rfl) (ga_cons (ge_fn ((ok_value Φ).mono (by decide)) hr tk (by rfl) (ga_cons (ge_var 5) (ga_cons (ge_var 6) ga_nil)) (al1 (al1 al0))) (ga_cons (ge_fn ((ok__law_at Φ).mono (by decide)) hr tk (by rfl) (ga_cons (ge_var 4) (ga_cons (ge_var 6) ga_nil)) (al1 (al1 al0))) ga_nil)) (al1 (al1 al0))))) (gs_one (gs_ret ge_bl)) gs_nil))))))))
  (gs_cons (gs_set (i := 7) sc_law_v03.nd rfl (by first | exact .inl rfl | exact .inr rfl) (ge_fn ((ok__law_least Φ).mono (by decide)) hr tk (by rfl) (ga_cons (ge_fn ((ok__law_table Φ).mono (by decide)) hr tk (by rfl) (ga_cons (ge_var 1) (ga_cons ge_int (ga_cons ge_int (ga_cons ge_int ga_nil)))) (al1 (al1 (al1 (al1 al0))))) ga_nil) (al1 al0)))
  (gs_cons (gs_set (i := 8) sc_law_v03.nd rfl (by first | exact .inl rfl | exact .inr rfl) (ge_callB cLen pl_len (by rfl) Φ.z_len bb_len (ga_cons (ge_ix ix_seq p2_ix (ge_var 7) ge_int (fun _ _ => rfl)) ga_nil)))
  (gs_cons (gs_set (i := 9) sc_law_v03.nd rfl (by first | exact .inl rfl | exact .inr rfl) (ge_fn ((ok_row_of Φ).mono (by decide)) hr tk (by rfl) (ga_cons (ge_var 7) (ga_cons ge_int (ga_cons (ge_op opAdd (p2_add false) (ge_op opAdd (p2_add false) (ge_callB cLen pl_len (by rfl) Φ.z_len bb_len (ga_cons (ge_ix ix_seq p2_ix (ge_var 7) ge_int (fun _ _ => rfl)) ga_nil)) (ge_op opMul (p2_mul false) ge_int (ge_var 8))) (ge_fn ((ok__law_draw Φ).mono (by decide)) hr tk (by rfl) (ga_cons (ge_var 1) (ga_cons ge_int ga_nil)) (al1 (al1 al0)))) ga_nil))) (al1 (al1 (al1 al0)))))
  (gs_cons (gs_if (gt_not (gt_val (ge_fn ((ok__law_is Φ 8).mono (by decide)) hr tk (by rfl) (ga_cons (ge_fn ((ok_form_by Φ).mono (by decide)) hr tk (by rfl) (ga_cons (ge_var 9) (ga_cons (ge_var 8) ga_nil)) (al1 (al1 al0))) (ga_cons (ge_var 7) ga_nil)) (al1 (al1 al0))))) (gs_one (gs_ret ge_bl)) gs_nil)
  (gs_cons (gs_if (gw_or (gt_not (gt_val (ge_fn ((ok__law_is Φ 8).mono (by decide)) hr tk (by rfl) (ga_cons (ge_fn0 ((ok_never Φ).mono (by decide)) hr tk (by rfl)) (ga_cons (ge_tup (ga_cons (ge_tup ga_nil) (ga_cons (ge_tup (ga_cons (ge_tup (ga_cons ge_non (ga_cons ge_int ga_nil))) ga_nil)) ga_nil))) ga_nil)) (al1 (al1 al0))))) (gw_or1 (gt_not (gt_val (ge_fn ((ok__law_alone Φ).mono (by decide)) hr tk (by rfl) (ga_cons (ge_fn ((ok__law_draw Φ).mono (by decide)) hr tk (by rfl) (ga_cons (ge_var 1) (ga_cons ge_int ga_nil)) (al1 (al1 al0))) (ga_cons (ge_fn ((ok__law_draw Φ).mono (by decide)) hr tk (by rfl) (ga_cons (ge_var 1) (ga_cons (ge_op op_pow p2_pow ge_int ge_int) ga_nil)) (al1 (al1 al0))) ga_nil)) (al1 (al1 al0))))))).pt (gs_one (gs_ret ge_bl)) gs_nil)
  (gs_cons (gs_setLc (m := false) (i := 10) (own := [("n", 6)]) rfl sc_law_v03.nd rfl rfl (sw_true rfl rfl rfl rfl) (gi_range1 (by rfl) Φ.z_range (ga_cons (ge_callB (cMin rfl) pl_min (by rfl) Φ.z_min bb_min (ga_cons ge_int (ga_cons (ge_callB cLen pl_len (by rfl) Φ.z_len bb_len (ga_cons (ge_var 2) ga_nil)) ga_nil))) ga_nil)) (blkOk_by (by rfl)) (fun s H C cl fp => (go_name (i := 6) (by decide) sc_law_v03.nd rfl (by first | exact .inl rfl | exact .inr rfl))) (fun s H C cl fp => (gts_one (gt_cmp op_notN p2_notN (ge_ix ix_seq p2_ix (ge_var 2) (ge_var 6) (fun _ _ => rfl)) ge_non (by rfl)))) (fun s H C cl fp => (ge_fn ((ok_alone Φ).mono (by decide)) hr takes0 (by rfl) (ga_cons (ge_var 6) (ga_cons (ge_ix ix_seq p2_ix (ge_var 2) (ge_var 6) (fun _ _ => rfl)) ga_nil)) (al1 (al1 al0)))))
  (gs_cons (gs_if (gt_cmp op_gt (p2_cmp _) (ge_callB cLen pl_len (by rfl) Φ.z_len bb_len (ga_cons (ge_var 10) ga_nil)) ge_int (by rfl)) (gs_cons (gs_set (i := 11) sc_law_v03.nd rfl (by first | exact .inl rfl | exact .inr rfl) (ge_fn ((ok__law_least Φ).mono (by decide)) hr tk (by rfl) (ga_cons (ge_tup (ga_cons (ge_sl false (ge_var 2) go_none (go_some ge_int)) (ga_cons (ge_tup (ga_cons (ge_tup (ga_cons ge_non (ga_cons ge_int ga_nil))) ga_nil)) ga_nil))) ga_nil) (al1 al0)))
  (gs_one (gs_if (gt_not (gt_val (ge_fn ((ok__law_is Φ 8).mono (by decide)) hr tk (by rfl) (ga_cons (ge_fn ((ok_lesser_all Φ).mono (by decide)) hr tk (by rfl) (ga_cons (ge_callT call_tuple_of pl_tuple (by rfl) Φ.z_tuple bb_tuple (ga_cons (ge_var 10) ga_nil)) ga_nil) (al1 al0)) (ga_cons (ge_var 11) ga_nil)) (al1 (al1 al0))))) (gs_one (gs_ret ge_bl)) gs_nil))) gs_nil)
  (gs_cons (gs_for po rfl (gi_seq (ge_lst false (ga_cons ge_non (ga_cons (ge_callT call_list_of (pl_list false) (by rfl) Φ.z_list bb_list (ga_cons (ge_var 2) ga_nil)) (ga_cons (ge_sl false (ge_var 2) go_none (go_some ge_int)) (ga_cons (ge_op opMulQ (p2_mulQ false) (ge_tup (ga_cons ge_non ga_nil)) ge_int) (ga_cons (ge_op opAdd (p2_add false) (ge_var 2) (ge_tup (ga_cons (ge_op op_sub p2_sub ge_int ge_int) ga_nil))) (ga_cons (ge_op opAdd (p2_add false) (ge_var 2) (ge_tup (ga_cons ge_bl ga_nil))) (ga_cons (ge_op opAdd (p2_add false) (ge_var 2) (ge_tup (ga_cons ge_str ga_nil))) (ga_cons (ge_tup ga_nil) ga_nil)))))))))) (gg_name (i := 12) sc_law_v03.nd rfl (by first | exact .inl rfl | exact .inr rfl)) (gs_tidy [12] (gs_one (gs_if (gw_or (gt_cmp (op_neD hr.units) p2_ne (ge_fn ((ok__law_told_v03 Φ).mono (by decide)) hr tk (by rfl) (ga_cons ge_int (ga_cons (ge_var 12) (ga_cons ge_int ga_nil))) (al1 (al1 (al1 al0)))) ge_str (by rfl)) (gw_or1 (gt_cmp (op_neD hr.units) p2_ne (ge_fn ((ok__law_told_v03 Φ).mono (by decide)) hr tk (by rfl) (ga_cons ge_int (ga_cons (ge_var 12) (ga_cons ge_non ga_nil))) (al1 (al1 (al1 al0)))) ge_str (by rfl)))).pt (gs_one (gs_ret ge_bl)) gs_nil))))
  (gs_cons (gs_for po rfl (gi_seq (ge_lst false (ga_cons ge_int (ga_cons (ge_op opAdd (p2_add false) (ge_op op_fdivW p2_div (ge_callB cLen pl_len (by rfl) Φ.z_len bb_len (ga_cons (ge_var 2) ga_nil)) ge_int) ge_int) (ga_cons ge_int (ga_cons ge_bl (ga_cons ge_non ga_nil))))))) (gg_name (i := 12) sc_law_v03.nd rfl (by first | exact .inl rfl | exact .inr rfl)) (gs_tidy [12] (gs_one (gs_if (gt_cmp (op_neD hr.units) p2_ne (ge_fn ((ok__law_told_v03 Φ).mono (by decide)) hr tk (by rfl) (ga_cons ge_int (ga_cons (ge_op opMulQ (p2_mulQ false) (ge_tup (ga_cons ge_int ga_nil)) (ge_callB cLen pl_len (by rfl) Φ.z_len bb_len (ga_cons (ge_var 2) ga_nil))) (ga_cons (ge_var 12) ga_nil))) (al1 (al1 (al1 al0)))) ge_str (by rfl)) (gs_one (gs_ret ge_bl)) gs_nil))))
  (gs_cons (gs_for po rfl (gi_seq (ge_lst false (ga_cons ge_int (ga_cons (ge_op op_sub p2_sub ge_int ge_int) (ga_cons ge_bl (ga_cons ge_non ga_nil)))))) (gg_name (i := 12) sc_law_v03.nd rfl (by first | exact .inl rfl | exact .inr rfl)) (gs_tidy [12] (gs_one (gs_if (gt_cmp (op_neD hr.units) p2_ne (ge_fn ((ok__law_told_v03 Φ).mono (by decide)) hr tk (by rfl) (ga_cons ge_int (ga_cons (ge_var 12) (ga_cons ge_non ga_nil))) (al1 (al1 (al1 al0)))) ge_str (by rfl)) (gs_one (gs_ret ge_bl)) gs_nil))))
  (gs_one (gs_ret (ge_cmp (op_eqD hr.units) p2_eq (ge_callB cLen pl_len (by rfl) Φ.z_len bb_len (ga_cons (ge_lc (m := false) (own := [("one", 13)]) rfl sc_law_v03.nd (gi_seq (ge_lst false (ga_cons (ge_op op_sub p2_sub ge_int ge_int) (ga_cons ge_bl (ga_cons ge_non (ga_cons ge_str ga_nil)))))) (blkOk_by (by rfl)) (fun s H C cl fp => (go_name (i := 13) (by decide) sc_law_v03.nd rfl (by first | exact .inl rfl | exact .inr rfl))) (fun s H C cl fp => (gts_one (gt_cmp (op_neD hr.units) p2_ne (ge_fn ((ok__law_told_v03 Φ).mono (by decide)) hr takes0 (by rfl) (ga_cons ge_int (ga_cons ge_int (ga_cons (ge_var 13) ga_nil))) (al1 (al1 (al1 al0)))) ge_str (by rfl)))) (fun s H C cl fp => (ge_var 13))) ga_nil)) ge_int (by rfl)))))))))))))))))))
end
theorem mk_facts {K : PySem.W.Frag} {h : Heap} {mg : Str → Option Value} (X : K.In h) (G : h.Ns mainGlobals mg)
    {f0 : Addr} {od0 an0 : Option Addr} {sl0 : Array (Option Value)} {oc0 kV0 dc0 pm0 cd0 ct0 : Value}
    (a0 : PySem.W.nsIn K mainGlobals "is_integer" = some (some (.ref f0))) (l0 : K.lookup f0 = some ⟨oc0, od0, .func (PySem.W.fnOf "is_integer" "is_integer" (defArgs s_is_integer) (defBody s_is_integer) (defScope s_is_integer) .none kV0 dc0 pm0 an0 cd0 ct0), sl0⟩) (c0 : PySem.W.codeIn K cd0 "is_integer" = true) (k0 : PySem.W.keepIn K (.ref f0) = true)
    {f1 : Addr} {od1 an1 : Option Addr} {sl1 : Array (Option Value)} {oc1 kV1 dc1 pm1 cd1 ct1 : Value}
    (a1 : PySem.W.nsIn K mainGlobals "is_within" = some (some (.ref f1))) (l1 : K.lookup f1 = some ⟨oc1, od1, .func (PySem.W.fnOf "is_within" "is_within" (defArgs s_is_within) (defBody s_is_within) (defScope s_is_within) .none kV1 dc1 pm1 an1 cd1 ct1), sl1⟩) (c1 : PySem.W.codeIn K cd1 "is_within" = true) (k1 : PySem.W.keepIn K (.ref f1) = true)
    {f2 : Addr} {od2 an2 : Option Addr} {sl2 : Array (Option Value)} {oc2 kV2 dc2 pm2 cd2 ct2 : Value}
    (a2 : PySem.W.nsIn K mainGlobals "is_number" = some (some (.ref f2))) (l2 : K.lookup f2 = some ⟨oc2, od2, .func (PySem.W.fnOf "is_number" "is_number" (defArgs s_is_number) (defBody s_is_number) (defScope s_is_number) .none kV2 dc2 pm2 an2 cd2 ct2), sl2⟩) (c2 : PySem.W.codeIn K cd2 "is_number" = true) (k2 : PySem.W.keepIn K (.ref f2) = true)
    {f3 : Addr} {od3 an3 : Option Addr} {sl3 : Array (Option Value)} {oc3 kV3 dc3 pm3 cd3 ct3 : Value}
    (a3 : PySem.W.nsIn K mainGlobals "is_sized" = some (some (.ref f3))) (l3 : K.lookup f3 = some ⟨oc3, od3, .func (PySem.W.fnOf "is_sized" "is_sized" (defArgs s_is_sized) (defBody s_is_sized) (defScope s_is_sized) .none kV3 dc3 pm3 an3 cd3 ct3), sl3⟩) (c3 : PySem.W.codeIn K cd3 "is_sized" = true) (k3 : PySem.W.keepIn K (.ref f3) = true)
    {f4 : Addr} {od4 an4 : Option Addr} {sl4 : Array (Option Value)} {oc4 kV4 dc4 pm4 cd4 ct4 : Value}
    (a4 : PySem.W.nsIn K mainGlobals "common_part" = some (some (.ref f4))) (l4 : K.lookup f4 = some ⟨oc4, od4, .func (PySem.W.fnOf "common_part" "common_part" (defArgs s_common_part) (defBody s_common_part) (defScope s_common_part) .none kV4 dc4 pm4 an4 cd4 ct4), sl4⟩) (c4 : PySem.W.codeIn K cd4 "common_part" = true) (k4 : PySem.W.keepIn K (.ref f4) = true)
    {f5 : Addr} {od5 an5 : Option Addr} {sl5 : Array (Option Value)} {oc5 kV5 dc5 pm5 cd5 ct5 : Value}
    (a5 : PySem.W.nsIn K mainGlobals "common_round" = some (some (.ref f5))) (l5 : K.lookup f5 = some ⟨oc5, od5, .func (PySem.W.fnOf "common_round" "common_round" (defArgs s_common_round) (defBody s_common_round) (defScope s_common_round) .none kV5 dc5 pm5 an5 cd5 ct5), sl5⟩) (c5 : PySem.W.codeIn K cd5 "common_round" = true) (k5 : PySem.W.keepIn K (.ref f5) = true)
    {f6 : Addr} {od6 an6 : Option Addr} {sl6 : Array (Option Value)} {oc6 kV6 dc6 pm6 cd6 ct6 : Value}
    (a6 : PySem.W.nsIn K mainGlobals "is_amount" = some (some (.ref f6))) (l6 : K.lookup f6 = some ⟨oc6, od6, .func (PySem.W.fnOf "is_amount" "is_amount" (defArgs s_is_amount) (defBody s_is_amount) (defScope s_is_amount) .none kV6 dc6 pm6 an6 cd6 ct6), sl6⟩) (c6 : PySem.W.codeIn K cd6 "is_amount" = true) (k6 : PySem.W.keepIn K (.ref f6) = true)
    {f7 : Addr} {od7 an7 : Option Addr} {sl7 : Array (Option Value)} {oc7 kV7 dc7 pm7 cd7 ct7 : Value}
    (a7 : PySem.W.nsIn K mainGlobals "is_place" = some (some (.ref f7))) (l7 : K.lookup f7 = some ⟨oc7, od7, .func (PySem.W.fnOf "is_place" "is_place" (defArgs s_is_place) (defBody s_is_place) (defScope s_is_place) .none kV7 dc7 pm7 an7 cd7 ct7), sl7⟩) (c7 : PySem.W.codeIn K cd7 "is_place" = true) (k7 : PySem.W.keepIn K (.ref f7) = true)
    {f8 : Addr} {od8 an8 : Option Addr} {sl8 : Array (Option Value)} {oc8 kV8 dc8 pm8 cd8 ct8 : Value}
    (a8 : PySem.W.nsIn K mainGlobals "is_table" = some (some (.ref f8))) (l8 : K.lookup f8 = some ⟨oc8, od8, .func (PySem.W.fnOf "is_table" "is_table" (defArgs s_is_table) (defBody s_is_table) (defScope s_is_table) .none kV8 dc8 pm8 an8 cd8 ct8), sl8⟩) (c8 : PySem.W.codeIn K cd8 "is_table" = true) (k8 : PySem.W.keepIn K (.ref f8) = true)
    {f9 : Addr} {od9 an9 : Option Addr} {sl9 : Array (Option Value)} {oc9 kV9 dc9 pm9 cd9 ct9 : Value}
    (a9 : PySem.W.nsIn K mainGlobals "check_table" = some (some (.ref f9))) (l9 : K.lookup f9 = some ⟨oc9, od9, .func (PySem.W.fnOf "check_table" "check_table" (defArgs s_check_table) (defBody s_check_table) (defScope s_check_table) .none kV9 dc9 pm9 an9 cd9 ct9), sl9⟩) (c9 : PySem.W.codeIn K cd9 "check_table" = true) (k9 : PySem.W.keepIn K (.ref f9) = true)
    {f10 : Addr} {od10 an10 : Option Addr} {sl10 : Array (Option Value)} {oc10 kV10 dc10 pm10 cd10 ct10 : Value}
    (a10 : PySem.W.nsIn K mainGlobals "check_length" = some (some (.ref f10))) (l10 : K.lookup f10 = some ⟨oc10, od10, .func (PySem.W.fnOf "check_length" "check_length" (defArgs s_check_length) (defBody s_check_length) (defScope s_check_length) .none kV10 dc10 pm10 an10 cd10 ct10), sl10⟩) (c10 : PySem.W.codeIn K cd10 "check_length" = true) (k10 : PySem.W.keepIn K (.ref f10) = true)
    {f11 : Addr} {od11 an11 : Option Addr} {sl11 : Array (Option Value)} {oc11 kV11 dc11 pm11 cd11 ct11 : Value}
    (a11 : PySem.W.nsIn K mainGlobals "check_number" = some (some (.ref f11))) (l11 : K.lookup f11 = some ⟨oc11, od11, .func (PySem.W.fnOf "check_number" "check_number" (defArgs s_check_number) (defBody s_check_number) (defScope s_check_number) .none kV11 dc11 pm11 an11 cd11 ct11), sl11⟩) (c11 : PySem.W.codeIn K cd11 "check_number" = true) (k11 : PySem.W.keepIn K (.ref f11) = true)
    {f12 : Addr} {od12 an12 : Option Addr} {sl12 : Array (Option Value)} {oc12 kV12 dc12 pm12 cd12 ct12 : Value}
    (a12 : PySem.W.nsIn K mainGlobals "raw_value" = some (some (.ref f12))) (l12 : K.lookup f12 = some ⟨oc12, od12, .func (PySem.W.fnOf "raw_value" "raw_value" (defArgs s_raw_value) (defBody s_raw_value) (defScope s_raw_value) .none kV12 dc12 pm12 an12 cd12 ct12), sl12⟩) (c12 : PySem.W.codeIn K cd12 "raw_value" = true) (k12 : PySem.W.keepIn K (.ref f12) = true)
    {f13 : Addr} {od13 an13 : Option Addr} {sl13 : Array (Option Value)} {oc13 kV13 dc13 pm13 cd13 ct13 : Value}
    (a13 : PySem.W.nsIn K mainGlobals "value" = some (some (.ref f13))) (l13 : K.lookup f13 = some ⟨oc13, od13, .func (PySem.W.fnOf "value" "value" (defArgs s_value) (defBody s_value) (defScope s_value) .none kV13 dc13 pm13 an13 cd13 ct13), sl13⟩) (c13 : PySem.W.codeIn K cd13 "value" = true) (k13 : PySem.W.keepIn K (.ref f13) = true)
    {f14 : Addr} {od14 an14 : Option Addr} {sl14 : Array (Option Value)} {oc14 kV14 dc14 pm14 cd14 ct14 : Value}
    (a14 : PySem.W.nsIn K mainGlobals "row_of" = some (some (.ref f14))) (l14 : K.lookup f14 = some ⟨oc14, od14, .func (PySem.W.fnOf "row_of" "row_of" (defArgs s_row_of) (defBody s_row_of) (defScope s_row_of) .none kV14 dc14 pm14 an14 cd14 ct14), sl14⟩) (c14 : PySem.W.codeIn K cd14 "row_of" = true) (k14 : PySem.W.keepIn K (.ref f14) = true)
    {f15 : Addr} {od15 an15 : Option Addr} {sl15 : Array (Option Value)} {oc15 kV15 dc15 pm15 cd15 ct15 : Value}
    (a15 : PySem.W.nsIn K mainGlobals "is_round" = some (some (.ref f15))) (l15 : K.lookup f15 = some ⟨oc15, od15, .func (PySem.W.fnOf "is_round" "is_round" (defArgs s_is_round) (defBody s_is_round) (defScope s_is_round) .none kV15 dc15 pm15 an15 cd15 ct15), sl15⟩) (c15 : PySem.W.codeIn K cd15 "is_round" = true) (k15 : PySem.W.keepIn K (.ref f15) = true)
    {f16 : Addr} {od16 an16 : Option Addr} {sl16 : Array (Option Value)} {oc16 kV16 dc16 pm16 cd16 ct16 : Value}
    (a16 : PySem.W.nsIn K mainGlobals "least_round" = some (some (.ref f16))) (l16 : K.lookup f16 = some ⟨oc16, od16, .func (PySem.W.fnOf "least_round" "least_round" (defArgs s_least_round) (defBody s_least_round) (defScope s_least_round) .none kV16 dc16 pm16 an16 cd16 ct16), sl16⟩) (c16 : PySem.W.codeIn K cd16 "least_round" = true) (k16 : PySem.W.keepIn K (.ref f16) = true)
    {f17 : Addr} {od17 an17 : Option Addr} {sl17 : Array (Option Value)} {oc17 kV17 dc17 pm17 cd17 ct17 : Value}
    (a17 : PySem.W.nsIn K mainGlobals "raw_least" = some (some (.ref f17))) (l17 : K.lookup f17 = some ⟨oc17, od17, .func (PySem.W.fnOf "raw_least" "raw_least" (defArgs s_raw_least) (defBody s_raw_least) (defScope s_raw_least) .none kV17 dc17 pm17 an17 cd17 ct17), sl17⟩) (c17 : PySem.W.codeIn K cd17 "raw_least" = true) (k17 : PySem.W.keepIn K (.ref f17) = true)
    {f18 : Addr} {od18 an18 : Option Addr} {sl18 : Array (Option Value)} {oc18 kV18 dc18 pm18 cd18 ct18 : Value}
    (a18 : PySem.W.nsIn K mainGlobals "is_form" = some (some (.ref f18))) (l18 : K.lookup f18 = some ⟨oc18, od18, .func (PySem.W.fnOf "is_form" "is_form" (defArgs s_is_form) (defBody s_is_form) (defScope s_is_form) .none kV18 dc18 pm18 an18 cd18 ct18), sl18⟩) (c18 : PySem.W.codeIn K cd18 "is_form" = true) (k18 : PySem.W.keepIn K (.ref f18) = true)
    {f19 : Addr} {od19 an19 : Option Addr} {sl19 : Array (Option Value)} {oc19 kV19 dc19 pm19 cd19 ct19 : Value}
    (a19 : PySem.W.nsIn K mainGlobals "are_amounts" = some (some (.ref f19))) (l19 : K.lookup f19 = some ⟨oc19, od19, .func (PySem.W.fnOf "are_amounts" "are_amounts" (defArgs s_are_amounts) (defBody s_are_amounts) (defScope s_are_amounts) .none kV19 dc19 pm19 an19 cd19 ct19), sl19⟩) (c19 : PySem.W.codeIn K cd19 "are_amounts" = true) (k19 : PySem.W.keepIn K (.ref f19) = true)
    {f20 : Addr} {od20 an20 : Option Addr} {sl20 : Array (Option Value)} {oc20 kV20 dc20 pm20 cd20 ct20 : Value}
    (a20 : PySem.W.nsIn K mainGlobals "form_by" = some (some (.ref f20))) (l20 : K.lookup f20 = some ⟨oc20, od20, .func (PySem.W.fnOf "form_by" "form_by" (defArgs s_form_by) (defBody s_form_by) (defScope s_form_by) .none kV20 dc20 pm20 an20 cd20 ct20), sl20⟩) (c20 : PySem.W.codeIn K cd20 "form_by" = true) (k20 : PySem.W.keepIn K (.ref f20) = true)
    {f21 : Addr} {od21 an21 : Option Addr} {sl21 : Array (Option Value)} {oc21 kV21 dc21 pm21 cd21 ct21 : Value}
    (a21 : PySem.W.nsIn K mainGlobals "never" = some (some (.ref f21))) (l21 : K.lookup f21 = some ⟨oc21, od21, .func (PySem.W.fnOf "never" "never" (defArgs s_never) (defBody s_never) (defScope s_never) .none kV21 dc21 pm21 an21 cd21 ct21), sl21⟩) (c21 : PySem.W.codeIn K cd21 "never" = true) (k21 : PySem.W.keepIn K (.ref f21) = true)
    {f22 : Addr} {od22 an22 : Option Addr} {sl22 : Array (Option Value)} {oc22 kV22 dc22 pm22 cd22 ct22 : Value}
    (a22 : PySem.W.nsIn K mainGlobals "raw_alone" = some (some (.ref f22))) (l22 : K.lookup f22 = some ⟨oc22, od22, .func (PySem.W.fnOf "raw_alone" "raw_alone" (defArgs s_raw_alone) (defBody s_raw_alone) (defScope s_raw_alone) .none kV22 dc22 pm22 an22 cd22 ct22), sl22⟩) (c22 : PySem.W.codeIn K cd22 "raw_alone" = true) (k22 : PySem.W.keepIn K (.ref f22) = true)
    {f23 : Addr} {od23 an23 : Option Addr} {sl23 : Array (Option Value)} {oc23 kV23 dc23 pm23 cd23 ct23 : Value}
    (a23 : PySem.W.nsIn K mainGlobals "alone" = some (some (.ref f23))) (l23 : K.lookup f23 = some ⟨oc23, od23, .func (PySem.W.fnOf "alone" "alone" (defArgs s_alone) (defBody s_alone) (defScope s_alone) .none kV23 dc23 pm23 an23 cd23 ct23), sl23⟩) (c23 : PySem.W.codeIn K cd23 "alone" = true) (k23 : PySem.W.keepIn K (.ref f23) = true)
    {f24 : Addr} {od24 an24 : Option Addr} {sl24 : Array (Option Value)} {oc24 kV24 dc24 pm24 cd24 ct24 : Value}
    (a24 : PySem.W.nsIn K mainGlobals "points_of" = some (some (.ref f24))) (l24 : K.lookup f24 = some ⟨oc24, od24, .func (PySem.W.fnOf "points_of" "points_of" (defArgs s_points_of) (defBody s_points_of) (defScope s_points_of) .none kV24 dc24 pm24 an24 cd24 ct24), sl24⟩) (c24 : PySem.W.codeIn K cd24 "points_of" = true) (k24 : PySem.W.keepIn K (.ref f24) = true)
    {f25 : Addr} {od25 an25 : Option Addr} {sl25 : Array (Option Value)} {oc25 kV25 dc25 pm25 cd25 ct25 : Value}
    (a25 : PySem.W.nsIn K mainGlobals "rays_of" = some (some (.ref f25))) (l25 : K.lookup f25 = some ⟨oc25, od25, .func (PySem.W.fnOf "rays_of" "rays_of" (defArgs s_rays_of) (defBody s_rays_of) (defScope s_rays_of) .none kV25 dc25 pm25 an25 cd25 ct25), sl25⟩) (c25 : PySem.W.codeIn K cd25 "rays_of" = true) (k25 : PySem.W.keepIn K (.ref f25) = true)
    {f26 : Addr} {od26 an26 : Option Addr} {sl26 : Array (Option Value)} {oc26 kV26 dc26 pm26 cd26 ct26 : Value}
    (a26 : PySem.W.nsIn K mainGlobals "round_of" = some (some (.ref f26))) (l26 : K.lookup f26 = some ⟨oc26, od26, .func (PySem.W.fnOf "round_of" "round_of" (defArgs s_round_of) (defBody s_round_of) (defScope s_round_of) .none kV26 dc26 pm26 an26 cd26 ct26), sl26⟩) (c26 : PySem.W.codeIn K cd26 "round_of" = true) (k26 : PySem.W.keepIn K (.ref f26) = true)
    {f27 : Addr} {od27 an27 : Option Addr} {sl27 : Array (Option Value)} {oc27 kV27 dc27 pm27 cd27 ct27 : Value}
    (a27 : PySem.W.nsIn K mainGlobals "classes_of" = some (some (.ref f27))) (l27 : K.lookup f27 = some ⟨oc27, od27, .func (PySem.W.fnOf "classes_of" "classes_of" (defArgs s_classes_of) (defBody s_classes_of) (defScope s_classes_of) .none kV27 dc27 pm27 an27 cd27 ct27), sl27⟩) (c27 : PySem.W.codeIn K cd27 "classes_of" = true) (k27 : PySem.W.keepIn K (.ref f27) = true)
    {f28 : Addr} {od28 an28 : Option Addr} {sl28 : Array (Option Value)} {oc28 kV28 dc28 pm28 cd28 ct28 : Value}
    (a28 : PySem.W.nsIn K mainGlobals "last_turn" = some (some (.ref f28))) (l28 : K.lookup f28 = some ⟨oc28, od28, .func (PySem.W.fnOf "last_turn" "last_turn" (defArgs s_last_turn) (defBody s_last_turn) (defScope s_last_turn) .none kV28 dc28 pm28 an28 cd28 ct28), sl28⟩) (c28 : PySem.W.codeIn K cd28 "last_turn" = true) (k28 : PySem.W.keepIn K (.ref f28) = true)
    {f29 : Addr} {od29 an29 : Option Addr} {sl29 : Array (Option Value)} {oc29 kV29 dc29 pm29 cd29 ct29 : Value}
    (a29 : PySem.W.nsIn K mainGlobals "by_rate" = some (some (.ref f29))) (l29 : K.lookup f29 = some ⟨oc29, od29, .func (PySem.W.fnOf "by_rate" "by_rate" (defArgs s_by_rate) (defBody s_by_rate) (defScope s_by_rate) .none kV29 dc29 pm29 an29 cd29 ct29), sl29⟩) (c29 : PySem.W.codeIn K cd29 "by_rate" = true) (k29 : PySem.W.keepIn K (.ref f29) = true)
    {f30 : Addr} {od30 an30 : Option Addr} {sl30 : Array (Option Value)} {oc30 kV30 dc30 pm30 cd30 ct30 : Value}
    (a30 : PySem.W.nsIn K mainGlobals "head_size" = some (some (.ref f30))) (l30 : K.lookup f30 = some ⟨oc30, od30, .func (PySem.W.fnOf "head_size" "head_size" (defArgs s_head_size) (defBody s_head_size) (defScope s_head_size) .none kV30 dc30 pm30 an30 cd30 ct30), sl30⟩) (c30 : PySem.W.codeIn K cd30 "head_size" = true) (k30 : PySem.W.keepIn K (.ref f30) = true)
    {f31 : Addr} {od31 an31 : Option Addr} {sl31 : Array (Option Value)} {oc31 kV31 dc31 pm31 cd31 ct31 : Value}
    (a31 : PySem.W.nsIn K mainGlobals "put_least" = some (some (.ref f31))) (l31 : K.lookup f31 = some ⟨oc31, od31, .func (PySem.W.fnOf "put_least" "put_least" (defArgs s_put_least) (defBody s_put_least) (defScope s_put_least) .none kV31 dc31 pm31 an31 cd31 ct31), sl31⟩) (c31 : PySem.W.codeIn K cd31 "put_least" = true) (k31 : PySem.W.keepIn K (.ref f31) = true)
    {f32 : Addr} {od32 an32 : Option Addr} {sl32 : Array (Option Value)} {oc32 kV32 dc32 pm32 cd32 ct32 : Value}
    (a32 : PySem.W.nsIn K mainGlobals "made" = some (some (.ref f32))) (l32 : K.lookup f32 = some ⟨oc32, od32, .func (PySem.W.fnOf "made" "made" (defArgs s_made) (defBody s_made) (defScope s_made) .none kV32 dc32 pm32 an32 cd32 ct32), sl32⟩) (c32 : PySem.W.codeIn K cd32 "made" = true) (k32 : PySem.W.keepIn K (.ref f32) = true)
    {f33 : Addr} {od33 an33 : Option Addr} {sl33 : Array (Option Value)} {oc33 kV33 dc33 pm33 cd33 ct33 : Value}
    (a33 : PySem.W.nsIn K mainGlobals "raw_lesser" = some (some (.ref f33))) (l33 : K.lookup f33 = some ⟨oc33, od33, .func (PySem.W.fnOf "raw_lesser" "raw_lesser" (defArgs s_raw_lesser) (defBody s_raw_lesser) (defScope s_raw_lesser) .none kV33 dc33 pm33 an33 cd33 ct33), sl33⟩) (c33 : PySem.W.codeIn K cd33 "raw_lesser" = true) (k33 : PySem.W.keepIn K (.ref f33) = true)
    {f34 : Addr} {od34 an34 : Option Addr} {sl34 : Array (Option Value)} {oc34 kV34 dc34 pm34 cd34 ct34 : Value}
    (a34 : PySem.W.nsIn K mainGlobals "check_many" = some (some (.ref f34))) (l34 : K.lookup f34 = some ⟨oc34, od34, .func (PySem.W.fnOf "check_many" "check_many" (defArgs s_check_many) (defBody s_check_many) (defScope s_check_many) .none kV34 dc34 pm34 an34 cd34 ct34), sl34⟩) (c34 : PySem.W.codeIn K cd34 "check_many" = true) (k34 : PySem.W.keepIn K (.ref f34) = true)
    {f35 : Addr} {od35 an35 : Option Addr} {sl35 : Array (Option Value)} {oc35 kV35 dc35 pm35 cd35 ct35 : Value}
    (a35 : PySem.W.nsIn K mainGlobals "lesser_all" = some (some (.ref f35))) (l35 : K.lookup f35 = some ⟨oc35, od35, .func (PySem.W.fnOf "lesser_all" "lesser_all" (defArgs s_lesser_all) (defBody s_lesser_all) (defScope s_lesser_all) .none kV35 dc35 pm35 an35 cd35 ct35), sl35⟩) (c35 : PySem.W.codeIn K cd35 "lesser_all" = true) (k35 : PySem.W.keepIn K (.ref f35) = true)
    {f36 : Addr} {od36 an36 : Option Addr} {sl36 : Array (Option Value)} {oc36 kV36 dc36 pm36 cd36 ct36 : Value}
    (a36 : PySem.W.nsIn K mainGlobals "_law_hand" = some (some (.ref f36))) (l36 : K.lookup f36 = some ⟨oc36, od36, .func (PySem.W.fnOf "_law_hand" "_law_hand" (defArgs s__law_hand) (defBody s__law_hand) (defScope s__law_hand) .none kV36 dc36 pm36 an36 cd36 ct36), sl36⟩) (c36 : PySem.W.codeIn K cd36 "_law_hand" = true) (k36 : PySem.W.keepIn K (.ref f36) = true)
    {f37 : Addr} {od37 an37 : Option Addr} {sl37 : Array (Option Value)} {oc37 kV37 dc37 pm37 cd37 ct37 : Value}
    (a37 : PySem.W.nsIn K mainGlobals "_law_draw" = some (some (.ref f37))) (l37 : K.lookup f37 = some ⟨oc37, od37, .func (PySem.W.fnOf "_law_draw" "_law_draw" (defArgs s__law_draw) (defBody s__law_draw) (defScope s__law_draw) .none kV37 dc37 pm37 an37 cd37 ct37), sl37⟩) (c37 : PySem.W.codeIn K cd37 "_law_draw" = true) (k37 : PySem.W.keepIn K (.ref f37) = true)
    {f38 : Addr} {od38 an38 : Option Addr} {sl38 : Array (Option Value)} {oc38 kV38 dc38 pm38 cd38 ct38 : Value}
    (a38 : PySem.W.nsIn K mainGlobals "_law_is" = some (some (.ref f38))) (l38 : K.lookup f38 = some ⟨oc38, od38, .func (PySem.W.fnOf "_law_is" "_law_is" (defArgs s__law_is) (defBody s__law_is) (defScope s__law_is) .none kV38 dc38 pm38 an38 cd38 ct38), sl38⟩) (c38 : PySem.W.codeIn K cd38 "_law_is" = true) (k38 : PySem.W.keepIn K (.ref f38) = true)
    {f39 : Addr} {od39 an39 : Option Addr} {sl39 : Array (Option Value)} {oc39 kV39 dc39 pm39 cd39 ct39 : Value}
    (a39 : PySem.W.nsIn K mainGlobals "_law_amount" = some (some (.ref f39))) (l39 : K.lookup f39 = some ⟨oc39, od39, .func (PySem.W.fnOf "_law_amount" "_law_amount" (defArgs s__law_amount) (defBody s__law_amount) (defScope s__law_amount) .none kV39 dc39 pm39 an39 cd39 ct39), sl39⟩) (c39 : PySem.W.codeIn K cd39 "_law_amount" = true) (k39 : PySem.W.keepIn K (.ref f39) = true)
    {f40 : Addr} {od40 an40 : Option Addr} {sl40 : Array (Option Value)} {oc40 kV40 dc40 pm40 cd40 ct40 : Value}
    (a40 : PySem.W.nsIn K mainGlobals "_law_table" = some (some (.ref f40))) (l40 : K.lookup f40 = some ⟨oc40, od40, .func (PySem.W.fnOf "_law_table" "_law_table" (defArgs s__law_table) (defBody s__law_table) (defScope s__law_table) .none kV40 dc40 pm40 an40 cd40 ct40), sl40⟩) (c40 : PySem.W.codeIn K cd40 "_law_table" = true) (k40 : PySem.W.keepIn K (.ref f40) = true)
    {f41 : Addr} {od41 an41 : Option Addr} {sl41 : Array (Option Value)} {oc41 kV41 dc41 pm41 cd41 ct41 : Value}
    (a41 : PySem.W.nsIn K mainGlobals "_law_at" = some (some (.ref f41))) (l41 : K.lookup f41 = some ⟨oc41, od41, .func (PySem.W.fnOf "_law_at" "_law_at" (defArgs s__law_at) (defBody s__law_at) (defScope s__law_at) .none kV41 dc41 pm41 an41 cd41 ct41), sl41⟩) (c41 : PySem.W.codeIn K cd41 "_law_at" = true) (k41 : PySem.W.keepIn K (.ref f41) = true)
    {f42 : Addr} {od42 an42 : Option Addr} {sl42 : Array (Option Value)} {oc42 kV42 dc42 pm42 cd42 ct42 : Value}
    (a42 : PySem.W.nsIn K mainGlobals "_law_goes" = some (some (.ref f42))) (l42 : K.lookup f42 = some ⟨oc42, od42, .func (PySem.W.fnOf "_law_goes" "_law_goes" (defArgs s__law_goes) (defBody s__law_goes) (defScope s__law_goes) .none kV42 dc42 pm42 an42 cd42 ct42), sl42⟩) (c42 : PySem.W.codeIn K cd42 "_law_goes" = true) (k42 : PySem.W.keepIn K (.ref f42) = true)
    {f43 : Addr} {od43 an43 : Option Addr} {sl43 : Array (Option Value)} {oc43 kV43 dc43 pm43 cd43 ct43 : Value}
    (a43 : PySem.W.nsIn K mainGlobals "_law_round" = some (some (.ref f43))) (l43 : K.lookup f43 = some ⟨oc43, od43, .func (PySem.W.fnOf "_law_round" "_law_round" (defArgs s__law_round) (defBody s__law_round) (defScope s__law_round) .none kV43 dc43 pm43 an43 cd43 ct43), sl43⟩) (c43 : PySem.W.codeIn K cd43 "_law_round" = true) (k43 : PySem.W.keepIn K (.ref f43) = true)
    {f44 : Addr} {od44 an44 : Option Addr} {sl44 : Array (Option Value)} {oc44 kV44 dc44 pm44 cd44 ct44 : Value}
    (a44 : PySem.W.nsIn K mainGlobals "_law_least" = some (some (.ref f44))) (l44 : K.lookup f44 = some ⟨oc44, od44, .func (PySem.W.fnOf "_law_least" "_law_least" (defArgs s__law_least) (defBody s__law_least) (defScope s__law_least) .none kV44 dc44 pm44 an44 cd44 ct44), sl44⟩) (c44 : PySem.W.codeIn K cd44 "_law_least" = true) (k44 : PySem.W.keepIn K (.ref f44) = true)
    {f45 : Addr} {od45 an45 : Option Addr} {sl45 : Array (Option Value)} {oc45 kV45 dc45 pm45 cd45 ct45 : Value}
    (a45 : PySem.W.nsIn K mainGlobals "_law_told" = some (some (.ref f45))) (l45 : K.lookup f45 = some ⟨oc45, od45, .func (PySem.W.fnOf "_law_told" "_law_told" (defArgs s__law_told_v03) (defBody s__law_told_v03) (defScope s__law_told_v03) .none kV45 dc45 pm45 an45 cd45 ct45), sl45⟩) (c45 : PySem.W.codeIn K cd45 "_law_told" = true) (k45 : PySem.W.keepIn K (.ref f45) = true)
    {f46 : Addr} {od46 an46 : Option Addr} {sl46 : Array (Option Value)} {oc46 kV46 dc46 pm46 cd46 ct46 : Value}
    (a46 : PySem.W.nsIn K mainGlobals "_law_on" = some (some (.ref f46))) (l46 : K.lookup f46 = some ⟨oc46, od46, .func (PySem.W.fnOf "_law_on" "_law_on" (defArgs s__law_on) (defBody s__law_on) (defScope s__law_on) .none kV46 dc46 pm46 an46 cd46 ct46), sl46⟩) (c46 : PySem.W.codeIn K cd46 "_law_on" = true) (k46 : PySem.W.keepIn K (.ref f46) = true)
    {f47 : Addr} {od47 an47 : Option Addr} {sl47 : Array (Option Value)} {oc47 kV47 dc47 pm47 cd47 ct47 : Value}
    (a47 : PySem.W.nsIn K mainGlobals "_law_row" = some (some (.ref f47))) (l47 : K.lookup f47 = some ⟨oc47, od47, .func (PySem.W.fnOf "_law_row" "_law_row" (defArgs s__law_row) (defBody s__law_row) (defScope s__law_row) .none kV47 dc47 pm47 an47 cd47 ct47), sl47⟩) (c47 : PySem.W.codeIn K cd47 "_law_row" = true) (k47 : PySem.W.keepIn K (.ref f47) = true)
    {f48 : Addr} {od48 an48 : Option Addr} {sl48 : Array (Option Value)} {oc48 kV48 dc48 pm48 cd48 ct48 : Value}
    (a48 : PySem.W.nsIn K mainGlobals "_law_alone" = some (some (.ref f48))) (l48 : K.lookup f48 = some ⟨oc48, od48, .func (PySem.W.fnOf "_law_alone" "_law_alone" (defArgs s__law_alone) (defBody s__law_alone) (defScope s__law_alone) .none kV48 dc48 pm48 an48 cd48 ct48), sl48⟩) (c48 : PySem.W.codeIn K cd48 "_law_alone" = true) (k48 : PySem.W.keepIn K (.ref f48) = true)
    {f49 : Addr} {od49 an49 : Option Addr} {sl49 : Array (Option Value)} {oc49 kV49 dc49 pm49 cd49 ct49 : Value}
    (a49 : PySem.W.nsIn K mainGlobals "law" = some (some (.ref f49))) (l49 : K.lookup f49 = some ⟨oc49, od49, .func (PySem.W.fnOf "law" "law" (defArgs s_law_v03) (defBody s_law_v03) (defScope s_law_v03) .none kV49 dc49 pm49 an49 cd49 ct49), sl49⟩) (c49 : PySem.W.codeIn K cd49 "law" = true) (k49 : PySem.W.keepIn K (.ref f49) = true)
    (z_int : PySem.W.nsIn K mainGlobals "int" = some none)
    (z_isinstance : PySem.W.nsIn K mainGlobals "isinstance" = some none)
    (z_bool : PySem.W.nsIn K mainGlobals "bool" = some none)
    (z_tuple : PySem.W.nsIn K mainGlobals "tuple" = some none)
    (z_len : PySem.W.nsIn K mainGlobals "len" = some none)
    (z_all : PySem.W.nsIn K mainGlobals "all" = some none)
    (z_range : PySem.W.nsIn K mainGlobals "range" = some none)
    (z_list : PySem.W.nsIn K mainGlobals "list" = some none)
    (z_min : PySem.W.nsIn K mainGlobals "min" = some none)
    (z_zip : PySem.W.nsIn K mainGlobals "zip" = some none)
    (z_enumerate : PySem.W.nsIn K mainGlobals "enumerate" = some none)
    (z_max : PySem.W.nsIn K mainGlobals "max" = some none)
    (z_abs : PySem.W.nsIn K mainGlobals "abs" = some none)
    (z_str : PySem.W.nsIn K mainGlobals "str" = some none)
    {t_MOST_HEAD : Tok} (c_MOST_HEAD : PySem.W.nsIn K mainGlobals "MOST_HEAD" = some (some (.int 1000 t_MOST_HEAD)))
    {t_MOST_ROUND : Tok} (c_MOST_ROUND : PySem.W.nsIn K mainGlobals "MOST_ROUND" = some (some (.int 120 t_MOST_ROUND)))
    {t_MOST_SHORT : Tok} (c_MOST_SHORT : PySem.W.nsIn K mainGlobals "MOST_SHORT" = some (some (.int 10000000000000000000000000000000000000000 t_MOST_SHORT)))
    {t_MOST_ROW : Tok} (c_MOST_ROW : PySem.W.nsIn K mainGlobals "MOST_ROW" = some (some (.int 2000 t_MOST_ROW)))
    {a_NEVER_0 : Addr} {d_NEVER_0 : Option Addr} {n_NEVER_0 : Nat} {s_NEVER_0 : Array (Option Value)} {t_NEVER_1_0_1 : Tok} {a_NEVER_1_0 : Addr} {d_NEVER_1_0 : Option Addr} {n_NEVER_1_0 : Nat} {s_NEVER_1_0 : Array (Option Value)} {a_NEVER_1 : Addr} {d_NEVER_1 : Option Addr} {n_NEVER_1 : Nat} {s_NEVER_1 : Array (Option Value)} {a_NEVER : Addr} {d_NEVER : Option Addr} {n_NEVER : Nat} {s_NEVER : Array (Option Value)} (c_NEVER : PySem.W.nsIn K mainGlobals "NEVER" = some (some (.ref a_NEVER))) (l_NEVER : K.lookup a_NEVER = some ⟨.type "tuple", d_NEVER, .seq #[(.ref a_NEVER_0), (.ref a_NEVER_1)] n_NEVER, s_NEVER⟩) (l_NEVER_0 : K.lookup a_NEVER_0 = some ⟨.type "tuple", d_NEVER_0, .seq #[] n_NEVER_0, s_NEVER_0⟩) (l_NEVER_1 : K.lookup a_NEVER_1 = some ⟨.type "tuple", d_NEVER_1, .seq #[(.ref a_NEVER_1_0)] n_NEVER_1, s_NEVER_1⟩) (l_NEVER_1_0 : K.lookup a_NEVER_1_0 = some ⟨.type "tuple", d_NEVER_1_0, .seq #[.none, (.int 0 t_NEVER_1_0_1)] n_NEVER_1_0, s_NEVER_1_0⟩)
    {t_MOST_SHIFT : Tok} (c_MOST_SHIFT : PySem.W.nsIn K mainGlobals "MOST_SHIFT" = some (some (.int 300 t_MOST_SHIFT)))
    {t_MOST_WORK : Tok} (c_MOST_WORK : PySem.W.nsIn K mainGlobals "MOST_WORK" = some (some (.int 9000 t_MOST_WORK)))
    {t_MOST_FORMS : Tok} (c_MOST_FORMS : PySem.W.nsIn K mainGlobals "MOST_FORMS" = some (some (.int 8 t_MOST_FORMS)))
    {C_NoTable : Addr} (xa_NoTable : PySem.W.nsIn K mainGlobals "NoTable" = some (some (.ref C_NoTable))) (xe_NoTable : PySem.W.excIn K C_NoTable [.type "ValueError", .type "Exception", .type "BaseException", .type "object"] "ValueError.__new__" = true) (xk_NoTable : PySem.W.keepIn K (.ref C_NoTable) = true)
    (xs_NoTable : PySem.W.subIn K (.ref C_NoTable) (.type "BaseException") = some true) (xt_NoTable : PySem.W.typeIn K (.ref C_NoTable) = some (.type "type"))
    {C_NoLength : Addr} (xa_NoLength : PySem.W.nsIn K mainGlobals "NoLength" = some (some (.ref C_NoLength))) (xe_NoLength : PySem.W.excIn K C_NoLength [.type "ValueError", .type "Exception", .type "BaseException", .type "object"] "ValueError.__new__" = true) (xk_NoLength : PySem.W.keepIn K (.ref C_NoLength) = true)
    (xs_NoLength : PySem.W.subIn K (.ref C_NoLength) (.type "BaseException") = some true) (xt_NoLength : PySem.W.typeIn K (.ref C_NoLength) = some (.type "type"))
    {C_NoNumber : Addr} (xa_NoNumber : PySem.W.nsIn K mainGlobals "NoNumber" = some (some (.ref C_NoNumber))) (xe_NoNumber : PySem.W.excIn K C_NoNumber [.type "ValueError", .type "Exception", .type "BaseException", .type "object"] "ValueError.__new__" = true) (xk_NoNumber : PySem.W.keepIn K (.ref C_NoNumber) = true)
    (xs_NoNumber : PySem.W.subIn K (.ref C_NoNumber) (.type "BaseException") = some true) (xt_NoNumber : PySem.W.typeIn K (.ref C_NoNumber) = some (.type "type"))
    {C_NoRow : Addr} (xa_NoRow : PySem.W.nsIn K mainGlobals "NoRow" = some (some (.ref C_NoRow))) (xe_NoRow : PySem.W.excIn K C_NoRow [.type "ValueError", .type "Exception", .type "BaseException", .type "object"] "ValueError.__new__" = true) (xk_NoRow : PySem.W.keepIn K (.ref C_NoRow) = true)
    (xs_NoRow : PySem.W.subIn K (.ref C_NoRow) (.type "BaseException") = some true) (xt_NoRow : PySem.W.typeIn K (.ref C_NoRow) = some (.type "type"))
    {C_NoForms : Addr} (xa_NoForms : PySem.W.nsIn K mainGlobals "NoForms" = some (some (.ref C_NoForms))) (xe_NoForms : PySem.W.excIn K C_NoForms [.type "ValueError", .type "Exception", .type "BaseException", .type "object"] "ValueError.__new__" = true) (xk_NoForms : PySem.W.keepIn K (.ref C_NoForms) = true)
    (xs_NoForms : PySem.W.subIn K (.ref C_NoForms) (.type "BaseException") = some true) (xt_NoForms : PySem.W.typeIn K (.ref C_NoForms) = some (.type "type"))
    {C_TooMany CL_TooMany fI_TooMany N_TooMany : Addr} {nm_TooMany q_TooMany : Str} {bs_TooMany sub_TooMany : List Value} {sn_TooMany : List Str} {ab_TooMany : Bool} {col_TooMany : Option Bool} {dd_TooMany od_TooMany an_TooMany : Option Addr} {m0_TooMany m1_TooMany m2_TooMany m3_TooMany m5_TooMany : Option Value} {oc_TooMany kV_TooMany dc_TooMany pm_TooMany cd_TooMany ct_TooMany : Value} {sl_TooMany : Array (Option Value)}
    (xa_TooMany : PySem.W.nsIn K mainGlobals "TooMany" = some (some (.ref C_TooMany))) (xL_TooMany : K.lookup C_TooMany = some (excClassObj nm_TooMany q_TooMany C_TooMany N_TooMany bs_TooMany [.ref CL_TooMany, .type "ValueError", .type "Exception", .type "BaseException", .type "object"] true sn_TooMany sub_TooMany ab_TooMany col_TooMany dd_TooMany m0_TooMany m1_TooMany m2_TooMany m3_TooMany m5_TooMany "ValueError.__new__"))
    (xsa_TooMany : PySem.W.findIn K (.ref C_TooMany) "__setattr__" = some (some (.builtin "object.__setattr__"))) (xs_TooMany : PySem.W.subIn K (.ref C_TooMany) (.type "BaseException") = some true) (xt_TooMany : PySem.W.typeIn K (.ref C_TooMany) = some (.type "type")) (xk_TooMany : PySem.W.keepIn K (.ref C_TooMany) = true)
    (xi1_TooMany : PySem.W.findIn K (.ref C_TooMany) "__init__" = some (some (.ref fI_TooMany))) (xi2_TooMany : PySem.W.typeIn K (.ref fI_TooMany) = some (.type "function")) (xi3_TooMany : PySem.W.findIn K (.ref C_TooMany) "most" = some none)
    (xl_TooMany : K.lookup fI_TooMany = some ⟨oc_TooMany, od_TooMany, .func (PySem.W.fnOf "__init__" "TooMany.__init__" (defArgs (clsDef (topS 14))) (defBody (clsDef (topS 14))) (defScope (clsDef (topS 14))) .none kV_TooMany dc_TooMany pm_TooMany an_TooMany cd_TooMany ct_TooMany), sl_TooMany⟩) (xc_TooMany : PySem.W.codeIn K cd_TooMany "TooMany.__init__" = true) (xkf_TooMany : PySem.W.keepIn K (.ref fI_TooMany) = true)
    (xi_NoLength : PySem.W.isClsIn K C_NoLength = true)
    (xi_NoNumber : PySem.W.isClsIn K C_NoNumber = true)
    (xi_NoRow : PySem.W.isClsIn K C_NoRow = true)
    (xi_TooMany : PySem.W.isClsIn K C_TooMany = true)
    (xp_9_9 : PySem.W.subIn K (.ref C_NoLength) (.ref C_NoLength) = some true)
    (xp_9_14 : PySem.W.subIn K (.ref C_NoLength) (.ref C_NoNumber) = some false)
    (xp_9_23 : PySem.W.subIn K (.ref C_NoLength) (.ref C_NoRow) = some false)
    (xp_9_41 : PySem.W.subIn K (.ref C_NoLength) (.ref C_TooMany) = some false)
    (xp_14_9 : PySem.W.subIn K (.ref C_NoNumber) (.ref C_NoLength) = some false)
    (xp_14_14 : PySem.W.subIn K (.ref C_NoNumber) (.ref C_NoNumber) = some true)
    (xp_14_23 : PySem.W.subIn K (.ref C_NoNumber) (.ref C_NoRow) = some false)
    (xp_14_41 : PySem.W.subIn K (.ref C_NoNumber) (.ref C_TooMany) = some false)
    (xp_23_9 : PySem.W.subIn K (.ref C_NoRow) (.ref C_NoLength) = some false)
    (xp_23_14 : PySem.W.subIn K (.ref C_NoRow) (.ref C_NoNumber) = some false)
    (xp_23_23 : PySem.W.subIn K (.ref C_NoRow) (.ref C_NoRow) = some true)
    (xp_23_41 : PySem.W.subIn K (.ref C_NoRow) (.ref C_TooMany) = some false)
    (xp_41_9 : PySem.W.subIn K (.ref C_TooMany) (.ref C_NoLength) = some false)
    (xp_41_14 : PySem.W.subIn K (.ref C_TooMany) (.ref C_NoNumber) = some false)
    (xp_41_23 : PySem.W.subIn K (.ref C_TooMany) (.ref C_NoRow) = some false)
    (xp_41_41 : PySem.W.subIn K (.ref C_TooMany) (.ref C_TooMany) = some true)
    : Facts K mg where
  D_is_integer := defG_mk X G (fun _ _ _ _ _ _ us hl => match us, hl with | [_], _ => rfl) a0 l0 c0 k0
  D_is_within := defG_mk X G (fun _ _ _ _ _ _ us hl => match us, hl with | [_, _, _], _ => rfl) a1 l1 c1 k1
  D_is_number := defG_mk X G (fun _ _ _ _ _ _ us hl => match us, hl with | [_], _ => rfl) a2 l2 c2 k2
  D_is_sized := defG_mk X G (fun _ _ _ _ _ _ us hl => match us, hl with | [_, _, _], _ => rfl) a3 l3 c3 k3
  D_common_part := defG_mk X G (fun _ _ _ _ _ _ us hl => match us, hl with | [_, _], _ => rfl) a4 l4 c4 k4
  D_common_round := defG_mk X G (fun _ _ _ _ _ _ us hl => match us, hl with | [_, _], _ => rfl) a5 l5 c5 k5
  D_is_amount := defG_mk X G (fun _ _ _ _ _ _ us hl => match us, hl with | [_], _ => rfl) a6 l6 c6 k6
  D_is_place := defG_mk X G (fun _ _ _ _ _ _ us hl => match us, hl with | [_], _ => rfl) a7 l7 c7 k7
  D_is_table := defG_mk X G (fun _ _ _ _ _ _ us hl => match us, hl with | [_], _ => rfl) a8 l8 c8 k8
  D_check_table := defG_mk X G (fun _ _ _ _ _ _ us hl => match us, hl with | [_], _ => rfl) a9 l9 c9 k9
  D_check_length := defG_mk X G (fun _ _ _ _ _ _ us hl => match us, hl with | [_], _ => rfl) a10 l10 c10 k10
  D_check_number := defG_mk X G (fun _ _ _ _ _ _ us hl => match us, hl with | [_], _ => rfl) a11 l11 c11 k11
  D_raw_value := defG_mk X G (fun _ _ _ _ _ _ us hl => match us, hl with | [_, _], _ => rfl) a12 l12 c12 k12
  D_value := defG_mk X G (fun _ _ _ _ _ _ us hl => match us, hl with | [_, _], _ => rfl) a13 l13 c13 k13
  D_row_of := defG_mk X G (fun _ _ _ _ _ _ us hl => match us, hl with | [_, _, _], _ => rfl) a14 l14 c14 k14
  D_is_round := defG_mk X G (fun _ _ _ _ _ _ us hl => match us, hl with | [_, _], _ => rfl) a15 l15 c15 k15
  D_least_round := defG_mk X G (fun _ _ _ _ _ _ us hl => match us, hl with | [_], _ => rfl) a16 l16 c16 k16
  D_raw_least := defG_mk X G (fun _ _ _ _ _ _ us hl => match us, hl with | [_, _], _ => rfl) a17 l17 c17 k17
  D_is_form := defG_mk X G (fun _ _ _ _ _ _ us hl => match us, hl with | [_], _ => rfl) a18 l18 c18 k18
  D_are_amounts := defG_mk X G (fun _ _ _ _ _ _ us hl => match us, hl with | [_], _ => rfl) a19 l19 c19 k19
  D_form_by := defG_mk X G (fun _ _ _ _ _ _ us hl => match us, hl with | [_, _], _ => rfl) a20 l20 c20 k20
  D_never := defG_mk X G (fun _ _ _ _ _ _ us hl => match us, hl with | [], _ => rfl) a21 l21 c21 k21
  D_raw_alone := defG_mk X G (fun _ _ _ _ _ _ us hl => match us, hl with | [_, _], _ => rfl) a22 l22 c22 k22
  D_alone := defG_mk X G (fun _ _ _ _ _ _ us hl => match us, hl with | [_, _], _ => rfl) a23 l23 c23 k23
  D_points_of := defG_mk X G (fun _ _ _ _ _ _ us hl => match us, hl with | [_], _ => rfl) a24 l24 c24 k24
  D_rays_of := defG_mk X G (fun _ _ _ _ _ _ us hl => match us, hl with | [_], _ => rfl) a25 l25 c25 k25
  D_round_of := defG_mk X G (fun _ _ _ _ _ _ us hl => match us, hl with | [_], _ => rfl) a26 l26 c26 k26
  D_classes_of := defG_mk X G (fun _ _ _ _ _ _ us hl => match us, hl with | [_, _], _ => rfl) a27 l27 c27 k27
  D_last_turn := defG_mk X G (fun _ _ _ _ _ _ us hl => match us, hl with | [_, _], _ => rfl) a28 l28 c28 k28
  D_by_rate := defG_mk X G (fun _ _ _ _ _ _ us hl => match us, hl with | [_], _ => rfl) a29 l29 c29 k29
  D_head_size := defG_mk X G (fun _ _ _ _ _ _ us hl => match us, hl with | [_, _], _ => rfl) a30 l30 c30 k30
  D_put_least := defG_mk X G (fun _ _ _ _ _ _ us hl => match us, hl with | [_, _, _], _ => rfl) a31 l31 c31 k31
  D_made := defG_mk X G (fun _ _ _ _ _ _ us hl => match us, hl with | [_, _], _ => rfl) a32 l32 c32 k32
  D_raw_lesser := defG_mk X G (fun _ _ _ _ _ _ us hl => match us, hl with | [_, _], _ => rfl) a33 l33 c33 k33
  D_check_many := defG_mk X G (fun _ _ _ _ _ _ us hl => match us, hl with | [_], _ => rfl) a34 l34 c34 k34
  D_lesser_all := defG_mk X G (fun _ _ _ _ _ _ us hl => match us, hl with | [_], _ => rfl) a35 l35 c35 k35
  D__law_hand := defG_mk X G (fun _ _ _ _ _ _ us hl => match us, hl with | [_], _ => rfl) a36 l36 c36 k36
  D__law_draw := defG_mk X G (fun _ _ _ _ _ _ us hl => match us, hl with | [_, _], _ => rfl) a37 l37 c37 k37
  D__law_is := defG_mk X G (fun _ _ _ _ _ _ us hl => match us, hl with | [_, _], _ => rfl) a38 l38 c38 k38
  D__law_amount := defG_mk X G (fun _ _ _ _ _ _ us hl => match us, hl with | [_, _], _ => rfl) a39 l39 c39 k39
  D__law_table := defG_mk X G (fun _ _ _ _ _ _ us hl => match us, hl with | [_, _, _, _], _ => rfl) a40 l40 c40 k40
  D__law_at := defG_mk X G (fun _ _ _ _ _ _ us hl => match us, hl with | [_, _], _ => rfl) a41 l41 c41 k41
  D__law_goes := defG_mk X G (fun _ _ _ _ _ _ us hl => match us, hl with | [_, _, _], _ => rfl) a42 l42 c42 k42
  D__law_round := defG_mk X G (fun _ _ _ _ _ _ us hl => match us, hl with | [_], _ => rfl) a43 l43 c43 k43
  D__law_least := defG_mk X G (fun _ _ _ _ _ _ us hl => match us, hl with | [_], _ => rfl) a44 l44 c44 k44
  D__law_told_v03 := defG_mk X G (fun _ _ _ _ _ _ us hl => match us, hl with | [_, _, _], _ => rfl) a45 l45 c45 k45
  D__law_on := defG_mk X G (fun _ _ _ _ _ _ us hl => match us, hl with | [_, _], _ => rfl) a46 l46 c46 k46
  D__law_row := defG_mk X G (fun _ _ _ _ _ _ us hl => match us, hl with | [_], _ => rfl) a47 l47 c47 k47
  D__law_alone := defG_mk X G (fun _ _ _ _ _ _ us hl => match us, hl with | [_, _], _ => rfl) a48 l48 c48 k48
  D_law_v03 := defG_mk X G (fun _ _ _ _ _ _ us hl => match us, hl with | [_], _ => rfl) a49 l49 c49 k49
  z_int := PySem.W.mg_none_of X G z_int
  z_isinstance := PySem.W.mg_none_of X G z_isinstance
  z_bool := PySem.W.mg_none_of X G z_bool
  z_tuple := PySem.W.mg_none_of X G z_tuple
  z_len := PySem.W.mg_none_of X G z_len
  z_all := PySem.W.mg_none_of X G z_all
  z_range := PySem.W.mg_none_of X G z_range
  z_list := PySem.W.mg_none_of X G z_list
  z_min := PySem.W.mg_none_of X G z_min
  z_zip := PySem.W.mg_none_of X G z_zip
  z_enumerate := PySem.W.mg_none_of X G z_enumerate
  z_max := PySem.W.mg_none_of X G z_max
  z_abs := PySem.W.mg_none_of X G z_abs
  z_str := PySem.W.mg_none_of X G z_str
  c_MOST_HEAD := ⟨_, PySem.W.mg_of X G c_MOST_HEAD⟩
  c_MOST_ROUND := ⟨_, PySem.W.mg_of X G c_MOST_ROUND⟩
  c_MOST_SHORT := ⟨_, PySem.W.mg_of X G c_MOST_SHORT⟩
  c_MOST_ROW := ⟨_, PySem.W.mg_of X G c_MOST_ROW⟩
  c_NEVER := ⟨_, PySem.W.mg_of X G c_NEVER, fun H T => (wr_tup (xs := [(.ref a_NEVER_0), (.ref a_NEVER_1)]) l_NEVER (.cons rfl (.cons rfl .nil)) (by simp) (fun H T => (.cons ((wr_tup (xs := []) l_NEVER_0 .nil (by simp) (fun H T => .nil) H T)) (.cons ((wr_tup (xs := [(.ref a_NEVER_1_0)]) l_NEVER_1 (.cons rfl .nil) (by simp) (fun H T => (.cons ((wr_tup (xs := [.non, (.int 0)]) l_NEVER_1_0 (.cons rfl (.cons ⟨_, rfl⟩ .nil)) (by simp) (fun H T => (.cons (.non) (.cons (.int _) .nil))) H T)) .nil)) H T)) .nil))) H T)⟩
  c_MOST_SHIFT := ⟨_, PySem.W.mg_of X G c_MOST_SHIFT⟩
  c_MOST_WORK := ⟨_, PySem.W.mg_of X G c_MOST_WORK⟩
  c_MOST_FORMS := ⟨_, PySem.W.mg_of X G c_MOST_FORMS⟩
  x_NoTable := xc_mk X G xa_NoTable xe_NoTable xk_NoTable xs_NoTable xt_NoTable
  x_NoLength := xc_mk X G xa_NoLength xe_NoLength xk_NoLength xs_NoLength xt_NoLength
  x_NoNumber := xc_mk X G xa_NoNumber xe_NoNumber xk_NoNumber xs_NoNumber xt_NoNumber
  x_NoRow := xc_mk X G xa_NoRow xe_NoRow xk_NoRow xs_NoRow xt_NoRow
  x_NoForms := xc_mk X G xa_NoForms xe_NoForms xk_NoForms xs_NoForms xt_NoForms
  xa_TooMany := xa_mk X G (fun _ _ _ _ _ _ us hl => match us, hl with | [_, _], _ => rfl) xa_TooMany xL_TooMany xsa_TooMany xs_TooMany xt_TooMany xk_TooMany xi1_TooMany xi2_TooMany xi3_TooMany xl_TooMany xc_TooMany xkf_TooMany
  xt := xt_mk [(9, C_NoLength), (14, C_NoNumber), (23, C_NoRow), (41, C_TooMany)] rfl (by simp only [List.forall_mem_cons, List.not_mem_nil, false_imp_iff, implies_true, and_true]; exact ⟨PySem.W.mg_of X G xa_NoLength, PySem.W.mg_of X G xa_NoNumber, PySem.W.mg_of X G xa_NoRow, PySem.W.mg_of X G xa_TooMany⟩)
    (by simp only [List.forall_mem_cons, List.not_mem_nil, false_imp_iff, implies_true, and_true]; exact ⟨⟨exm_mk xs_NoLength xi_NoLength xt_NoLength xp_9_9, exm_mk xs_NoNumber xi_NoNumber xt_NoNumber xp_9_14, exm_mk xs_NoRow xi_NoRow xt_NoRow xp_9_23, exm_mk xs_TooMany xi_TooMany xt_TooMany xp_9_41⟩, ⟨exm_mk xs_NoLength xi_NoLength xt_NoLength xp_14_9, exm_mk xs_NoNumber xi_NoNumber xt_NoNumber xp_14_14, exm_mk xs_NoRow xi_NoRow xt_NoRow xp_14_23, exm_mk xs_TooMany xi_TooMany xt_TooMany xp_14_41⟩, ⟨exm_mk xs_NoLength xi_NoLength xt_NoLength xp_23_9, exm_mk xs_NoNumber xi_NoNumber xt_NoNumber xp_23_14, exm_mk xs_NoRow xi_NoRow xt_NoRow xp_23_23, exm_mk xs_TooMany xi_TooMany xt_TooMany xp_23_41⟩, ⟨exm_mk xs_NoLength xi_NoLength xt_NoLength xp_41_9, exm_mk xs_NoNumber xi_NoNumber xt_NoNumber xp_41_14, exm_mk xs_NoRow xi_NoRow xt_NoRow xp_41_23, exm_mk xs_TooMany xi_TooMany xt_TooMany xp_41_41⟩⟩)
theorem law_ok {K : PySem.W.Frag} {mg : Str → Option Value} {P : Program} {w : World} {fa : Addr} (Φ : Facts K mg) (hf : mg "law" = some (.ref fa)) : ∃ fd : FuncData, (∀ (s : Shared) (u : Value), BindsTo s fd ⟨[u], []⟩ [("script", u)]) ∧ ∀ base : Heap, K.In base → base.Ns mainGlobals mg → FnOk P w K mg base (L2.CX P w) 10 fa fd ["script"] (spA K F_law_v03) :=
  law_end Φ.D_law_v03 hf (fun _ _ _ _ _ _ us hl => match us, hl with | [_], _ => rfl) fun base => ok_law_v03 Φ
end K03

set_option Elab.async false
set_option linter.all false
set_option maxRecDepth 100000
namespace Mp
open PySem
/-! ### a table told anew: more of it in the head, the round some times -/
theorem val_turn {U : Tab} (hl : 1 ≤ U.turn.length) (hz : Frm.Zr U.turn) {m : Nat} (hm : U.head.length ≤ m) : U.val (m + U.turn.length) = (U.val m).map fun a => a + Frm.ris U.turn (m - U.head.length) := by
  unfold Tab.val
  rw [if_neg (by omega), if_neg (by omega), show m + U.turn.length - U.head.length = (m - U.head.length) + U.turn.length by omega]
  obtain ⟨h1, h2, _⟩ := Frm.at_turn hl hz (m - U.head.length)
  cases e1 : Frm.at' U.turn (m - U.head.length) with
  | none =>
    rw [e1] at h1
    cases e2 : Frm.at' U.turn (m - U.head.length + U.turn.length) with
    | none => rfl
    | some b => rw [e2] at h1; cases h1
  | some a =>
    rw [e1] at h1 h2
    cases e2 : Frm.at' U.turn (m - U.head.length + U.turn.length) with
    | none => rw [e2] at h1; cases h1
    | some b =>
      rw [e2] at h2
      have : b = a + Frm.ris U.turn (m - U.head.length) := h2
      rw [this]
      rfl
theorem val_turns {U : Tab} (hl : 1 ≤ U.turn.length) (hz : Frm.Zr U.turn) {m : Nat} (hm : U.head.length ≤ m) : ∀ j : Nat, U.val (m + j * U.turn.length) = (U.val m).map fun a => a + (j : Int) * Frm.ris U.turn (m - U.head.length)
  | 0 => by
    rw [Nat.zero_mul, Nat.add_zero]
    cases U.val m with
    | none => rfl
    | some a => simp
  | j + 1 => by
    rw [Nat.add_mul, Nat.one_mul, ← Nat.add_assoc, val_turn hl hz (by omega), val_turns hl hz hm j]
    have e : Frm.ris U.turn (m + j * U.turn.length - U.head.length) = Frm.ris U.turn (m - U.head.length) := by
      unfold Frm.ris
      rw [show m + j * U.turn.length - U.head.length = (m - U.head.length) + j * U.turn.length by omega, Nat.add_mul_mod_self_right]
    rw [e]
    cases U.val m with
    | none => rfl
    | some a =>
      show some (a + (j : Int) * Frm.ris U.turn (m - U.head.length) + Frm.ris U.turn (m - U.head.length)) = some (a + ((j + 1 : Nat) : Int) * Frm.ris U.turn (m - U.head.length))
      rw [Int.natCast_add, Int.add_mul, Int.add_assoc]
      simp
/-- the rise over a round of that size -/
theorem rise_many {U : Tab} (hl : 1 ≤ U.turn.length) (hz : Frm.Zr U.turn) {m q : Nat} (hm : U.head.length ≤ m) {a : Int} (ha : U.val m = some a) : lawRise (U.val m) (U.val (m + q * U.turn.length)) = (q : Int) * Frm.ris U.turn (m - U.head.length) := by
  rw [val_turns hl hz hm, ha]
  show a + (q : Int) * Frm.ris U.turn (m - U.head.length) - a = _
  omega
theorem lawTab_val {U : Tab} (hl : 1 ≤ U.turn.length) (hz : Frm.Zr U.turn) {b s : Nat} (hb : U.head.length ≤ b) (hs : 1 ≤ s) (hd : U.turn.length ∣ s) (n : Nat) : (lawTab U.val b s).val n = U.val n := by
  obtain ⟨q, rfl⟩ := hd
  rw [Nat.mul_comm] at hs ⊢
  have hL : (lawTab U.val b (q * U.turn.length)).head.length = b := by simp [lawTab]
  have hT : (lawTab U.val b (q * U.turn.length)).turn.length = q * U.turn.length := by simp [lawTab]
  show (if n < (lawTab U.val b (q * U.turn.length)).head.length then _ else _) = _
  rw [hL]
  by_cases c : n < b
  · rw [if_pos c]
    show ((List.range b).map U.val).getD n none = _
    rw [List.getD_eq_getElem?_getD, List.getElem?_map, List.getElem?_range c]
    rfl
  · rw [if_neg c]
    unfold Frm.at'
    rw [hT]
    have hk : (n - b) % (q * U.turn.length) < q * U.turn.length := Nat.mod_lt _ (by omega)
    have e1 := Nat.div_add_mod (n - b) (q * U.turn.length)
    generalize (n - b) % (q * U.turn.length) = i at *
    generalize (n - b) / (q * U.turn.length) = k at *
    have hg : Frm.get (lawTab U.val b (q * U.turn.length)).turn i = (U.val (b + i), lawRise (U.val (b + i)) (U.val (b + i + q * U.turn.length))) := by
      unfold Frm.get lawTab
      dsimp only
      rw [List.getD_eq_getElem?_getD, List.getElem?_map, List.getElem?_range' hk]
      simp
    rw [hg]
    dsimp only
    have en : n = b + i + k * q * U.turn.length := by
      have : q * U.turn.length * k = k * q * U.turn.length := by rw [Nat.mul_comm, ← Nat.mul_assoc]
      omega
    rw [en, val_turns hl hz (show U.head.length ≤ b + i by omega) (k * q)]
    cases ha : U.val (b + i) with
    | none => rfl
    | some a =>
      have := rise_many hl hz (show U.head.length ≤ b + i by omega) (q := q) ha
      rw [ha] at this
      rw [this]
      show some (a + (k : Int) * ((q : Int) * _)) = some (a + ((k * q : Nat) : Int) * _)
      rw [Int.natCast_mul, Int.mul_assoc]
theorem lawTab_ok {U : Tab} (ok : U.Ok) {b q : Nat} {B : Int} (hb : U.head.length ≤ b) (h1 : b ≤ 1000) (hq : 1 ≤ q) (h2 : q * U.turn.length ≤ 120) (hB : ∀ p ∈ U.turn, p.2 ≤ B) (h3 : B * 120 < 2 ^ 60) : (lawTab U.val b (q * U.turn.length)).Ok := by
  have hl := ok.l1
  have hz := okP_zr ok.hp
  have hlq : q ≤ q * U.turn.length := Nat.le_mul_of_pos_right q (by omega)
  refine ⟨by simp [lawTab]; exact h1, by simp [lawTab]; omega, by simp [lawTab]; exact h2, fun a ha => ?_, fun p hp => ?_⟩
  · obtain ⟨n, _, rfl⟩ := List.mem_map.mp ha
    exact val_okA ok n
  · obtain ⟨n, hn, rfl⟩ := List.mem_map.mp hp
    have hn' : b ≤ n := by rw [List.mem_range'] at hn; omega
    have ha := val_okA ok n
    cases e : U.val n with
    | none =>
      have : lawRise none (U.val (n + q * U.turn.length)) = 0 := rfl
      rw [this]
      exact ⟨by decide, by decide, rfl⟩
    | some a =>
      have r := rise_many hl hz (show U.head.length ≤ n by omega) (q := q) e
      rw [e] at r ha
      rw [r]
      have hm : Frm.get U.turn ((n - U.head.length) % U.turn.length) ∈ U.turn := Frm.get_mem (Nat.mod_lt _ (by omega))
      obtain ⟨g1, g2, g3⟩ := ok.hp _ hm
      have g4 := hB _ hm
      have : Frm.ris U.turn (n - U.head.length) = (Frm.get U.turn ((n - U.head.length) % U.turn.length)).2 := rfl
      rw [this]
      generalize (Frm.get U.turn ((n - U.head.length) % U.turn.length)).2 = r at *
      refine ⟨Int.mul_nonneg (by omega) g1, ?_, ha⟩
      have : (q : Int) * r ≤ 120 * r := Int.mul_le_mul_of_nonneg_right (by omega) g1
      show (q : Int) * r < 2 ^ 60
      omega
where
  val_okA {U : Tab} (ok : U.Ok) (n : Nat) : okA (U.val n) := by
    unfold Tab.val
    split
    · rename_i h
      rw [List.getD_eq_getElem?_getD, List.getElem?_eq_getElem h]
      exact ok.ha _ (List.getElem_mem h)
    · unfold Frm.at'
      have hm : Frm.get U.turn ((n - U.head.length) % U.turn.length) ∈ U.turn := Frm.get_mem (Nat.mod_lt _ (by have := ok.l1; omega))
      obtain ⟨g1, _, g3⟩ := ok.hp _ hm
      generalize Frm.get U.turn ((n - U.head.length) % U.turn.length) = p at *
      obtain ⟨a, r⟩ := p
      cases a with
      | none => exact True.intro
      | some a =>
        show 0 ≤ a + _ * r
        have h0 : (0 : Int) ≤ a := g3
        have : 0 ≤ (((n - U.head.length) / U.turn.length : Nat) : Int) * r := Int.mul_nonneg (Int.natCast_nonneg _) g1
        omega
end Mp

set_option Elab.async false
set_option linter.all false
set_option maxRecDepth 100000
namespace Mp
/-! ### points, rays and the least amounts that they tell -/
structure Ray where
  n : Nat
  a : Int
  s : Nat
  r : Int
def encRay (ρ : Ray) : Val := .tup [.int (ρ.n : Int), .int ρ.a, .int (ρ.s : Int), .int ρ.r]
def encPt (p : Nat × Int) : Val := .tup [.int (p.1 : Int), .int p.2]
/-- an amount told at a length -/
def Tells (ps : List (Nat × Int)) (rs : List Ray) (m : Nat) (v : Int) : Prop := (m, v) ∈ ps ∨ ∃ ρ ∈ rs, ∃ i : Nat, m = ρ.n + i * ρ.s ∧ v = ρ.a + (i : Int) * ρ.r
def IsLeast (P : Int → Prop) : Option Int → Prop
  | none => ∀ v, ¬ P v
  | some a => P a ∧ ∀ v, P v → a ≤ v
theorem IsLeast.uniq {P : Int → Prop} {x y : Option Int} (h : IsLeast P x) (k : IsLeast P y) : x = y := by
  cases x with
  | none =>
    cases y with
    | none => rfl
    | some b => exact absurd k.1 (h b)
  | some a =>
    cases y with
    | none => exact absurd h.1 (k a)
    | some b => have h1 := h.2 b k.1; have h2 := k.2 a h.1; rw [show a = b by omega]
theorem IsLeast.imp {P Q : Int → Prop} {x : Option Int} (h : IsLeast P x) (e : ∀ v, P v ↔ Q v) : IsLeast Q x := by
  cases x with
  | none => exact fun v q => h v ((e v).mpr q)
  | some a => exact ⟨(e a).mp h.1, fun v q => h.2 v ((e v).mpr q)⟩
/-- the lesser of two, None where none is -/
def lo : Option Int → Option Int → Option Int
  | none, y => y
  | some a, none => some a
  | some a, some b => some (min a b)
theorem IsLeast.or {P Q : Int → Prop} {x y : Option Int} (h : IsLeast P x) (k : IsLeast Q y) : IsLeast (fun v => P v ∨ Q v) (lo x y) := by
  cases x with
  | none => cases y with
    | none => exact fun v q => q.elim (h v) (k v)
    | some b => exact ⟨.inr k.1, fun v q => q.elim (fun z => absurd z (h v)) (k.2 v)⟩
  | some a => cases y with
    | none => exact ⟨.inl h.1, fun v q => q.elim (h.2 v) fun z => absurd z (k v)⟩
    | some b =>
      refine ⟨?_, fun v q => ?_⟩
      · rcases Int.le_total a b with c | c
        · rw [Int.min_eq_left c]; exact .inl h.1
        · rw [Int.min_eq_right c]; exact .inr k.1
      · rcases q with q | q
        · have := h.2 v q; omega
        · have := k.2 v q; omega
/-- a row of a rest: first turn, amount at turn 0, rise -/
structure Row where
  f : Nat
  b : Int
  m : Int
  deriving DecidableEq
def encRow (w : Row) : Val := .tup [.int (w.f : Int), .int w.b, .int w.m]
def rowOf (turn : Nat) (ρ : Ray) (i : Nat) : Nat × Row :=
  ((ρ.n + i * ρ.s) % turn, ⟨(ρ.n + i * ρ.s) / turn, ρ.a + (i : Int) * ρ.r - (((ρ.n + i * ρ.s) / turn : Nat) : Int) * (ρ.r * (turn : Int) / (ρ.s : Int)), ρ.r * (turn : Int) / (ρ.s : Int)⟩)
def rowsOf (turn : Nat) (ρ : Ray) : List (Nat × Row) := (List.range (turn / ρ.s)).map (rowOf turn ρ)
def cls (turn : Nat) (rs : List Ray) (c : Nat) : List Row := ((rs.flatMap (rowsOf turn)).filter fun x => x.1 == c).map (·.2)
theorem mem_cls {turn c : Nat} {rs : List Ray} {w : Row} : w ∈ cls turn rs c ↔ ∃ ρ ∈ rs, ∃ i, i < turn / ρ.s ∧ rowOf turn ρ i = (c, w) := by
  unfold cls rowsOf
  simp only [List.mem_map, List.mem_filter, List.mem_flatMap, List.mem_range, beq_iff_eq, Prod.exists]
  constructor
  · rintro ⟨c', w', ⟨⟨ρ, hρ, i, hi, e⟩, rfl⟩, rfl⟩
    exact ⟨ρ, hρ, i, hi, e⟩
  · rintro ⟨ρ, hρ, i, hi, e⟩
    exact ⟨c, w, ⟨⟨ρ, hρ, i, hi, e⟩, rfl⟩, rfl⟩
theorem rows_tell {turn c t : Nat} {rs : List Ray} {v : Int} (ht : 1 ≤ turn) (hs : ∀ ρ ∈ rs, ρ.s ∣ turn) (hc : c < turn) :
    (∃ ρ ∈ rs, ∃ i : Nat, c + turn * t = ρ.n + i * ρ.s ∧ v = ρ.a + (i : Int) * ρ.r) ↔ ∃ w ∈ cls turn rs c, w.f ≤ t ∧ v = w.b + (t : Int) * w.m := by
  constructor
  · rintro ⟨ρ, hρ, i, e, ev⟩
    obtain ⟨K, hK⟩ := hs ρ hρ
    have s0 : 0 < ρ.s := Nat.pos_of_ne_zero fun z => by rw [z, Nat.zero_mul] at hK; omega
    have k0 : 0 < K := Nat.pos_of_ne_zero fun z => by rw [z, Nat.mul_zero] at hK; omega
    have hd : turn / ρ.s = K := by rw [hK]; exact Nat.mul_div_cancel_left K s0
    have more : ρ.r * (turn : Int) / (ρ.s : Int) = ρ.r * (K : Int) := by
      rw [hK, Int.natCast_mul, show ρ.r * ((ρ.s : Int) * (K : Int)) = ρ.r * (K : Int) * (ρ.s : Int) by rw [Int.mul_comm (ρ.s : Int), Int.mul_assoc]]
      exact Int.mul_ediv_cancel _ (by omega)
    have ei := Nat.div_add_mod i K
    have hj : i % K < K := Nat.mod_lt _ k0
    generalize i % K = j at *
    generalize i / K = q at *
    have e1 : c + turn * t = (ρ.n + j * ρ.s) + turn * q := by
      have : i * ρ.s = turn * q + j * ρ.s := by rw [← ei, Nat.add_mul, hK]; congr 1; rw [Nat.mul_right_comm, Nat.mul_comm K]
      omega
    have c1 : (ρ.n + j * ρ.s) % turn = c := by
      have := congrArg (· % turn) e1
      simp only [Nat.add_mul_mod_self_left] at this
      rw [← this, Nat.mod_eq_of_lt hc]
    have c2 : (ρ.n + j * ρ.s) / turn + q = t := by
      have : (c + turn * t) / turn = (ρ.n + j * ρ.s + turn * q) / turn := congrArg (· / turn) e1
      rw [Nat.add_mul_div_left _ _ (by omega), Nat.add_mul_div_left _ _ (by omega), Nat.div_eq_of_lt hc] at this
      omega
    refine ⟨_, mem_cls.mpr ⟨ρ, hρ, j, by rw [hd]; exact hj, by rw [rowOf, c1]⟩, by show (ρ.n + j * ρ.s) / turn ≤ t; omega, ?_⟩
    show v = ρ.a + (j : Int) * ρ.r - (((ρ.n + j * ρ.s) / turn : Nat) : Int) * (ρ.r * (turn : Int) / (ρ.s : Int)) + (t : Int) * (ρ.r * (turn : Int) / (ρ.s : Int))
    rw [more, ev, ← ei, ← c2]
    simp only [Int.natCast_add, Int.natCast_mul, Int.add_mul]
    rw [show (K : Int) * (q : Int) * ρ.r = (q : Int) * (ρ.r * (K : Int)) by rw [Int.mul_comm (K : Int), Int.mul_assoc, Int.mul_comm (K : Int)]]
    omega
  · rintro ⟨w, hw, hf, ev⟩
    obtain ⟨ρ, hρ, j, hj, e⟩ := mem_cls.mp hw
    obtain ⟨K, hK⟩ := hs ρ hρ
    have s0 : 0 < ρ.s := Nat.pos_of_ne_zero fun z => by rw [z, Nat.zero_mul] at hK; omega
    have more : ρ.r * (turn : Int) / (ρ.s : Int) = ρ.r * (K : Int) := by
      rw [hK, Int.natCast_mul, show ρ.r * ((ρ.s : Int) * (K : Int)) = ρ.r * (K : Int) * (ρ.s : Int) by rw [Int.mul_comm (ρ.s : Int), Int.mul_assoc]]
      exact Int.mul_ediv_cancel _ (by omega)
    unfold rowOf at e
    obtain ⟨e1, e2⟩ := Prod.mk.inj e
    subst e2
    dsimp only at hf ev
    have dm := Nat.div_add_mod (ρ.n + j * ρ.s) turn
    rw [e1] at dm
    refine ⟨ρ, hρ, j + (t - (ρ.n + j * ρ.s) / turn) * K, ?_, ?_⟩
    · have h1 : (j + (t - (ρ.n + j * ρ.s) / turn) * K) * ρ.s = j * ρ.s + (t - (ρ.n + j * ρ.s) / turn) * turn := by
        rw [Nat.add_mul, Nat.mul_assoc, Nat.mul_comm K, ← hK]
      rw [h1]
      generalize (ρ.n + j * ρ.s) / turn = f at dm hf ⊢
      have : turn * t = turn * f + (t - f) * turn := by rw [Nat.mul_comm (t - f), ← Nat.mul_add]; congr 1; omega
      omega
    · rw [ev, more]
      generalize (ρ.n + j * ρ.s) / turn = f at *
      have : ((j + (t - f) * K : Nat) : Int) = (j : Int) + ((t : Int) - (f : Int)) * (K : Int) := by rw [Int.natCast_add, Int.natCast_mul]; congr 2; omega
      rw [this, Int.add_mul, Int.mul_assoc, Int.mul_comm (K : Int), Int.sub_mul]
      omega
/-- a row no later in the order of rises, amounts, first turns -/
def rowLe (x y : Row) : Prop := x.m < y.m ∨ (x.m = y.m ∧ (x.b < y.b ∨ (x.b = y.b ∧ x.f ≤ y.f)))
def lastT (best : Row) (rows : List Row) : Int := rows.foldl (fun found w => if w.m > best.m ∧ w.b < best.b then max found (-((w.b - best.b) / (w.m - best.m))) else found) (best.f : Int)
theorem lastT_ge (best : Row) : ∀ (rows : List Row) (x : Int), x ≤ rows.foldl (fun found w => if w.m > best.m ∧ w.b < best.b then max found (-((w.b - best.b) / (w.m - best.m))) else found) x ∧
    ∀ w ∈ rows, w.m > best.m → w.b < best.b → -((w.b - best.b) / (w.m - best.m)) ≤ rows.foldl (fun found w => if w.m > best.m ∧ w.b < best.b then max found (-((w.b - best.b) / (w.m - best.m))) else found) x
  | [], x => ⟨Int.le_refl _, fun w h => nomatch h⟩
  | w :: r, x => by
    rw [List.foldl_cons]
    obtain ⟨h1, h2⟩ := lastT_ge best r (if w.m > best.m ∧ w.b < best.b then max x (-((w.b - best.b) / (w.m - best.m))) else x)
    refine ⟨Int.le_trans ?_ h1, fun z hz a b => ?_⟩
    · split
      · exact Int.le_max_left _ _
      · exact Int.le_refl _
    · rcases List.mem_cons.mp hz with rfl | hz
      · refine Int.le_trans ?_ h1
        rw [if_pos ⟨a, b⟩]
        exact Int.le_max_right _ _
      · exact h2 z hz a b
theorem best_least {rows : List Row} {best : Row} {t : Nat} (hb : best ∈ rows) (hm : ∀ w ∈ rows, rowLe best w) (ht : lastT best rows ≤ (t : Int)) : IsLeast (fun v => ∃ w ∈ rows, w.f ≤ t ∧ v = w.b + (t : Int) * w.m) (some (best.b + (t : Int) * best.m)) := by
  obtain ⟨h1, h2⟩ := lastT_ge best rows (best.f : Int)
  refine ⟨⟨best, hb, by unfold lastT at ht; omega, rfl⟩, ?_⟩
  rintro v ⟨w, hw, _, rfl⟩
  rcases hm w hw with c | ⟨c, c2⟩
  · by_cases q : w.b < best.b
    · have h3 := h2 w hw c q
      unfold lastT at ht
      have h4 : -((w.b - best.b) / (w.m - best.m)) ≤ (t : Int) := Int.le_trans h3 ht
      have h5 : -(t : Int) ≤ (w.b - best.b) / (w.m - best.m) := by omega
      have h6 := (Int.le_ediv_iff_mul_le (show 0 < w.m - best.m by omega)).mp h5
      rw [Int.neg_mul, Int.mul_sub] at h6
      omega
    · have : (t : Int) * best.m ≤ (t : Int) * w.m := Int.mul_le_mul_of_nonneg_left (by omega) (by omega)
      omega
  · rw [c]
    rcases c2 with c2 | ⟨c2, _⟩ <;> omega
end Mp

set_option Elab.async false
set_option linter.all false
set_option maxRecDepth 100000
namespace Ev
open PySem PySem.Spec PyProof.Rows L2 Mp
theorem is_integer_ok {v : Val} {h : Hh} (hv : v.thing = true) : F_is_integer [v] h = .ok (.bl v.isInt) h := by
  refine run_rt (h1 := h) ?_ rfl List.take_length
  cases v <;> simp -implicitDefEqProofs [S_is_integer, isiP, tyOfV, isTy] at hv ⊢
theorem is_within_ok {v : Val} {lo hi : Int} {h : Hh} (hv : v.thing = true) : F_is_within [v, .int lo, .int hi] h = .ok (.bl (v.isIn lo hi)) h := by
  refine run_rt (h1 := h) ?_ rfl List.take_length
  cases v <;> simp -implicitDefEqProofs [S_is_within, is_integer_ok, cmpP] at hv ⊢
  split <;> simp_all <;> omega
theorem is_number_ok {v : Val} {h : Hh} (hv : v.thing = true) : F_is_number [v] h = .ok (.bl v.isNum) h := by
  refine run_rt (h1 := h) ?_ rfl List.take_length
  cases v <;> simp -implicitDefEqProofs [S_is_number, is_integer_ok, cmpP] at hv ⊢
theorem is_sized_ok {v : Val} {lo hi : Int} {h : Hh} (hv : v.thing = true) : F_is_sized [v, .int lo, .int hi] h = .ok (.bl (v.sized lo hi)) h := by
  refine run_rt (h1 := h) ?_ rfl List.take_length
  cases v <;> simp -implicitDefEqProofs [S_is_sized, isiP, tyOfV, isTy, cmpP, lenP] at hv ⊢
  split <;> simp_all <;> omega
theorem is_amount_ok {v : Val} {h : Hh} (hv : v.thing = true) : F_is_amount [v] h = .ok (.bl v.isAmt) h := by
  refine run_rt (h1 := h) ?_ rfl List.take_length
  cases v <;> simp -implicitDefEqProofs [S_is_amount, is_number_ok, isNP] at hv ⊢
theorem is_place_ok {v : Val} {h : Hh} (hd : v.data = true) : F_is_place [v] h = .ok (.bl v.isPlc) h := by
  have hv := data_thing hd
  refine run_rt (h1 := h) ?_ rfl List.take_length
  cases v with
  | tup l =>
    rcases l with _ | ⟨a, _ | ⟨b, _ | ⟨c, l⟩⟩⟩
    · simp -implicitDefEqProofs [S_is_place, is_sized_ok]
    · simp -implicitDefEqProofs [S_is_place, is_sized_ok]
    · have ha := data_thing (data_tup hd a (by simp))
      have hb := data_thing (data_tup hd b (by simp))
      simp -implicitDefEqProofs [S_is_place, is_sized_ok, ha, hb, is_amount_ok, is_number_ok]
      cases a <;> cases b <;> simp [notNP]
      · rename_i i
        by_cases q : i < 0
        · simp [q]
          try omega
        · simp [q]
          try omega
      · rename_i i j
        by_cases q : i < 0
        · simp [q]
          try omega
        · by_cases q2 : 0 ≤ j
          · simp [q, q2]
            try omega
          · simp [q, q2]
            try omega
    · have e : ((l.length : Int) + 1 + 1 + 1 < 2 ∨ 2 < (l.length : Int) + 1 + 1 + 1) := by omega
      have e2 : ¬ ((2 : Int) ≤ (l.length : Int) + 1 + 1 + 1 ∧ (l.length : Int) + 1 + 1 + 1 ≤ 2) := by omega
      simp -implicitDefEqProofs [S_is_place, is_sized_ok, e]
  | ty t => simp at hv
  | _ => simp -implicitDefEqProofs [S_is_place, is_sized_ok]
theorem is_table_ok {v : Val} {h : Hh} (hd : v.data = true) : F_is_table [v] h = .ok (.bl v.isTab) h := by
  have hv := data_thing hd
  refine run_rt (h1 := h) ?_ rfl List.take_length
  cases v with
  | tup l =>
    rcases l with _ | ⟨a, _ | ⟨b, _ | ⟨c, l⟩⟩⟩
    · simp -implicitDefEqProofs [S_is_table, is_sized_ok, Val.isTab, tabL]
    · simp -implicitDefEqProofs [S_is_table, is_sized_ok, Val.isTab, tabL]
    · have da := data_tup hd a (by simp)
      have db := data_tup hd b (by simp)
      have ha := data_thing da
      have hb := data_thing db
      have one : ∀ {la : List Val}, a = .tup la → la.length ≤ 1000 → eComp false [1] (iSeq (eOp ixP (eVar 0) (eC (.int 0)))) (gName 1) tTrue (eFn F_is_amount (aCons (eVar 1) aNil)) [some (.tup [a, b]), none] h = .ok (.lst (la.map fun w => .bl w.isAmt)) h := fun {la} e hl => by
        subst e
        refine x_comp (iv := ⟨la, []⟩) (h1 := h) (by simp [seqI]) (comp_map la [] (fun w hw => ⟨_, rfl, ?_⟩) (by simp; exact sz_le (by omega)))
        simp [wipeE, is_amount_ok (data_thing (data_tup da w hw))]
      have two : ∀ {lb : List Val}, b = .tup lb → lb.length ≤ 120 → eComp false [1] (iSeq (eOp ixP (eVar 0) (eC (.int 1)))) (gName 1) tTrue (eFn F_is_place (aCons (eVar 1) aNil)) [some (.tup [a, b]), none] h = .ok (.lst (lb.map fun w => .bl w.isPlc)) h := fun {lb} e hl => by
        subst e
        refine x_comp (iv := ⟨lb, []⟩) (h1 := h) (by simp [seqI]) (comp_map lb [] (fun w hw => ⟨_, rfl, ?_⟩) (by simp; exact sz_le (by omega)))
        simp [wipeE, is_place_ok (data_tup db w hw)]
      cases a with
      | tup la =>
        cases b with
        | tup lb =>
          by_cases q1 : la.length ≤ 1000
          · by_cases q2 : 1 ≤ lb.length
            · by_cases q3 : lb.length ≤ 120
              · have e1 := one rfl q1
                have e2 := two rfl q3
                have z1 : (la.length : Int) ≤ 1000 := by omega
                have z2 : (1 : Int) ≤ (lb.length : Int) := by omega
                have z3 : (lb.length : Int) ≤ 120 := by omega
                simp -implicitDefEqProofs [S_is_table, is_sized_ok, Val.isTab, tabL, e1, e2, all_map, q1, q2, q3, z1, z2, z3]
                cases la.all Val.isAmt <;> simp
              · have z1 : (la.length : Int) ≤ 1000 := by omega
                have z3 : ¬ (lb.length : Int) ≤ 120 := by omega
                simp -implicitDefEqProofs [S_is_table, is_sized_ok, Val.isTab, tabL, q3, z1, z3]
            · have z1 : (la.length : Int) ≤ 1000 := by omega
              have z2 : ¬ (1 : Int) ≤ (lb.length : Int) := by omega
              simp -implicitDefEqProofs [S_is_table, is_sized_ok, Val.isTab, tabL, q2, z1, z2]
          · have z1 : ¬ (la.length : Int) ≤ 1000 := by omega
            simp -implicitDefEqProofs [S_is_table, is_sized_ok, Val.isTab, tabL, q1, z1]
        | _ =>
          by_cases q1 : (la.length : Int) ≤ 1000
          · simp -implicitDefEqProofs [S_is_table, is_sized_ok, Val.isTab, tabL, hb, q1]
          · simp -implicitDefEqProofs [S_is_table, is_sized_ok, Val.isTab, tabL, q1]
      | _ => simp -implicitDefEqProofs [S_is_table, is_sized_ok, Val.isTab, tabL, ha]
    · have e2 : ¬ ((2 : Int) ≤ (l.length : Int) + 1 + 1 + 1 ∧ (l.length : Int) + 1 + 1 + 1 ≤ 2) := by omega
      have e : ((l.length : Int) + 1 + 1 + 1 < 2 ∨ 2 < (l.length : Int) + 1 + 1 + 1) := by omega
      simp -implicitDefEqProofs [S_is_table, is_sized_ok, Val.isTab, tabL, e]
  | ty t => simp at hv
  | _ => simp -implicitDefEqProofs [S_is_table, is_sized_ok, Val.isTab]
end Ev

set_option Elab.async false
set_option linter.all false
set_option maxRecDepth 100000
namespace Ev
open PySem PySem.Spec PyProof.Rows L2 Mp
theorem check_table_ok {v : Val} {h : Hh} (hd : v.data = true) (ht : v.isTab = true) : F_check_table [v] h = .ok .non h := by
  refine run_nx (h1 := h) (en := [some v]) ?_ List.take_length
  simp -implicitDefEqProofs [S_check_table, is_table_ok hd, ht]
theorem check_length_ok {v : Val} {h : Hh} (hd : v.thing = true) (ht : v.isNum = true) : F_check_length [v] h = .ok .non h := by
  refine run_nx (h1 := h) (en := [some v]) ?_ List.take_length
  simp -implicitDefEqProofs [S_check_length, is_number_ok hd, ht]
theorem raw_value_ok {T : Tab} {n : Nat} {h : Hh} (ok : T.Ok) : F_raw_value [encT T, .int n] h = .ok (encA (T.val n)) h := by
  refine run_rt (h1 := h) ?_ (encA_pl _ _) List.take_length
  unfold Tab.val
  by_cases q : n < T.head.length
  · have e : ixP (.tup (T.head.map encA)) (.int n) h = .ok (encA (T.head.getD n none)) h := ix_tup (by rw [List.getElem?_map, List.getElem?_eq_getElem q, List.getD_eq_getElem?_getD, List.getElem?_eq_getElem q]; rfl)
    simp -implicitDefEqProofs [S_raw_value, encT, e, q]
  · have hl := ok.l1
    have hl2 := ok.l2
    have e0 : ((n : Int) - (T.head.length : Int)) = ((n - T.head.length : Nat) : Int) := by omega
    generalize n - T.head.length = k at e0
    have m1 : modP (.int (k : Int)) (.int (T.turn.length : Int)) h = .ok (.int ((k % T.turn.length : Nat) : Int)) h := by rw [mod_sm (by omega)]; rfl
    have m2 : divP (.int (k : Int)) (.int (T.turn.length : Int)) h = .ok (.int ((k / T.turn.length : Nat) : Int)) h := by rw [div_sm (by omega) (by omega)]; rfl
    have hk : k % T.turn.length < T.turn.length := Nat.mod_lt _ (by omega)
    have e2 : ixP (.tup (T.turn.map encP)) (.int ((k % T.turn.length : Nat) : Int)) h = .ok (encP (T.turn[k % T.turn.length])) h := ix_tup (by rw [List.getElem?_map, List.getElem?_eq_getElem hk]; rfl)
    have hp := ok.hp _ (List.getElem_mem hk)
    have e3 : T.turn.getD (k % T.turn.length) (none, 0) = T.turn[k % T.turn.length] := by rw [List.getD_eq_getElem?_getD, List.getElem?_eq_getElem hk]; rfl
    unfold Frm.at' Frm.get
    rw [e3]
    generalize T.turn[k % T.turn.length] = p at e2 hp
    obtain ⟨a, r⟩ := p
    obtain ⟨h1, h2, h3⟩ := hp
    have mm : mulP false (.int ((k / T.turn.length : Nat) : Int)) (.int r) h = .ok (.int (((k / T.turn.length : Nat) : Int) * r)) h := mul_sm (by simp only at h1 h2; omega)
    cases a with
    | none => simp -implicitDefEqProofs [S_raw_value, encT, q, e0, m1, m2, e2, encP, -Int.natCast_emod, -Int.natCast_ediv]
    | some a => simp -implicitDefEqProofs [S_raw_value, encT, q, e0, m1, m2, e2, encP, mm, -Int.natCast_emod, -Int.natCast_ediv]
theorem raw_value_int {T : Tab} {z : Int} {h : Hh} (ok : T.Ok) (hz : 0 ≤ z) : F_raw_value [encT T, .int z] h = .ok (encA (T.val z.toNat)) h := by
  have e := raw_value_ok (h := h) (n := z.toNat) ok
  rwa [Int.toNat_of_nonneg hz] at e
theorem value_ok {T : Tab} {z : Int} {h : Hh} (ok : T.Ok) (hz : 0 ≤ z) : F_value [encT T, .int z] h = .ok (encA (T.val z.toNat)) h := by
  refine run_rt (h1 := h) ?_ (encA_pl _ _) List.take_length
  simp -implicitDefEqProofs [S_value, check_table_ok (encT_data T) (encT_tab ok), check_length_ok, hz, raw_value_int ok hz]
theorem row_of_ok {T : Tab} {z : Int} {m : Nat} {h : Hh} (ok : T.Ok) (hz : 0 ≤ z) (hm : m ≤ 2000) : F_row_of [encT T, .int z, .int m] h = .ok (.tup ((List.range m).map fun i => encA (T.val (z.toNat + i)))) h := by
  refine run_rt (h1 := h) ?_ (by rw [Val.bel]; exact belL_map fun _ _ => encA_pl _ _) List.take_length
  have one : eComp false [3] (iRng1 (aCons (eVar 2) aNil)) (Mp.gName 3) tTrue (eFn F_raw_value (aCons (eVar 0) (aCons (eOp (addP false) (eVar 1) (eVar 3)) aNil))) [some (encT T), some (.int z), some (.int m), none] h = .ok (.lst ((List.range m).map fun i => encA (T.val (z.toNat + i)))) h := by
    refine x_comp (iv := ⟨rangeV 0 m, []⟩) (h1 := h) (h2 := h) (by simp -implicitDefEqProofs [rng1I]; omega) ?_
    have e := comp_map (tg := Mp.gName 3) (el := eFn F_raw_value (aCons (eVar 0) (aCons (eOp (addP false) (eVar 1) (eVar 3)) aNil))) (env := wipeE [some (encT T), some (.int z), some (.int m), none] [3]) (h := h) (f := fun v => match v with | .int i => encA (T.val (z + i).toNat) | _ => .non) (rangeV 0 m) [] (fun v hv => ?_) (by simp -implicitDefEqProofs [rangeV]; exact sz_le (by omega))
    · rw [e, rangeV, List.nil_append, List.map_map]
      simp only [Int.sub_zero, Int.toNat_natCast]
      refine congrArg (fun l => R.ok l h) (List.map_congr_left fun i hi => ?_)
      show encA (T.val (z + (0 + (i : Int))).toNat) = _
      rw [show (z + (0 + (i : Int))).toNat = z.toNat + i by omega]
    · obtain ⟨i, hi, rfl⟩ := List.mem_map.mp hv
      refine ⟨_, rfl, ?_⟩
      have hz2 : 0 ≤ z + (i : Int) := by omega
      simp -implicitDefEqProofs [wipeE, raw_value_int ok hz2]
  have hb : (Val.int (m : Int)).isIn 0 2000 = true := by simp; omega
  simp -implicitDefEqProofs [S_row_of, check_table_ok (encT_data T) (encT_tab ok), check_length_ok, hz, is_within_ok, hb, one, tupleP, lsq]
end Ev

set_option Elab.async false
set_option linter.all false
set_option maxRecDepth 100000
namespace Mp
open PySem PyProof.Rows
def encR (t : List Frm.P) : Val := .tup (t.map encP)
theorem ne_A (a b : Option Int) (h : Hh) : neP (encA a) (encA b) h = .ok (.bl (!decide (a = b))) h := by
  cases a <;> cases b <;> simp -implicitDefEqProofs
end Mp
namespace Ev
open PySem PySem.Spec PyProof.Rows L2 Mp
theorem ix_R {t : List Frm.P} {i : Nat} {h : Hh} (hi : i < t.length) : ixP (encR t) (.int (i : Int)) h = .ok (.tup [encA (Frm.get t i).1, .int (Frm.get t i).2]) h := by
  refine ix_tup ?_
  rw [List.getElem?_map, List.getElem?_eq_getElem hi]
  unfold Frm.get
  rw [List.getD_eq_getElem?_getD, List.getElem?_eq_getElem hi]
  rfl
/-- a tuple or a list of places, as it stands in a heap -/
structure SeqR (w : Val) (h : Hh) (t : List Frm.P) : Prop where
  len : lenP [w] h = .ok (.int t.length) h
  ix : ∀ {i : Nat}, i < t.length → ixP w (.int (i : Int)) h = .ok (.tup [encA (Frm.get t i).1, .int (Frm.get t i).2]) h
  sl : ∀ m : Nat, ∃ u, slP false w none (some (m : Int)) h = .ok u h ∧ seqI u h = .ok ⟨(t.take m).map encP, []⟩ h
  tup : tupleP [w] h = .ok (encR t) h
theorem cut_take' (l : List Val) (m : Nat) : cutL l none (some (m : Int)) = l.take m := by
  unfold cutL
  rw [HT.sIx_none, HT.sIx_nat]
  simp
theorem seqR_tup (h : Hh) (t : List Frm.P) : SeqR (encR t) h t := ⟨by simp [encR], fun hi => ix_R hi, fun m => ⟨.tup ((t.take m).map encP), by
  show R.ok (Val.tup (cutL (t.map encP) none (some (m : Int)))) h = _
  rw [cut_take', List.map_take], rfl⟩, rfl⟩
theorem seqR_lsq {w : Val} {h : Hh} {t : List Frm.P} (hw : ∀ l, w ≠ .tup l) (e : lsq w h = some (t.map encP)) : SeqR w h t := by
  have hg : ∀ {i : Nat}, i < t.length → L2.atI (t.map encP) (i : Int) = some (.tup [encA (Frm.get t i).1, .int (Frm.get t i).2]) := fun {i} hi => by
    rw [L2.atI_nat (v := .tup [encA (Frm.get t i).1, .int (Frm.get t i).2])]
    rw [List.getElem?_map, List.getElem?_eq_getElem hi]
    unfold Frm.get
    rw [List.getD_eq_getElem?_getD, List.getElem?_eq_getElem hi]
    rfl
  cases w with
  | tup l => exact absurd rfl (hw l)
  | lst l =>
    refine ⟨by unfold lenP; dsimp only; rw [e]; simp, fun hi => by unfold ixP; dsimp only; rw [e]; dsimp only; rw [hg hi], fun m => ⟨.lst ((t.take m).map encP), by unfold slP; dsimp only; rw [e]; dsimp only; rw [cut_take', List.map_take]; rfl, rfl⟩, by unfold tupleP; dsimp only; rw [e]; rfl⟩
  | fz l =>
    refine ⟨by unfold lenP; dsimp only; rw [e]; simp, fun hi => by unfold ixP; dsimp only; rw [e]; dsimp only; rw [hg hi], fun m => ⟨.lst ((t.take m).map encP), by unfold slP; dsimp only; rw [e]; dsimp only; rw [cut_take', List.map_take]; rfl, rfl⟩, by unfold tupleP; dsimp only; rw [e]; rfl⟩
  | ref n =>
    refine ⟨by unfold lenP; dsimp only; rw [e]; simp, fun hi => by unfold ixP; dsimp only; rw [e]; dsimp only; rw [hg hi], fun m => ⟨.lst ((t.take m).map encP), by unfold slP; dsimp only; rw [e]; dsimp only; rw [cut_take', List.map_take]; rfl, rfl⟩, by unfold tupleP; dsimp only; rw [e]; rfl⟩
  | _ => cases e
theorem is_round_gen {t : List Frm.P} {m : Nat} {h : Hh} {w : Val} (sq : SeqR w h t) (hm : 1 ≤ m) (hl : m ≤ t.length) (h2 : t.length ≤ 1000) : F_is_round [w, .int m] h = .ok (.bl (Frm.isRound t m)) h := by
  refine run_rt (h1 := h) ?_ rfl List.take_length
  have fnd := for_find (h := h) (g := Mp.gName 3) (b := B_is_round_0) (it := iRng2 (aCons (eVar 1) (aCons (eVar 2) aNil)))
    (fun e => ∃ x3 x4 x5 x6 x7, e = [some (w), some (.int (m : Int)), some (.int (t.length : Int)), x3, x4, x5, x6, x7])
    (fun v => match v with | .int i => !Frm.tie t.length m i.toNat (Frm.get t (i.toNat % m)) (Frm.get t i.toNat) | _ => false) (fun _ => .bl false) (items := rangeV m t.length) (env := [some (w), some (.int (m : Int)), some (.int (t.length : Int)), none, none, none, none, none])
    (by simp -implicitDefEqProofs; exact rng2 (by omega) (by omega) (by omega) (by omega)) (fun v hv e hI => ?_) ⟨_, _, _, _, _, rfl⟩
  · have e : (rangeV m t.length).find? (fun v => match v with | .int i => !Frm.tie t.length m i.toNat (Frm.get t (i.toNat % m)) (Frm.get t i.toNat) | _ => false) = ((List.range' m (t.length - m)).find? fun i => !Frm.tie t.length m i (Frm.get t (i % m)) (Frm.get t i)).map fun (i : Nat) => Val.int (i : Int) := by
      rw [show rangeV m t.length = (List.range' m (t.length - m)).map fun (i : Nat) => Val.int (i : Int) by
        unfold rangeV
        rw [List.range'_eq_map_range, List.map_map, show ((t.length : Int) - (m : Int)).toNat = t.length - m by omega]
        refine List.map_congr_left fun i _ => ?_
        show Val.int ((m : Int) + (i : Int)) = Val.int ((m + i : Nat) : Int)
        rw [Int.natCast_add], List.find?_map]
      rfl
    rw [e] at fnd
    have e2 : Frm.isRound t m = ((List.range' m (t.length - m)).find? fun i => !Frm.tie t.length m i (Frm.get t (i % m)) (Frm.get t i)).isNone := by
      unfold Frm.isRound
      rw [Bool.eq_iff_iff, List.all_eq_true, Option.isNone_iff_eq_none, List.find?_eq_none]
      refine ⟨fun z x hx => by simp [z x hx], fun z x hx => by simpa using z x hx⟩
    rw [e2]
    unfold S_is_round
    cases hf : (List.range' m (t.length - m)).find? fun i => !Frm.tie t.length m i (Frm.get t (i % m)) (Frm.get t i) with
    | none =>
      rw [hf] at fnd
      obtain ⟨e3, ⟨x3, x4, x5, x6, x7, rfl⟩, e4⟩ := fnd
      have : lenP [w] h = .ok (.int t.length) h := sq.len
      simp -implicitDefEqProofs [this, e4]
    | some i =>
      rw [hf] at fnd
      have : lenP [w] h = .ok (.int t.length) h := sq.len
      simp -implicitDefEqProofs at fnd
      simp -implicitDefEqProofs [this, fnd]
  · obtain ⟨x3, x4, x5, x6, x7, rfl⟩ := hI
    obtain ⟨i, hi1, hi2, rfl⟩ := mem_rangeV hv
    refine ⟨_, rfl, ?_⟩
    unfold B_is_round_0
    have hk : i.toNat < t.length := by omega
    have hk2 : i.toNat % m < t.length := Nat.lt_of_le_of_lt (Nat.mod_le _ _) hk
    have ei : i = (i.toNat : Int) := by omega
    have a1 := sq.ix hk
    have a2 := sq.ix hk2
    have a3 : modP (.int (i.toNat : Int)) (.int (m : Int)) h = .ok (.int ((i.toNat % m : Nat) : Int)) h := by rw [mod_sm (by omega), Int.natCast_emod]
    generalize i.toNat = k at *
    subst ei
    dsimp only
    rw [Int.toNat_natCast]
    unfold Frm.tie
    generalize Frm.get t k = p at *
    generalize Frm.get t (k % m) = o at *
    obtain ⟨b, rb⟩ := p
    obtain ⟨a, ra⟩ := o
    have hz2 : (1000000 : Nat) ≤ sizeLine := sz_le (by omega)
    have hz : 2 ≤ sizeLine := by omega
    have m1 : ∀ x : Int, mulP false (.int x) (.int (t.length : Int)) h = .ok (.int (x * (t.length : Int))) h := fun x => mul_sm (by omega)
    have hm3 : k % m ≤ k := Nat.mod_le _ _
    have m2 : ∀ x : Int, mulP false (.int x) (.int ((k : Int) - ((k % m : Nat) : Int))) h = .ok (.int (x * ((k : Int) - ((k % m : Nat) : Int)))) h := fun x => mul_sm (by omega)
    by_cases q : ra = rb
    · subst q
      cases a with
      | none =>
        cases b with
        | none =>
          refine .inr ⟨by simp, _, ⟨some (.int (k : Int)), some .non, some (.int ra), some .non, some (.int ra), rfl⟩, ?_⟩
          simp -implicitDefEqProofs [a1, a2, a3, hz, -Int.natCast_emod]
        | some b =>
          refine .inl ⟨by simp, ?_⟩
          simp -implicitDefEqProofs [a1, a2, a3, hz, -Int.natCast_emod]
      | some a =>
        cases b with
        | none =>
          refine .inl ⟨by simp, ?_⟩
          simp -implicitDefEqProofs [a1, a2, a3, hz, -Int.natCast_emod]
        | some b =>
          by_cases z : (b - a) * (t.length : Int) = ra * ((k : Int) - ((k % m : Nat) : Int))
          · refine .inr ⟨by simp -implicitDefEqProofs [z, -Int.natCast_emod], _, ⟨some (.int (k : Int)), some (.int a), some (.int ra), some (.int b), some (.int ra), rfl⟩, ?_⟩
            simp -implicitDefEqProofs [a1, a2, a3, hz, m1, m2, z, -Int.natCast_emod]
          · refine .inl ⟨by simp -implicitDefEqProofs [z, -Int.natCast_emod], ?_⟩
            simp -implicitDefEqProofs [a1, a2, a3, hz, m1, m2, z, -Int.natCast_emod]
    · refine .inl ⟨by simp [q], ?_⟩
      simp -implicitDefEqProofs [a1, a2, a3, hz, q, -Int.natCast_emod]
end Ev

set_option Elab.async false
set_option linter.all false
set_option maxRecDepth 100000
namespace Mp
open PySem PyProof.Rows
theorem cut_take (l : List Val) (m : Nat) : cutL l none (some (m : Int)) = l.take m := by
  unfold cutL
  rw [HT.sIx_none, HT.sIx_nat]
  simp
theorem find_range (q : Nat → Bool) (a n : Nat) : (rangeV (a : Int) ((a : Int) + (n : Int))).find? (fun v => match v with | .int i => q i.toNat | _ => false) = ((List.range' a n).find? q).map fun (i : Nat) => Val.int (i : Int) := by
  rw [show rangeV (a : Int) ((a : Int) + (n : Int)) = (List.range' a n).map fun (i : Nat) => Val.int (i : Int) by
    unfold rangeV
    rw [List.range'_eq_map_range, List.map_map, show ((a : Int) + (n : Int) - (a : Int)).toNat = n by omega]
    refine List.map_congr_left fun i _ => ?_
    show Val.int ((a : Int) + (i : Int)) = Val.int ((a + i : Nat) : Int)
    rw [Int.natCast_add], List.find?_map]
  rfl
theorem encR_pl (t : List Frm.P) (n : Nat) : (encR t).bel n = true := by unfold encR Val.bel; exact belL_map fun p _ => encP_pl p n
end Mp
namespace Ev
open PySem PySem.Spec PyProof.Rows L2 Mp
theorem least_round_gen {t : List Frm.P} {h : Hh} {w : Val} (sq : SeqR w h t) (hl : 1 ≤ t.length) (h2 : t.length ≤ 120) : F_least_round [w] h = .ok (encR (Frm.leastRound t)) h := by
  refine run_rt (h1 := h) ?_ (encR_pl _ _) List.take_length
  have hz : 1000000 ≤ sizeLine := sz_le (by omega)
  have fnd := for_find (h := h) (g := Mp.gName 2) (b := B_least_round_0) (it := iRng2 (aCons (eC (.int 1)) (aCons (eOp (addP false) (eVar 1) (eC (.int 1))) aNil)))
    (fun e => ∃ x2 x3 x4, e = [some w, some (.int (t.length : Int)), x2, x3, x4])
    (fun v => match v with | .int i => Frm.good t i.toNat | _ => false) (fun v => match v with | .int i => encR (Frm.thin t i.toNat) | _ => .non) (items := rangeV 1 (1 + t.length)) (env := [some w, some (.int (t.length : Int)), none, none, none])
    (by simp -implicitDefEqProofs; rw [Int.add_comm]; exact rng2 (by omega) (by omega) (by omega) (by omega)) (fun v hv e hI => ?_) ⟨_, _, _, rfl⟩
  · have fr := find_range (Frm.good t) 1 t.length
    rw [show ((1 : Nat) : Int) = 1 from rfl] at fr
    rw [fr] at fnd
    have hlen : lenP [w] h = .ok (.int t.length) h := sq.len
    unfold S_least_round Frm.leastRound Frm.leastM
    cases hf : (List.range' 1 t.length).find? (Frm.good t) with
    | none =>
      rw [hf] at fnd
      obtain ⟨e3, ⟨x3, x4, x5, rfl⟩, e4⟩ := fnd
      rw [Option.getD_none, Frm.thin_whole hl]
      have : tupleP [w] h = .ok (encR t) h := sq.tup
      simp -implicitDefEqProofs [hlen, e4, this]
    | some i =>
      rw [hf] at fnd
      dsimp only [Option.map_some] at fnd
      rw [Int.toNat_natCast] at fnd
      simp -implicitDefEqProofs [hlen, fnd]
  · obtain ⟨x2, x3, x4, rfl⟩ := hI
    obtain ⟨i, hi1, hi2, rfl⟩ := mem_rangeV hv
    refine ⟨_, rfl, ?_⟩
    obtain ⟨k, rfl⟩ : ∃ k : Nat, i = (k : Int) := ⟨i.toNat, by omega⟩
    dsimp only
    rw [Int.toNat_natCast]
    have a3 : modP (.int (t.length : Int)) (.int (k : Int)) h = .ok (.int ((t.length % k : Nat) : Int)) h := by rw [mod_sm (by omega), Int.natCast_emod]
    have a4 := is_round_gen (h := h) (t := t) (m := k) sq (by omega) (by omega) (by omega)
    have one : eComp false [3, 4] (iSeq (eSl false (eVar 0) oNone (oSome (eVar 2)))) (Mp.gTup (Mp.gCons (Mp.gName 3) (Mp.gCons (Mp.gName 4) Mp.gNil))) tTrue (eTup (aCons (eVar 3) (aCons (eOp divP (eOp (mulP false) (eVar 4) (eVar 2)) (eVar 1)) aNil))) [some w, some (.int (t.length : Int)), some (.int (k : Int)), x3, x4] h = .ok (.lst ((Frm.thin t k).map encP)) h := by
      refine x_comp (iv := ⟨(t.take k).map encP, []⟩) (h1 := h) (h2 := h) ?_ ?_
      · obtain ⟨u, hu1, hu2⟩ := sq.sl k
        simp -implicitDefEqProofs [hu1, hu2]
      · have e := comp_map (h := h) (tg := Mp.gTup (Mp.gCons (Mp.gName 3) (Mp.gCons (Mp.gName 4) Mp.gNil))) (el := eTup (aCons (eVar 3) (aCons (eOp divP (eOp (mulP false) (eVar 4) (eVar 2)) (eVar 1)) aNil))) (env := wipeE [some w, some (.int (t.length : Int)), some (.int (k : Int)), x3, x4] [3, 4]) (f := fun v => match v with | .tup [a, .int r] => .tup [a, .int (r * (k : Int) / (t.length : Int))] | _ => .non) ((t.take k).map encP) [] (fun v hv => ?_) (by simp; omega)
        · rw [e, List.nil_append, List.map_map]
          unfold Frm.thin
          rw [List.map_map]
          rfl
        · obtain ⟨p, hp, rfl⟩ := List.mem_map.mp hv
          refine ⟨_, rfl, ?_⟩
          have m1 : mulP false (.int p.2) (.int (k : Int)) h = .ok (.int (p.2 * (k : Int))) h := mul_sm (by omega)
          have m2 : divP (.int (p.2 * (k : Int))) (.int (t.length : Int)) h = .ok (.int (p.2 * (k : Int) / (t.length : Int))) h := div_sm (by omega) (by omega)
          have hz2 : 2 ≤ sizeLine := by omega
          simp -implicitDefEqProofs [wipeE, encP, m1, m2, hz2]
    have tp : tupleP [.lst ((Frm.thin t k).map encP)] h = .ok (encR (Frm.thin t k)) h := rfl
    unfold Frm.good B_least_round_0
    by_cases q : t.length % k = 0
    · cases q2 : Frm.isRound t k with
      | true =>
        refine .inl ⟨by simp [q], ?_⟩
        simp -implicitDefEqProofs [a3, a4, q, q2, one, tp, -Int.natCast_emod]
      | false =>
        refine .inr ⟨by simp, _, ⟨some (.int (k : Int)), x3, x4, rfl⟩, ?_⟩
        simp -implicitDefEqProofs [a3, a4, q, q2, -Int.natCast_emod]
    · refine .inr ⟨by simp [q], _, ⟨some (.int (k : Int)), x3, x4, rfl⟩, ?_⟩
      have q' : ¬ ((t.length % k : Nat) : Int) = 0 := by omega
      simp -implicitDefEqProofs [a3, q, q', -Int.natCast_emod]
end Ev

set_option Elab.async false
set_option linter.all false
set_option maxRecDepth 100000
namespace Mp
open PySem PyProof.Rows
@[simp] theorem neg_int (i : Int) (h : Hh) : negP (.int i) h = .ok (.int (-i)) h := rfl
theorem get_top (h : Hh) (x : Ob) : (h ++ [x])[h.length]? = some x := by simp
theorem set_top (h : Hh) (x y : Ob) : (h ++ [x]).set h.length y = h ++ [y] := by simp
theorem lsq_top (h : Hh) (l : List Val) : lsq (.ref h.length) (h ++ [.lst l]) = some l := by
  unfold lsq
  dsimp only
  rw [get_top]
theorem at_last (l : List Val) (x : Val) : L2.atI (l ++ [x]) (-1) = some x := L2.atI_last _ _
theorem cut_init (l : List Val) (h : 1 ≤ l.length) : cutL l none (some (-1)) = l.dropLast := by
  unfold cutL
  rw [HT.sIx_none]
  have : HT.sIx l.length l.length (some (-1)) = l.length - 1 := by
    show (if (-1 : Int) < 0 then ((-1 : Int) + (l.length : Int)).toNat else min (-1 : Int).toNat l.length) = _
    rw [if_pos (by decide)]
    omega
  rw [this, List.drop_zero, Nat.sub_zero, List.dropLast_eq_take]
theorem last_split {t : List Frm.P} (hl : 1 ≤ t.length) : t.dropLast ++ [Frm.last t] = t := by
  have hne : t ≠ [] := fun e => by rw [e] at hl; simp at hl
  unfold Frm.last
  rw [List.getLastD_eq_getLast?, List.getLast?_eq_getLast hne, Option.getD_some, List.dropLast_concat_getLast hne]
theorem ix_lastR {t : List Frm.P} (hl : 1 ≤ t.length) (h : Hh) : ixP (.lst (t.map encP)) (.int (-1)) h = .ok (encP (Frm.last t)) h := by
  unfold ixP
  dsimp only [lsq]
  rw [show t.map encP = t.dropLast.map encP ++ [encP (Frm.last t)] by rw [← List.map_singleton (f := encP), ← List.map_append, last_split hl], at_last]
end Mp
namespace Ev
open PySem PySem.Spec PyProof.Rows L2 Mp
theorem raw_loop (h : Hh) : ∀ (rh : List (Option Int)) (t : List Frm.P) (x2 x3 x4 : Option Val), 1 ≤ t.length → t.length ≤ 120 → ∃ y2 y3 y4, sWhile T_raw_least_0 B_raw_least_1 [some (.ref h.length), some (.lst (t.map encP)), x2, x3, x4] (h ++ [.lst (rh.reverse.map encA)]) =
    .nx [some (.ref h.length), some (.lst ((Frm.strip rh t).2.map encP)), y2, y3, y4] (h ++ [.lst ((Frm.strip rh t).1.reverse.map encA)])
  | [], t, x2, x3, x4, hl, h2 => by
    refine ⟨x2, x3, x4, ?_⟩
    rw [sWhile_unf]
    have e : lenP [.ref h.length] (h ++ [.lst []]) = .ok (.int 0) (h ++ [.lst []]) := by
      show (match lsq (.ref h.length) (h ++ [.lst []]) with | some l => R.ok (Val.int l.length) (h ++ [Ob.lst []]) | none => .bad) = _
      rw [lsq_top]
      rfl
    simp -implicitDefEqProofs [T_raw_least_0, e, Frm.strip]
  | a :: r, t, x2, x3, x4, hl, h2 => by
    have hz : 1000000 ≤ sizeLine := sz_le (by omega)
    rw [sWhile_unf]
    have el : (a :: r).reverse.map encA = r.reverse.map encA ++ [encA a] := by simp
    rw [el]
    have e1 : lenP [.ref h.length] (h ++ [.lst (r.reverse.map encA ++ [encA a])]) = .ok (.int ((r.length + 1 : Nat) : Int)) (h ++ [.lst (r.reverse.map encA ++ [encA a])]) := by
      show (match lsq (.ref h.length) (h ++ [.lst (r.reverse.map encA ++ [encA a])]) with | some l => R.ok (Val.int l.length) (h ++ [Ob.lst (r.reverse.map encA ++ [encA a])]) | none => .bad) = _
      rw [lsq_top]
      simp
    have e2 : ixP (.ref h.length) (.int (-1)) (h ++ [.lst (r.reverse.map encA ++ [encA a])]) = .ok (encA a) (h ++ [.lst (r.reverse.map encA ++ [encA a])]) := by
      unfold ixP
      dsimp only
      rw [lsq_top]
      dsimp only
      rw [at_last]
    have e3 : slP false (.lst (t.map encP)) none (some (-1)) (h ++ [.lst (r.reverse.map encA ++ [encA a])]) = .ok (.lst (t.dropLast.map encP)) (h ++ [.lst (r.reverse.map encA ++ [encA a])]) := by
      show mk false (cutL (t.map encP) none (some (-1))) _ = _
      rw [cut_init _ (by simpa using hl), List.map_dropLast]
      rfl
    have e4 : popP (.ref h.length) [] (h ++ [.lst (r.reverse.map encA ++ [encA a])]) = .ok (encA a) (h ++ [.lst (r.reverse.map encA)]) := by
      unfold popP
      dsimp only
      rw [get_top]
      dsimp only
      rw [show (r.reverse.map encA ++ [encA a])[(r.reverse.map encA ++ [encA a]).length - 1]? = some (encA a) by simp]
      dsimp only
      rw [set_top, List.dropLast_concat]
    have e5 : ∀ x : Val, addP false (.lst [x]) (.lst (t.dropLast.map encP)) (h ++ [.lst (r.reverse.map encA ++ [encA a])]) = .ok (.lst (x :: t.dropLast.map encP)) (h ++ [.lst (r.reverse.map encA ++ [encA a])]) := fun x => by
      show (if 1 + (t.dropLast.map encP).length ≤ sizeLine then mk false _ _ else _) = _
      rw [if_pos (by simp; omega)]
      rfl
    have e6 := ix_lastR hl (h ++ [.lst (r.reverse.map encA ++ [encA a])])
    have e7 : ∀ x, neP (encA a) (encA x) (h ++ [.lst (r.reverse.map encA ++ [encA a])]) = .ok (.bl (!decide (a = x))) (h ++ [.lst (r.reverse.map encA ++ [encA a])]) := fun x => ne_A a x _
    have hz2 : 2 ≤ sizeLine := by omega
    have hz1 : 1 ≤ sizeLine := by omega
    have pos : ¬ ((r.length : Int) + 1 ≤ 0) := by omega
    have pos2 : (0 : Int) < (r.length : Int) + 1 := by omega
    rw [Frm.strip]
    obtain ⟨am, ri, hlast⟩ : ∃ am ri, Frm.last t = (am, ri) := ⟨_, _, rfl⟩
    have hrot : (Val.tup [encA (Frm.ahead (Frm.last t)), .int (Frm.last t).2] :: t.dropLast.map encP) = (Frm.rot t).map encP := rfl
    rw [hlast] at hrot e6
    rw [hlast]
    obtain ⟨y2, y3, y4, ih⟩ := raw_loop h r (Frm.rot t) (some (encA (Frm.ahead (am, ri)))) (some (encA am)) (some (.int ri)) (by rw [Frm.rot_len hl]; exact hl) (by rw [Frm.rot_len hl]; exact h2)
    generalize hgen : (h ++ [Ob.lst (r.reverse.map encA ++ [encA a])]) = hh at *
    dsimp only at hrot
    rw [← hrot] at ih
    generalize t.dropLast.map encP = D at *
    generalize r.reverse.map encA = RR at *
    generalize hTT : t.map encP = TT at *
    have hT : T_raw_least_0 [some (.ref h.length), some (.lst TT), x2, x3, x4] hh = .ok true hh := by
      simp -implicitDefEqProofs [T_raw_least_0, e1, pos2]
    have hB : B_raw_least_1 [some (.ref h.length), some (.lst TT), x2, x3, x4] hh = if a = Frm.ahead (am, ri) then .nx [some (.ref h.length), some (.lst (.tup [encA (Frm.ahead (am, ri)), .int ri] :: D)), some (encA (Frm.ahead (am, ri))), some (encA am), some (.int ri)] (h ++ [.lst RR])
        else .bk [some (.ref h.length), some (.lst TT), some (encA (Frm.ahead (am, ri))), some (encA am), some (.int ri)] hh := by
      have e9 := e7 (Frm.ahead (am, ri))
      cases am with
      | none =>
        have ex : Frm.ahead ((none : Option Int), ri) = none := rfl
        rw [ex] at e9 ⊢
        by_cases q : a = none
        · rw [if_pos q]
          rw [decide_eq_true q] at e9
          simp -implicitDefEqProofs at e9
          simp -implicitDefEqProofs [B_raw_least_1, e2, e3, e4, e5, e6, e9, hz2, hz1, isL, mk, encP]
        · rw [if_neg q]
          rw [decide_eq_false q] at e9
          simp -implicitDefEqProofs at e9
          simp -implicitDefEqProofs [B_raw_least_1, e2, e3, e4, e5, e6, e9, hz2, hz1, isL, mk, encP]
      | some am =>
        have ex : Frm.ahead (some am, ri) = some (am - ri) := rfl
        rw [ex] at e9 ⊢
        by_cases q : a = some (am - ri)
        · rw [if_pos q]
          rw [decide_eq_true q] at e9
          simp -implicitDefEqProofs at e9
          simp -implicitDefEqProofs [B_raw_least_1, e2, e3, e4, e5, e6, e9, hz2, hz1, isL, mk, encP]
        · rw [if_neg q]
          rw [decide_eq_false q] at e9
          simp -implicitDefEqProofs at e9
          simp -implicitDefEqProofs [B_raw_least_1, e2, e3, e4, e5, e6, e9, hz2, hz1, isL, mk, encP]
    rw [hT, lift_ok, if_pos rfl, hB]
    by_cases q : a = Frm.ahead (am, ri)
    · refine ⟨y2, y3, y4, ?_⟩
      rw [if_pos q, if_pos q]
      exact ih
    · refine ⟨some (encA (Frm.ahead (am, ri))), some (encA am), some (.int ri), ?_⟩
      rw [if_neg q, if_neg q]
      dsimp only
      rw [el, hgen, hTT]
theorem raw_least_gen {hd : List (Option Int)} {t : List Frm.P} {h : Hh} {u w : Val} (e3 : listP true [u] h = .ok (.ref h.length) (h ++ [.lst (hd.map encA)])) (sq : SeqR w h t) (hl : 1 ≤ t.length) (h2 : t.length ≤ 120) : F_raw_least [u, w] h = .ok (encT (Tab.least ⟨hd, t⟩)) h := by
  have sp := Frm.leastM_spec hl
  have len := Frm.leastRound_len hl
  have hz : 1000000 ≤ sizeLine := sz_le (by omega)
  have hz2 : 2 ≤ sizeLine := by omega
  obtain ⟨y2, y3, y4, lp⟩ := raw_loop h hd.reverse (Frm.leastRound t) none none none (by omega) (by omega)
  rw [List.reverse_reverse] at lp
  unfold F_raw_least
  refine run_rt (h1 := h ++ [.lst ((Frm.strip hd.reverse (Frm.leastRound t)).1.reverse.map encA)]) ?_ (encT_pl _ _) (by simp)
  have e1 := least_round_gen (h := h) sq hl h2
  have e2 : listP false [encR (Frm.leastRound t)] h = .ok (.lst ((Frm.leastRound t).map encP)) h := rfl
  show _ = SR.rt (.tup [.tup ((Frm.strip hd.reverse (Frm.leastRound t)).1.reverse.map encA), .tup ((Frm.strip hd.reverse (Frm.leastRound t)).2.map encP)]) _
  generalize Frm.strip hd.reverse (Frm.leastRound t) = W at lp ⊢
  have e4 : ∀ X : List Val, tupleP [.ref h.length] (h ++ [.lst X]) = .ok (.tup X) (h ++ [.lst X]) := fun X => by
    show (match lsq (.ref h.length) (h ++ [Ob.lst X]) with | some l => R.ok (Val.tup l) (h ++ [Ob.lst X]) | none => .bad) = _
    rw [lsq_top]
  have e5 : ∀ (X : List Val) (g : Hh), tupleP [.lst X] g = .ok (.tup X) g := fun X g => rfl
  have e6 := e4 (W.1.reverse.map encA)
  generalize W.1.reverse.map encA = X1 at *
  generalize W.2.map encP = X2 at *
  generalize hd.map encA = X0 at *
  generalize (Frm.leastRound t).map encP = X3 at *
  simp -implicitDefEqProofs [S_raw_least, e1, e2, e3, lp, e6, e5, hz2]
theorem raw_least_ok {hd : List (Option Int)} {t : List Frm.P} {h : Hh} (hl : 1 ≤ t.length) (h2 : t.length ≤ 120) : F_raw_least [.tup (hd.map encA), encR t] h = .ok (encT (Tab.least ⟨hd, t⟩)) h := raw_least_gen rfl (seqR_tup h t) hl h2
theorem least_ok {T : Tab} {h : Hh} (ok : T.Ok) : F_least [encT T] h = .ok (encT T.least) h := by
  refine run_rt (h1 := h) ?_ (encT_pl _ _) List.take_length
  have e := raw_least_ok (hd := T.head) (t := T.turn) (h := h) ok.l1 ok.l2
  have e1 : ixP (encT T) (.int 0) h = .ok (.tup (T.head.map encA)) h := ix_t0 _ _
  have e2 : ixP (encT T) (.int 1) h = .ok (encR T.turn) h := ix_t1 _ _ _
  simp -implicitDefEqProofs [S_least, check_table_ok (encT_data T) (encT_tab ok), e, e1, e2]
end Ev

set_option Elab.async false
set_option linter.all false
set_option maxRecDepth 100000
namespace Mp
open PySem PyProof.Rows
theorem enum_map {α : Type} (f : α → Val) (d : α) (l : List α) : enumV 0 (l.map f) = (List.range l.length).map fun (n : Nat) => Val.tup [.int (n : Int), f (l.getD n d)] := by
  apply List.ext_getElem?
  intro j
  rw [enumV_get, List.getElem?_map, List.getElem?_map]
  by_cases q : j < l.length
  · rw [List.getElem?_range q, List.getElem?_eq_getElem q]
    simp [List.getElem?_eq_getElem q]
  · rw [List.getElem?_eq_none (l := l) (by omega), List.getElem?_eq_none (l := List.range l.length) (by simpa using q)]
    rfl
theorem minL_head : ∀ (l : List Int) (x : Int), (∀ y ∈ l, x ≤ y) → minL (x :: l) = x := fun l x h => (minL_uniq (List.mem_cons_self) (fun y hy => by
  rcases List.mem_cons.mp hy with rfl | hy
  · omega
  · exact h y hy)).symm
theorem min_lst {l : List Int} {x : Int} {h : Hh} (e : ∀ y ∈ l, x ≤ y) : minP [.lst ((x :: l).map Val.int)] h = .ok (.int x) h := by
  unfold minP
  dsimp only [lsq]
  rw [intsOf_map]
  dsimp only
  rw [if_pos (by simp), minL_head l x e]
theorem val_lt {T : Tab} {n : Nat} (h : n < T.head.length) : T.val n = T.head.getD n none := by unfold Tab.val; rw [if_pos h]
theorem val_ge {T : Tab} {r : Nat} (h : r < T.turn.length) : T.val (T.head.length + r) = (Frm.get T.turn r).1 := by
  unfold Tab.val
  rw [if_neg (by omega), Nat.add_sub_cancel_left, Frm.at_lt h]
end Mp
namespace Ev
open PySem PySem.Spec PyProof.Rows Mp
theorem is_form_ok {T : Tab} {h : Hh} (ok : T.Ok) : F_is_form [encT T] h = .ok (.bl (decide (T.least = T))) h := by
  refine run_rt (h1 := h) ?_ rfl List.take_length
  have e := raw_least_ok (hd := T.head) (t := T.turn) (h := h) ok.l1 ok.l2
  have e1 : ixP (encT T) (.int 0) h = .ok (.tup (T.head.map encA)) h := ix_t0 _ _
  have e2 : ixP (encT T) (.int 1) h = .ok (encR T.turn) h := ix_t1 _ _ _
  have e3 := eq_pd (h := h) pd_T (by decide) T.least T
  have e4 : Tab.least ⟨T.head, T.turn⟩ = T.least := rfl
  rw [e4] at e
  simp -implicitDefEqProofs [S_is_form, is_table_ok (encT_data T), encT_tab ok, e, e1, e2, e3]
theorem check_form_ok {T : Tab} {h : Hh} (ok : T.Ok) (hf : T.least = T) : F_check_form [encT T] h = .ok .non h := by
  refine run_nx (h1 := h) (en := [some (encT T)]) ?_ List.take_length
  simp -implicitDefEqProofs [S_check_form, is_form_ok ok, hf]
end Ev

set_option Elab.async false
set_option linter.all false
set_option maxRecDepth 100000
namespace Ev
open PySem PySem.Spec PyProof.Rows Mp
end Ev

set_option Elab.async false
set_option linter.all false
set_option maxRecDepth 100000
namespace Ev
open PySem PySem.Spec PyProof.Rows L2 Mp
theorem common_loop (h : Hh) : ∀ b a : Nat, b < 2 ^ 60 → sWhile T_common_part_0 B_common_part_1 [some (.int (a : Int)), some (.int (b : Int))] h = .nx [some (.int (Nat.gcd a b : Nat)), some (.int 0)] h := by
  intro b
  induction b using Nat.strongRecOn with
  | _ b ih =>
    intro a hb
    by_cases q : b = 0
    · subst q
      rw [while_f (h1 := h) (by simp [T_common_part_0]), Nat.gcd_zero_right]
      rfl
    · have m1 : modP (.int (a : Int)) (.int (b : Int)) h = .ok (.int ((a % b : Nat) : Int)) h := by rw [mod_sm (by omega)]; rfl
      have pos : 0 < b := by omega
      rw [while_t (h1 := h) (e2 := [some (.int (b : Int)), some (.int ((a % b : Nat) : Int))]) (h2 := h) (by simp [T_common_part_0]; omega) (by simp -implicitDefEqProofs [B_common_part_1, m1, -Int.natCast_emod]),
        ih _ (Nat.mod_lt _ pos) b (by have := Nat.mod_lt a pos; omega)]
      rw [Nat.gcd_comm a b, Nat.gcd_rec b a, Nat.gcd_comm]
theorem common_part_ok {a b : Nat} {h : Hh} (hb : b < 2 ^ 60) : F_common_part [.int (a : Int), .int (b : Int)] h = .ok (.int (Nat.gcd a b : Nat)) h := by
  refine run_rt (h1 := h) ?_ rfl List.take_length
  have := common_loop h b a hb
  simp -implicitDefEqProofs [S_common_part, this]
theorem common_round_ok {a b : Nat} {h : Hh} (ha : 1 ≤ a) (ha2 : a < 2 ^ 30) (hb : 1 ≤ b) (hb2 : b < 2 ^ 30) : F_common_round [.int (a : Int), .int (b : Int)] h = .ok (.int (Nat.lcm a b : Nat)) h := by
  refine run_rt (h1 := h) ?_ rfl List.take_length
  have e1 := common_part_ok (a := a) (b := b) (h := h) (by omega)
  have m : mulP false (.int (a : Int)) (.int (b : Int)) h = .ok (.int ((a : Int) * (b : Int))) h := mul_sm (by omega)
  have g0 : 0 < Nat.gcd a b := Nat.gcd_pos_of_pos_left _ (by omega)
  have g1 : Nat.gcd a b ≤ a := Nat.gcd_le_left _ (by omega)
  have d : divP (.int ((a : Int) * (b : Int))) (.int (Nat.gcd a b : Nat)) h = .ok (.int (Nat.lcm a b : Nat)) h := by
    rw [div_sm (by omega) (by omega)]
    rfl
  simp -implicitDefEqProofs [S_common_round, e1, m, d]
theorem check_forms_ok {T U : Tab} {h : Hh} (oT : T.Ok) (fT : T.least = T) (oU : U.Ok) (fU : U.least = U) : F_check_forms [encT T, encT U] h = .ok .non h := by
  refine run_nx (h1 := h) (en := [some (encT T), some (encT U)]) ?_ List.take_length
  simp -implicitDefEqProofs [S_check_forms, check_form_ok oT fT, check_form_ok oU fU]
@[simp] theorem ixT0 (T : Tab) (h : Hh) : ixP (encT T) (.int 0) h = .ok (.tup (T.head.map encA)) h := ix_t0 _ _
@[simp] theorem ixT1 (T : Tab) (h : Hh) : ixP (encT T) (.int 1) h = .ok (encR T.turn) h := ix_t1 _ _ _
@[simp] theorem lenR (t : List Frm.P) (h : Hh) : lenP [encR t] h = .ok (.int (t.length : Int)) h := by simp [encR]
theorem head_many_ok {T : Tab} {h : Hh} (oT : T.Ok) (fT : T.least = T) : F_head_many [encT T] h = .ok (.int (T.head.length : Int)) h := by
  refine run_rt (h1 := h) ?_ rfl List.take_length
  simp -implicitDefEqProofs [S_head_many, check_form_ok oT fT]
theorem round_many_ok {T : Tab} {h : Hh} (oT : T.Ok) (fT : T.least = T) : F_round_many [encT T] h = .ok (.int (T.turn.length : Int)) h := by
  refine run_rt (h1 := h) ?_ rfl List.take_length
  simp -implicitDefEqProofs [S_round_many, check_form_ok oT fT]
theorem joint_round_ok {T U : Tab} {h : Hh} (oT : T.Ok) (oU : U.Ok) (hl : Nat.lcm T.turn.length U.turn.length ≤ 120) : F_joint_round [encT T, encT U] h = .ok (.int (Nat.lcm T.turn.length U.turn.length : Nat)) h := by
  have := oT.l1; have := oT.l2; have := oU.l1; have := oU.l2
  refine run_rt (h1 := h) ?_ rfl List.take_length
  have e1 := common_round_ok (a := T.turn.length) (b := U.turn.length) (h := h) (by omega) (by omega) (by omega) (by omega)
  have q : ¬ (120 < ((Nat.lcm T.turn.length U.turn.length : Nat) : Int)) := by omega
  simp -implicitDefEqProofs [S_joint_round, e1, q]
theorem checked_ok {hd : List (Option Int)} {t : List Frm.P} {h : Hh} {u w : Val} (hv : F_raw_least [u, w] h = .ok (encT (Tab.least ⟨hd, t⟩)) h) (hl : (Tab.least ⟨hd, t⟩).head.length ≤ 1000) : F_checked [u, w] h = .ok (encT (Tab.least ⟨hd, t⟩)) h := by
  refine run_rt (h1 := h) ?_ (encT_pl _ _) List.take_length
  have q : ¬ (1000 < ((Tab.least ⟨hd, t⟩).head.length : Int)) := by omega
  simp -implicitDefEqProofs [S_checked, hv, q]
def grt : Option Int → Option Int → Option Int
  | some a, some b => some (max a b)
  | _, _ => none
theorem greatest_ok {a b : Option Int} {h : Hh} : F_greatest [encA a, encA b] h = .ok (encA (grt a b)) h := by
  refine run_rt (h1 := h) ?_ (encA_pl _ _) List.take_length
  cases a <;> cases b <;> simp -implicitDefEqProofs [S_greatest, grt, max2]
theorem rise_at_ok {T : Tab} {n m : Nat} {h : Hh} (ok : T.Ok) (hs : (T.val (n + m)).isSome = (T.val n).isSome) : F_rise_at [encT T, .int (n : Int), .int (m : Int)] h = .ok (.int (lawRise (T.val n) (T.val (n + m)))) h := by
  refine run_rt (h1 := h) ?_ rfl List.take_length
  have e1 := raw_value_ok (h := h) (n := n) ok
  have e2 := raw_value_ok (h := h) (n := n + m) ok
  have z : ((n : Int) + (m : Int)) = ((n + m : Nat) : Int) := by omega
  cases a : T.val n with
  | none =>
    rw [a] at e1
    simp -implicitDefEqProofs at e1
    simp -implicitDefEqProofs [S_rise_at, e1, lawRise]
  | some a' =>
    rw [a] at e1 hs
    cases b : T.val (n + m) with
    | none => rw [b] at hs; cases hs
    | some b' =>
      rw [b] at e2
      simp -implicitDefEqProofs only [encA_some] at e1 e2
      simp -implicitDefEqProofs [S_rise_at, e1, z, e2, lawRise, -Int.natCast_add]
end Ev

set_option Elab.async false
set_option linter.all false
set_option maxRecDepth 100000
namespace Mp
theorem for_same {α : Type} {g : Gv} {b : Sv} {enc : α → Val} {env : Env} {h : Hh} {l : List α} (hb : ∀ a ∈ l, ∃ e1, g (enc a) env h = .ok e1 h ∧ (b e1 h = .nx env h ∨ b e1 h = .ct env h)) : forL g b [] (l.map enc) env h = .nx env h := by
  have := for_ret (g := g) (b := b) (enc := enc) (fun _ => false) (fun _ => .non) (env := env) (h := h) (l := l) fun a ha => let ⟨e1, h1, h2⟩ := hb a ha; ⟨e1, h1, .inr ⟨rfl, h2⟩⟩
  rw [this, List.find?_eq_none.mpr (by simp)]
theorem val_some {U : Tab} (ok : U.Ok) {m n : Nat} (hd : U.turn.length ∣ m) (hn : U.head.length ≤ n) : (U.val (n + m)).isSome = (U.val n).isSome := by
  obtain ⟨q, rfl⟩ := hd
  rw [Nat.mul_comm, val_turns ok.l1 (okP_zr ok.hp) hn q]
  cases U.val n <;> rfl
/-- the rises over a round of m places are not too great -/
def Calm (T : Tab) (m : Nat) : Prop := ∀ n, T.head.length ≤ n → -(2 ^ 62) < lawRise (T.val n) (T.val (n + m)) ∧ lawRise (T.val n) (T.val (n + m)) < 2 ^ 62
end Mp
namespace Ev
open PySem PySem.Spec PyProof.Rows L2 Mp
theorem settled_ok {T U : Tab} {m : Nat} {h : Hh} (oT : T.Ok) (oU : U.Ok) (dT : T.turn.length ∣ m) (dU : U.turn.length ∣ m) (hm : m ≤ 120) (cT : Calm T m) (cU : Calm U m)
    (hg : ∀ n a b, max T.head.length U.head.length ≤ n → T.val n = some a → U.val n = some b → 0 ≤ (a - b) * (lawRise (T.val n) (T.val (n + m)) - lawRise (U.val n) (U.val (n + m)))) :
    F_settled [encT T, encT U, .int (m : Int)] h = .ok (.int ((max T.head.length U.head.length : Nat) : Int)) h := by
  have := oT.h1; have := oU.h1
  refine run_rt (h1 := h) ?_ rfl List.take_length
  have e0 : maxP [.int (T.head.length : Int), .int (U.head.length : Int)] h = .ok (.int ((max T.head.length U.head.length : Nat) : Int)) h := by rw [max2]; congr 2; omega
  have hT := Nat.le_max_left T.head.length U.head.length
  have hU := Nat.le_max_right T.head.length U.head.length
  have hS : max T.head.length U.head.length ≤ 1000 := Nat.max_le.mpr ⟨by omega, by omega⟩
  generalize max T.head.length U.head.length = S at *
  have e1 := rg2 (a := S) (n := m) (z := (S : Int) + (m : Int)) (h := h) rfl (by omega)
  have q : ¬ (9000 < (S : Int)) := by omega
  have m9 : mulP false (.int 9) (.int 1000) h = .ok (.int 9000) h := rfl
  simp -implicitDefEqProofs [S_settled, e0, e1, x_for]
  rw [for_same]
  · simp -implicitDefEqProofs [m9, q]
  · intro n hn
    obtain ⟨hn1, hn2⟩ : S ≤ n ∧ n < S + m := by rw [List.mem_range'] at hn; omega
    refine ⟨_, rfl, .inl ?_⟩
    have r1 := raw_value_ok (h := h) (n := n) oT
    have r2 := raw_value_ok (h := h) (n := n) oU
    have s1 := rise_at_ok (h := h) oT (val_some oT dT (show T.head.length ≤ n by omega))
    have s2 := rise_at_ok (h := h) oU (val_some oU dU (show U.head.length ≤ n by omega))
    have c1 := cT n (by omega)
    have c2 := cU n (by omega)
    have g := hg n
    cases a : T.val n with
    | none =>
      rw [a] at r1
      simp -implicitDefEqProofs only [encA_none] at r1
      cases b : U.val n with
      | none => rw [b] at r2; simp -implicitDefEqProofs only [encA_none] at r2; simp -implicitDefEqProofs [B_settled_0, r1, r2]
      | some b' => rw [b] at r2; simp -implicitDefEqProofs only [encA_some] at r2; simp -implicitDefEqProofs [B_settled_0, r1, r2]
    | some a' =>
      rw [a] at r1
      simp -implicitDefEqProofs only [encA_some] at r1
      cases b : U.val n with
      | none => rw [b] at r2; simp -implicitDefEqProofs only [encA_none] at r2; simp -implicitDefEqProofs [B_settled_0, r1, r2]
      | some b' =>
        rw [b] at r2
        simp -implicitDefEqProofs only [encA_some] at r2
        have g' := g a' b' hn1 a b
        generalize lawRise (T.val n) (T.val (n + m)) = x at *
        generalize lawRise (U.val n) (U.val (n + m)) = y at *
        have mm : mulP false (.int (a' - b')) (.int (x - y)) h = .ok (.int ((a' - b') * (x - y))) h := mul_sm (by omega)
        have nq : ¬ ((a' - b') * (x - y) < 0) := by omega
        simp -implicitDefEqProofs [B_settled_0, r1, r2, s1, s2, mm, nq]
theorem raw_greater_ok {T U V : Tab} {h : Hh} (oT : T.Ok) (oU : U.Ok) (oV : V.Ok) (hl : Nat.lcm T.turn.length U.turn.length ≤ 120) (cT : Calm T (Nat.lcm T.turn.length U.turn.length)) (cU : Calm U (Nat.lcm T.turn.length U.turn.length))
    (hg : ∀ n a b, max T.head.length U.head.length ≤ n → T.val n = some a → U.val n = some b → 0 ≤ (a - b) * (lawRise (T.val n) (T.val (n + Nat.lcm T.turn.length U.turn.length)) - lawRise (U.val n) (U.val (n + Nat.lcm T.turn.length U.turn.length))))
    (hV : ∀ n, grt (T.val n) (U.val n) = V.val n) (hh : V.head.length ≤ max T.head.length U.head.length) (ht : V.turn.length ∣ Nat.lcm T.turn.length U.turn.length) (hB : ∀ p ∈ V.turn, p.2 ≤ 2 ^ 50) : F_raw_greater [encT T, encT U] h = .ok (encT V.least) h := by
  have := oT.h1; have := oU.h1
  have lp : 0 < Nat.lcm T.turn.length U.turn.length := Nat.lcm_pos (by have := oT.l1; omega) (by have := oU.l1; omega)
  refine run_rt (h1 := h ++ [.lst ((lawTab V.val (max T.head.length U.head.length) (Nat.lcm T.turn.length U.turn.length)).turn.map encP)]) ?_ (encT_pl _ _) (take_end _ _)
  have j := joint_round_ok (h := h) oT oU hl
  have dT := Nat.dvd_lcm_left T.turn.length U.turn.length
  have dU := Nat.dvd_lcm_right T.turn.length U.turn.length
  have s := settled_ok (h := h) oT oU dT dU hl cT cU hg
  clear hg cT cU
  have hT := Nat.le_max_left T.head.length U.head.length
  have hU := Nat.le_max_right T.head.length U.head.length
  have hS : max T.head.length U.head.length ≤ 1000 := Nat.max_le.mpr ⟨by omega, by omega⟩
  generalize max T.head.length U.head.length = S at *
  generalize Nat.lcm T.turn.length U.turn.length = m at *
  have val : ∀ (n : Nat) (h : Hh), F_greatest [encA (T.val n), encA (U.val n)] h = .ok (encA (V.val n)) h := fun n h => by rw [greatest_ok, hV]
  simp -implicitDefEqProofs [S_raw_greater, j, s, x_for]
  rw [compE (fun (n : Nat) => Val.int (n : Int)) (fun n => encA (V.val n)) (List.range S)]
  rotate_left
  · simp -implicitDefEqProofs [rg1 (show S ≤ 1000000000 by omega)]
  · simp; omega
  · intro n hn
    refine ⟨_, rfl, ?_⟩
    simp -implicitDefEqProofs [raw_value_ok oT, raw_value_ok oU, val]
  have e1 := rg2 (a := S) (n := m) (z := (S : Int) + (m : Int)) (h := h ++ [.lst []]) rfl (by omega)
  simp -implicitDefEqProofs [e1, x_for]
  rw [for_app (fun (n : Nat) => encP (V.val n, lawRise (V.val n) (V.val (n + m))))]
  rotate_left
  · intro n hn acc hacc
    obtain ⟨hn1, hn2⟩ : S ≤ n ∧ n < S + m := by rw [List.mem_range'] at hn; omega
    refine ⟨_, rfl, .inl ?_⟩
    have z : ((n : Int) + (m : Int)) = ((n + m : Nat) : Int) := by omega
    have vs := val_some oV ht (show V.head.length ≤ n by omega)
    have v1 := val n
    have v2 := val (n + m)
    cases a : V.val n with
    | none =>
      rw [a] at v1 vs
      cases b : V.val (n + m) with
      | some b' => rw [b] at vs; cases vs
      | none =>
        rw [b] at v2
        simp -implicitDefEqProofs only [encA_none] at v1 v2
        have ap : appP (.ref h.length) [.tup [.non, .int 0]] (h ++ [.lst acc]) = .ok .non (h ++ [.lst (acc ++ [.tup [.non, .int 0]])]) := app_end rfl hacc rfl
        simp -implicitDefEqProofs [B_raw_greater_0, raw_value_ok oT, raw_value_ok oU, v1, z, v2, ap, isL, encP, lawRise, -Int.natCast_add, szz]
    | some a' =>
      rw [a] at v1 vs
      cases b : V.val (n + m) with
      | none => rw [b] at vs; cases vs
      | some b' =>
        rw [b] at v2
        simp -implicitDefEqProofs only [encA_some] at v1 v2
        have ap : appP (.ref h.length) [.tup [.int a', .int (b' - a')]] (h ++ [.lst acc]) = .ok .non (h ++ [.lst (acc ++ [.tup [.int a', .int (b' - a')]])]) := app_end rfl hacc rfl
        simp -implicitDefEqProofs [B_raw_greater_0, raw_value_ok oT, raw_value_ok oU, v1, z, v2, ap, isL, encP, lawRise, -Int.natCast_add, szz]
  · simp; omega
  have hW : (lawTab V.val S m).Ok := by
    obtain ⟨q, rfl⟩ := ht
    rw [Nat.mul_comm] at *
    exact lawTab_ok (B := 2 ^ 50) oV hh hS (Nat.pos_of_ne_zero fun z => by rw [z, Nat.zero_mul] at lp; omega) hl hB (by decide)
  have hL : (lawTab V.val S m).least = V.least := least_uniq hW oV fun n => lawTab_val oV.l1 (okP_zr oV.hp) hh (by omega) ht n
  have e9 : (List.range' S m).map (fun n => encP (V.val n, lawRise (V.val n) (V.val (n + m)))) = (lawTab V.val S m).turn.map encP := by
    unfold lawTab
    rw [List.map_map]
    rfl
  rw [List.nil_append, e9]
  have e8 : (List.range S).map (fun n => encA (V.val n)) = (lawTab V.val S m).head.map encA := by
    unfold lawTab
    rw [List.map_map]
    rfl
  rw [e8, ← hL]
  have lo := least_all hW
  have rl := raw_least_gen (hd := (lawTab V.val S m).head) (t := (lawTab V.val S m).turn) (h := h ++ [.lst ((lawTab V.val S m).turn.map encP)]) (u := .lst ((lawTab V.val S m).head.map encA)) (w := .ref h.length) rfl (seqR_lsq (fun l z => nomatch z) (lsq_end rfl)) hW.l1 hW.l2
  have ck := checked_ok rl lo.1.h1
  generalize lawTab V.val S m = W at *
  obtain ⟨wh, wt⟩ := W
  generalize List.map encP wt = X1 at *
  generalize List.map encA wh = X2 at *
  simp -implicitDefEqProofs [ck]
end Ev

set_option Elab.async false
set_option linter.all false
set_option maxRecDepth 100000
namespace Mp
def ptsOf (hd : List (Option Int)) : List (Nat × Int) := ((List.range hd.length).filter fun n => (hd.getD n none).isSome).map fun n => (n, (hd.getD n none).getD 0)
def raysOf (T : Tab) : List Ray := ((List.range T.turn.length).filter fun r => (T.turn.getD r (none, 0)).1.isSome).map fun r => ⟨T.head.length + r, (T.turn.getD r (none, 0)).1.getD 0, T.turn.length, (T.turn.getD r (none, 0)).2⟩
theorem mem_pts {hd : List (Option Int)} {n : Nat} {v : Int} : (n, v) ∈ ptsOf hd ↔ n < hd.length ∧ hd.getD n none = some v := by
  unfold ptsOf
  simp only [List.mem_map, List.mem_filter, List.mem_range]
  constructor
  · rintro ⟨k, ⟨h1, h2⟩, e⟩
    obtain ⟨rfl, e2⟩ := Prod.mk.inj e
    refine ⟨h1, ?_⟩
    cases q : hd.getD k none with
    | none => rw [q] at h2; cases h2
    | some w => rw [q] at e2; exact congrArg some e2
  · rintro ⟨h1, h2⟩
    exact ⟨n, ⟨h1, by rw [h2]; rfl⟩, by rw [h2]; rfl⟩
theorem mem_rays {T : Tab} {ρ : Ray} : ρ ∈ raysOf T ↔ ∃ r a, r < T.turn.length ∧ T.turn.getD r (none, 0) = (some a, ρ.r) ∧ ρ.n = T.head.length + r ∧ ρ.a = a ∧ ρ.s = T.turn.length := by
  unfold raysOf
  simp only [List.mem_map, List.mem_filter, List.mem_range]
  constructor
  · rintro ⟨k, ⟨h1, h2⟩, rfl⟩
    cases q : T.turn.getD k (none, 0) with
    | mk x y =>
      rw [q] at h2
      cases x with
      | none => cases h2
      | some w => exact ⟨k, w, h1, q, rfl, rfl, rfl⟩
  · rintro ⟨r, a, h1, h2, h3, h4, h5⟩
    refine ⟨r, ⟨h1, by rw [h2]; rfl⟩, ?_⟩
    rw [h2]
    obtain ⟨n, b, s, c⟩ := ρ
    simp at h3 h4 h5
    simp [h3, h4, h5]
theorem tells_tab {T : Tab} (hl : 1 ≤ T.turn.length) {m : Nat} {v : Int} : Tells (ptsOf T.head) (raysOf T) m v ↔ T.val m = some v := by
  unfold Tells Tab.val
  constructor
  · rintro (h | ⟨ρ, hρ, i, e1, e2⟩)
    · obtain ⟨h1, h2⟩ := mem_pts.mp h
      rw [if_pos h1, h2]
    · obtain ⟨r, a, h1, h2, h3, h4, h5⟩ := mem_rays.mp hρ
      rw [if_neg (by omega)]
      have z : m - T.head.length = r + i * T.turn.length := by rw [e1, h3, h5]; omega
      unfold Frm.at'
      rw [z, Nat.add_mul_mod_self_right, Nat.mod_eq_of_lt h1, Nat.add_mul_div_right _ _ (by omega), Nat.div_eq_of_lt h1, Nat.zero_add]
      unfold Frm.get
      rw [h2, e2, h4]
      rfl
  · intro h
    split at h
    · rename_i q
      exact .inl (mem_pts.mpr ⟨q, h⟩)
    · rename_i q
      refine .inr ?_
      unfold Frm.at' at h
      have hk : (m - T.head.length) % T.turn.length < T.turn.length := Nat.mod_lt _ (by omega)
      have e1 := Nat.div_add_mod (m - T.head.length) T.turn.length
      generalize (m - T.head.length) % T.turn.length = i at *
      generalize (m - T.head.length) / T.turn.length = k at *
      cases g : Frm.get T.turn i with
      | mk x y =>
        rw [g] at h
        cases x with
        | none => cases h
        | some a =>
          refine ⟨⟨T.head.length + i, a, T.turn.length, y⟩, mem_rays.mpr ⟨i, a, hk, g, rfl, rfl, rfl⟩, k, ?_, (Option.some.inj h).symm⟩
          show m = T.head.length + i + k * T.turn.length
          rw [Nat.mul_comm k]
          omega
theorem least_tab {T : Tab} (hl : 1 ≤ T.turn.length) (m : Nat) : IsLeast (Tells (ptsOf T.head) (raysOf T) m) (T.val m) := by
  cases h : T.val m with
  | none => exact fun v q => by rw [(tells_tab hl).mp q] at h; cases h
  | some a => exact ⟨(tells_tab hl).mpr h, fun v q => by rw [(tells_tab hl).mp q] at h; rw [Option.some.inj h]; exact Int.le_refl _⟩
theorem tells_app {ps qs : List (Nat × Int)} {rs ts : List Ray} {m : Nat} {v : Int} : Tells (ps ++ qs) (rs ++ ts) m v ↔ Tells ps rs m v ∨ Tells qs ts m v := by
  unfold Tells
  simp only [List.mem_append]
  constructor
  · rintro ((h | h) | ⟨ρ, h | h, k⟩)
    · exact .inl (.inl h)
    · exact .inr (.inl h)
    · exact .inl (.inr ⟨ρ, h, k⟩)
    · exact .inr (.inr ⟨ρ, h, k⟩)
  · rintro ((h | ⟨ρ, h, k⟩) | (h | ⟨ρ, h, k⟩))
    · exact .inl (.inl h)
    · exact .inr ⟨ρ, .inl h, k⟩
    · exact .inl (.inr h)
    · exact .inr ⟨ρ, .inr h, k⟩
/-- rays that the program can work with -/
structure Ray.Ok (ρ : Ray) : Prop where
  s1 : 1 ≤ ρ.s
  s2 : ρ.s ≤ 120
  n2 : ρ.n ≤ 10000
  a0 : 0 ≤ ρ.a
  r0 : 0 ≤ ρ.r
  r2 : ρ.r ≤ 2 ^ 50
theorem rays_ok {T : Tab} (ok : T.Ok) (hr : ∀ p ∈ T.turn, p.2 ≤ 2 ^ 50) : ∀ ρ ∈ raysOf T, ρ.Ok := fun ρ hρ => by
  obtain ⟨r, a, h1, h2, h3, h4, h5⟩ := mem_rays.mp hρ
  have h6 : (some a, ρ.r) ∈ T.turn := by
    rw [← h2, List.getD_eq_getElem?_getD, List.getElem?_eq_getElem h1]
    exact List.getElem_mem h1
  have h7 := ok.hp _ h6
  have := ok.l2; have := ok.h1
  exact ⟨by omega, by omega, by omega, by rw [h4]; exact h7.2.2, h7.1, hr _ h6⟩
end Mp
namespace Ev
open PySem PySem.Spec PyProof.Rows L2 Mp
theorem points_of_ok {T : Tab} {h : Hh} (ok : T.Ok) : F_points_of [encT T] h = .ok (.lst ((ptsOf T.head).map encPt)) h := by
  have := ok.h1
  refine run_rt (h1 := h) ?_ ?_ List.take_length
  · simp -implicitDefEqProofs only [List.map_cons, List.map_nil, List.length_cons, List.length_nil, List.cons_append, List.nil_append]
    simp -implicitDefEqProofs [S_points_of]
    rw [compF (fun (n : Nat) => Val.tup [.int (n : Int), encA (T.head.getD n none)]) (fun n => .tup [.int (n : Int), encA (T.head.getD n none)]) (fun n => (T.head.getD n none).isSome) (List.range T.head.length)]
    rotate_left
    · simp -implicitDefEqProofs [enI, enum_map encA none]
    · simp; omega
    · intro n hn
      refine ⟨_, rfl, ?_, fun _ => ?_⟩
      · cases T.head.getD n none <;> simp -implicitDefEqProofs [encA]
      · simp -implicitDefEqProofs [szz]
    simp -implicitDefEqProofs only [lift_ok]
    unfold ptsOf
    rw [List.map_map]
    congr 2
    refine List.map_congr_left fun n hn => ?_
    rw [List.mem_filter] at hn
    cases q : T.head.getD n none with
    | none => rw [q] at hn; cases hn.2
    | some a => show Val.tup [.int (n : Int), encA (some a)] = Val.tup [.int (n : Int), .int ((T.head.getD n none).getD 0)]; rw [q]; rfl
  · unfold Val.bel
    exact belL_map fun x _ => rfl
theorem rays_of_ok {T : Tab} {h : Hh} (ok : T.Ok) : F_rays_of [encT T] h = .ok (.lst ((raysOf T).map encRay)) h := by
  have := ok.l2
  refine run_rt (h1 := h) ?_ ?_ List.take_length
  · simp -implicitDefEqProofs [S_rays_of, szz]
    rw [compF (fun (n : Nat) => Val.tup [.int (n : Int), encP (T.turn.getD n (none, 0))]) (fun n => .tup [.int ((T.head.length + n : Nat) : Int), encA (T.turn.getD n (none, 0)).1, .int (T.turn.length : Int), .int (T.turn.getD n (none, 0)).2]) (fun n => (T.turn.getD n (none, 0)).1.isSome) (List.range T.turn.length)]
    rotate_left
    · simp -implicitDefEqProofs [enI, enum_map encP (none, 0), encR]
    · simp; omega
    · intro n hn
      refine ⟨_, rfl, ?_, fun _ => ?_⟩
      · cases T.turn.getD n (none, 0) with
        | mk x y => cases x <;> simp -implicitDefEqProofs [encP, encA]
      · cases T.turn.getD n (none, 0) with
        | mk x y => simp -implicitDefEqProofs [encP, szz]
    simp -implicitDefEqProofs only [lift_ok]
    unfold raysOf
    rw [List.map_map]
    congr 2
    refine List.map_congr_left fun n hn => ?_
    rw [List.mem_filter] at hn
    cases q : T.turn.getD n (none, 0) with
    | mk x y =>
      rw [q] at hn
      cases x with
      | none => cases hn.2
      | some a =>
        show Val.tup [.int ((T.head.length + n : Nat) : Int), encA (some a), .int (T.turn.length : Int), .int y] = Val.tup [.int ((T.head.length + n : Nat) : Int), .int ((T.turn.getD n (none, 0)).1.getD 0), .int (T.turn.length : Int), .int (T.turn.getD n (none, 0)).2]
        rw [q]
        rfl
  · unfold Val.bel
    exact belL_map fun x _ => rfl
/-- the round of some rays -/
def lcmOf (rs : List Ray) : Nat := rs.foldl (fun f ρ => Nat.lcm f ρ.s) 1
theorem lcm_dvd : ∀ (rs : List Ray) (f : Nat), f ∣ rs.foldl (fun f ρ => Nat.lcm f ρ.s) f ∧ ∀ ρ ∈ rs, ρ.s ∣ rs.foldl (fun f ρ => Nat.lcm f ρ.s) f
  | [], f => ⟨Nat.dvd_refl _, fun ρ h => nomatch h⟩
  | x :: r, f => by
    obtain ⟨h1, h2⟩ := lcm_dvd r (Nat.lcm f x.s)
    refine ⟨Nat.dvd_trans (Nat.dvd_lcm_left _ _) h1, fun ρ hρ => ?_⟩
    rcases List.mem_cons.mp hρ with rfl | hρ
    · exact Nat.dvd_trans (Nat.dvd_lcm_right _ _) h1
    · exact h2 ρ hρ
theorem lcm_pos : ∀ (rs : List Ray) (f : Nat), 1 ≤ f → (∀ ρ ∈ rs, 1 ≤ ρ.s) → 1 ≤ rs.foldl (fun f ρ => Nat.lcm f ρ.s) f
  | [], f, hf, _ => hf
  | x :: r, f, hf, h => lcm_pos r _ (Nat.lcm_pos hf (h x List.mem_cons_self)) fun ρ hρ => h ρ (List.mem_cons_of_mem _ hρ)
theorem round_loop {h : Hh} (v0 : Val) : ∀ (rs : List Ray) (f : Nat), 1 ≤ f → f ≤ 120 → (∀ ρ ∈ rs, ρ.Ok) →
    forL (gTup (gCons (gName 2) (gCons (gName 3) (gCons (gName 4) (gCons (gName 5) gNil))))) B_round_of_0 [] (rs.map encRay) [some v0, some (.int (f : Int)), none, none, none, none] h =
      if rs.foldl (fun f ρ => Nat.lcm f ρ.s) f ≤ 120 then .nx [some v0, some (.int (rs.foldl (fun f ρ => Nat.lcm f ρ.s) f : Nat)), none, none, none, none] h else
        (forL (gTup (gCons (gName 2) (gCons (gName 3) (gCons (gName 4) (gCons (gName 5) gNil))))) B_round_of_0 [] (rs.map encRay) [some v0, some (.int (f : Int)), none, none, none, none] h)
  | [], f, h1, h2, _ => by rw [List.map_nil, forL_nil, List.foldl_nil, if_pos h2]
  | x :: r, f, h1, h2, ok => by
    split
    · rename_i hq
      rw [List.foldl_cons] at hq ⊢
      have xo := ok x List.mem_cons_self
      have := xo.s1; have := xo.s2
      have dv := (lcm_dvd r (Nat.lcm f x.s)).1
      have po : 1 ≤ Nat.lcm f x.s := Nat.lcm_pos h1 xo.s1
      have le : Nat.lcm f x.s ≤ 120 := Nat.le_trans (Nat.le_of_dvd (lcm_pos r _ po fun ρ hρ => (ok ρ (List.mem_cons_of_mem _ hρ)).s1) dv) hq
      have ih := round_loop (h := h) v0 r (Nat.lcm f x.s) po le fun ρ hρ => ok ρ (List.mem_cons_of_mem _ hρ)
      rw [if_pos hq] at ih
      have cr := common_round_ok (a := f) (b := x.s) (h := h) h1 (by omega) xo.s1 (by omega)
      rw [List.map_cons, forL_cons]
      have nq : ¬ (120 < ((Nat.lcm f x.s : Nat) : Int)) := by omega
      simp -implicitDefEqProofs [encRay, B_round_of_0, cr, nq, wipeE]
      exact ih
    · rfl
end Ev

set_option Elab.async false
set_option linter.all false
set_option maxRecDepth 100000
namespace Ev
open PySem PySem.Spec PyProof.Rows L2 Mp
abbrev gR4 : Gv := gTup (gCons (gName 2) (gCons (gName 3) (gCons (gName 4) (gCons (gName 5) gNil))))
theorem seqI_l (l : List Val) (h : Hh) : seqI (.lst l) h = .ok ⟨l, []⟩ h := rfl
theorem round_many {h : Hh} (v0 : Val) : ∀ (rs : List Ray) (f : Nat), 1 ≤ f → f ≤ 120 → (∀ ρ ∈ rs, ρ.Ok) → ¬ rs.foldl (fun f ρ => Nat.lcm f ρ.s) f ≤ 120 →
    ∃ e, forL gR4 B_round_of_0 [] (rs.map encRay) [some v0, some (.int (f : Int)), none, none, none, none] h = .exc ⟨41, [("most", .int 120)]⟩ e h
  | [], f, h1, h2, _, hq => absurd h2 hq
  | x :: r, f, h1, h2, ok, hq => by
    rw [List.foldl_cons] at hq
    have xo := ok x List.mem_cons_self
    have := xo.s1; have := xo.s2
    have po : 1 ≤ Nat.lcm f x.s := Nat.lcm_pos h1 xo.s1
    have cr := common_round_ok (a := f) (b := x.s) (h := h) h1 (by omega) xo.s1 (by omega)
    rw [List.map_cons, forL_cons]
    by_cases le : Nat.lcm f x.s ≤ 120
    · obtain ⟨e, ih⟩ := round_many (h := h) v0 r (Nat.lcm f x.s) po le (fun ρ hρ => ok ρ (List.mem_cons_of_mem _ hρ)) hq
      have nq : ¬ (120 < ((Nat.lcm f x.s : Nat) : Int)) := by omega
      refine ⟨e, ?_⟩
      simp -implicitDefEqProofs [encRay, B_round_of_0, cr, nq, wipeE]
      exact ih
    · have nq : (120 < ((Nat.lcm f x.s : Nat) : Int)) := by omega
      refine ⟨[some v0, some (.int (Nat.lcm f x.s : Nat)), some (.int (x.n : Int)), some (.int x.a), some (.int (x.s : Int)), some (.int x.r)], ?_⟩
      simp -implicitDefEqProofs [encRay, B_round_of_0, cr, nq, wipeE]
theorem round_of_ok {rs : List Ray} {h : Hh} (ok : ∀ ρ ∈ rs, ρ.Ok) (hl : lcmOf rs ≤ 120) : F_round_of [.lst (rs.map encRay)] h = .ok (.int (lcmOf rs : Nat)) h := by
  refine run_rt (h1 := h) ?_ rfl List.take_length
  have lp := round_loop (h := h) (.lst (rs.map encRay)) rs 1 (by decide) (by decide) ok
  unfold lcmOf at hl ⊢
  rw [if_pos hl] at lp
  simp -implicitDefEqProofs [S_round_of, x_for, seqI_l]
  erw [lp]
  simp -implicitDefEqProofs
/-! by_rate -/
theorem by_rate_ok {w : Mp.Row} {h : Hh} : F_by_rate [encRow w] h = .ok (.tup [.int w.m, .int w.b, .int (w.f : Int)]) h := by
  refine run_rt (h1 := h) ?_ rfl List.take_length
  simp -implicitDefEqProofs [S_by_rate, encRow, ixP, atI, ixN, szz]
end Ev

set_option Elab.async false
set_option linter.all false
set_option maxRecDepth 100000
namespace Mp
open PySem PySem.Spec PyProof.Rows L2
def addRow (cs : List (List Mp.Row)) (x : Nat × Mp.Row) : List (List Mp.Row) := cs.set x.1 (cs.getD x.1 [] ++ [x.2])
def encC (l : List Mp.Row) : Ob := .lst (l.map encRow)
def refsV (b n : Nat) : Val := .lst ((List.range' b n).map Val.ref)
theorem addRow_len (cs : List (List Mp.Row)) (x : Nat × Mp.Row) : (addRow cs x).length = cs.length := by unfold addRow; rw [List.length_set]
theorem addRows_len : ∀ (l : List (Nat × Mp.Row)) (cs : List (List Mp.Row)), (l.foldl addRow cs).length = cs.length
  | [], _ => rfl
  | x :: r, cs => by rw [List.foldl_cons, addRows_len r, addRow_len]
theorem addRows_get : ∀ (l : List (Nat × Mp.Row)) (cs : List (List Mp.Row)) (i : Nat), i < cs.length → (l.foldl addRow cs).getD i [] = cs.getD i [] ++ (l.filter fun x => x.1 == i).map (·.2)
  | [], cs, i, _ => by simp
  | x :: r, cs, i, hi => by
    rw [List.foldl_cons, addRows_get r _ i (by rw [addRow_len]; exact hi)]
    unfold addRow
    by_cases c : x.1 = i
    · rw [List.filter_cons_of_pos (by simp [c]), List.map_cons, List.getD_eq_getElem?_getD, c, List.getElem?_set_self hi, Option.getD_some, List.append_assoc, List.singleton_append]
    · rw [List.filter_cons_of_neg (by simp [c]), List.getD_eq_getElem?_getD, List.getElem?_set_ne c, ← List.getD_eq_getElem?_getD]
theorem classes_eq {turn : Nat} {rs : List Ray} : (rs.flatMap (rowsOf turn)).foldl addRow (List.replicate turn []) = (List.range turn).map (cls turn rs) := by
  refine List.ext_getElem? fun i => ?_
  by_cases hi : i < turn
  · have h1 := addRows_get (rs.flatMap (rowsOf turn)) (List.replicate turn []) i (by rw [List.length_replicate]; exact hi)
    have hl : i < ((rs.flatMap (rowsOf turn)).foldl addRow (List.replicate turn [])).length := by rw [addRows_len, List.length_replicate]; exact hi
    rw [List.getElem?_map, List.getElem?_range hi]
    rw [List.getD_eq_getElem?_getD, List.getElem?_eq_getElem hl, Option.getD_some] at h1
    rw [List.getElem?_eq_getElem hl, h1]
    rw [List.getD_eq_getElem?_getD, List.getElem?_replicate, if_pos hi]
    rfl
  · rw [List.getElem?_eq_none (by rw [addRows_len, List.length_replicate]; omega), List.getElem?_eq_none (by simp; omega)]
theorem comp_lists {i : Nat} {env : Env} : ∀ (l acc : List Val) (h : Hh), acc.length + l.length ≤ 1000000 → compL (gName i) tTrue (eLst true aNil) [] l acc env h = .ok (acc ++ (List.range' h.length l.length).map .ref) (h ++ List.replicate l.length (.lst []))
  | [], acc, h, _ => by rw [compL_nil]; simp
  | v :: r, acc, h, hz => by
    rw [List.length_cons] at hz
    rw [compL_cons]
    simp -implicitDefEqProofs only [x_gN, x_tTrue, x_lst, x_nil, R.bnd, List.length_nil, szz (Nat.zero_le _), if_true, mk_t]
    have hz2 : acc.length < sizeLine := by rw [sizeLine_eq]; omega
    have ih := comp_lists (i := i) (env := env) r (acc ++ [.ref h.length]) (h ++ [.lst []]) (by rw [List.length_append, List.length_singleton]; omega)
    simp only [Nat.zero_le, if_true, if_pos hz2]
    rw [ih, List.length_append, List.length_singleton, List.append_assoc, List.append_assoc]
    rfl
end Mp

set_option Elab.async false
set_option linter.all false
set_option maxRecDepth 100000
namespace Mp
open PySem PySem.Spec PyProof.Rows L2
theorem addRow_le {cs : List (List Mp.Row)} {k : Nat} (x : Nat × Mp.Row) (h : ∀ l ∈ cs, l.length ≤ k) : ∀ l ∈ addRow cs x, l.length ≤ k + 1 := fun l hl => by
  unfold addRow at hl
  rcases List.mem_or_eq_of_mem_set hl with hl | rfl
  · exact Nat.le_succ_of_le (h l hl)
  · rw [List.length_append, List.length_singleton, List.getD_eq_getElem?_getD]
    cases e : cs[x.1]? with
    | none => exact Nat.succ_le_succ (Nat.zero_le _)
    | some y => exact Nat.succ_le_succ (h y (List.mem_of_getElem? e))
theorem addRows_le : ∀ (xs : List (Nat × Mp.Row)) (cs : List (List Mp.Row)) (k : Nat), (∀ l ∈ cs, l.length ≤ k) → ∀ l ∈ xs.foldl addRow cs, l.length ≤ k + xs.length
  | [], cs, k, h => h
  | x :: r, cs, k, h => fun l hl => by
    have := addRows_le r (addRow cs x) (k + 1) (addRow_le x h) l hl
    rw [List.length_cons]
    omega
theorem app_mid {h : Hh} {cs : List (List Mp.Row)} {c k : Nat} {w : Mp.Row} (hc : c < cs.length) (hk : ∀ l ∈ cs, l.length ≤ k) (h1 : k < 1000000) : appP (.ref (h.length + c)) [encRow w] (h ++ cs.map encC) = .ok .non (h ++ (addRow cs (c, w)).map encC) := by
  unfold appP
  have e : (h ++ cs.map encC)[h.length + c]? = some (encC cs[c]) := by
    rw [List.getElem?_append_right (Nat.le_add_right _ _), Nat.add_sub_cancel_left, List.getElem?_map, List.getElem?_eq_getElem hc]
    rfl
  have hl := hk cs[c] (List.getElem_mem hc)
  dsimp only
  rw [e]
  show (if ((cs[c]).map encRow).length < sizeLine ∧ (encRow w).bel (h.length + c) = true then _ else _) = _
  rw [if_pos ⟨by rw [List.length_map, sizeLine_eq]; omega, rfl⟩, List.set_append_right _ _ (Nat.le_add_right _ _), Nat.add_sub_cancel_left]
  unfold addRow
  dsimp only
  rw [List.map_set, List.getD_eq_getElem?_getD, List.getElem?_eq_getElem hc, Option.getD_some]
  unfold encC
  rw [List.map_append]
  rfl
end Mp
namespace Ev
open PySem PySem.Spec PyProof.Rows L2 Mp
theorem mul_n {m : Bool} {k : Nat} {b : Int} {h : Hh} (q : k < 2 ^ 60) : mulP m (.int (k : Int)) (.int b) h = .ok (.int ((k : Int) * b)) h := mul_sm' (by omega)
def envC (v : Val) (turn b : Nat) (ρ : Ray) : Mp.Env := [some v, some (.int (turn : Int)), some (refsV b turn), some (.int (ρ.n : Int)), some (.int ρ.a), some (.int (ρ.s : Int)), some (.int ρ.r), some (.int (ρ.r * (turn : Int) / (ρ.s : Int))), none, none, none, none]
theorem cls_inner {v : Val} {turn : Nat} {ρ : Ray} {h : Hh} (ok : ρ.Ok) (ht : 1 ≤ turn) (ht2 : turn ≤ 120) : ∀ (l : List Nat) (cs : List (List Mp.Row)) (k : Nat), (∀ i ∈ l, i ≤ 120) → cs.length = turn → (∀ x ∈ cs, x.length ≤ k) → k + l.length ≤ 1000000 →
    forL (gName 8) B_classes_of_0 [] (l.map fun (i : Nat) => Val.int (i : Int)) (envC v turn h.length ρ) (h ++ cs.map encC) = .nx (envC v turn h.length ρ) (h ++ ((l.map (rowOf turn ρ)).foldl addRow cs).map encC)
  | [], cs, k, hi, h1, h2, h3 => by rw [List.map_nil, forL_nil]; rfl
  | i :: r, cs, k, hi, h1, h2, h3 => by
    rw [List.length_cons] at h3
    have i1 := hi i List.mem_cons_self
    have s1 := ok.s1
    have s2 := ok.s2
    have n2 := ok.n2
    have is : i * ρ.s ≤ 120 * 120 := Nat.mul_le_mul i1 s2
    have ih := cls_inner (v := v) (ρ := ρ) (h := h) ok ht ht2 r (addRow cs (rowOf turn ρ i)) (k + 1) (fun j hj => hi j (List.mem_cons_of_mem _ hj)) (by rw [addRow_len, h1]) (addRow_le _ h2) (by omega)
    rw [List.map_cons, forL_cons]
    have hc : (ρ.n + i * ρ.s) % turn < turn := Nat.mod_lt _ ht
    generalize hcs : h ++ cs.map encC = H
    have m1 : mulP false (.int (i : Int)) (.int (ρ.s : Int)) H = .ok (.int ((i * ρ.s : Nat) : Int)) H := by rw [mul_sm (by omega)]; rfl
    have m2 : mulP false (.int (i : Int)) (.int ρ.r) H = .ok (.int ((i : Int) * ρ.r)) H := mul_sm' (by omega)
    have m3 : modP (.int ((ρ.n : Int) + ((i * ρ.s : Nat) : Int))) (.int (turn : Int)) H = .ok (.int (((ρ.n + i * ρ.s) % turn : Nat) : Int)) H := by rw [mod_sm (by omega)]; rfl
    have m4 : divP (.int ((ρ.n : Int) + ((i * ρ.s : Nat) : Int))) (.int (turn : Int)) H = .ok (.int (((ρ.n + i * ρ.s) / turn : Nat) : Int)) H := by rw [div_sm (by omega) (by omega)]; rfl
    have f1 : (ρ.n + i * ρ.s) / turn ≤ ρ.n + i * ρ.s := Nat.div_le_self _ _
    have m5 : mulP false (.int (((ρ.n + i * ρ.s) / turn : Nat) : Int)) (.int (ρ.r * (turn : Int) / (ρ.s : Int))) H = .ok (.int ((((ρ.n + i * ρ.s) / turn : Nat) : Int) * (ρ.r * (turn : Int) / (ρ.s : Int)))) H := mul_n (by omega)
    have m6 : ixP (refsV h.length turn) (.int (((ρ.n + i * ρ.s) % turn : Nat) : Int)) H = .ok (.ref (h.length + (ρ.n + i * ρ.s) % turn)) H := ix_lst (by rw [List.getElem?_map, List.getElem?_range' hc, Nat.one_mul]; rfl)
    have m7 := app_mid (h := h) (cs := cs) (w := (rowOf turn ρ i).2) (by rw [h1]; exact hc) h2 (by omega)
    rw [hcs] at m7
    have m8 : (h ++ (addRow cs ((ρ.n + i * ρ.s) % turn, (rowOf turn ρ i).2)).map encC).length = H.length := by rw [← hcs, List.length_append, List.length_append, List.length_map, List.length_map, addRow_len]
    have er : rowOf turn ρ i = ((ρ.n + i * ρ.s) % turn, (rowOf turn ρ i).2) := rfl
    rw [← er] at m7 m8
    have ew : encRow (rowOf turn ρ i).2 = .tup [.int (((ρ.n + i * ρ.s) / turn : Nat) : Int), .int (ρ.a + (i : Int) * ρ.r - (((ρ.n + i * ρ.s) / turn : Nat) : Int) * (ρ.r * (turn : Int) / (ρ.s : Int))), .int (ρ.r * (turn : Int) / (ρ.s : Int))] := rfl
    rw [ew] at m7
    clear er ew
    generalize hcs2 : h ++ (addRow cs (rowOf turn ρ i)).map encC = H2 at *
    rw [List.map_cons, List.foldl_cons]
    unfold envC at ih ⊢
    generalize ρ.r * (turn : Int) / (ρ.s : Int) = more at *
    generalize i * ρ.s = z at *
    generalize (ρ.n + z) % turn = C at *
    generalize (ρ.n + z) / turn = D at *
    generalize refsV h.length turn = RF at *
    have hb : B_classes_of_0 [some v, some (.int (turn : Int)), some RF, some (.int (ρ.n : Int)), some (.int ρ.a), some (.int (ρ.s : Int)), some (.int ρ.r), some (.int more), some (.int (i : Int)), none, none, none] H = .nx [some v, some (.int (turn : Int)), some RF, some (.int (ρ.n : Int)), some (.int ρ.a), some (.int (ρ.s : Int)), some (.int ρ.r), some (.int more), none, none, none, none] H2 := by
      simp -implicitDefEqProofs [B_classes_of_0, m1, m2, m3, m4, m5, m6, m7, isL, szz, wipeE, m8]
    simp -implicitDefEqProofs only [x_gN, lift_ok, List.set_cons_succ, List.set_cons_zero]
    rw [hb]
    exact ih
theorem cls_outer {v : Val} {turn : Nat} {h : Hh} (ht : 1 ≤ turn) (ht2 : turn ≤ 120) : ∀ (rs : List Ray) (cs : List (List Mp.Row)) (k : Nat), (∀ ρ ∈ rs, ρ.Ok) → cs.length = turn → (∀ x ∈ cs, x.length ≤ k) → k + 120 * rs.length ≤ 1000000 →
    forL (gTup (gCons (gName 3) (gCons (gName 4) (gCons (gName 5) (gCons (gName 6) gNil))))) B_classes_of_1 [] (rs.map encRay) [some v, some (.int (turn : Int)), some (refsV h.length turn), none, none, none, none, none, none, none, none, none] (h ++ cs.map encC)
      = .nx [some v, some (.int (turn : Int)), some (refsV h.length turn), none, none, none, none, none, none, none, none, none] (h ++ ((rs.flatMap (rowsOf turn)).foldl addRow cs).map encC)
  | [], cs, k, hi, h1, h2, h3 => by rw [List.map_nil, forL_nil]; rfl
  | ρ :: r, cs, k, hi, h1, h2, h3 => by
    rw [List.length_cons] at h3
    have ok := hi ρ List.mem_cons_self
    have s1 := ok.s1
    have s2 := ok.s2
    have q1 : turn / ρ.s ≤ turn := Nat.div_le_self _ _
    have le := addRows_le ((List.range (turn / ρ.s)).map (rowOf turn ρ)) cs k h2
    rw [List.length_map, List.length_range] at le
    have ih := cls_outer (v := v) (h := h) ht ht2 r (((List.range (turn / ρ.s)).map (rowOf turn ρ)).foldl addRow cs) (k + turn / ρ.s) (fun j hj => hi j (List.mem_cons_of_mem _ hj)) (by rw [addRows_len, h1]) le (by omega)
    have inn := cls_inner (v := v) (h := h) ok ht ht2 (List.range (turn / ρ.s)) cs k (fun i hi => by rw [List.mem_range] at hi; omega) h1 h2 (by rw [List.length_range]; omega)
    rw [List.flatMap_cons, List.foldl_append]
    show _ = SR.nx _ (h ++ ((r.flatMap (rowsOf turn)).foldl addRow (((List.range (turn / ρ.s)).map (rowOf turn ρ)).foldl addRow cs)).map encC)
    rw [← ih, List.map_cons, forL_cons]
    have m8 : (h ++ (((List.range (turn / ρ.s)).map (rowOf turn ρ)).foldl addRow cs).map encC).length = (h ++ cs.map encC).length := by rw [List.length_append, List.length_append, List.length_map, List.length_map, addRows_len]
    generalize h ++ cs.map encC = H at *
    generalize h ++ (((List.range (turn / ρ.s)).map (rowOf turn ρ)).foldl addRow cs).map encC = H2 at *
    have m1 : mulP false (.int ρ.r) (.int (turn : Int)) H = .ok (.int (ρ.r * (turn : Int))) H := mul_sm (by omega)
    have m2 : divP (.int (ρ.r * (turn : Int))) (.int (ρ.s : Int)) H = .ok (.int (ρ.r * (turn : Int) / (ρ.s : Int))) H := div_sm (by omega) (by omega)
    have m3 : divP (.int (turn : Int)) (.int (ρ.s : Int)) H = .ok (.int ((turn / ρ.s : Nat) : Int)) H := by rw [div_sm (by omega) (by omega)]; rfl
    have m4 := rg1 (n := turn / ρ.s) (h := H) (by omega)
    unfold envC at inn
    generalize ρ.r * (turn : Int) / (ρ.s : Int) = more at *
    generalize turn / ρ.s = T at *
    generalize refsV h.length turn = RF at *
    clear ih le hi h1 h2
    simp -implicitDefEqProofs [encRay, B_classes_of_1, m1, m2, m3, m4, x_for, inn, wipeE, m8]
end Ev

set_option Elab.async false
set_option linter.all false
set_option maxRecDepth 100000
namespace Mp
open PySem PySem.Spec PyProof.Rows L2
theorem run_frz {N : Nat} {b : Sv} {args : List Val} {v u : Val} {h h1 : Hh} (e : b (args.map some ++ List.replicate (N - args.length) none) h = .rt v h1) (hv : v.frz h1 h.length 8 = some u) (hh : h1.take h.length = h) : runFn N b args h = .ok u h := by
  unfold runFn
  rw [e]
  show finV h v h1 = _
  unfold finV
  rw [hv, hh]
theorem mapM_some {α β : Type} {f : α → Option β} {g : α → β} : ∀ {l : List α}, (∀ x ∈ l, f x = some (g x)) → l.mapM f = some (l.map g)
  | [], _ => rfl
  | a :: l, h => by
    rw [List.mapM_cons, h a List.mem_cons_self, mapM_some fun x hx => h x (List.mem_cons_of_mem _ hx)]
    rfl
/-- the lists of a heap's end, told by value -/
def clsV (cs : List (List Mp.Row)) : Val := .lst (cs.map fun l => .lst (l.map encRow))
theorem refs_frz {h : Hh} {cs : List (List Mp.Row)} (d : Nat) (h1 : 1 ≤ cs.length) : (refsV h.length cs.length).frz (h ++ cs.map encC) h.length (d + 3) = some (clsV cs) := by
  have nb : ¬ (refsV h.length cs.length).bel h.length = true := by
    unfold refsV Val.bel
    obtain ⟨n, hn⟩ : ∃ n, cs.length = n + 1 := ⟨cs.length - 1, by omega⟩
    rw [hn, List.range'_succ, List.map_cons]
    unfold belL Val.bel
    simp
  unfold Val.frz
  rw [if_neg nb]
  unfold refsV clsV
  dsimp only
  rw [mapM_some (g := fun v => match v with | .ref k => .lst ((cs.getD (k - h.length) []).map encRow) | v => v)]
  · rw [Option.map_some]
    congr 2
    rw [List.map_map]
    refine List.ext_getElem? fun i => ?_
    rw [List.getElem?_map, List.getElem?_map]
    by_cases hi : i < cs.length
    · rw [List.getElem?_range' hi, List.getElem?_eq_getElem hi]
      show some (Val.lst ((cs.getD (h.length + 1 * i - h.length) []).map encRow)) = some (Val.lst (cs[i].map encRow))
      rw [Nat.one_mul, Nat.add_sub_cancel_left, List.getD_eq_getElem?_getD, List.getElem?_eq_getElem hi]
      rfl
    · rw [List.getElem?_eq_none (by simp; omega), List.getElem?_eq_none (by omega)]
      rfl
  · intro x hx
    obtain ⟨k, hk, rfl⟩ := List.mem_map.mp hx
    obtain ⟨i, hi, rfl⟩ := List.mem_range'.mp hk
    rw [Nat.one_mul]
    have e : (h ++ cs.map encC)[h.length + i]? = some (encC cs[i]) := by
      rw [List.getElem?_append_right (Nat.le_add_right _ _), Nat.add_sub_cancel_left, List.getElem?_map, List.getElem?_eq_getElem hi]
      rfl
    dsimp only
    rw [Nat.add_sub_cancel_left, List.getD_eq_getElem?_getD, List.getElem?_eq_getElem hi, Option.getD_some]
    unfold Val.frz
    rw [if_neg (by unfold Val.bel; simp)]
    dsimp only
    rw [e]
    unfold encC
    dsimp only
    rw [mapM_some (g := fun v => v)]
    · rw [List.map_id', Option.map_some]
    · intro y hy
      obtain ⟨w, _, rfl⟩ := List.mem_map.mp hy
      unfold Val.frz
      rw [if_pos (by rfl)]
end Mp
namespace Ev
open PySem PySem.Spec PyProof.Rows L2 Mp
theorem classes_of_ok {rs : List Ray} {turn : Nat} {h : Hh} (ok : ∀ ρ ∈ rs, ρ.Ok) (ht : 1 ≤ turn) (ht2 : turn ≤ 120) (hz : rs.length ≤ 8000) : F_classes_of [.lst (rs.map encRay), .int (turn : Int)] h = .ok (clsV ((List.range turn).map (cls turn rs))) h := by
  have hl : ((List.range turn).map (cls turn rs)).length = turn := by simp
  have fz := refs_frz (h := h) (cs := (List.range turn).map (cls turn rs)) 5 (by rw [hl]; exact ht)
  rw [hl] at fz
  have lp := cls_outer (v := .lst (rs.map encRay)) (h := h) ht ht2 rs (List.replicate turn []) 0 ok (by simp) (fun x hx => by rw [List.eq_of_mem_replicate hx]; exact Nat.le_refl _) (by omega)
  rw [classes_eq] at lp
  refine run_frz (h1 := h ++ ((List.range turn).map (cls turn rs)).map encC) ?_ fz (take_end _ _)
  have r1 := rg1 (n := turn) (h := h) (by omega)
  have e1 : eComp false [11] (iRng1 (aCons (eVar 1) aNil)) (gName 11) tTrue (eLst true aNil) [some (.lst (rs.map encRay)), some (.int (turn : Int)), none, none, none, none, none, none, none, none, none, none] h = .ok (refsV h.length turn) (h ++ List.replicate turn (.lst [])) := by
    refine x_comp (iv := ⟨(List.range turn).map fun (i : Nat) => Val.int (i : Int), []⟩) (h1 := h) (by simp -implicitDefEqProofs [r1]) ?_
    have := comp_lists (i := 11) (env := wipeE [some (.lst (rs.map encRay)), some (.int (turn : Int)), none, none, none, none, none, none, none, none, none, none] [11]) ((List.range turn).map fun (i : Nat) => Val.int (i : Int)) [] h (by simp; omega)
    rw [this]
    simp
  have e2 : (List.replicate turn ([] : List Mp.Row)).map encC = List.replicate turn (.lst []) := by rw [List.map_replicate]; rfl
  rw [e2] at lp
  generalize h ++ List.replicate turn (.lst []) = H at *
  generalize refsV h.length turn = RF at *
  generalize h ++ ((List.range turn).map (cls turn rs)).map encC = H2 at *
  simp -implicitDefEqProofs only [List.map_cons, List.map_nil, List.length_cons, List.length_nil, List.cons_append, List.nil_append]
  generalize rs.map encRay = RS at *
  clear fz e2 hl r1
  simp -implicitDefEqProofs [S_classes_of, x_for, e1, lp, seqI_l]
end Ev

set_option Elab.async false
set_option linter.all false
set_option maxRecDepth 100000
namespace Mp
open PySem
def rowLt (x y : Row) : Bool := HT.lexLt [x.m, x.b, (x.f : Int)] [y.m, y.b, (y.f : Int)]
theorem rowLt_iff (x y : Row) : rowLt x y = true ↔ x.m < y.m ∨ (x.m = y.m ∧ (x.b < y.b ∨ (x.b = y.b ∧ x.f < y.f))) := by
  unfold rowLt
  simp only [HT.lexLt_cons, HT.lexLt_nil_nil]
  split
  · rename_i h
    split
    · rename_i h2
      split
      · rename_i h3
        constructor
        · intro z; cases z
        · omega
      · rw [decide_eq_true_iff]; omega
    · rw [decide_eq_true_iff]; omega
  · rw [decide_eq_true_iff]; omega
def bestOf : Row → List Row → Row
  | b, [] => b
  | b, x :: r => bestOf (if rowLt x b = true then x else b) r
theorem bestOf_spec : ∀ (r : List Row) (b : Row), bestOf b r ∈ b :: r ∧ ∀ w ∈ b :: r, rowLe (bestOf b r) w
  | [], b => ⟨List.mem_cons_self, fun w hw => by
    rcases List.mem_cons.mp hw with rfl | hw
    · exact .inr ⟨rfl, .inr ⟨rfl, Nat.le_refl _⟩⟩
    · cases hw⟩
  | x :: r, b => by
    obtain ⟨h1, h2⟩ := bestOf_spec r (if rowLt x b = true then x else b)
    unfold bestOf
    have h3 := h2 _ List.mem_cons_self
    have q := rowLt_iff x b
    by_cases c : rowLt x b = true
    · rw [if_pos c] at h1 h2 h3 ⊢
      have c' := q.mp c
      refine ⟨?_, fun w hw => ?_⟩
      · rcases List.mem_cons.mp h1 with h | h
        · rw [h]; exact List.mem_cons_of_mem _ List.mem_cons_self
        · exact List.mem_cons_of_mem _ (List.mem_cons_of_mem _ h)
      · rcases List.mem_cons.mp hw with rfl | hw
        · unfold rowLe at *; omega
        · exact h2 w hw
    · rw [if_neg c] at h1 h2 h3 ⊢
      have c' : ¬ (x.m < b.m ∨ (x.m = b.m ∧ (x.b < b.b ∨ (x.b = b.b ∧ x.f < b.f)))) := fun z => c (q.mpr z)
      refine ⟨?_, fun w hw => ?_⟩
      · rcases List.mem_cons.mp h1 with h | h
        · rw [h]; exact List.mem_cons_self
        · exact List.mem_cons_of_mem _ (List.mem_cons_of_mem _ h)
      · rcases List.mem_cons.mp hw with rfl | hw
        · exact h3
        · rcases List.mem_cons.mp hw with rfl | hw
          · exact (by unfold rowLe at *; omega)
          · exact h2 w (List.mem_cons_of_mem _ hw)
/-- the best of some rows -/
def bestR : List Row → Option Row
  | [] => none
  | b :: r => some (bestOf b r)
def putL (xs : List (Option Int)) (n : Nat) (a : Int) : List (Option Int) :=
  if n < xs.length ∧ (xs.getD n none = none ∨ ∃ b, xs.getD n none = some b ∧ a < b) then xs.set n (some a) else xs
theorem putL_len (xs : List (Option Int)) (n : Nat) (a : Int) : (putL xs n a).length = xs.length := by unfold putL; split <;> simp
theorem putL_get {xs : List (Option Int)} {n m : Nat} {a : Int} (hm : m < xs.length) : (putL xs n a).getD m none = if n = m then lo (xs.getD m none) (some a) else xs.getD m none := by
  unfold putL
  by_cases c : n = m
  · subst c
    rw [if_pos rfl]
    cases e : xs.getD n none with
    | none =>
      rw [if_pos ⟨hm, .inl rfl⟩, List.getD_eq_getElem?_getD, List.getElem?_set_self hm]
      rfl
    | some b =>
      by_cases q : a < b
      · rw [if_pos ⟨hm, .inr ⟨b, rfl, q⟩⟩, List.getD_eq_getElem?_getD, List.getElem?_set_self hm]
        show some a = some (min b a)
        rw [Int.min_eq_right (by omega)]
      · rw [if_neg (fun z => by
          obtain ⟨_, h⟩ := z
          rcases h with h | ⟨b', h, h2⟩
          · exact absurd h (by simp)
          · exact q (by rw [Option.some.inj h]; exact h2)), e]
        show some b = some (min b a)
        rw [Int.min_eq_left (by omega)]
  · rw [if_neg c]
    split
    · rw [List.getD_eq_getElem?_getD, List.getElem?_set_ne c, ← List.getD_eq_getElem?_getD]
    · rfl
def putLs (l : List (Nat × Int)) (xs : List (Option Int)) : List (Option Int) := l.foldl (fun xs p => putL xs p.1 p.2) xs
theorem putLs_len : ∀ (l : List (Nat × Int)) (xs : List (Option Int)), (putLs l xs).length = xs.length
  | [], _ => rfl
  | p :: l, xs => by unfold putLs; rw [List.foldl_cons]; exact (putLs_len l _).trans (putL_len _ _ _)
theorem putLs_least {m : Nat} {P : Int → Prop} : ∀ (l : List (Nat × Int)) (xs : List (Option Int)), m < xs.length → IsLeast P (xs.getD m none) → IsLeast (fun v => P v ∨ (m, v) ∈ l) ((putLs l xs).getD m none)
  | [], xs, hm, h => by
    refine h.imp fun v => ⟨.inl, fun h => ?_⟩
    rcases h with h | h
    · exact h
    · cases h
  | p :: l, xs, hm, h => by
    have ih := fun (Q : Int → Prop) (hq : IsLeast Q ((putL xs p.1 p.2).getD m none)) => putLs_least l (putL xs p.1 p.2) (by rw [putL_len]; exact hm) hq
    show IsLeast _ ((putLs l (putL xs p.1 p.2)).getD m none)
    rw [putL_get hm] at ih
    obtain ⟨n, a⟩ := p
    by_cases c : n = m
    · dsimp only at ih
      rw [if_pos c] at ih
      have o := h.or (show IsLeast (fun v => v = a) (some a) from ⟨rfl, fun v e => Int.le_of_eq e.symm⟩)
      refine (ih _ o).imp fun v => ?_
      simp only [List.mem_cons, Prod.mk.injEq]
      constructor
      · rintro ((h | h) | h)
        · exact .inl h
        · exact .inr (.inl ⟨c.symm, h⟩)
        · exact .inr (.inr h)
      · rintro (h | ⟨_, h⟩ | h)
        · exact .inl (.inl h)
        · exact .inl (.inr h)
        · exact .inr h
    · dsimp only at ih
      rw [if_neg c] at ih
      refine (ih _ h).imp fun v => ?_
      simp only [List.mem_cons, Prod.mk.injEq]
      constructor
      · rintro (h | h)
        · exact .inl h
        · exact .inr (.inr h)
      · rintro (h | ⟨h, _⟩ | h)
        · exact .inl h
        · exact absurd h.symm c
        · exact .inr h
/-- where a ray tells below S -/
def putsOf (S : Nat) (ρ : Ray) : List (Nat × Int) := (List.range ((S - ρ.n + ρ.s - 1) / ρ.s)).map fun i => (ρ.n + i * ρ.s, ρ.a + (i : Int) * ρ.r)
def headOf (ps : List (Nat × Int)) (rs : List Ray) (S : Nat) : List (Option Int) := putLs (rs.flatMap (putsOf S)) (putLs ps (List.replicate S none))
def placeOf (rs : List Ray) (turn n : Nat) : Option Int × Int := match bestR (cls turn rs (n % turn)) with
  | none => (none, 0)
  | some b => (some (b.b + ((n / turn : Nat) : Int) * b.m), b.m)
def madeTab (ps : List (Nat × Int)) (rs : List Ray) (turn S : Nat) : Tab := ⟨headOf ps rs S, (List.range' S turn).map (placeOf rs turn)⟩
theorem headOf_len (ps : List (Nat × Int)) (rs : List Ray) (S : Nat) : (headOf ps rs S).length = S := by unfold headOf; rw [putLs_len, putLs_len, List.length_replicate]
theorem mem_puts {S : Nat} {ρ : Ray} {m : Nat} {v : Int} (hs : 1 ≤ ρ.s) (hm : m < S) : (m, v) ∈ putsOf S ρ ↔ ∃ i : Nat, m = ρ.n + i * ρ.s ∧ v = ρ.a + (i : Int) * ρ.r := by
  unfold putsOf
  simp only [List.mem_map, List.mem_range, Prod.mk.injEq]
  constructor
  · rintro ⟨i, _, h1, h2⟩
    exact ⟨i, h1.symm, h2.symm⟩
  · rintro ⟨i, h1, h2⟩
    refine ⟨i, ?_, h1.symm, h2.symm⟩
    have : i + 1 ≤ (S - ρ.n + ρ.s - 1) / ρ.s := by
      rw [Nat.le_div_iff_mul_le (by omega), Nat.add_mul]
      omega
    omega
theorem head_least {ps : List (Nat × Int)} {rs : List Ray} {S m : Nat} (ok : ∀ ρ ∈ rs, 1 ≤ ρ.s) (hm : m < S) : IsLeast (Tells ps rs m) ((headOf ps rs S).getD m none) := by
  unfold headOf
  have h0 : IsLeast (fun _ => False) ((List.replicate S (none : Option Int)).getD m none) := by
    rw [List.getD_eq_getElem?_getD, List.getElem?_replicate, if_pos hm]
    exact fun v h => h
  have h1 := putLs_least ps _ (by rw [List.length_replicate]; exact hm) h0
  have h2 := putLs_least (rs.flatMap (putsOf S)) _ (by rw [putLs_len, List.length_replicate]; exact hm) h1
  refine h2.imp fun v => ?_
  unfold Tells
  simp only [List.mem_flatMap, false_or]
  constructor
  · rintro (h | ⟨ρ, hρ, h⟩)
    · exact .inl h
    · exact .inr ⟨ρ, hρ, (mem_puts (ok ρ hρ) hm).mp h⟩
  · rintro (h | ⟨ρ, hρ, h⟩)
    · exact .inl h
    · exact .inr ⟨ρ, hρ, (mem_puts (ok ρ hρ) hm).mpr h⟩
/-- a size behind which each rest is told by its best row alone -/
structure Enough (ps : List (Nat × Int)) (rs : List Ray) (turn S : Nat) : Prop where
  pts : ∀ p ∈ ps, p.1 < S
  rays : ∀ c < turn, ∀ b, bestR (cls turn rs c) = some b → (c : Int) + (turn : Int) * lastT b (cls turn rs c) ≤ (S : Int)
theorem made_val {ps : List (Nat × Int)} {rs : List Ray} {turn S : Nat} (ok : ∀ ρ ∈ rs, 1 ≤ ρ.s) (ht : 1 ≤ turn) (hs : ∀ ρ ∈ rs, ρ.s ∣ turn) (en : Enough ps rs turn S) (m : Nat) : IsLeast (Tells ps rs m) ((madeTab ps rs turn S).val m) := by
  unfold Tab.val madeTab
  dsimp only
  rw [headOf_len]
  split
  · rename_i h; exact head_least ok h
  · rename_i h
    have hL : ((List.range' S turn).map (placeOf rs turn)).length = turn := by simp
    unfold Frm.at'
    rw [hL]
    have hi : (m - S) % turn < turn := Nat.mod_lt _ (by omega)
    have e1 := Nat.div_add_mod (m - S) turn
    generalize (m - S) % turn = i at *
    generalize (m - S) / turn = k at *
    have hg : Frm.get ((List.range' S turn).map (placeOf rs turn)) i = placeOf rs turn (S + i) := by
      unfold Frm.get
      rw [List.getD_eq_getElem?_getD, List.getElem?_map, List.getElem?_range' hi, Nat.one_mul]
      rfl
    rw [hg]
    have em : m = (S + i) + turn * k := by omega
    have md : m % turn = (S + i) % turn := by rw [em, Nat.add_mul_mod_self_left]
    have dv : m / turn = (S + i) / turn + k := by rw [em, Nat.add_mul_div_left _ _ (by omega)]
    have hc : m % turn < turn := Nat.mod_lt _ (by omega)
    have dm := Nat.div_add_mod m turn
    have T1 : ∀ v, Tells ps rs m v ↔ ∃ w ∈ cls turn rs (m % turn), w.f ≤ m / turn ∧ v = w.b + ((m / turn : Nat) : Int) * w.m := by
      intro v
      have rt := rows_tell (v := v) (t := m / turn) ht hs hc
      rw [show m % turn + turn * (m / turn) = m by omega] at rt
      refine ⟨fun h => ?_, fun h => .inr (rt.mpr h)⟩
      rcases h with h | h
      · exact absurd (en.pts _ h) (by show ¬ m < S; omega)
      · exact rt.mp h
    unfold placeOf
    rw [← md]
    have en2 := en.rays (m % turn) hc
    cases e : bestR (cls turn rs (m % turn)) with
    | none =>
      dsimp only
      intro v hv
      obtain ⟨w, hw, _⟩ := (T1 v).mp hv
      cases e2 : cls turn rs (m % turn) with
      | nil => rw [e2] at hw; cases hw
      | cons a r => rw [e2] at e; cases e
    | some b =>
      have en3 := en2 b e
      dsimp only
      cases e2 : cls turn rs (m % turn) with
      | nil => rw [e2] at e; cases e
      | cons a r =>
        have e' := e
        rw [e2] at e
        obtain ⟨s1, s2⟩ := bestOf_spec r a
        have eb : bestOf a r = b := Option.some.inj e
        rw [eb] at s1 s2
        have lt : lastT b (cls turn rs (m % turn)) ≤ ((m / turn : Nat) : Int) := by
          refine Int.not_lt.mp fun c => ?_
          have c1 : ((m / turn : Nat) : Int) + 1 ≤ lastT b (cls turn rs (m % turn)) := c
          have c2 := Int.mul_le_mul_of_nonneg_left c1 (show (0 : Int) ≤ (turn : Int) by omega)
          rw [Int.mul_add, Int.mul_one] at c2
          have c3 : ((turn * (m / turn) : Nat) : Int) = (turn : Int) * ((m / turn : Nat) : Int) := Int.natCast_mul _ _
          omega
        have bl := best_least (rows := cls turn rs (m % turn)) (best := b) (t := m / turn) (by rw [e2]; exact s1) (by rw [e2]; exact s2) lt
        have bl2 := bl.imp (fun v => (T1 v).symm)
        have ez : some (b.b + (((S + i) / turn : Nat) : Int) * b.m + (k : Int) * b.m) = some (b.b + ((m / turn : Nat) : Int) * b.m) := by
          rw [dv, Int.natCast_add, Int.add_mul, Int.add_assoc]
        show IsLeast _ (some (b.b + (((S + i) / turn : Nat) : Int) * b.m + (k : Int) * b.m))
        rw [ez]
        exact bl2
/-! ### tables with a head of any size -/
structure Tab.Big (T : Tab) : Prop where
  l1 : 1 ≤ T.turn.length
  l2 : T.turn.length ≤ 120
  ha : ∀ a ∈ T.head, okA a
  hp : ∀ p ∈ T.turn, okP p
theorem Tab.Ok.big {T : Tab} (ok : T.Ok) : T.Big := ⟨ok.l1, ok.l2, ok.ha, ok.hp⟩
theorem bigUniq {T U : Tab} (hT : T.Big) (hU : U.Big) (h : ∀ n, T.val n = U.val n) : T.least = U.least := by
  have f : ∀ {T : Tab}, T.Big → (⟨T.head, Frm.leastRound T.turn⟩ : Tab).L ∧ (∀ n, (⟨T.head, Frm.leastRound T.turn⟩ : Tab).val n = T.val n) := fun {T} ok => by
    have z := okP_zr ok.hp
    have sp := Frm.leastM_spec ok.l1
    refine ⟨⟨by show 1 ≤ (Frm.leastRound _).length; rw [Frm.leastRound_len ok.l1]; exact sp.1, okP_zr (okP_thin sp.1 sp.2.1 ok.hp), Frm.leastRound_least ok.l1 z⟩, fun n => ?_⟩
    unfold Tab.val
    dsimp only
    rw [Frm.leastRound_at ok.l1 z]
  exact strip_uniq (f hT).1 (f hU).1 fun n => by rw [(f hT).2, (f hU).2, h]
end Mp

set_option Elab.async false
set_option linter.all false
set_option maxRecDepth 100000
namespace Ev
open PySem PySem.Spec PyProof.Rows L2 Mp
theorem tlt_row (x b : Mp.Row) : tlt (.tup [.int x.m, .int x.b, .int (x.f : Int)]) (.tup [.int b.m, .int b.b, .int (b.f : Int)]) = some (rowLt x b) := rfl
theorem minKL_row {h : Hh} : ∀ (r : List Mp.Row) (b : Mp.Row), minKL F_by_rate [] (encRow b) (.tup [.int b.m, .int b.b, .int (b.f : Int)]) (r.map encRow) h = .ok (encRow (bestOf b r)) h
  | [], b => by
    rw [List.map_nil, minKL, if_pos (chk0 h)]
    rfl
  | x :: r, b => by
    rw [List.map_cons, minKL, if_pos (chk0 h), by_rate_ok]
    dsimp only
    rw [tlt_row]
    unfold bestOf
    cases q : rowLt x b with
    | true => exact minKL_row r x
    | false => exact minKL_row r b
theorem minK_rows {h : Hh} {a : Mp.Row} {r : List Mp.Row} : minK F_by_rate (.lst ((a :: r).map encRow)) h = .ok (encRow (bestOf a r)) h := by
  unfold minK
  show (match F_by_rate [encRow a] h with | .ok k h1 => minKL F_by_rate [] (encRow a) k (r.map encRow) h1 | _ => .bad) = _
  rw [by_rate_ok]
  exact minKL_row r a
theorem last_turn_ok {rows : List Mp.Row} {best : Mp.Row} {h : Hh} (hm : ∀ w ∈ rows, w.m ≤ 2 ^ 60) (hb : 0 ≤ best.m) : F_last_turn [.lst (rows.map encRow), encRow best] h = .ok (.int (lastT best rows)) h := by
  refine run_rt (h1 := h) ?_ rfl List.take_length
  have lp := (for_fold (g := gTup (gCons (gName 6) (gCons (gName 7) (gCons (gName 8) gNil)))) (b := B_last_turn_0) encRow (fun f => [some (.lst (rows.map encRow)), some (encRow best), some (.int (best.f : Int)), some (.int best.b), some (.int best.m), some (.int f), none, none, none]) (fun _ => h) (fun found w => if w.m > best.m ∧ w.b < best.b then max found (-((w.b - best.b) / (w.m - best.m))) else found) (fun _ => True) rows (best.f : Int) trivial (fun w hw f _ => ⟨trivial, by
    generalize rows.map encRow = RW at *
    have hm' := hm w hw
    refine ⟨[some (.lst RW), some (encRow best), some (.int (best.f : Int)), some (.int best.b), some (.int best.m), some (.int f), some (.int (w.f : Int)), some (.int w.b), some (.int w.m)], by simp -implicitDefEqProofs [encRow], .inl ?_⟩
    by_cases c1 : best.m < w.m
    · by_cases c2 : w.b < best.b
      · have d := div_sm (a := w.b - best.b) (b := w.m - best.m) (h := h) (by omega) (by omega)
        have mx := max2 f (-((w.b - best.b) / (w.m - best.m))) h
        rw [if_pos ⟨c1, c2⟩]
        generalize (w.b - best.b) / (w.m - best.m) = D at *
        simp -implicitDefEqProofs [B_last_turn_0, c1, c2, d, mx, wipeE]
      · rw [if_neg (fun z => c2 z.2)]
        simp -implicitDefEqProofs [B_last_turn_0, c1, c2, wipeE]
    · rw [if_neg (fun z => c1 z.1)]
      simp -implicitDefEqProofs [B_last_turn_0, c1, wipeE]⟩)).1
  unfold lastT
  generalize rows.foldl (fun found w => if w.m > best.m ∧ w.b < best.b then max found (-((w.b - best.b) / (w.m - best.m))) else found) (best.f : Int) = L at *
  have e : encRow best = .tup [.int (best.f : Int), .int best.b, .int best.m] := rfl
  generalize rows.map encRow = RW at *
  generalize encRow best = EB at *
  subst e
  simp -implicitDefEqProofs [S_last_turn, x_for, seqI_l, lp]
end Ev

set_option Elab.async false
set_option linter.all false
set_option maxRecDepth 100000
namespace Mp
open PySem PyProof.Rows
section
variable {h : Hh} {k : Nat}
theorem lsqS {l : List Val} (hk : k < h.length) : lsq (.ref k) (h.set k (.lst l)) = some l := by
  unfold lsq
  dsimp only
  rw [List.getElem?_set_self hk]
theorem ixS {l : List Val} {i : Nat} {v : Val} (hk : k < h.length) (e : l[i]? = some v) : ixP (.ref k) (.int (i : Int)) (h.set k (.lst l)) = .ok v (h.set k (.lst l)) := by
  unfold ixP
  dsimp only
  rw [lsqS hk]
  dsimp only
  rw [L2.atI_nat e]
theorem ixS0 {a b c d e : Val} (hk : k < h.length) : ixP (.ref k) (.int 0) (h.set k (.lst [a, b, c, d, e])) = .ok a (h.set k (.lst [a, b, c, d, e])) := ixS (i := 0) hk rfl
theorem ixS1 {a b c d e : Val} (hk : k < h.length) : ixP (.ref k) (.int 1) (h.set k (.lst [a, b, c, d, e])) = .ok b (h.set k (.lst [a, b, c, d, e])) := ixS (i := 1) hk rfl
theorem ixS2 {a b c d e : Val} (hk : k < h.length) : ixP (.ref k) (.int 2) (h.set k (.lst [a, b, c, d, e])) = .ok c (h.set k (.lst [a, b, c, d, e])) := ixS (i := 2) hk rfl
theorem ixS3 {a b c d e : Val} (hk : k < h.length) : ixP (.ref k) (.int 3) (h.set k (.lst [a, b, c, d, e])) = .ok d (h.set k (.lst [a, b, c, d, e])) := ixS (i := 3) hk rfl
theorem ixS4 {a b c d e : Val} (hk : k < h.length) : ixP (.ref k) (.int 4) (h.set k (.lst [a, b, c, d, e])) = .ok e (h.set k (.lst [a, b, c, d, e])) := ixS (i := 4) hk rfl
theorem setS {l : List Val} {j : Nat} {z : Int} (hk : k < h.length) (hj : j < l.length) : setP (.ref k) (.int (j : Int)) (.int z) (h.set k (.lst l)) = .ok () (h.set k (.lst (l.set j (.int z)))) := by
  unfold setP
  dsimp only
  rw [List.getElem?_set_self hk]
  dsimp only
  have : L2.ixN l.length (j : Int) = some j := by
    unfold L2.ixN
    rw [if_pos (by omega), if_pos (by omega), Int.toNat_natCast]
  rw [this]
  dsimp only
  rw [if_pos (by unfold Val.bel; rfl), List.set_set]
theorem setS1 {a b c d e : Val} {z : Int} (hk : k < h.length) : setP (.ref k) (.int 1) (.int z) (h.set k (.lst [a, b, c, d, e])) = .ok () (h.set k (.lst [a, .int z, c, d, e])) := setS (j := 1) hk (by simp)
theorem setS2 {a b c d e : Val} {z : Int} (hk : k < h.length) : setP (.ref k) (.int 2) (.int z) (h.set k (.lst [a, b, c, d, e])) = .ok () (h.set k (.lst [a, b, .int z, d, e])) := setS (j := 2) hk (by simp)
theorem setS3 {a b c d e : Val} {z : Int} (hk : k < h.length) : setP (.ref k) (.int 3) (.int z) (h.set k (.lst [a, b, c, d, e])) = .ok () (h.set k (.lst [a, b, c, .int z, e])) := setS (j := 3) hk (by simp)
theorem setS4 {a b c d e : Val} {z : Int} (hk : k < h.length) : setP (.ref k) (.int 4) (.int z) (h.set k (.lst [a, b, c, d, e])) = .ok () (h.set k (.lst [a, b, c, d, .int z])) := setS (j := 4) hk (by simp)
@[simp] theorem int_int (i : Int) (h : Hh) : intP [.int i] h = .ok (.int i) h := rfl
end
theorem div_md {a b : Int} {h : Hh} (q0 : 0 < b) (q : b < 2 ^ 200) : divP (.int a) (.int b) h = .ok (.int (a / b)) h := if_pos ⟨q0, by
  have : b.natAbs < 2 ^ 200 := by omega
  exact Nat.lt_trans ((Nat.log2_lt (by omega)).mpr this) (by decide)⟩
/-- the law's own hand of numbers to draw by -/
structure HandOk (l : List Val) : Prop where
  ex : ∃ (cells : List Int) (i : Nat) (b s c : Int), l = [.lst (cells.map .int), .int (i : Int), .int b, .int s, .int c] ∧ (∀ z ∈ cells, 0 ≤ z) ∧ 0 ≤ b ∧ 0 ≤ s ∧ 0 ≤ c
end Mp
namespace Ev
open PySem PySem.Spec PyProof.Rows Mp
noncomputable def DA : Sv := (sIf (Mp.tAnd (tB (eOp eqP (eOp ixP (eVar 0) (eC (.int 2))) (eC (.int 0)))) (tB (eOp ltP (eOp ixP (eVar 0) (eC (.int 1))) (eCall lenP (aCons (eOp ixP (eVar 0) (eC (.int 0))) aNil))))) (sSeq (sSet 2 (eOp ixP (eOp ixP (eVar 0) (eC (.int 0))) (eOp ixP (eVar 0) (eC (.int 1)))))
  (sSeq (sAsg (gSub (eVar 0) (eC (.int 1))) (eOp (addP false) (eOp ixP (eVar 0) (eC (.int 1))) (eC (.int 1))))
  (sSeq (sAsg (gSub (eVar 0) (eC (.int 3))) (eOp modP (eCall intP (aCons (eOp (addP false) (eOp (addP false) (eOp (mulP false) (eOp ixP (eVar 0) (eC (.int 3))) (eC (.int 69621))) (eVar 2)) (eC (.int 29))) aNil)) (eC (.int 2147483629))))
  (sIf (tB (eOp geP (eVar 2) (eOp powP (eC (.int 10)) (eC (.int 18))))) (sAsg (gSub (eVar 0) (eC (.int 2))) (eVar 2)) sNext)))) sNext)
noncomputable def DB : Sv := (sIf (tB (eOp gtP (eOp ixP (eVar 0) (eC (.int 2))) (eC (.int 0)))) (sSeq (sSet 3 (eOp modP (eCall intP (aCons (eOp ixP (eVar 0) (eC (.int 2))) aNil)) (eVar 1)))
  (sSeq (sAsg (gSub (eVar 0) (eC (.int 2))) (eOp divP (eOp ixP (eVar 0) (eC (.int 2))) (eVar 1)))
  (sRet (eVar 3)))) sNext)
noncomputable def DC : Sv := (sSeq (sAsg (gSub (eVar 0) (eC (.int 4))) (eOp (addP false) (eOp ixP (eVar 0) (eC (.int 4))) (eC (.int 1))))
  (sSeq (sSet 4 (eOp modP (eCall intP (aCons (eOp (mulP false) (eCall intP (aCons (eOp (addP false) (eOp ixP (eVar 0) (eC (.int 3))) (eOp (mulP false) (eC (.int 7919)) (eOp ixP (eVar 0) (eC (.int 4))))) aNil)) (eC (.int 48271))) aNil)) (eC (.int 2147483647))))
  (sSeq (sSet 4 (eOp modP (eCall intP (aCons (eOp (mulP false) (eVar 4) (eOp (addP false) (eOp divP (eVar 4) (eC (.int 1009))) (eC (.int 69621)))) aNil)) (eC (.int 2147483647))))
  (sSeq (sSet 4 (eOp modP (eCall intP (aCons (eOp (mulP false) (eVar 4) (eOp (addP false) (eOp divP (eVar 4) (eC (.int 2003))) (eC (.int 40692)))) aNil)) (eC (.int 2147483399))))
  (sRet (eOp modP (eCall intP (aCons (eOp divP (eVar 4) (eC (.int 16))) aNil)) (eVar 1)))))))
theorem draw_split : S__law_draw = sSeq DA (sSeq DB DC) := rfl
theorem drawA {h : Hh} {k : Nat} {l : List Val} {m : Int} (hk : k < h.length) (ok : HandOk l) : ∃ l' x, HandOk l' ∧ DA [some (.ref k), some (.int m), none, none, none] (h.set k (.lst l)) = .nx [some (.ref k), some (.int m), x, none, none] (h.set k (.lst l')) := by
  obtain ⟨cells, i, b, s, c, rfl, hc, hb, hs, hcc⟩ := ok.ex
  have p1 : ∀ (g : Hh), powP (.int 10) (.int 18) g = .ok (.int 1000000000000000000) g := fun g => by
    show (if (0 : Int) ≤ 18 ∧ (18 : Int) ≤ 1000000 ∧ (10 : Int).natAbs < 2 ^ 64 then R.ok (Val.int (10 ^ (18 : Int).toNat)) g else .bad) = _
    rw [if_pos (by decide)]
    rfl
  have m1 : ∀ (x : Int) (g : Hh), mulP false (.int x) (.int 69621) g = .ok (.int (x * 69621)) g := fun x g => mul_sm (by omega)
  have m2 : ∀ (x : Int) (g : Hh), modP (.int x) (.int 2147483629) g = .ok (.int (x % 2147483629)) g := fun x g => mod_sm (by omega)
  by_cases q : b = 0
  · subst q
    by_cases q2 : i < cells.length
    · have q3 : (i : Int) < (cells.length : Int) := by omega
      have e1 : ∀ g : Hh, ixP (.lst (cells.map Val.int)) (.int (i : Int)) g = .ok (.int cells[i]) g := fun g => ix_lst (by rw [List.getElem?_map, List.getElem?_eq_getElem q2]; rfl)
      have hz := hc _ (List.getElem_mem q2)
      generalize cells[i] = z at *
      have hmod : 0 ≤ (s * 69621 + z + 29) % 2147483629 := Int.emod_nonneg _ (by decide)
      have l1 : ∀ g : Hh, lenP [.lst (cells.map Val.int)] g = .ok (.int (cells.length : Int)) g := fun g => by simp
      generalize hCC : cells.map Val.int = CC at *
      by_cases q4 : (1000000000000000000 : Int) ≤ z
      · refine ⟨_, some (.int z), ⟨⟨cells, i + 1, z, (s * 69621 + z + 29) % 2147483629, c, rfl, hc, by omega, hmod, hcc⟩⟩, ?_⟩
        simp -implicitDefEqProofs [DA, ixS0 hk, ixS1 hk, ixS2 hk, ixS3 hk, setS1 hk, setS2 hk, setS3 hk, q3, e1, l1, m1, m2, p1, q4]
        rw [hCC]
      · refine ⟨_, some (.int z), ⟨⟨cells, i + 1, 0, (s * 69621 + z + 29) % 2147483629, c, rfl, hc, by omega, hmod, hcc⟩⟩, ?_⟩
        simp -implicitDefEqProofs [DA, ixS0 hk, ixS1 hk, ixS2 hk, ixS3 hk, setS1 hk, setS2 hk, setS3 hk, q3, e1, l1, m1, m2, p1, q4]
        rw [hCC]
    · refine ⟨_, none, ok, ?_⟩
      have q3 : ¬ (i : Int) < (cells.length : Int) := by omega
      have l1 : ∀ g : Hh, lenP [.lst (cells.map Val.int)] g = .ok (.int (cells.length : Int)) g := fun g => by simp
      simp -implicitDefEqProofs [DA, ixS0 hk, ixS1 hk, ixS2 hk, q3]
      try omega
  · refine ⟨_, none, ok, ?_⟩
    simp -implicitDefEqProofs [DA, ixS2 hk, q]
theorem drawB {h : Hh} {k : Nat} {l : List Val} {m : Int} {x : Option Val} (hk : k < h.length) (ok : HandOk l) (hm : 0 < m) (hm2 : m < 2 ^ 200) : (∃ l' d, HandOk l' ∧ 0 ≤ d ∧ d < m ∧ DB [some (.ref k), some (.int m), x, none, none] (h.set k (.lst l)) = .rt (.int d) (h.set k (.lst l'))) ∨
    DB [some (.ref k), some (.int m), x, none, none] (h.set k (.lst l)) = .nx [some (.ref k), some (.int m), x, none, none] (h.set k (.lst l)) := by
  obtain ⟨cells, i, b, s, c, rfl, hc, hb, hs, hcc⟩ := ok.ex
  by_cases q : 0 < b
  · have m2 : ∀ (g : Hh), modP (.int b) (.int m) g = .ok (.int (b % m)) g := fun g => mod_sm hm
    have m3 : ∀ (g : Hh), divP (.int b) (.int m) g = .ok (.int (b / m)) g := fun g => div_md hm hm2
    refine .inl ⟨_, b % m, ⟨⟨cells, i, b / m, s, c, rfl, hc, Int.ediv_nonneg hb (by omega), hs, hcc⟩⟩, Int.emod_nonneg _ (by omega), Int.emod_lt_of_pos _ hm, ?_⟩
    generalize hCC : cells.map Val.int = CC at *
    simp -implicitDefEqProofs [DB, ixS2 hk, setS2 hk, m2, m3, q]
    try rw [hCC]
  · refine .inr ?_
    simp -implicitDefEqProofs [DB, ixS2 hk, q]
theorem drawC {h : Hh} {k : Nat} {l : List Val} {m : Int} {x : Option Val} (hk : k < h.length) (ok : HandOk l) (hm : 0 < m) (hm2 : m < 2 ^ 200) : ∃ l' d, HandOk l' ∧ 0 ≤ d ∧ d < m ∧ DC [some (.ref k), some (.int m), x, none, none] (h.set k (.lst l)) = .rt (.int d) (h.set k (.lst l')) := by
  obtain ⟨cells, i, b, s, c, rfl, hc, hb, hs, hcc⟩ := ok.ex
  have m1 : ∀ (y : Int) (g : Hh), mulP false (.int 7919) (.int y) g = .ok (.int (7919 * y)) g := fun y g => mul_sm' (by omega)
  have m2 : ∀ (y : Int) (g : Hh), mulP false (.int y) (.int 48271) g = .ok (.int (y * 48271)) g := fun y g => mul_sm (by omega)
  have m3 : ∀ (y : Int) (g : Hh), modP (.int y) (.int 2147483647) g = .ok (.int (y % 2147483647)) g := fun y g => mod_sm (by omega)
  have m4 : ∀ (y : Int) (g : Hh), modP (.int y) (.int 2147483399) g = .ok (.int (y % 2147483399)) g := fun y g => mod_sm (by omega)
  have m5 : ∀ (y : Int) (g : Hh), divP (.int y) (.int 1009) g = .ok (.int (y / 1009)) g := fun y g => div_sm (by omega) (by omega)
  have m6 : ∀ (y : Int) (g : Hh), divP (.int y) (.int 2003) g = .ok (.int (y / 2003)) g := fun y g => div_sm (by omega) (by omega)
  have m7 : ∀ (y : Int) (g : Hh), divP (.int y) (.int 16) g = .ok (.int (y / 16)) g := fun y g => div_sm (by omega) (by omega)
  have m8 : ∀ (y : Int) (g : Hh), modP (.int y) (.int m) g = .ok (.int (y % m)) g := fun y g => mod_sm hm
  have m9 : ∀ (y z : Int) (g : Hh), mulP false (.int (y % 2147483647)) (.int z) g = .ok (.int (y % 2147483647 * z)) g := fun y z g => mul_sm' (by
    have h1 := Int.emod_nonneg y (show (2147483647 : Int) ≠ 0 by decide)
    have h2 := Int.emod_lt_of_pos y (show (0 : Int) < 2147483647 by decide)
    omega)
  refine ⟨_, ((((s + 7919 * (c + 1)) * 48271 % 2147483647) * (((s + 7919 * (c + 1)) * 48271 % 2147483647) / 1009 + 69621) % 2147483647) * ((((s + 7919 * (c + 1)) * 48271 % 2147483647) * (((s + 7919 * (c + 1)) * 48271 % 2147483647) / 1009 + 69621) % 2147483647) / 2003 + 40692) % 2147483399) / 16 % m, ⟨⟨cells, i, b, s, c + 1, rfl, hc, hb, hs, by omega⟩⟩, ?_, ?_, ?_⟩
  rotate_left 2
  · generalize hCC : cells.map Val.int = CC at *
    simp -implicitDefEqProofs [DC, ixS3 hk, ixS4 hk, setS4 hk, m1, m2, m3, m4, m5, m6, m7, m8, m9]
    try rw [hCC]
  · exact Int.emod_nonneg _ (by omega)
  · exact Int.emod_lt_of_pos _ hm
theorem draw_ok {h : Hh} {k : Nat} {l : List Val} {m : Int} (e : h[k]? = some (.lst l)) (ok : HandOk l) (hm : 0 < m) (hm2 : m < 2 ^ 200) : ∃ l' d, HandOk l' ∧ 0 ≤ d ∧ d < m ∧ F__law_draw [.ref k, .int m] h = .ok (.int d) (h.set k (.lst l')) := by
  have hk : k < h.length := (List.getElem?_eq_some_iff.mp e).1
  have eh : h = h.set k (.lst l) := by
    apply List.ext_getElem?
    intro j
    by_cases q : k = j
    · subst q; rw [List.getElem?_set_self hk, e]
    · rw [List.getElem?_set_ne q]
  obtain ⟨l1, x, ok1, eA⟩ := drawA (m := m) hk ok
  have fin : ∀ l2 d, S__law_draw [some (.ref k), some (.int m), none, none, none] (h.set k (.lst l)) = .rt (.int d) (h.set k (.lst l2)) → F__law_draw [.ref k, .int m] h = .ok (.int d) (h.set k (.lst l2)) := fun l2 d q => by
    rw [← eh] at q
    exact run_rtH (h1 := h.set k (.lst l2)) q (by unfold Val.bel; rfl) (List.take_of_length_le (by simp))
  rcases drawB (x := x) hk ok1 hm hm2 with ⟨l2, d, ok2, h1, h2, eB⟩ | eB
  · refine ⟨l2, d, ok2, h1, h2, fin l2 d ?_⟩
    rw [draw_split, x_seq, eA, SR.bnd_nx, x_seq, eB]
    rfl
  · obtain ⟨l2, d, ok2, h1, h2, eC⟩ := drawC (x := x) hk ok1 hm hm2
    refine ⟨l2, d, ok2, h1, h2, fin l2 d ?_⟩
    rw [draw_split, x_seq, eA, SR.bnd_nx, x_seq, eB, SR.bnd_nx, eC]
end Ev

set_option Elab.async false
set_option linter.all false
set_option maxRecDepth 100000
namespace Mp
open PySem PyProof.Rows
section
variable {h : Hh} {k : Nat}
theorem get_app {x : Ob} {o : Ob} (e : h[k]? = some o) : (h ++ [x])[k]? = some o := by rw [List.getElem?_append_left (List.getElem?_eq_some_iff.mp e).1]; exact e
theorem set_app {x y : Ob} (hk : k < h.length) : (h ++ [x]).set k y = h.set k y ++ [x] := List.set_append_left k y hk
theorem get_set {x : Ob} (hk : k < h.length) : (h.set k x)[k]? = some x := List.getElem?_set_self hk
theorem app_top {l : List Val} {v : Val} {n : Nat} (hn : n = h.length) (hl : l.length < sizeLine) (hv : v.bel n = true) : appP (.ref n) [v] (h ++ [.lst l]) = .ok .non (h ++ [.lst (l ++ [v])]) := by
  subst hn
  unfold appP
  dsimp only
  rw [get_top]
  dsimp only
  rw [if_pos ⟨hl, hv⟩, set_top]
end
end Mp
namespace Ev
open PySem PySem.Spec PyProof.Rows Mp
theorem rangeV_len (d : Int) : (rangeV 0 d).length = d.toNat := by simp [rangeV]
end Ev

set_option Elab.async false
set_option linter.all false
set_option maxRecDepth 100000
namespace Ev
open PySem PySem.Spec PyProof.Rows Mp
theorem at_ok {T : Tab} {z : Int} {h : Hh} (ok : T.Ok) (hz : 0 ≤ z) : F__law_at [encT T, .int z] h = .ok (encA (T.val z.toNat)) h := by
  obtain ⟨n, rfl⟩ : ∃ n : Nat, z = (n : Int) := ⟨z.toNat, by omega⟩
  rw [Int.toNat_natCast]
  refine run_rt (h1 := h) ?_ (encA_pl _ _) List.take_length
  unfold Tab.val
  by_cases q : n < T.head.length
  · have e : ixP (.tup (T.head.map encA)) (.int n) h = .ok (encA (T.head.getD n none)) h := ix_tup (by rw [List.getElem?_map, List.getElem?_eq_getElem q, List.getD_eq_getElem?_getD, List.getElem?_eq_getElem q]; rfl)
    simp -implicitDefEqProofs [S__law_at, encT, e, q]
  · have hl := ok.l1
    have hl2 := ok.l2
    have e0 : ((n : Int) - (T.head.length : Int)) = ((n - T.head.length : Nat) : Int) := by omega
    generalize n - T.head.length = k at e0
    have m2 : divP (.int (k : Int)) (.int (T.turn.length : Int)) h = .ok (.int ((k / T.turn.length : Nat) : Int)) h := by rw [div_sm (by omega) (by omega), Int.natCast_ediv]
    have m3 : mulP false (.int ((k / T.turn.length : Nat) : Int)) (.int (T.turn.length : Int)) h = .ok (.int (((k / T.turn.length : Nat) : Int) * (T.turn.length : Int))) h := mul_sm (by omega)
    have e5 : (k : Int) - ((k / T.turn.length : Nat) : Int) * (T.turn.length : Int) = ((k % T.turn.length : Nat) : Int) := by
      have := Nat.div_add_mod k T.turn.length
      rw [Nat.mul_comm] at this
      have e4 : ((k / T.turn.length * T.turn.length + k % T.turn.length : Nat) : Int) = (k : Int) := by rw [this]
      rw [Int.natCast_add, Int.natCast_mul] at e4
      omega
    have hk : k % T.turn.length < T.turn.length := Nat.mod_lt _ (by omega)
    have e2 : ixP (.tup (T.turn.map encP)) (.int ((k % T.turn.length : Nat) : Int)) h = .ok (encP (T.turn[k % T.turn.length])) h := ix_tup (by rw [List.getElem?_map, List.getElem?_eq_getElem hk]; rfl)
    have hp := ok.hp _ (List.getElem_mem hk)
    have e3 : T.turn.getD (k % T.turn.length) (none, 0) = T.turn[k % T.turn.length] := by rw [List.getD_eq_getElem?_getD, List.getElem?_eq_getElem hk]; rfl
    unfold Frm.at' Frm.get
    rw [e3]
    generalize T.turn[k % T.turn.length] = p at e2 hp
    obtain ⟨a, r⟩ := p
    obtain ⟨h1, h2, h3⟩ := hp
    have mm : mulP false (.int ((k / T.turn.length : Nat) : Int)) (.int r) h = .ok (.int (((k / T.turn.length : Nat) : Int) * r)) h := mul_sm (by simp only at h1 h2; omega)
    cases a with
    | none => simp -implicitDefEqProofs [S__law_at, encT, q, e0, m2, m3, e5, e2, encP, -Int.natCast_emod, -Int.natCast_ediv]
    | some a => simp -implicitDefEqProofs [S__law_at, encT, q, e0, m2, m3, e5, e2, encP, mm, -Int.natCast_emod, -Int.natCast_ediv]
theorem isiT (a b t : Mp.Ty) (v : Val) (h : Hh) (hv : tyOfV v = some t) (ha : a ≠ .non) (hb : b ≠ .non) : isiP [v, .tup [.ty a, .ty b]] h = .ok (.bl (isTy t a || isTy t b)) h := by
  simp [isiP, tysOf, hv, ha, hb]
theorem isi1 (a t : Mp.Ty) (v : Val) (h : Hh) (hv : tyOfV v = some t) (ha : a ≠ .non) : isiP [v, .ty a] h = .ok (.bl (isTy t a)) h := by
  simp [isiP, hv, ha]
theorem is_A {a : Option Int} {d : Nat} {h : Hh} : F__law_is (d + 1) [encA a, encA a] h = .ok (.bl true) h := by
  have hz : 1000000 ≤ sizeLine := sz_le (by omega)
  have hz2 : 2 ≤ sizeLine := by omega
  refine run_rt (h1 := h) ?_ rfl List.take_length
  cases a with
  | none =>
    have i1 := isiT .tup .lst .non .non h rfl (by decide) (by decide)
    simp -implicitDefEqProofs [isTy] at i1
    simp -implicitDefEqProofs [S__law_is, i1, hz2]
  | some a =>
    have i1 := isiT .tup .lst .int (.int a) h rfl (by decide) (by decide)
    have i2 := isi1 .bl .int (.int a) h rfl (by decide)
    have i3 := isi1 .str .int (.int a) h rfl (by decide)
    simp -implicitDefEqProofs [isTy] at i1 i2 i3
    simp -implicitDefEqProofs [S__law_is, i1, i2, i3, hz2]
theorem is_L {l : List (Option Int)} {d : Nat} {h : Hh} (hl : l.length ≤ 10000) : F__law_is (d + 2) [.tup (l.map encA), .tup (l.map encA)] h = .ok (.bl true) h := by
  have hz : 1000000 ≤ sizeLine := sz_le (by omega)
  have hz2 : 2 ≤ sizeLine := by omega
  refine run_rt (h1 := h) ?_ rfl List.take_length
  have zl : ∀ r : List (Option Int), zipV (r.map encA) (r.map encA) = r.map fun a => Val.tup [encA a, encA a] := fun r => by
    induction r with
    | nil => rfl
    | cons a r ih => rw [List.map_cons, List.map_cons, zipV, ih]
  have one : eComp false [2, 3] (iZp (aCons (eVar 0) (aCons (eVar 1) aNil))) (gTup (gCons (gName 2) (gCons (gName 3) gNil))) tTrue (eFn (F__law_is (d + 1)) (aCons (eVar 2) (aCons (eVar 3) aNil))) [some (.tup (l.map encA)), some (.tup (l.map encA)), none, none] h = .ok (.lst ((l.map fun a => Val.tup [encA a, encA a]).map fun _ => Val.bl true)) h := by
    refine x_comp (iv := ⟨zipV (l.map encA) (l.map encA), []⟩) (h1 := h) (h2 := h) (by simp -implicitDefEqProofs [zipI]) ?_
    rw [zl]
    refine (comp_map (h := h) (f := fun _ => Val.bl true) (l.map fun a => Val.tup [encA a, encA a]) [] (fun v hv => ?_) (by simp; omega)).trans (by simp)
    obtain ⟨a, ha, rfl⟩ := List.mem_map.mp hv
    refine ⟨_, rfl, ?_⟩
    simp -implicitDefEqProofs [wipeE, is_A]
  have al : allP [.lst ((l.map fun a => Val.tup [encA a, encA a]).map fun _ => Val.bl true)] h = .ok (.bl true) h := by
    have := all_map (h := h) (l := l.map fun a => Val.tup [encA a, encA a]) (p := fun _ => true)
    rw [this]
    simp
  have i1 := isiT .tup .lst .tup (.tup (l.map encA)) h rfl (by decide) (by decide)
  have i2 := isi1 .tup .tup (.tup (l.map encA)) h rfl (by decide)
  have i3 := isi1 .lst .tup (.tup (l.map encA)) h rfl (by decide)
  have i4 : lenP [.tup (l.map encA)] h = .ok (.int l.length) h := by simp
  simp -implicitDefEqProofs [isTy] at i1 i2 i3
  generalize ((l.map fun a => Val.tup [encA a, encA a]).map fun _ => Val.bl true) = Z at *
  generalize l.map encA = Z2 at *
  simp -implicitDefEqProofs [S__law_is, i1, i2, i3, i4, hz2, one, al]
theorem great_loop {h : Hh} {k : Nat} {a : Option Val} (hk : k < h.length) : ∀ (items l : List Val) (z : Int) (x3 : Option Val), HandOk l → 0 ≤ z → ∃ (l' : List Val) (z' : Int) (y3 : Option Val), HandOk l' ∧ 0 ≤ z' ∧ forL (gName 3) B__law_great_0 [] items [some (.ref k), a, some (.int z), x3] (h.set k (.lst l)) = .nx [some (.ref k), a, some (.int z'), y3] (h.set k (.lst l'))
  | [], l, z, x3, ok, hz => ⟨l, z, x3, ok, hz, forL_nil _ _ _ _⟩
  | v :: items, l, z, x3, ok, hz => by
    obtain ⟨l1, d, ok1, d1, d2, e1⟩ := draw_ok (get_set (h := h) (x := .lst l) hk) ok (m := 10) (by decide) (by decide)
    rw [List.set_set] at e1
    have m1 : ∀ g : Hh, mulP false (.int z) (.int 10) g = .ok (.int (z * 10)) g := fun g => mul_sm (by omega)
    obtain ⟨l', z', y3, h1, h2, h3⟩ := great_loop hk items l1 (z * 10 + d) (some v) ok1 (by omega)
    refine ⟨l', z', y3, h1, h2, ?_⟩
    rw [forL_cons, x_gN, lift_ok]
    have e3 : B__law_great_0 ([some (.ref k), a, some (.int z), x3].set 3 (some v)) (h.set k (.lst l)) = .nx [some (.ref k), a, some (.int (z * 10 + d)), some v] (h.set k (.lst l1)) := by
      simp -implicitDefEqProofs [B__law_great_0, m1, e1]
    rw [e3]
    exact h3
theorem hand_ok {ns : List Int} {h : Hh} (hl : ns.length ≤ 63) : ∃ l, HandOk l ∧ F__law_hand [.fz (ns.map Val.int)] h = .ok (.ref h.length) (h ++ [.lst l]) := by
  have hz : 1000000 ≤ sizeLine := sz_le (by omega)
  have hz5 : 5 ≤ sizeLine := by omega
  have one : eComp false [2] (iSeq (eSl false (eVar 0) oNone (oSome (eC (.int 63))))) (gName 2) tTrue (eCall absP (aCons (eCall intP (aCons (eVar 2) aNil)) aNil)) [some (.fz (ns.map Val.int)), none, none] h = .ok (.lst ((ns.map fun i => if i < 0 then -i else i).map Val.int)) h := by
    refine x_comp (iv := ⟨ns.map Val.int, []⟩) (h1 := h) (h2 := h) ?_ ?_
    · have : slP false (.fz (ns.map Val.int)) none (some 63) h = .ok (.lst (ns.map Val.int)) h := by
        show mk false (cutL (ns.map Val.int) none (some (63 : Int))) h = _
        have := cut_take (ns.map Val.int) 63
        rw [show ((63 : Nat) : Int) = 63 from rfl] at this
        rw [this, List.take_of_length_le (by simpa using hl)]
        rfl
      simp -implicitDefEqProofs [this, seqI, lsq, chkOf]
    · refine (comp_map (h := h) (f := fun v => match v with | .int i => .int (if i < 0 then -i else i) | _ => .non) (ns.map Val.int) [] (fun v hv => ?_) (by simp; omega)).trans ?_
      · obtain ⟨i, hi, rfl⟩ := List.mem_map.mp hv
        refine ⟨_, rfl, ?_⟩
        simp -implicitDefEqProofs [wipeE, absP]
      · rw [List.nil_append, List.map_map, List.map_map]
        rfl
  refine ⟨[.lst ((ns.map fun i => if i < 0 then -i else i).map Val.int), .int 0, .int 0, .int (83 + 7 * (ns.length : Int)), .int 0], ⟨⟨ns.map fun i => if i < 0 then -i else i, 0, 0, 83 + 7 * (ns.length : Int), 0, rfl, fun z hz => ?_, by decide, by omega, by decide⟩⟩, ?_⟩
  · obtain ⟨i, hi, rfl⟩ := List.mem_map.mp hz
    split <;> omega
  · have m1 : mulP false (.int 7) (.int (ns.length : Int)) h = .ok (.int (7 * (ns.length : Int))) h := mul_sm' (by omega)
    have l1 : lenP [.lst ((ns.map fun i => if i < 0 then -i else i).map Val.int)] h = .ok (.int (ns.length : Int)) h := by simp
    have bl : belL h.length ((ns.map fun i => if i < 0 then -i else i).map Val.int) = true := belL_map fun _ _ => by unfold Val.bel; rfl
    generalize ((ns.map fun i => if i < 0 then -i else i).map Val.int) = Z at *
    have e : S__law_hand ([Val.fz (ns.map Val.int)].map some ++ List.replicate (3 - [Val.fz (ns.map Val.int)].length) none) h = .rt (.ref h.length) (h ++ [.lst [.lst Z, .int 0, .int 0, .int (83 + 7 * (ns.length : Int)), .int 0]]) := by
      generalize ns.map Val.int = Z3 at *
      simp -implicitDefEqProofs [S__law_hand, one, m1, l1, hz5, mk]
    unfold F__law_hand runFnM
    rw [e]
    show finM h (.ref h.length) _ = _
    unfold finM
    dsimp only
    rw [if_pos (Nat.le_refl _), get_top]
    dsimp only
    rw [if_pos (by simp [belL, Val.bel, bl]), List.take_left' rfl]
end Ev

set_option Elab.async false
set_option linter.all false
set_option maxRecDepth 100000
namespace Ev
open PySem PySem.Spec PyProof.Rows Mp
end Ev

set_option Elab.async false
set_option linter.all false
set_option maxRecDepth 100000
namespace Mp
open PySem PyProof.Rows
theorem add_tup {m : Bool} {a b : List Val} {h : Hh} (q : a.length + b.length ≤ 1000000) : addP m (.tup a) (.tup b) h = .ok (.tup (a ++ b)) h := if_pos (sz_le q)
theorem add_lst {a b : List Val} {h : Hh} (q : a.length + b.length ≤ 1000000) : addP false (.lst a) (.lst b) h = .ok (.lst (a ++ b)) h := by
  show (if a.length + b.length ≤ sizeLine then mk false (a ++ b) h else .bad) = _
  rw [if_pos (sz_le q)]
  rfl
theorem rep_tup {x : Val} {n : Nat} {h : Hh} (h2 : 2 ≤ n) (h3 : n ≤ 1000000) : mulP false (.tup [x]) (.int (n : Int)) h = .ok (.tup (List.replicate n x)) h := by
  show (if [x] ≠ [] ∧ 2 ≤ (n : Int) ∧ [x].length * (n : Int).toNat ≤ 1000000 then R.ok (Val.tup (List.replicate (n : Int).toNat [x]).flatten) h else .bad) = _
  rw [if_pos ⟨by simp, by omega, by simp; omega⟩, Int.toNat_natCast]
  congr 2
  induction n with
  | zero => rfl
  | succ n ih =>
    clear ih
    have : ∀ k, (List.replicate k [x]).flatten = List.replicate k x := fun k => by
      induction k with
      | zero => rfl
      | succ k ih => rw [List.replicate_succ, List.flatten_cons, ih, List.replicate_succ]; rfl
    exact this _
end Mp
namespace Ev
open PySem PySem.Spec PyProof.Rows Mp
end Ev

set_option Elab.async false
set_option linter.all false
set_option maxRecDepth 100000
namespace Mp
open PySem PySem.Spec PyProof.Rows L2
theorem maxL_ge : ∀ {l : List Int} {x : Int}, x ∈ l → x ≤ maxL l
  | [n], x, h => by rw [List.mem_singleton.mp h]; exact Int.le_refl _
  | n :: m :: r, x, h => by
    unfold maxL
    rcases List.mem_cons.mp h with rfl | h
    · exact Int.le_max_left _ _
    · exact Int.le_trans (maxL_ge h) (Int.le_max_right _ _)
def ptMax (ps : List (Nat × Int)) : Int := maxL (0 :: ps.map fun p => (p.1 : Int) + 1)
def stepZ (turn : Nat) (cs : List (List Mp.Row)) (f : Int) (c : Nat) : Int := match bestR (cs.getD c []) with
  | none => f
  | some b => max f ((c : Int) + (turn : Int) * lastT b (cs.getD c []))
def headZ (ps : List (Nat × Int)) (cs : List (List Mp.Row)) : Int := (List.range cs.length).foldl (stepZ cs.length cs) (ptMax ps)
theorem stepZ_ge (turn : Nat) (cs : List (List Mp.Row)) : ∀ (l : List Nat) (f : Int), f ≤ l.foldl (stepZ turn cs) f ∧ ∀ c ∈ l, ∀ b, bestR (cs.getD c []) = some b → (c : Int) + (turn : Int) * lastT b (cs.getD c []) ≤ l.foldl (stepZ turn cs) f
  | [], f => ⟨Int.le_refl _, fun c h => nomatch h⟩
  | c :: l, f => by
    rw [List.foldl_cons]
    obtain ⟨h1, h2⟩ := stepZ_ge turn cs l (stepZ turn cs f c)
    refine ⟨Int.le_trans ?_ h1, fun d hd b hb => ?_⟩
    · unfold stepZ
      split
      · exact Int.le_refl _
      · exact Int.le_max_left _ _
    · rcases List.mem_cons.mp hd with rfl | hd
      · refine Int.le_trans ?_ h1
        unfold stepZ
        rw [hb]
        exact Int.le_max_right _ _
      · exact h2 d hd b hb
theorem headZ_enough {ps : List (Nat × Int)} {rs : List Ray} {turn : Nat} : 0 ≤ headZ ps ((List.range turn).map (cls turn rs)) ∧ Enough ps rs turn (headZ ps ((List.range turn).map (cls turn rs))).toNat := by
  have hl : ((List.range turn).map (cls turn rs)).length = turn := by simp
  have hg : ∀ c < turn, ((List.range turn).map (cls turn rs)).getD c [] = cls turn rs c := fun c hc => by
    rw [List.getD_eq_getElem?_getD, List.getElem?_map, List.getElem?_range hc]
    rfl
  obtain ⟨h1, h2⟩ := stepZ_ge turn ((List.range turn).map (cls turn rs)) (List.range turn) (ptMax ps)
  have h0 : 0 ≤ ptMax ps := maxL_ge List.mem_cons_self
  unfold headZ
  rw [hl]
  refine ⟨Int.le_trans h0 h1, ⟨fun p hp => ?_, fun c hc b hb => ?_⟩⟩
  · have : (p.1 : Int) + 1 ≤ ptMax ps := maxL_ge (List.mem_cons_of_mem _ (List.mem_map.mpr ⟨p, hp, rfl⟩))
    omega
  · have := h2 c (List.mem_range.mpr hc) b (by rw [hg c hc]; exact hb)
    rw [hg c hc] at this
    omega
end Mp
namespace Ev
open PySem PySem.Spec PyProof.Rows L2 Mp
theorem headz_loop {v : Val} {cs : List (List Mp.Row)} {h : Hh} (hl : cs.length ≤ 120) (hm : ∀ c, ∀ w ∈ cs.getD c [], 0 ≤ w.m ∧ w.m ≤ 2 ^ 60) (f : Int) :
    forL (gTup (gCons (gName 4) (gCons (gName 5) gNil))) B_head_size_0 [] ((List.range cs.length).map fun (n : Nat) => Val.tup [.int (n : Int), .lst ((cs.getD n []).map encRow)]) [some v, some (clsV cs), some (.int f), some (.int (cs.length : Int)), none, none, none, none] h =
      .nx [some v, some (clsV cs), some (.int ((List.range cs.length).foldl (stepZ cs.length cs) f)), some (.int (cs.length : Int)), none, none, none, none] h :=
  (for_fold (g := gTup (gCons (gName 4) (gCons (gName 5) gNil))) (b := B_head_size_0) (fun (n : Nat) => Val.tup [.int (n : Int), .lst ((cs.getD n []).map encRow)])
    (fun f => [some v, some (clsV cs), some (.int f), some (.int (cs.length : Int)), none, none, none, none]) (fun _ => h) (stepZ cs.length cs) (fun _ => True) (List.range cs.length) f trivial (fun c _ f _ => ⟨trivial, by
    generalize clsV cs = CV at *
    refine ⟨[some v, some CV, some (.int f), some (.int (cs.length : Int)), some (.int (c : Int)), some (.lst ((cs.getD c []).map encRow)), none, none], by simp -implicitDefEqProofs, .inl ?_⟩
    unfold stepZ
    have hmc := hm c
    cases e : cs.getD c [] with
    | nil =>
      dsimp only [bestR]
      simp -implicitDefEqProofs [B_head_size_0, wipeE]
    | cons a r =>
      rw [e] at hmc
      dsimp only [bestR]
      obtain ⟨s1, s2⟩ := bestOf_spec r a
      have lt := last_turn_ok (rows := a :: r) (best := bestOf a r) (h := h) (fun w hw => (hmc w hw).2) (hmc _ s1).1
      have mk := minK_rows (a := a) (r := r) (h := h)
      have ln : lenP [.lst ((a :: r).map encRow)] h = .ok (.int ((r.length + 1 : Nat) : Int)) h := by rw [len_lst]; simp
      have gt0 : (0 : Int) < ((r.length + 1 : Nat) : Int) := by omega
      generalize Val.lst ((a :: r).map encRow) = RV at *
      generalize bestOf a r = B at *
      generalize lastT B (a :: r) = L at *
      generalize encRow B = EB at *
      have ml : mulP false (.int (cs.length : Int)) (.int L) h = .ok (.int ((cs.length : Int) * L)) h := mul_n (by omega)
      have mx := max2 f ((c : Int) + (cs.length : Int) * L) h
      generalize (cs.length : Int) * L = CL at *
      generalize ((r.length + 1 : Nat) : Int) = RL at *
      simp -implicitDefEqProofs [B_head_size_0, ln, gt0, mk, lt, ml, mx, wipeE]⟩)).1
theorem head_size_gen {ps : List (Nat × Int)} {cs : List (List Mp.Row)} {h : Hh} (hp : ps.length ≤ 100000) (hl : cs.length ≤ 120) (hm : ∀ c, ∀ w ∈ cs.getD c [], 0 ≤ w.m ∧ w.m ≤ 2 ^ 60) :
    ∃ e1, S_head_size [some (.lst (ps.map encPt)), some (clsV cs), none, none, none, none, none, none] h = if 9000 < headZ ps cs then .exc ⟨41, [("most", .int 1000)]⟩ e1 h else .rt (.int (headZ ps cs)) h := by
  have lp := headz_loop (v := .lst (ps.map encPt)) (h := h) hl hm (ptMax ps)
  have c1 : eComp false [6, 7] (iSeq (eVar 0)) (gTup (gCons (gName 6) (gCons (gName 7) gNil))) tTrue (eOp (addP false) (eVar 6) (eC (.int 1))) [some (.lst (ps.map encPt)), some (clsV cs), none, none, none, none, none, none] h = .ok (.lst (ps.map fun p => .int ((p.1 : Int) + 1))) h := by
    refine compE encPt (fun p => .int ((p.1 : Int) + 1)) ps (by simp -implicitDefEqProofs [seqI_l]) (by omega) fun p hp => ?_
    exact ⟨[some (.lst (ps.map encPt)), some (clsV cs), none, none, none, none, some (.int (p.1 : Int)), some (.int p.2)], by simp -implicitDefEqProofs [encPt, wipeE], by simp -implicitDefEqProofs⟩
  have ad : addP false (.lst [.int 0]) (.lst (ps.map fun p => Val.int ((p.1 : Int) + 1))) h = .ok (.lst (((0 : Int) :: ps.map fun p => (p.1 : Int) + 1).map Val.int)) h := by
    rw [add_lst (by simp; omega)]
    simp
  have mx : maxP [.lst (((0 : Int) :: ps.map fun p => (p.1 : Int) + 1).map Val.int)] h = .ok (.int (ptMax ps)) h := by
    show (match intsOf (((0 : Int) :: ps.map fun p => (p.1 : Int) + 1).map Val.int) with | some bs => if 0 < bs.length then R.ok (Val.int (maxL bs)) h else R.bad | none => R.bad) = R.ok (Val.int (ptMax ps)) h
    rw [intsOf_map]
    rfl
  have ei : enI [clsV cs] h = .ok ⟨(List.range cs.length).map fun (n : Nat) => Val.tup [.int (n : Int), .lst ((cs.getD n []).map encRow)], []⟩ h := by
    show R.ok (Iv.mk (enumV 0 (cs.map fun l => Val.lst (l.map encRow))) []) h = _
    rw [enum_map (fun l => Val.lst (l.map encRow)) []]
  have ln : lenP [clsV cs] h = .ok (.int (cs.length : Int)) h := by unfold clsV; rw [len_lst, List.length_map]
  unfold headZ
  generalize (List.range cs.length).foldl (stepZ cs.length cs) (ptMax ps) = Z at *
  generalize ((0 : Int) :: ps.map fun p => (p.1 : Int) + 1).map Val.int = X1 at *
  generalize (ps.map fun p => Val.int ((p.1 : Int) + 1)) = X2 at *
  generalize ps.map encPt = PS at *
  generalize (List.range cs.length).map (fun (n : Nat) => Val.tup [.int (n : Int), .lst ((cs.getD n []).map encRow)]) = CL at *
  generalize clsV cs = CV at *
  clear hm
  refine ⟨[some (.lst PS), some CV, some (.int Z), some (.int (cs.length : Int)), none, none, none, none], ?_⟩
  by_cases q : 9000 < Z
  · rw [if_pos q]
    simp -implicitDefEqProofs [S_head_size, c1, ad, mx, ei, ln, lp, x_for, q, szz]
  · rw [if_neg q]
    simp -implicitDefEqProofs [S_head_size, c1, ad, mx, ei, ln, lp, x_for, q, szz]
theorem head_size_ok {ps : List (Nat × Int)} {cs : List (List Mp.Row)} {h : Hh} (hp : ps.length ≤ 100000) (hl : cs.length ≤ 120) (hm : ∀ c, ∀ w ∈ cs.getD c [], 0 ≤ w.m ∧ w.m ≤ 2 ^ 60) (q : ¬ 9000 < headZ ps cs) : F_head_size [.lst (ps.map encPt), clsV cs] h = .ok (.int (headZ ps cs)) h := by
  obtain ⟨e1, e⟩ := head_size_gen (h := h) hp hl hm
  rw [if_neg q] at e
  exact run_rt (h1 := h) e rfl List.take_length
end Ev

set_option Elab.async false
set_option linter.all false
set_option maxRecDepth 100000
namespace Mp
open PySem PySem.Spec PyProof.Rows L2
theorem run_nxH {N : Nat} {b : Sv} {args : List Val} {en : Env} {h h1 h2 : Hh} (e : b (args.map some ++ List.replicate (N - args.length) none) h = .nx en h1) (hh : h1.take h.length = h2) : runFn N b args h = .ok .non h2 := by
  unfold runFn
  rw [e]
  show finV h .non h1 = _
  unfold finV Val.frz
  rw [if_pos (by rfl), hh]
theorem ix_end {l : List Val} {h : Hh} {n i : Nat} {v : Val} (hn : n = h.length) (q : l[i]? = some v) : ixP (.ref n) (.int (i : Int)) (h ++ [.lst l]) = .ok v (h ++ [.lst l]) := by
  unfold ixP
  dsimp only
  rw [lsq_end hn]
  dsimp only
  rw [atI_nat q]
theorem set_end {l : List Val} {h : Hh} {n i : Nat} {v : Val} (hn : n = h.length) (hi : i < l.length) (hv : v.bel 0 = true) : setP (.ref n) (.int (i : Int)) v (h ++ [.lst l]) = .ok () (h ++ [.lst (l.set i v)]) := by
  subst hn
  unfold setP
  dsimp only
  rw [List.getElem?_append_right (Nat.le_refl _), Nat.sub_self]
  show (match ixN l.length (i : Int) with | some j => if v.bel h.length = true then R.ok () ((h ++ [Ob.lst l]).set h.length (Ob.lst (l.set j v))) else R.bad | none => R.bad) = _
  have e : ixN l.length (i : Int) = some i := by
    unfold ixN
    rw [if_pos (by omega), if_pos (by omega)]
    rfl
  rw [e]
  dsimp only
  rw [if_pos (bel_mono (Nat.zero_le _) v hv), List.set_append_right _ _ (Nat.le_refl _), Nat.sub_self]
  rfl
theorem len_end {l : List Val} {h : Hh} {n : Nat} (hn : n = h.length) : lenP [.ref n] (h ++ [.lst l]) = .ok (.int (l.length : Int)) (h ++ [.lst l]) := by
  unfold lenP
  dsimp only
  rw [lsq_end hn]
end Mp
namespace Ev
open PySem PySem.Spec PyProof.Rows L2 Mp
theorem put_least_ok {xs : List (Option Int)} {n : Nat} {a : Int} {h : Hh} : F_put_least [.ref h.length, .int (n : Int), .int a] (h ++ [.lst (xs.map encA)]) = .ok .non (h ++ [.lst ((putL xs n a).map encA)]) := by
  refine run_nxH (en := [some (.ref h.length), some (.int (n : Int)), some (.int a)]) (h1 := h ++ [.lst ((putL xs n a).map encA)]) ?_ (by rw [List.take_of_length_le]; simp)
  have ln := len_end (l := xs.map encA) (h := h) rfl
  rw [List.length_map] at ln
  by_cases c : n < xs.length
  · have ci : (n : Int) < (xs.length : Int) := by omega
    have ix := ix_end (l := xs.map encA) (h := h) (i := n) (v := encA (xs.getD n none)) rfl (by rw [List.getElem?_map, List.getD_eq_getElem?_getD, List.getElem?_eq_getElem c]; rfl)
    have st := set_end (l := xs.map encA) (h := h) (i := n) (v := .int a) rfl (by rw [List.length_map]; exact c) rfl
    have em : (xs.map encA).set n (.int a) = (xs.set n (some a)).map encA := by rw [List.map_set]; rfl
    rw [em] at st
    unfold putL
    cases e : xs.getD n none with
    | none =>
      rw [if_pos ⟨c, .inl rfl⟩]
      rw [e] at ix
      generalize h ++ [.lst (xs.map encA)] = H at *
      generalize h ++ [.lst ((xs.set n (some a)).map encA)] = H2 at *
      generalize (xs.length : Int) = L at *
      simp -implicitDefEqProofs only [encA_none] at ix
      simp -implicitDefEqProofs [S_put_least, ln, ci, ix, st]
    | some b =>
      rw [e] at ix
      simp -implicitDefEqProofs only [encA_some] at ix
      by_cases q : a < b
      · rw [if_pos ⟨c, .inr ⟨b, rfl, q⟩⟩]
        generalize h ++ [.lst (xs.map encA)] = H at *
        generalize h ++ [.lst ((xs.set n (some a)).map encA)] = H2 at *
        generalize (xs.length : Int) = L at *
        simp -implicitDefEqProofs [S_put_least, ln, ci, ix, st, q]
      · rw [if_neg (fun z => by
          obtain ⟨_, h | ⟨b', h, h2⟩⟩ := z
          · exact absurd h (by simp)
          · exact q (by rw [Option.some.inj h]; exact h2))]
        clear st
        generalize h ++ [.lst (xs.map encA)] = H at *
        generalize (xs.length : Int) = L at *
        simp -implicitDefEqProofs [S_put_least, ln, ci, ix, q]
  · have ci : ¬ (n : Int) < (xs.length : Int) := by omega
    have ep : putL xs n a = xs := by unfold putL; rw [if_neg (fun z => c z.1)]
    rw [ep]
    generalize h ++ [.lst (xs.map encA)] = H at *
    generalize (xs.length : Int) = L at *
    simp -implicitDefEqProofs [S_put_least, ln, ci]
end Ev

set_option Elab.async false
set_option linter.all false
set_option maxRecDepth 100000
namespace Ev
open PySem PySem.Spec PyProof.Rows L2 Mp
def envM (p r : Val) (turn : Nat) (c : Val) (S b : Nat) (x6 x7 x8 x9 : Option Val) : Mp.Env := [some p, some r, some (.int (turn : Int)), some c, some (.int (S : Int)), some (.ref b), x6, x7, x8, x9, none, none, none, none, none]
theorem made_pts {p r c : Val} {turn S : Nat} {h : Hh} : ∀ (ps : List (Nat × Int)) (xs : List (Option Int)),
    forL (gTup (gCons (gName 6) (gCons (gName 7) gNil))) B_made_0 [] (ps.map encPt) (envM p r turn c S h.length none none none none) (h ++ [.lst (xs.map encA)]) = .nx (envM p r turn c S h.length none none none none) (h ++ [.lst ((putLs ps xs).map encA)])
  | [], xs => by rw [List.map_nil, forL_nil]; rfl
  | (n, a) :: ps, xs => by
    have ih := made_pts (p := p) (r := r) (c := c) (turn := turn) (S := S) (h := h) ps (putL xs n a)
    have pl := put_least_ok (xs := xs) (n := n) (a := a) (h := h)
    have m8 : (h ++ [Ob.lst ((putL xs n a).map encA)]).length = (h ++ [Ob.lst (xs.map encA)]).length := by simp
    show _ = SR.nx _ (h ++ [.lst ((putLs ps (putL xs n a)).map encA)])
    rw [← ih, List.map_cons, forL_cons]
    generalize h ++ [Ob.lst ((putL xs n a).map encA)] = H2 at *
    generalize h ++ [Ob.lst (xs.map encA)] = H at *
    clear ih
    unfold envM
    simp -implicitDefEqProofs [encPt, B_made_0, pl, wipeE, m8]
theorem made_ray1 {p r c : Val} {turn S : Nat} {h : Hh} {ρ : Ray} (ok : ρ.Ok) : ∀ (l : List Nat) (xs : List (Option Int)), (∀ i ∈ l, i ≤ 100000) →
    forL (gName 10) B_made_1 [] (l.map fun (i : Nat) => Val.int (i : Int)) (envM p r turn c S h.length (some (.int (ρ.n : Int))) (some (.int ρ.a)) (some (.int (ρ.s : Int))) (some (.int ρ.r))) (h ++ [.lst (xs.map encA)]) =
      .nx (envM p r turn c S h.length (some (.int (ρ.n : Int))) (some (.int ρ.a)) (some (.int (ρ.s : Int))) (some (.int ρ.r))) (h ++ [.lst ((putLs (l.map fun i => (ρ.n + i * ρ.s, ρ.a + (i : Int) * ρ.r)) xs).map encA)])
  | [], xs, _ => by rw [List.map_nil, forL_nil]; rfl
  | i :: l, xs, hi => by
    have ih := made_ray1 (p := p) (r := r) (c := c) (turn := turn) (S := S) (h := h) (ρ := ρ) ok l (putL xs (ρ.n + i * ρ.s) (ρ.a + (i : Int) * ρ.r)) fun j hj => hi j (List.mem_cons_of_mem _ hj)
    have pl := put_least_ok (xs := xs) (n := ρ.n + i * ρ.s) (a := ρ.a + (i : Int) * ρ.r) (h := h)
    have m8 : (h ++ [Ob.lst ((putL xs (ρ.n + i * ρ.s) (ρ.a + (i : Int) * ρ.r)).map encA)]).length = (h ++ [Ob.lst (xs.map encA)]).length := by simp
    show _ = SR.nx _ (h ++ [.lst ((putLs (l.map fun i => (ρ.n + i * ρ.s, ρ.a + (i : Int) * ρ.r)) (putL xs (ρ.n + i * ρ.s) (ρ.a + (i : Int) * ρ.r))).map encA)])
    rw [← ih, List.map_cons, forL_cons]
    have i1 := hi i List.mem_cons_self
    have s2 := ok.s2
    generalize h ++ [Ob.lst ((putL xs (ρ.n + i * ρ.s) (ρ.a + (i : Int) * ρ.r)).map encA)] = H2 at *
    generalize h ++ [Ob.lst (xs.map encA)] = H at *
    have m1 : mulP false (.int (i : Int)) (.int (ρ.s : Int)) H = .ok (.int ((i : Int) * (ρ.s : Int))) H := mul_n (by omega)
    have m2 : mulP false (.int (i : Int)) (.int ρ.r) H = .ok (.int ((i : Int) * ρ.r)) H := mul_n (by omega)
    rw [show ((ρ.n + i * ρ.s : Nat) : Int) = (ρ.n : Int) + (i : Int) * (ρ.s : Int) by rw [Int.natCast_add, Int.natCast_mul]] at pl
    clear ih
    unfold envM
    generalize (i : Int) * ρ.r = ir at *
    generalize (i : Int) * (ρ.s : Int) = is' at *
    simp -implicitDefEqProofs [B_made_1, m1, m2, pl, wipeE, m8]
theorem many_eq {S n s : Nat} (hs : 1 ≤ s) : max 0 (((S : Int) - (n : Int) + (s : Int) - 1) / (s : Int)) = (((S - n + s - 1) / s : Nat) : Int) := by
  by_cases c : n ≤ S
  · have e : (S : Int) - (n : Int) + (s : Int) - 1 = ((S - n + s - 1 : Nat) : Int) := by omega
    rw [e, ← Int.natCast_ediv, Int.max_eq_right (Int.natCast_nonneg _)]
  · have e : S - n + s - 1 = s - 1 := by omega
    rw [e, Nat.div_eq_of_lt (by omega)]
    have h1 : ((S : Int) - (n : Int) + (s : Int) - 1) / (s : Int) < 1 := by
      rw [Int.ediv_lt_iff_lt_mul (by omega)]
      omega
    exact Int.max_eq_left (by omega)
theorem made_rays {p r c : Val} {turn S : Nat} {h : Hh} (hS : S ≤ 9000) : ∀ (rs : List Ray) (xs : List (Option Int)), (∀ ρ ∈ rs, ρ.Ok) →
    forL (gTup (gCons (gName 6) (gCons (gName 7) (gCons (gName 8) (gCons (gName 9) gNil))))) B_made_2 [] (rs.map encRay) (envM p r turn c S h.length none none none none) (h ++ [.lst (xs.map encA)]) =
      .nx (envM p r turn c S h.length none none none none) (h ++ [.lst ((putLs (rs.flatMap (putsOf S)) xs).map encA)])
  | [], xs, _ => by rw [List.map_nil, forL_nil]; rfl
  | ρ :: rs, xs, hi => by
    have ok := hi ρ List.mem_cons_self
    have s1 := ok.s1
    have s2 := ok.s2
    have ih := made_rays (p := p) (r := r) (c := c) (turn := turn) (S := S) (h := h) hS rs (putLs (putsOf S ρ) xs) fun j hj => hi j (List.mem_cons_of_mem _ hj)
    have le : (S - ρ.n + ρ.s - 1) / ρ.s ≤ S - ρ.n + ρ.s - 1 := Nat.div_le_self _ _
    have inn := made_ray1 (p := p) (r := r) (c := c) (turn := turn) (S := S) (h := h) ok (List.range ((S - ρ.n + ρ.s - 1) / ρ.s)) xs fun i hi => by rw [List.mem_range] at hi; omega
    have m8 : (h ++ [Ob.lst ((putLs (putsOf S ρ) xs).map encA)]).length = (h ++ [Ob.lst (xs.map encA)]).length := by simp
    have ef : putLs ((ρ :: rs).flatMap (putsOf S)) xs = putLs (rs.flatMap (putsOf S)) (putLs (putsOf S ρ) xs) := by
      unfold putLs
      rw [List.flatMap_cons, List.foldl_append]
    rw [ef, ← ih, List.map_cons, forL_cons]
    clear ih ef
    have ep : (List.range ((S - ρ.n + ρ.s - 1) / ρ.s)).map (fun i => (ρ.n + i * ρ.s, ρ.a + (i : Int) * ρ.r)) = putsOf S ρ := rfl
    rw [ep] at inn
    clear ep
    generalize h ++ [Ob.lst ((putLs (putsOf S ρ) xs).map encA)] = H2 at *
    generalize h ++ [Ob.lst (xs.map encA)] = H at *
    have d := div_sm (a := (S : Int) - (ρ.n : Int) + (ρ.s : Int) - 1) (b := (ρ.s : Int)) (h := H) (by omega) (by omega)
    have mx := max2 0 (((S : Int) - (ρ.n : Int) + (ρ.s : Int) - 1) / (ρ.s : Int)) H
    rw [many_eq s1] at mx
    have rg := rg1 (n := (S - ρ.n + ρ.s - 1) / ρ.s) (h := H) (by omega)
    generalize (S - ρ.n + ρ.s - 1) / ρ.s = N at *
    generalize ((S : Int) - (ρ.n : Int) + (ρ.s : Int) - 1) / (ρ.s : Int) = D at *
    unfold envM at inn ⊢
    simp -implicitDefEqProofs [encRay, B_made_2, d, mx, rg, x_for, inn, wipeE, m8]
end Ev

set_option Elab.async false
set_option linter.all false
set_option maxRecDepth 100000
namespace Ev
open PySem PySem.Spec PyProof.Rows L2 Mp
theorem made_places {p r : Val} {rs : List Ray} {turn S b q : Nat} {h : Hh} (ht : 1 ≤ turn) (ht2 : turn ≤ 120) (hS : S ≤ 9000) (hq : q = h.length) :
    forL (gName 6) B_made_3 [] ((List.range' S turn).map fun (n : Nat) => Val.int (n : Int)) [some p, some r, some (.int (turn : Int)), some (clsV ((List.range turn).map (cls turn rs))), some (.int (S : Int)), some (.ref b), none, none, none, none, none, some (.ref q), none, none, none] (h ++ [.lst []]) =
      .nx [some p, some r, some (.int (turn : Int)), some (clsV ((List.range turn).map (cls turn rs))), some (.int (S : Int)), some (.ref b), none, none, none, none, none, some (.ref q), none, none, none] (h ++ [.lst (((List.range' S turn).map (Mp.placeOf rs turn)).map encP)]) := by
  rw [for_app (fun (n : Nat) => encP (Mp.placeOf rs turn n)), List.nil_append, List.map_map]
  · rfl
  · intro n hn acc hacc
    obtain ⟨hn1, hn2⟩ : S ≤ n ∧ n < S + turn := by rw [List.mem_range'] at hn; omega
    have hc : n % turn < turn := Nat.mod_lt _ ht
    have ap := fun (v : Val) (hv : v.bel 0 = true) => app_end (h := h) (n := q) (l := acc) (v := v) hq hacc hv
    generalize hH : h ++ [Ob.lst acc] = H at *
    have ix : ixP (clsV ((List.range turn).map (cls turn rs))) (.int ((n % turn : Nat) : Int)) H = .ok (.lst ((cls turn rs (n % turn)).map encRow)) H := ix_lst (by rw [List.getElem?_map, List.getElem?_map, List.getElem?_range hc]; rfl)
    have md : modP (.int (n : Int)) (.int (turn : Int)) H = .ok (.int ((n % turn : Nat) : Int)) H := by rw [mod_sm (by omega)]; rfl
    have dv : divP (.int (n : Int)) (.int (turn : Int)) H = .ok (.int ((n / turn : Nat) : Int)) H := by rw [div_sm (by omega) (by omega)]; rfl
    have le : n / turn ≤ n := Nat.div_le_self _ _
    have ml := fun (m : Int) => mul_n (m := false) (k := n / turn) (b := m) (h := H) (by omega)
    refine ⟨_, rfl, .inl ?_⟩
    have m8 : ∀ v, (h ++ [Ob.lst (acc ++ [v])]).length = H.length := fun v => by rw [← hH]; simp
    have kt : (h ++ [Ob.lst acc]).length = H.length := by rw [hH]
    unfold Mp.placeOf
    generalize clsV ((List.range turn).map (cls turn rs)) = CV at *
    generalize n / turn = D at *
    generalize n % turn = C at *
    cases e : cls turn rs C with
    | nil =>
      rw [e] at ix
      have ap1 := ap (.tup [.non, .int 0]) rfl
      have m9 := m8 (.tup [.non, .int 0])
      dsimp only [bestR]
      show _ = SR.nx _ (h ++ [Ob.lst (acc ++ [Val.tup [.non, .int 0]])])
      generalize h ++ [Ob.lst (acc ++ [Val.tup [.non, .int 0]])] = H2 at *
      simp -implicitDefEqProofs [B_made_3, ix, md, ap1, wipeE, m9, isL, szz]
    | cons a w =>
      rw [e] at ix
      have mk := minK_rows (a := a) (r := w) (h := H)
      have ln : lenP [.lst ((a :: w).map encRow)] H = .ok (.int ((w.length + 1 : Nat) : Int)) H := by rw [len_lst]; simp
      have gt0 : (0 : Int) < ((w.length + 1 : Nat) : Int) := by omega
      dsimp only [bestR]
      generalize Val.lst ((a :: w).map encRow) = RV at *
      generalize bestOf a w = B at *
      generalize ((w.length + 1 : Nat) : Int) = RL at *
      have eb : encRow B = .tup [.int (B.f : Int), .int B.b, .int B.m] := rfl
      rw [eb] at mk
      have i2 : ixP (.tup [.int (B.f : Int), .int B.b, .int B.m]) (.int 2) H = .ok (.int B.m) H := ix_tup (i := 2) rfl
      have ml1 := ml B.m
      have isn : isNP (.tup [.int (B.f : Int), .int B.b, .int B.m]) .non H = .ok (.bl false) H := rfl
      have ap1 := ap (.tup [.int (B.b + (D : Int) * B.m), .int B.m]) rfl
      have m9 := m8 (.tup [.int (B.b + (D : Int) * B.m), .int B.m])
      show _ = SR.nx _ (h ++ [Ob.lst (acc ++ [Val.tup [.int (B.b + (D : Int) * B.m), .int B.m]])])
      generalize h ++ [Ob.lst (acc ++ [Val.tup [.int (B.b + (D : Int) * B.m), .int B.m]])] = H2 at *
      generalize (D : Int) * B.m = DM at *
      simp -implicitDefEqProofs [B_made_3, ix, md, dv, ln, gt0, mk, i2, ml1, isn, ap1, wipeE, m9, isL, szz]
  · simp; omega
end Ev

set_option Elab.async false
set_option linter.all false
set_option maxRecDepth 100000
namespace Mp
def neverT : Tab := ⟨[], [(none, 0)]⟩
theorem neverT_ok : neverT.Ok := ⟨by decide, by decide, by decide, (fun a h => nomatch h), fun p h => by
  rcases List.mem_singleton.mp h with rfl
  exact ⟨by decide, by decide, rfl⟩⟩
theorem neverT_val (n : Nat) : neverT.val n = none := by
  unfold Tab.val neverT Frm.at'
  dsimp only
  rw [if_neg (by simp), show ([((none : Option Int), (0 : Int))] : List Frm.P).length = 1 from rfl, Nat.mod_one]
  rfl
end Mp
namespace Ev
open PySem PySem.Spec PyProof.Rows L2 Mp
theorem made_none {h : Hh} : F_made [.lst [], .lst []] h = .ok (encT neverT) h := by
  refine run_rt (h1 := h) ?_ (encT_pl _ _) List.take_length
  have e : encT neverT = .tup [.tup [], .tup [.tup [.non, .int 0]]] := rfl
  rw [e]
  simp -implicitDefEqProofs [S_made]
theorem len_zero {α : Type} {f : α → Val} {l : List α} {h : Hh} : lenP [.lst (l.map f)] h = .ok (.int (l.length : Int)) h := by rw [len_lst, List.length_map]
/-- the raw table that made makes -/
def madeT (ps : List (Nat × Int)) (rs : List Ray) : Tab := madeTab ps rs (lcmOf rs) (headZ ps ((List.range (lcmOf rs)).map (cls (lcmOf rs) rs))).toNat
def madeZ (ps : List (Nat × Int)) (rs : List Ray) : Int := headZ ps ((List.range (lcmOf rs)).map (cls (lcmOf rs) rs))
theorem lcmOf_pos {rs : List Ray} (ok : ∀ ρ ∈ rs, ρ.Ok) : 1 ≤ lcmOf rs := lcm_pos rs 1 (Nat.le_refl _) fun ρ hρ => (ok ρ hρ).s1
theorem cls_bound {rs : List Ray} {turn : Nat} (ok : ∀ ρ ∈ rs, ρ.Ok) (ht2 : turn ≤ 120) : ∀ c, ∀ w ∈ cls turn rs c, 0 ≤ w.m ∧ w.m < 2 ^ 58 := fun c w hw => by
  obtain ⟨ρ, hρ, i, hi, e⟩ := mem_cls.mp hw
  have o := ok ρ hρ
  have e2 : w.m = ρ.r * (turn : Int) / (ρ.s : Int) := by rw [show w = (rowOf turn ρ i).2 by rw [e]]; rfl
  have r0 := o.r0; have r2 := o.r2; have s1 := o.s1
  have p0 : 0 ≤ ρ.r * (turn : Int) := Int.mul_nonneg r0 (by omega)
  have p1 : ρ.r * (turn : Int) ≤ 2 ^ 50 * 120 := by
    refine Int.le_trans (Int.mul_le_mul_of_nonneg_left (show (turn : Int) ≤ 120 by omega) r0) ?_
    omega
  rw [e2]
  refine ⟨Int.ediv_nonneg p0 (by omega), ?_⟩
  have := Int.ediv_le_self (ρ.s : Int) p0
  omega
theorem cls_bound' {rs : List Ray} {turn : Nat} (ok : ∀ ρ ∈ rs, ρ.Ok) (ht2 : turn ≤ 120) : ∀ c, ∀ w ∈ ((List.range turn).map (cls turn rs)).getD c [], 0 ≤ w.m ∧ w.m ≤ 2 ^ 60 := fun c w hw => by
  by_cases hc : c < turn
  · rw [List.getD_eq_getElem?_getD, List.getElem?_map, List.getElem?_range hc] at hw
    have := cls_bound ok ht2 c w hw
    omega
  · rw [List.getD_eq_getElem?_getD, List.getElem?_eq_none (by simp; omega)] at hw
    cases hw
theorem mul_none {S : Nat} {h : Hh} (hS : S ≤ 9000) : mulP true (.lst [.non]) (.int (S : Int)) h = .ok (.ref h.length) (h ++ [.lst ((List.replicate S (none : Option Int)).map encA)]) := by
  unfold mulP lsq
  dsimp only
  rw [if_pos ⟨by omega, by omega, by rw [sizeLine_eq]; simp; omega⟩, mk_t]
  have e : (List.replicate (S : Int).toNat [Val.non]).flatten = (List.replicate S (none : Option Int)).map encA := by
    rw [List.map_replicate, Int.toNat_natCast]
    have : ∀ n : Nat, (List.replicate n [Val.non]).flatten = List.replicate n (encA none) := fun n => by
      induction n with
      | zero => rfl
      | succ n ih => rw [List.replicate_succ, List.flatten_cons, ih, List.replicate_succ]; rfl
    exact this S
  rw [e]
theorem made_end {ps : List (Nat × Int)} {rs : List Ray} {h : Hh} (ok : ∀ ρ ∈ rs, ρ.Ok) (hl : lcmOf rs ≤ 120) (hz : rs.length ≤ 8000) (hp : ps.length ≤ 100000) (ne : ¬ (rs = [] ∧ ps = [])) (q : ¬ 9000 < madeZ ps rs) :
    F_made [.lst (ps.map encPt), .lst (rs.map encRay)] h = if (madeT ps rs).least.head.length ≤ 1000 then .ok (encT (madeT ps rs).least) h else .exc ⟨41, [("most", .int 1000)]⟩ h := by
  have ro := round_of_ok (h := h) ok hl
  have lp := lcmOf_pos ok
  have co := classes_of_ok (h := h) ok lp hl hz
  have hs := head_size_ok (h := h) hp (by simpa using hl) (cls_bound' ok hl) q
  have z0 : 0 ≤ madeZ ps rs := headZ_enough.1
  have l1 := len_zero (f := encRay) (l := rs) (h := h)
  have l2 := len_zero (f := encPt) (l := ps) (h := h)
  have ne' : ¬ ((rs.length : Int) = 0 ∧ (ps.length : Int) = 0) := fun z => ne ⟨List.eq_nil_of_length_eq_zero (by omega), List.eq_nil_of_length_eq_zero (by omega)⟩
  have eM : madeT ps rs = madeTab ps rs (lcmOf rs) (madeZ ps rs).toNat := rfl
  have eS : headZ ps ((List.range (lcmOf rs)).map (cls (lcmOf rs) rs)) = ((madeZ ps rs).toNat : Int) := (Int.toNat_of_nonneg z0).symm
  rw [eS] at hs
  have hS : (madeZ ps rs).toNat ≤ 9000 := by omega
  rw [eM]
  generalize (madeZ ps rs).toNat = S at *
  clear eM eS q z0
  have mn := mul_none (h := h) hS
  have lpts := made_pts (p := .lst (ps.map encPt)) (r := .lst (rs.map encRay)) (c := clsV ((List.range (lcmOf rs)).map (cls (lcmOf rs) rs))) (turn := lcmOf rs) (S := S) (h := h) ps (List.replicate S none)
  have lrays := made_rays (p := .lst (ps.map encPt)) (r := .lst (rs.map encRay)) (c := clsV ((List.range (lcmOf rs)).map (cls (lcmOf rs) rs))) (turn := lcmOf rs) (S := S) (h := h) hS rs (putLs ps (List.replicate S none)) ok
  have eh : putLs (rs.flatMap (putsOf S)) (putLs ps (List.replicate S none)) = headOf ps rs S := rfl
  rw [eh] at lrays
  clear eh
  have lpl := made_places (p := .lst (ps.map encPt)) (r := .lst (rs.map encRay)) (rs := rs) (turn := lcmOf rs) (S := S) (b := h.length) (q := (h ++ [Ob.lst ((headOf ps rs S).map encA)]).length) (h := h ++ [.lst ((headOf ps rs S).map encA)]) lp hl hS rfl
  have rg : rng2I [.int (S : Int), .int ((S : Int) + ((lcmOf rs : Nat) : Int))] (h ++ [.lst ((headOf ps rs S).map encA)] ++ [.lst []]) = _ := rg2 (a := S) (n := lcmOf rs) (z := (S : Int) + ((lcmOf rs : Nat) : Int)) rfl (by omega)
  have et : (List.range' S (lcmOf rs)).map (Mp.placeOf rs (lcmOf rs)) = (madeTab ps rs (lcmOf rs) S).turn := rfl
  have ehd : headOf ps rs S = (madeTab ps rs (lcmOf rs) S).head := rfl
  have tl : (madeTab ps rs (lcmOf rs) S).turn.length = lcmOf rs := by simp [madeTab]
  rw [et] at lpl
  rw [ehd] at lpl lrays rg
  clear et ehd
  generalize madeTab ps rs (lcmOf rs) S = T at *
  have e3 : listP true [.ref h.length] (h ++ [.lst (T.head.map encA)] ++ [.lst (T.turn.map encP)]) = .ok (.ref (h ++ [Ob.lst (T.head.map encA)] ++ [Ob.lst (T.turn.map encP)]).length) (h ++ [.lst (T.head.map encA)] ++ [.lst (T.turn.map encP)] ++ [.lst (T.head.map encA)]) := by
    unfold listP
    dsimp only
    have : lsq (.ref h.length) (h ++ [Ob.lst (T.head.map encA)] ++ [Ob.lst (T.turn.map encP)]) = some (T.head.map encA) := by
      unfold lsq
      dsimp only
      rw [List.append_assoc, List.getElem?_append_right (Nat.le_refl _), Nat.sub_self]
      rfl
    rw [this]
    rfl
  have rl := raw_least_gen (hd := T.head) (t := T.turn) (h := h ++ [.lst (T.head.map encA)] ++ [.lst (T.turn.map encP)]) (u := .ref h.length) (w := .ref (h ++ [Ob.lst (T.head.map encA)]).length) e3 (seqR_lsq (fun l z => nomatch z) (lsq_end rfl)) (by omega) (by omega)
  have tk : (h ++ [Ob.lst (T.head.map encA)] ++ [Ob.lst (T.turn.map encP)]).take h.length = h := by rw [List.append_assoc, List.take_left]
  have e4 : (⟨T.head, T.turn⟩ : Tab) = T := rfl
  rw [e4] at rl
  clear e3 e4
  generalize h ++ [Ob.lst (T.head.map encA)] ++ [Ob.lst (T.turn.map encP)] = H4 at *
  have et1 : ∀ H : Hh, ixP (encT T.least) (.int 0) H = .ok (.tup (T.least.head.map encA)) H := fun H => ixT0 _ _
  have et2 : ∀ H : Hh, lenP [.tup (T.least.head.map encA)] H = .ok (.int (T.least.head.length : Int)) H := fun H => by rw [len_tup, List.length_map]
  have pl := encT_pl T.least h.length
  generalize T.least.head.map encA = LH at *
  generalize encT T.least = LT at *
  unfold envM at lpts lrays
  have Q : ∀ b : Bool, (decide (1000 < (T.least.head.length : Int))) = b → S_made [some (.lst (ps.map encPt)), some (.lst (rs.map encRay)), none, none, none, none, none, none, none, none, none, none, none, none, none] h = if b = true then .exc ⟨41, [("most", .int 1000)]⟩ [some (.lst (ps.map encPt)), some (.lst (rs.map encRay)), some (.int ((lcmOf rs : Nat) : Int)), some (clsV ((List.range (lcmOf rs)).map (cls (lcmOf rs) rs))), some (.int (S : Int)), some (.ref h.length), none, none, none, none, none, some (.ref (h ++ [Ob.lst (T.head.map encA)]).length), none, none, some LT] H4 else .rt LT H4 := by
    intro b hb
    generalize h ++ [Ob.lst (List.map encA (List.replicate S none))] = H1 at *
    generalize h ++ [Ob.lst (List.map encA (putLs ps (List.replicate S none)))] = H2 at *
    generalize h ++ [Ob.lst (List.map encA T.head)] = H3 at *
    generalize rs.map encRay = RSL at *
    generalize ps.map encPt = PSL at *
    generalize clsV ((List.range (lcmOf rs)).map (cls (lcmOf rs) rs)) = CV at *
    generalize (rs.length : Int) = RL at *
    generalize (ps.length : Int) = PL at *
    generalize (T.least.head.length : Int) = TL at *
    by_cases c1 : RL = 0
    · by_cases c2 : PL = 0
      · exact absurd ⟨c1, c2⟩ ne'
      · cases b <;> simp -implicitDefEqProofs [S_made, l1, l2, ro, co, hs, mn, lpts, lrays, rg, lpl, rl, et1, et2, x_for, seqI_l, szz, c1, c2, hb]
    · cases b <;> simp -implicitDefEqProofs [S_made, l1, l2, ro, co, hs, mn, lpts, lrays, rg, lpl, rl, et1, et2, x_for, seqI_l, szz, c1, hb]
  by_cases c : T.least.head.length ≤ 1000
  · rw [if_pos c]
    exact run_rt (h1 := H4) (Q false (decide_eq_false (by omega))) pl tk
  · rw [if_neg c]
    exact run_excA (h1 := H4) (Q true (decide_eq_true (by omega))) tk
end Ev

set_option Elab.async false
set_option linter.all false
set_option maxRecDepth 100000
namespace Mp
end Mp
namespace Ev
open PySem PySem.Spec PyProof.Rows Mp
end Ev

set_option Elab.async false
set_option linter.all false
set_option maxRecDepth 100000
namespace Mp
open PySem PySem.Spec PyProof.Rows L2
theorem maxL_le {B : Int} : ∀ {l : List Int}, l ≠ [] → (∀ x ∈ l, x ≤ B) → maxL l ≤ B
  | [n], _, h => h n List.mem_cons_self
  | n :: m :: r, _, h => by
    unfold maxL
    exact Int.max_le.mpr ⟨h n List.mem_cons_self, maxL_le (by simp) fun x hx => h x (List.mem_cons_of_mem _ hx)⟩
theorem stepZ_le {turn : Nat} {cs : List (List Mp.Row)} {B : Int} : ∀ (l : List Nat) (f : Int), f ≤ B → (∀ c ∈ l, ∀ b, bestR (cs.getD c []) = some b → (c : Int) + (turn : Int) * lastT b (cs.getD c []) ≤ B) → l.foldl (stepZ turn cs) f ≤ B
  | [], f, h, _ => h
  | c :: l, f, h, k => by
    rw [List.foldl_cons]
    refine stepZ_le l _ ?_ fun d hd => k d (List.mem_cons_of_mem _ hd)
    unfold stepZ
    split
    · exact h
    · rename_i b hb
      exact Int.max_le.mpr ⟨h, k c List.mem_cons_self b hb⟩
end Mp
namespace Ev
open PySem PySem.Spec PyProof.Rows L2 Mp
theorem madeZ_le {ps : List (Nat × Int)} {rs : List Ray} {B : Int} (h0 : 0 ≤ B) (hp : ∀ p ∈ ps, (p.1 : Int) + 1 ≤ B) (hr : ∀ c < lcmOf rs, ∀ b, bestR (cls (lcmOf rs) rs c) = some b → (c : Int) + ((lcmOf rs : Nat) : Int) * lastT b (cls (lcmOf rs) rs c) ≤ B) : madeZ ps rs ≤ B := by
  unfold madeZ headZ
  have hl : ((List.range (lcmOf rs)).map (cls (lcmOf rs) rs)).length = lcmOf rs := by simp
  rw [hl]
  refine stepZ_le _ _ ?_ fun c hc b hb => ?_
  · refine maxL_le (by simp) fun x hx => ?_
    rcases List.mem_cons.mp hx with rfl | hx
    · exact h0
    · obtain ⟨p, hp', rfl⟩ := List.mem_map.mp hx
      exact hp p hp'
  · have hc' := List.mem_range.mp hc
    have hg : ((List.range (lcmOf rs)).map (cls (lcmOf rs) rs)).getD c [] = cls (lcmOf rs) rs c := by
      rw [List.getD_eq_getElem?_getD, List.getElem?_map, List.getElem?_range hc']
      rfl
    rw [hg] at hb ⊢
    exact hr c hc' b hb
theorem told_nn {ps : List (Nat × Int)} {rs : List Ray} {m : Nat} {v : Int} (ok : ∀ ρ ∈ rs, ρ.Ok) (p0 : ∀ p ∈ ps, 0 ≤ p.2) (h : Tells ps rs m v) : 0 ≤ v := by
  rcases h with h | ⟨ρ, hρ, i, _, e⟩
  · exact p0 _ h
  · have o := ok ρ hρ
    have := Int.mul_nonneg (show (0 : Int) ≤ (i : Int) by omega) o.r0
    have := o.a0
    omega
theorem madeT_all {ps : List (Nat × Int)} {rs : List Ray} (ok : ∀ ρ ∈ rs, ρ.Ok) (p0 : ∀ p ∈ ps, 0 ≤ p.2) (hl : lcmOf rs ≤ 120) : (madeT ps rs).Big ∧ ∀ m, IsLeast (Tells ps rs m) ((madeT ps rs).val m) := by
  have tp := lcmOf_pos ok
  have en := (headZ_enough (ps := ps) (rs := rs) (turn := lcmOf rs)).2
  have dv : ∀ ρ ∈ rs, ρ.s ∣ lcmOf rs := (lcm_dvd rs 1).2
  have vals := made_val (ps := ps) (fun ρ hρ => (ok ρ hρ).s1) tp dv en
  refine ⟨⟨?_, ?_, ?_, ?_⟩, vals⟩
  · unfold madeT madeTab; simpa using tp
  · unfold madeT madeTab; simpa using hl
  · intro a ha
    obtain ⟨i, hi, e⟩ := List.mem_iff_getElem.mp ha
    cases a with
    | none => trivial
    | some v =>
      have h1 : (madeT ps rs).val i = some v := by
        unfold Tab.val
        rw [if_pos hi, List.getD_eq_getElem?_getD, List.getElem?_eq_getElem hi, e]
        rfl
      have h2 := vals i
      have h3 : IsLeast (Tells ps rs i) ((madeT ps rs).val i) := h2
      rw [h1] at h3
      exact told_nn ok p0 h3.1
  · intro p hp
    unfold madeT madeTab at hp
    obtain ⟨n, hn, rfl⟩ := List.mem_map.mp hp
    obtain ⟨i, hi, rfl⟩ := List.mem_range'.mp hn
    rw [Nat.one_mul]
    generalize hS : (headZ ps ((List.range (lcmOf rs)).map (cls (lcmOf rs) rs))).toNat = S at *
    have h2 := vals (S + i)
    have h1 : (madeTab ps rs (lcmOf rs) S).val (S + i) = (Mp.placeOf rs (lcmOf rs) (S + i)).1 := by
      have hh : (madeTab ps rs (lcmOf rs) S).head.length = S := headOf_len _ _ _
      have ht : (madeTab ps rs (lcmOf rs) S).turn.length = lcmOf rs := by simp [madeTab]
      have := val_ge (T := madeTab ps rs (lcmOf rs) S) (r := i) (by rw [ht]; exact hi)
      rw [hh] at this
      rw [this]
      unfold Frm.get madeTab
      dsimp only
      rw [List.getD_eq_getElem?_getD, List.getElem?_map, List.getElem?_range' hi, Nat.one_mul]
      rfl
    rw [h1] at h2
    unfold Mp.placeOf at h2 ⊢
    cases e : bestR (cls (lcmOf rs) rs ((S + i) % lcmOf rs)) with
    | none => exact ⟨Int.le_refl _, show (0 : Int) < 2 ^ 60 by decide, rfl⟩
    | some b =>
      rw [e] at h2
      dsimp only at h2 ⊢
      have hb : b ∈ cls (lcmOf rs) rs ((S + i) % lcmOf rs) := by
        cases e2 : cls (lcmOf rs) rs ((S + i) % lcmOf rs) with
        | nil => rw [e2] at e; cases e
        | cons a r =>
          rw [e2] at e
          rw [← Option.some.inj e]
          exact (bestOf_spec r a).1
      obtain ⟨b1, b2⟩ := cls_bound ok hl _ b hb
      exact ⟨b1, by simp only; omega, told_nn ok p0 h2.1⟩
theorem neverT_least : neverT.least = neverT := by decide +kernel
theorem made_is {ps : List (Nat × Int)} {rs : List Ray} {V : Tab} {h : Hh} (ok : ∀ ρ ∈ rs, ρ.Ok) (p0 : ∀ p ∈ ps, 0 ≤ p.2) (hz : rs.length ≤ 8000) (hp : ps.length ≤ 100000) (hl : lcmOf rs ≤ 120) (hZ : madeZ ps rs ≤ 9000)
    (oV : V.Big) (hV : ∀ m, IsLeast (Tells ps rs m) (V.val m)) (hh : V.least.head.length ≤ 1000) : F_made [.lst (ps.map encPt), .lst (rs.map encRay)] h = .ok (encT V.least) h := by
  by_cases ne : rs = [] ∧ ps = []
  · obtain ⟨rfl, rfl⟩ := ne
    have e : V.least = neverT.least := bigUniq oV neverT_ok.big fun n => by
      rw [neverT_val]
      cases q : V.val n with
      | none => rfl
      | some v =>
        have := hV n
        rw [q] at this
        rcases this.1 with z | ⟨_, z, _⟩ <;> cases z
    rw [e, neverT_least]
    exact made_none
  · obtain ⟨h1, h2⟩ := madeT_all (ps := ps) ok p0 hl
    have e : (madeT ps rs).least = V.least := bigUniq h1 oV fun n => (h2 n).uniq (hV n)
    rw [made_end ok hl hz hp ne (by omega), e, if_pos hh]
end Ev

set_option Elab.async false
set_option linter.all false
set_option maxRecDepth 100000
namespace Mp
open PySem
/-- a form that tells a line rises as the line does -/
theorem line_rise {F : Tab} {p : Int} {q : Nat} {l : Int} {b : Nat} (ok : F.Ok) (hq : 1 ≤ q) (hG : Goes p q l b) (hv : ∀ n, F.val n = some (line p q l n)) (k : Nat) : Frm.ris F.turn k * (q : Int) = p * (F.turn.length : Int) := by
  have hl := ok.l1
  have hz := okP_zr ok.hp
  have hb : b ≤ b * F.turn.length := Nat.le_mul_of_pos_right b (by omega)
  have e := val_turns hl hz (m := F.head.length + k + b * F.turn.length) (by omega) q
  rw [hv, hv, show F.head.length + k + b * F.turn.length - F.head.length = k + b * F.turn.length by omega] at e
  have e2 : Frm.ris F.turn (k + b * F.turn.length) = Frm.ris F.turn k := by unfold Frm.ris; rw [Nat.add_mul_mod_self_right]
  rw [e2, Nat.mul_comm q, goes_many hG F.turn.length _ (by omega)] at e
  have e3 : line p q l (F.head.length + k + b * F.turn.length) + (F.turn.length : Int) * p = line p q l (F.head.length + k + b * F.turn.length) + (q : Int) * Frm.ris F.turn k := Option.some.inj e
  rw [Int.mul_comm, Int.mul_comm p]
  omega
theorem line_lawRise {F : Tab} {p : Int} {q : Nat} {l : Int} {b m n : Nat} (ok : F.Ok) (hq : 1 ≤ q) (hG : Goes p q l b) (hv : ∀ n, F.val n = some (line p q l n)) (hd : F.turn.length ∣ m) (hn : F.head.length ≤ n) : lawRise (F.val n) (F.val (n + m)) * (q : Int) = p * (m : Int) := by
  obtain ⟨j, rfl⟩ := hd
  rw [Nat.mul_comm, rise_many ok.l1 (okP_zr ok.hp) hn (hv n), Int.mul_assoc, line_rise ok hq hG hv, Int.natCast_mul, ← Int.mul_assoc, Int.mul_comm (j : Int), Int.mul_assoc]
theorem line_calm {F : Tab} {p : Int} {q : Nat} {l : Int} {b m : Nat} (ok : F.Ok) (hq : 1 ≤ q) (hp : 0 ≤ p) (hp2 : p ≤ 1000000000) (hm : m ≤ 120) (hG : Goes p q l b) (hv : ∀ n, F.val n = some (line p q l n)) (hd : F.turn.length ∣ m) : Calm F m := fun n hn => by
  have e := line_lawRise ok hq hG hv hd hn
  generalize lawRise (F.val n) (F.val (n + m)) = x at *
  have h1 : 0 ≤ p * (m : Int) := Int.mul_nonneg hp (by omega)
  have h2 : p * (m : Int) ≤ 1000000000 * 120 := Int.mul_le_mul hp2 (by omega) (by omega) (by omega)
  have h3 : 0 ≤ x := by
    by_cases c : 0 ≤ x
    · exact c
    · have : x * (q : Int) < 0 := Int.mul_neg_of_neg_of_pos (by omega) (by omega)
      omega
  have h4 : x * 1 ≤ x * (q : Int) := Int.mul_le_mul_of_nonneg_left (by omega) h3
  omega
theorem line_B {F : Tab} {p : Int} {q : Nat} {l : Int} {b : Nat} (ok : F.Ok) (hq : 1 ≤ q) (hp : 0 ≤ p) (hp2 : p ≤ 1000000000) (hG : Goes p q l b) (hv : ∀ n, F.val n = some (line p q l n)) : ∀ x ∈ F.turn, x.2 ≤ 2 ^ 50 := fun x hx => by
  obtain ⟨k, hk, rfl⟩ := List.getElem_of_mem hx
  have e := line_rise ok hq hG hv k
  have e1 : Frm.ris F.turn k = F.turn[k].2 := by rw [Frm.ris_lt hk]; unfold Frm.get; rw [List.getD_eq_getElem?_getD, List.getElem?_eq_getElem hk]; rfl
  rw [e1] at e
  have h0 := (ok.hp _ (List.getElem_mem hk)).1
  have := ok.l2
  have h2 : p * (F.turn.length : Int) ≤ 1000000000 * 120 := Int.mul_le_mul hp2 (by omega) (by omega) (by omega)
  generalize F.turn[k].2 = x at *
  have h4 : x * 1 ≤ x * (q : Int) := Int.mul_le_mul_of_nonneg_left (by omega) h0
  omega
/-- what is put on every amount -/
def Tab.dear (T : Tab) (c : Int) : Tab := ⟨T.head.map (Option.map fun a => c + a), T.turn.map fun p => (p.1.map fun a => c + a, p.2)⟩
def isRate : Val → Bool
  | .tup [a, b] => a.isIn 0 1000000000 && b.isIn 1 1000000000
  | _ => false
/-- a rate whose bottom is no greater than a round -/
def isLow : Val → Bool
  | .tup [a, .int q] => isRate (.tup [a, .int q]) && decide (q ≤ 120)
  | _ => false
def isLift : Val → Bool
  | .int i => decide (-1000000 ≤ i) && decide (i ≤ 1000000)
  | _ => false
end Mp
namespace Ev
open PySem PySem.Spec PyProof.Rows L2 Mp
theorem greater_ok {T U V : Tab} {h : Hh} (fT : T.least = T) (fU : U.least = U) (oT : T.Ok) (oU : U.Ok) (e : F_raw_greater [encT T, encT U] h = .ok (encT V) h) : F_greater [encT T, encT U] h = .ok (encT V) h := by
  refine run_rt (h1 := h) ?_ (encT_pl _ _) List.take_length
  simp -implicitDefEqProofs [S_greater, check_forms_ok oT fT oU fU, e]
theorem check_number_ok {i : Int} {h : Hh} (h0 : 0 ≤ i) (h1 : i < 10 ^ 40) : F_check_number [.int i] h = .ok .non h := by
  refine run_nx (h1 := h) (en := [some (.int i)]) ?_ List.take_length
  have : ¬ (10000000000000000000000000000000000000000 ≤ i) := by omega
  simp -implicitDefEqProofs [S_check_number, is_number_ok, h0, this]
theorem raw_dearer_ok {T : Tab} {c : Int} {h : Hh} (ok : T.Ok) : F_raw_dearer [encT T, .int c] h = .ok (encT (T.dear c)) h := by
  have := ok.h1; have := ok.l2
  refine run_rt (h1 := h) ?_ (encT_pl _ _) List.take_length
  simp -implicitDefEqProofs [S_raw_dearer]
  rw [compE encA (fun a => encA (a.map fun x => c + x)) T.head]
  rotate_left
  · simp -implicitDefEqProofs [seqI]
  · omega
  · intro a _
    refine ⟨_, rfl, ?_⟩
    cases a <;> simp -implicitDefEqProofs
  simp -implicitDefEqProofs
  rw [compE encP (fun p => encP (p.1.map fun x => c + x, p.2)) T.turn]
  rotate_left
  · simp -implicitDefEqProofs [seqI, encR]
  · omega
  · intro p _
    obtain ⟨a, r⟩ := p
    refine ⟨_, rfl, ?_⟩
    cases a <;> simp -implicitDefEqProofs [encP, szz]
  simp -implicitDefEqProofs [szz, encT, Tab.dear, List.map_map, Function.comp_def]
theorem dearer_ok {T : Tab} {c : Int} {h : Hh} (ok : T.Ok) (f : T.least = T) (h0 : 0 ≤ c) (h1 : c < 10 ^ 40) : F_dearer [encT T, .int c] h = .ok (encT (T.dear c)) h := by
  refine run_rt (h1 := h) ?_ (encT_pl _ _) List.take_length
  simp -implicitDefEqProofs [S_dearer, check_form_ok ok f, check_number_ok h0 h1, raw_dearer_ok ok]
theorem is_rate_ok {v : Val} {h : Hh} (hd : v.data = true) : F_is_rate [v] h = .ok (.bl (isRate v)) h := by
  have hv := data_thing hd
  refine run_rt (h1 := h) ?_ rfl List.take_length
  cases v with
  | tup l =>
    rcases l with _ | ⟨a, _ | ⟨b, _ | ⟨c, l⟩⟩⟩
    · simp -implicitDefEqProofs [S_is_rate, is_sized_ok, isRate]
    · simp -implicitDefEqProofs [S_is_rate, is_sized_ok, isRate]
    · have ha := data_thing (data_tup hd a (by simp))
      have hb := data_thing (data_tup hd b (by simp))
      simp -implicitDefEqProofs [S_is_rate, is_sized_ok, isRate, is_within_ok ha, is_within_ok hb]
      cases a.isIn 0 1000000000 <;> simp
    · have e : ¬ ((2 : Int) ≤ (l.length : Int) + 1 + 1 + 1 ∧ (l.length : Int) + 1 + 1 + 1 ≤ 2) := by omega
      simp -implicitDefEqProofs [S_is_rate, is_sized_ok, isRate]
      have e1 : (decide (2 ≤ (l.length : Int) + 1 + 1 + 1) && decide ((l.length : Int) + 1 + 1 + 1 ≤ 2)) = false := by simp; omega
      rw [e1]
      rfl
  | ty t => simp at hv
  | _ => simp -implicitDefEqProofs [S_is_rate, is_sized_ok, isRate]
theorem is_lift_ok {v : Val} {h : Hh} (hv : v.thing = true) : F_is_lift [v] h = .ok (.bl (isLift v)) h := by
  refine run_rt (h1 := h) ?_ rfl List.take_length
  cases v with
  | int i =>
    have : absP [.int i] h = .ok (.int (if i < 0 then -i else i)) h := rfl
    simp -implicitDefEqProofs [S_is_lift, is_integer_ok, isLift, this]
    split <;> (rw [Bool.eq_iff_iff]; simp; omega)
  | ty t => simp at hv
  | _ => simp -implicitDefEqProofs [S_is_lift, is_integer_ok, isLift]
theorem line_at_ok {p l : Int} {q n : Nat} {h : Hh} (hp : 0 ≤ p) (hp2 : p ≤ 1000000000) (hq : 1 ≤ q) (hq2 : q ≤ 120) : F_line_at [.tup [.int p, .int (q : Int)], .int l, .int (n : Int)] h = .ok (.int (line p q l n)) h := by
  refine run_rt (h1 := h) ?_ rfl List.take_length
  have m : mulP false (.int p) (.int (n : Int)) h = .ok (.int (p * (n : Int))) h := mul_sm' (by omega)
  have d : ∀ x : Int, divP (.int x) (.int (q : Int)) h = .ok (.int (x / (q : Int))) h := fun x => div_sm (by omega) (by omega)
  simp -implicitDefEqProofs [S_line_at, m, d, max2, line]
end Ev

set_option Elab.async false
set_option linter.all false
set_option maxRecDepth 100000
namespace Mp
/-- the size of a line's head, as the program reckons it -/
def lineSize (p l : Int) : Int := if l < 0 ∧ 0 < p then -(l / p) else 0
theorem lineSize_goes {p l : Int} {q : Nat} (hp : 0 ≤ p) (hq : 1 ≤ q) : 0 ≤ lineSize p l ∧ Goes p q l (lineSize p l).toNat := by
  unfold lineSize
  by_cases c : l < 0 ∧ 0 < p
  · rw [if_pos c]
    have h1 : l / p < 0 := Int.ediv_neg_of_neg_of_pos c.1 c.2
    refine ⟨by omega, goes_of hq hp (.inr ?_)⟩
    rw [Int.toNat_of_nonneg (by omega), Int.mul_neg]
    have := Int.mul_ediv_self_le (x := l) (k := p) (by omega)
    omega
  · rw [if_neg c]
    refine ⟨Int.le_refl _, goes_of hq hp ?_⟩
    by_cases z : p = 0
    · exact .inl z
    · right
      simp
      omega
theorem lineSize_le {p l : Int} (hp : 0 ≤ p) {B : Int} (hB : 0 ≤ B) (h : -B ≤ l) : lineSize p l ≤ B := by
  unfold lineSize
  split
  · rename_i c
    have : -B ≤ l / p := by
      rw [Int.le_ediv_iff_mul_le c.2]
      have : B * 1 ≤ B * p := Int.mul_le_mul_of_nonneg_left (by omega) hB
      rw [Int.neg_mul]
      omega
    omega
  · exact hB
/-- the form of a line -/
def lineForm (p : Int) (q : Nat) (l : Int) : Tab := (lineTab p q l (lineSize p l).toNat).least
structure LineOk (p : Int) (q : Nat) (l : Int) : Prop where
  p0 : 0 ≤ p
  p1 : p ≤ 1000000000
  q1 : 1 ≤ q
  q2 : q ≤ 120
  s : lineSize p l ≤ 1000
theorem LineOk.tab {p l : Int} {q : Nat} (k : LineOk p q l) : (lineTab p q l (lineSize p l).toNat).Ok := lineTab_ok (by have := k.s; omega) k.q1 k.q2 k.p0 (by have := k.p1; omega)
theorem LineOk.form {p l : Int} {q : Nat} (k : LineOk p q l) : (lineForm p q l).Ok ∧ (∀ n, (lineForm p q l).val n = some (line p q l n)) ∧ (lineForm p q l).least = lineForm p q l ∧ (lineForm p q l).turn.length ∣ q := by
  obtain ⟨h1, h2, h3, _⟩ := least_all k.tab
  refine ⟨h1, fun n => (h2 n).trans (lineTab_val k.q1 (lineSize_goes k.p0 k.q1).2 n), h3, ?_⟩
  show (Frm.strip _ _).2.length ∣ q
  have hz := okP_zr k.tab.hp
  have hl := k.tab.l1
  obtain ⟨e, _⟩ := strip_all (lineTab p q l (lineSize p l).toNat).head.reverse (Frm.leastRound (lineTab p q l (lineSize p l).toNat).turn) (by rw [Frm.leastRound_len hl]; exact (Frm.leastM_spec hl).1) (fun a ha => k.tab.ha a (List.mem_reverse.mp ha)) (okP_thin (Frm.leastM_spec hl).1 (Frm.leastM_spec hl).2.1 k.tab.hp) (Frm.leastRound_least hl hz)
  rw [e, Frm.leastRound_len hl]
  have := (Frm.leastM_spec hl).2.2.1
  have hq : (lineTab p q l (lineSize p l).toNat).turn.length = q := by simp [lineTab]
  rw [hq] at this
  exact Nat.dvd_of_mod_eq_zero this
end Mp
namespace Ev
open PySem PySem.Spec PyProof.Rows L2 Mp
theorem raw_line_ok {p l : Int} {q : Nat} {h : Hh} (k : LineOk p q l) : F_raw_line [.tup [.int p, .int (q : Int)], .int l] h = .ok (encT (lineForm p q l)) h := by
  have k0 := k.p0; have k1 := k.p1; have k2 := k.q1; have k3 := k.q2
  obtain ⟨s0, _⟩ := lineSize_goes (l := l) k.p0 k.q1
  have s1 := k.s
  refine run_rt (h1 := h) ?_ (encT_pl _ _) List.take_length
  unfold S_raw_line
  rw [x_seq, x_set, x_c, lift_ok, SR.bnd_nx, x_seq, rwto (a := sIf _ _ _ _ h) (b := SR.nx [some (.tup [.int p, .int (q : Int)]), some (.int l), some (.int (lineSize p l)), none, none] h) ?hs, SR.bnd_nx]
  case hs =>
    unfold lineSize
    by_cases c : l < 0
    · by_cases c2 : 0 < p
      · have d : divP (.int l) (.int p) h = .ok (.int (l / p)) h := div_sm c2 (by omega)
        simp -implicitDefEqProofs [c, c2, d]
      · simp -implicitDefEqProofs [c, c2]
    · simp -implicitDefEqProofs [c]
  have z : lineSize p l = ((lineSize p l).toNat : Int) := by omega
  unfold lineForm
  have ok := k.tab
  have lo := least_all ok
  generalize (lineSize p l).toNat = b at *
  rw [z]
  have nq : ¬ (1000 + (q : Int) < (b : Int)) := by omega
  simp -implicitDefEqProofs [nq]
  rw [compE (fun (n : Nat) => Val.int (n : Int)) (fun n => encA (some (line p q l n))) (List.range b)]
  rotate_left
  · simp -implicitDefEqProofs [rg1 (show b ≤ 1000000000 by omega)]
  · simp; omega
  · intro n _
    refine ⟨_, rfl, ?_⟩
    simp -implicitDefEqProofs [line_at_ok k0 k1 k2 k3]
  simp -implicitDefEqProofs
  rw [compE (fun (n : Nat) => Val.int (n : Int)) (fun n => encP (some (line p q l n), p)) (List.range' b q)]
  rotate_left
  · simp -implicitDefEqProofs [rg2 (a := b) (n := q) (h := h) rfl (by omega)]
  · simp; omega
  · intro n _
    refine ⟨_, rfl, ?_⟩
    simp -implicitDefEqProofs [line_at_ok k0 k1 k2 k3, encP, szz]
  have e8 : (List.range b).map (fun n => encA (some (line p q l n))) = (lineTab p q l b).head.map encA := by unfold lineTab; rw [List.map_map]; rfl
  have e9 : (List.range' b q).map (fun n => encP (some (line p q l n), p)) = (lineTab p q l b).turn.map encP := by unfold lineTab; rw [List.map_map]; rfl
  have e8' : (List.range b).map (fun n => Val.int (line p q l n)) = (lineTab p q l b).head.map encA := e8
  rw [e8', e9]
  have rl := raw_least_gen (hd := (lineTab p q l b).head) (t := (lineTab p q l b).turn) (h := h) (u := .lst ((lineTab p q l b).head.map encA)) (w := .lst ((lineTab p q l b).turn.map encP)) rfl (seqR_lsq (fun l z => nomatch z) rfl) ok.l1 ok.l2
  have ck := checked_ok rl lo.1.h1
  generalize lineTab p q l b = W at *
  obtain ⟨wh, wt⟩ := W
  generalize List.map encP wt = X1 at *
  generalize List.map encA wh = X2 at *
  simp -implicitDefEqProofs [ck]
theorem raw_line_many {h : Hh} : F_raw_line [.tup [.int 1, .int 1], .int (-1000000)] h = .exc ⟨41, [("most", .int 1000)]⟩ h := by
  refine run_excA (en := [some (.tup [.int 1, .int 1]), some (.int (-1000000)), some (.int 1000000), none, none]) (h1 := h) ?_ List.take_length
  have d : divP (.int (-1000000)) (.int 1) h = .ok (.int (-1000000)) h := rfl
  simp -implicitDefEqProofs [S_raw_line, d]
theorem check_low_rate_ok {v : Val} {h : Hh} (hd : v.data = true) : F_check_low_rate [v] h = if isLow v = true then .ok .non h else .exc ⟨22, []⟩ h := by
  have hr := is_rate_ok (h := h) hd
  by_cases c : isRate v = true
  · have : ∃ p q, v = .tup [.int p, .int q] := by
      unfold isRate at c
      split at c
      · rename_i a b
        cases a <;> simp at c
        cases b <;> simp at c
        exact ⟨_, _, rfl⟩
      · cases c
    obtain ⟨p, q, rfl⟩ := this
    by_cases c2 : q ≤ 120
    · rw [if_pos (by simp [isLow, c, c2])]
      refine run_nx (h1 := h) (en := [some (.tup [.int p, .int q])]) ?_ List.take_length
      have : ¬ (120 < q) := by omega
      simp -implicitDefEqProofs [S_check_low_rate, hr, c, this]
    · rw [if_neg (by simp [isLow, c, c2])]
      refine run_exc (h1 := h) (en := [some (.tup [.int p, .int q])]) ?_ List.take_length
      have : (120 < q) := by omega
      simp -implicitDefEqProofs [S_check_low_rate, hr, c, this]
  · have c' : isRate v = false := by simpa using c
    have e : isLow v = false := by
      unfold isLow
      split
      · rw [c']; rfl
      · rfl
    rw [if_neg (by rw [e]; decide)]
    refine run_exc (h1 := h) (en := [some v]) ?_ List.take_length
    simp -implicitDefEqProofs [S_check_low_rate, hr, c']
theorem line_form_ok {p l : Int} {q : Nat} {h : Hh} (k : LineOk p q l) (hl : -1000000 ≤ l) (hl2 : l ≤ 1000000) : F_line_form [.tup [.int p, .int (q : Int)], .int l] h = .ok (encT (lineForm p q l)) h := by
  have k0 := k.p0; have k1 := k.p1; have k2 := k.q1; have k3 := k.q2
  refine run_rt (h1 := h) ?_ (encT_pl _ _) List.take_length
  have c := check_low_rate_ok (v := .tup [.int p, .int (q : Int)]) (h := h) (by simp [Val.data, dataL])
  rw [if_pos (by simp [isLow, isRate]; omega)] at c
  simp -implicitDefEqProofs [S_line_form, c, is_lift_ok, isLift, hl, hl2, raw_line_ok k]
theorem line_form_rate {v w : Val} {h : Hh} (hd : v.data = true) (hv : isLow v = false) : F_line_form [v, w] h = .exc ⟨22, []⟩ h := by
  refine run_exc (h1 := h) (en := [some v, some w]) ?_ List.take_length
  have c := check_low_rate_ok (v := v) (h := h) hd
  rw [hv, if_neg (by decide)] at c
  simp -implicitDefEqProofs [S_line_form, c]
theorem line_form_lift {p : Int} {q : Nat} {w : Val} {h : Hh} (k0 : 0 ≤ p) (k1 : p ≤ 1000000000) (k2 : 1 ≤ q) (k3 : q ≤ 120) (hw : w.thing = true) (hl : isLift w = false) : F_line_form [.tup [.int p, .int (q : Int)], w] h = .exc ⟨14, []⟩ h := by
  refine run_exc (h1 := h) (en := [some (.tup [.int p, .int (q : Int)]), some w]) ?_ List.take_length
  have c := check_low_rate_ok (v := .tup [.int p, .int (q : Int)]) (h := h) (by simp [Val.data, dataL])
  rw [if_pos (by simp [isLow, isRate]; omega)] at c
  simp -implicitDefEqProofs [S_line_form, c, is_lift_ok hw, hl]
theorem line_form_many {h : Hh} : F_line_form [.tup [.int 1, .int 1], .int (-1000000)] h = .exc ⟨41, [("most", .int 1000)]⟩ h := by
  refine run_excA (en := [some (.tup [.int 1, .int 1]), some (.int (-1000000))]) (h1 := h) ?_ List.take_length
  have c := check_low_rate_ok (v := .tup [.int 1, .int 1]) (h := h) (by simp [Val.data, dataL])
  rw [if_pos (by simp [isLow, isRate])] at c
  simp -implicitDefEqProofs [S_line_form, c, is_lift_ok, isLift, raw_line_many]
end Ev

set_option Elab.async false
set_option linter.all false
set_option maxRecDepth 100000
namespace Mp
open PySem
theorem in_none3 (a b c : Option Int) (h : Hh) : inP false .non (.lst [encA a, encA b, encA c]) h = .ok (.bl (a.isNone || b.isNone || c.isNone)) h := by
  cases a <;> cases b <;> cases c <;> simp [inP, pdOf, Val.pd, pdL, SeqAt.shaped, PyData.canLay0, PyData.canLayAll0, PyData.depth, PyData.depthAll, PyData.eqv]
theorem lowest_nat {r q p t : Nat} (hq : 0 < q) (ht : 0 < t) (e : r * q = p * t) : r / Nat.gcd t r = p / Nat.gcd p q ∧ t / Nat.gcd t r = q / Nat.gcd p q := by
  have g0 : 0 < Nat.gcd t r := Nat.gcd_pos_of_pos_left _ ht
  have g1 : 0 < Nat.gcd p q := Nat.gcd_pos_of_pos_right _ hq
  obtain ⟨t1, et⟩ := Nat.gcd_dvd_left t r
  obtain ⟨r1, er⟩ := Nat.gcd_dvd_right t r
  obtain ⟨p1, ep⟩ := Nat.gcd_dvd_left p q
  obtain ⟨q1, eq⟩ := Nat.gcd_dvd_right p q
  have c1 : Nat.Coprime t1 r1 := by
    have := Nat.coprime_div_gcd_div_gcd g0
    rwa [show t / Nat.gcd t r = t1 from Nat.div_eq_of_eq_mul_right g0 et, show r / Nat.gcd t r = r1 from Nat.div_eq_of_eq_mul_right g0 er] at this
  have c2 : Nat.Coprime p1 q1 := by
    have := Nat.coprime_div_gcd_div_gcd g1
    rwa [show p / Nat.gcd p q = p1 from Nat.div_eq_of_eq_mul_right g1 ep, show q / Nat.gcd p q = q1 from Nat.div_eq_of_eq_mul_right g1 eq] at this
  rw [show t / Nat.gcd t r = t1 from Nat.div_eq_of_eq_mul_right g0 et, show r / Nat.gcd t r = r1 from Nat.div_eq_of_eq_mul_right g0 er, show p / Nat.gcd p q = p1 from Nat.div_eq_of_eq_mul_right g1 ep, show q / Nat.gcd p q = q1 from Nat.div_eq_of_eq_mul_right g1 eq]
  have e2 : r1 * q1 = p1 * t1 := by
    have : (Nat.gcd t r * Nat.gcd p q) * (r1 * q1) = (Nat.gcd t r * Nat.gcd p q) * (p1 * t1) := by
      calc (Nat.gcd t r * Nat.gcd p q) * (r1 * q1) = (Nat.gcd t r * r1) * (Nat.gcd p q * q1) := by ac_rfl
        _ = r * q := by rw [← er, ← eq]
        _ = p * t := e
        _ = (Nat.gcd p q * p1) * (Nat.gcd t r * t1) := by rw [← ep, ← et]
        _ = _ := by ac_rfl
    exact Nat.eq_of_mul_eq_mul_left (Nat.mul_pos g0 g1) this
  have d1 : t1 ∣ q1 := c1.dvd_of_dvd_mul_left ⟨p1, by rw [e2, Nat.mul_comm]⟩
  have d2 : q1 ∣ t1 := c2.symm.dvd_of_dvd_mul_left ⟨r1, by rw [← e2, Nat.mul_comm]⟩
  have et1 : t1 = q1 := Nat.dvd_antisymm d1 d2
  refine ⟨?_, et1⟩
  have q0 : 0 < q1 := Nat.pos_of_ne_zero fun z => by rw [z, Nat.mul_zero] at eq; omega
  rw [et1] at e2
  exact Nat.eq_of_mul_eq_mul_right q0 e2
end Mp
namespace Ev
open PySem PySem.Spec PyProof.Rows L2 Mp
theorem slopes_ok {T : Tab} {h : Hh} (ok : T.Ok) : F_slopes [encT T] h = .ok (.lst ((T.turn.filter fun p => p.1.isSome).map fun p => .int p.2)) h := by
  have := ok.l2
  refine run_rt (h1 := h) ?_ (by unfold Val.bel; exact belL_map fun _ _ => rfl) List.take_length
  unfold S_slopes
  rw [x_ret, compF encP (fun p => .int p.2) (fun p => p.1.isSome) T.turn]
  · rfl
  · simp -implicitDefEqProofs [seqI, encR]
  · omega
  · intro p _
    obtain ⟨a, r⟩ := p
    refine ⟨_, rfl, ?_, fun _ => ?_⟩
    · cases a <;> simp -implicitDefEqProofs [encP]
    · simp -implicitDefEqProofs [encP]
theorem as_slope_ok {r t : Nat} {h : Hh} (hr : r < 2 ^ 60) (ht : 0 < t) (ht2 : t < 2 ^ 60) : F_as_slope [.int (r : Int), .int (t : Int)] h = .ok (.tup [.int ((r / Nat.gcd t r : Nat) : Int), .int ((t / Nat.gcd t r : Nat) : Int)]) h := by
  refine run_rt (h1 := h) ?_ rfl List.take_length
  have e := common_part_ok (a := t) (b := r) (h := h) hr
  have g0 : 0 < Nat.gcd t r := Nat.gcd_pos_of_pos_left _ ht
  have g1 : Nat.gcd t r ≤ t := Nat.gcd_le_left _ ht
  generalize Nat.gcd t r = g at *
  have d1 : divP (.int (r : Int)) (.int (g : Int)) h = .ok (.int ((r / g : Nat) : Int)) h := by rw [div_sm (by omega) (by omega)]; rfl
  have d2 : divP (.int (t : Int)) (.int (g : Int)) h = .ok (.int ((t / g : Nat) : Int)) h := by rw [div_sm (by omega) (by omega)]; rfl
  simp -implicitDefEqProofs [S_as_slope, e, d1, d2, szz, -Int.natCast_ediv]
theorem lowest_loop (h : Hh) (x0 x1 : Option Val) : ∀ b a : Nat, b < 2 ^ 60 → sWhile T__law_lowest_0 B__law_lowest_1 [x0, x1, some (.int (a : Int)), some (.int (b : Int)), none] h = .nx [x0, x1, some (.int (Nat.gcd a b : Nat)), some (.int 0), none] h := by
  intro b
  induction b using Nat.strongRecOn with
  | _ b ih =>
    intro a hb
    by_cases q : b = 0
    · subst q
      rw [while_f (h1 := h) (by simp [T__law_lowest_0]), Nat.gcd_zero_right]
      rfl
    · have m1 : modP (.int (a : Int)) (.int (b : Int)) h = .ok (.int ((a % b : Nat) : Int)) h := by rw [mod_sm (by omega)]; rfl
      have pos : 0 < b := by omega
      rw [while_t (h1 := h) (e2 := [x0, x1, some (.int (b : Int)), some (.int ((a % b : Nat) : Int)), none]) (h2 := h) (by simp [T__law_lowest_0]; omega) (by simp -implicitDefEqProofs [B__law_lowest_1, m1, int_int, -Int.natCast_emod]),
        ih _ (Nat.mod_lt _ pos) b (by have := Nat.mod_lt a pos; omega)]
      rw [Nat.gcd_comm a b, Nat.gcd_rec b a, Nat.gcd_comm]
theorem lowest_ok {p q : Nat} {h : Hh} (hq : 0 < q) (hq2 : q < 2 ^ 60) : F__law_lowest [.int (p : Int), .int (q : Int)] h = .ok (.tup [.int ((p / Nat.gcd p q : Nat) : Int), .int ((q / Nat.gcd p q : Nat) : Int)]) h := by
  refine run_rt (h1 := h) ?_ rfl List.take_length
  have e := lowest_loop h (some (.int (p : Int))) (some (.int (q : Int))) q p hq2
  have g0 : 0 < Nat.gcd p q := Nat.gcd_pos_of_pos_right _ hq
  have g1 : Nat.gcd p q ≤ q := Nat.gcd_le_right _ hq
  generalize Nat.gcd p q = g at *
  have d1 : divP (.int (p : Int)) (.int (g : Int)) h = .ok (.int ((p / g : Nat) : Int)) h := by rw [div_sm (by omega) (by omega)]; rfl
  have d2 : divP (.int (q : Int)) (.int (g : Int)) h = .ok (.int ((q / g : Nat) : Int)) h := by rw [div_sm (by omega) (by omega)]; rfl
  simp -implicitDefEqProofs [S__law_lowest, e, d1, d2, szz, -Int.natCast_ediv]
theorem slope_of_line {p : Nat} {q : Nat} {l : Int} {h : Hh} (k : LineOk (p : Int) q l) : F_slope_of [encT (lineForm p q l)] h = F__law_lowest [.int (p : Int), .int (q : Int)] h := by
  obtain ⟨ok, hv, hf, hd⟩ := k.form
  have k1 := k.q1; have k2 := k.q2
  have hL := ok.l1; have hL2 := ok.l2
  rw [lowest_ok (by omega) (by omega)]
  have G := (lineSize_goes (l := l) k.p0 k.q1).2
  have rr := line_rise ok k.q1 G hv
  have bb := line_B ok k.q1 k.p0 k.p1 G hv
  generalize lineForm p q l = F at *
  refine run_rt (h1 := h) ?_ rfl List.take_length
  -- all places have amounts, all rises are one
  have all : ∀ x ∈ F.turn, x.1.isSome = true ∧ x.2 = Frm.ris F.turn 0 := fun x hx => by
    obtain ⟨i, hi, rfl⟩ := List.getElem_of_mem hx
    have e1 : Frm.get F.turn i = F.turn[i] := by unfold Frm.get; rw [List.getD_eq_getElem?_getD, List.getElem?_eq_getElem hi]; rfl
    refine ⟨?_, ?_⟩
    · have := hv (F.head.length + i)
      rw [val_ge hi, e1] at this
      rw [this]; rfl
    · have r1 := rr i
      have r0 := rr 0
      rw [Frm.ris_lt hi, e1] at r1
      exact Int.eq_of_mul_eq_mul_right (show (q : Int) ≠ 0 by omega) (r1.trans r0.symm)
  have r0 := rr 0
  have hr0 : 0 ≤ Frm.ris F.turn 0 := by rw [Frm.ris_lt (by omega)]; exact (ok.hp _ (Frm.get_mem (by omega))).1
  have hr1 : Frm.ris F.turn 0 ≤ 2 ^ 50 := by rw [Frm.ris_lt (by omega)]; exact bb _ (Frm.get_mem (by omega))
  generalize Frm.ris F.turn 0 = r at *
  obtain ⟨r, rfl⟩ : ∃ n : Nat, r = (n : Int) := ⟨r.toNat, by omega⟩
  have fl : F.turn.filter (fun p => p.1.isSome) = F.turn := List.filter_eq_self.mpr fun x hx => (all x hx).1
  have mp : (F.turn.map fun p => Val.int p.2) = (F.turn.map fun p => p.2).map Val.int := by rw [List.map_map]; rfl
  have sl := slopes_ok (h := h) ok
  rw [fl, mp] at sl
  have mn : minP [.lst ((F.turn.map fun p => p.2).map Val.int)] h = .ok (.int (r : Int)) h := by
    cases ht : F.turn with
    | nil => rw [ht] at hL; simp at hL
    | cons x t =>
      rw [List.map_cons]
      have := min_lst (h := h) (l := t.map fun p => p.2) (x := x.2) (fun y hy => by
        obtain ⟨z, hz, rfl⟩ := List.mem_map.mp hy
        rw [(all z (by rw [ht]; exact List.mem_cons_of_mem _ hz)).2, (all x (by rw [ht]; exact List.mem_cons_self)).2]
        exact Int.le_refl _)
      rw [this, (all x (by rw [ht]; exact List.mem_cons_self)).2]
  have ll : lenP [.lst ((F.turn.map fun p => p.2).map Val.int)] h = .ok (.int (F.turn.length : Int)) h := by simp
  have as := as_slope_ok (r := r) (t := F.turn.length) (h := h) (by omega) (by omega) (by omega)
  have low := lowest_nat (r := r) (q := q) (p := p) (t := F.turn.length) (by omega) (by omega) (by have := r0; exact_mod_cast this)
  rw [low.1, low.2] at as
  have pos : (0 : Int) < (F.turn.length : Int) := by omega
  generalize (F.turn.map fun p => p.2).map Val.int = X at *
  have pos' : 0 < F.turn.length := hL
  simp -implicitDefEqProofs [S_slope_of, check_form_ok ok hf, sl, mn, ll, as, pos']
end Ev

set_option Elab.async false
set_option linter.all false
set_option maxRecDepth 100000
namespace Ev
open PySem PySem.Spec PyProof.Rows L2 Mp
theorem at_nat {T : Tab} {n : Nat} {h : Hh} (ok : T.Ok) : F__law_at [encT T, .int (n : Int)] h = .ok (encA (T.val n)) h := by
  have := at_ok (h := h) (z := (n : Int)) ok (by omega)
  simpa using this
theorem goes_ok {T : Tab} {n s : Nat} {h : Hh} (ok : T.Ok) : F__law_goes [encT T, .int (n : Int), .int (s : Int)] h = .ok (.bl (Frm.goes (T.val n) (T.val (n + s)) (T.val (n + 2 * s)))) h := by
  refine run_rt (h1 := h) ?_ rfl List.take_length
  have e1 := at_nat (n := n) (h := h) ok
  have e2 := at_nat (n := n + s) (h := h) ok
  have e3 := at_nat (n := n + 2 * s) (h := h) ok
  rw [Int.natCast_add] at e2
  rw [show ((n + 2 * s : Nat) : Int) = (n : Int) + 2 * (s : Int) by omega] at e3
  have m2 : mulP false (.int 2) (.int (s : Int)) h = .ok (.int (2 * (s : Int))) h := mul_sm' (by omega)
  have i3 := fun a b c => in_none3 a b c h
  generalize T.val n = a at *
  generalize T.val (n + s) = b at *
  generalize T.val (n + 2 * s) = c at *
  have i3 := i3 a b c
  cases a <;> cases b <;> cases c <;> simp -implicitDefEqProofs only [encA_none, encA_some, Option.isNone] at i3 e1 e2 e3 <;> simp -implicitDefEqProofs [S__law_goes, e1, e2, e3, m2, i3, Frm.goes, szz]
theorem round_ok {T : Tab} {h : Hh} (ok : T.Ok) : F__law_round [encT T] h = .ok (.int (Frm.leastM T.turn : Nat)) h := by
  have := ok.h1; have := ok.l2; have hl := ok.l1
  refine run_rt (h1 := h) ?_ rfl List.take_length
  rw [← Frm.lawRound_eq hl (okP_zr ok.hp)]
  simp -implicitDefEqProofs [S__law_round, x_for]
  rw [rwto (a := rng2I _ h) (b := .ok ⟨(List.range' 1 T.turn.length).map fun (n : Nat) => Val.int (n : Int), []⟩ h) (by
    rw [show ((T.turn.length : Int) + 1) = ((1 : Nat) : Int) + (T.turn.length : Int) by omega]
    exact rg2 (a := 1) rfl (by omega))]
  simp -implicitDefEqProofs
  rw [for_ret (fun s => Frm.allGo (Frm.at' T.turn) T.turn.length s) (fun (s : Nat) => Val.int (s : Int))]
  · unfold Frm.lawRound
    cases List.find? (Frm.allGo (Frm.at' T.turn) T.turn.length) (List.range' 1 T.turn.length) <;> simp -implicitDefEqProofs
  · intro s hs
    obtain ⟨hs1, hs2⟩ : 1 ≤ s ∧ s < 1 + T.turn.length := by rw [List.mem_range'] at hs; omega
    refine ⟨_, rfl, ?_⟩
    have m2 : mulP false (.int 2) (.int (T.turn.length : Int)) h = .ok (.int (2 * (T.turn.length : Int))) h := mul_sm' (by omega)
    have cmp : ∀ (env : Mp.Env), env = [some (encT T), some (.int (T.head.length : Int)), some (.int (T.turn.length : Int)), some (.int (s : Int)), none] → eComp false [4] (iRng2 (aCons (eVar 1) (aCons (eOp (addP false) (eVar 1) (eOp (mulP false) (eC (.int 2)) (eVar 2))) aNil))) (gName 4) (Mp.tNot (tB (eFn F__law_goes (aCons (eVar 0) (aCons (eVar 4) (aCons (eVar 3) aNil)))))) (eVar 4) env h = .ok (.lst (((List.range' T.head.length (2 * T.turn.length)).filter fun n => !Frm.goes (T.val n) (T.val (n + s)) (T.val (n + 2 * s))).map fun (n : Nat) => .int (n : Int))) h := by
      rintro _ rfl
      refine compF (fun (n : Nat) => Val.int (n : Int)) _ _ _ ?_ (by simp; omega) fun n _ => ⟨_, rfl, ?_, fun _ => ?_⟩
      · simp -implicitDefEqProofs [m2, rg2 (a := T.head.length) (n := 2 * T.turn.length) (z := (T.head.length : Int) + 2 * (T.turn.length : Int)) (h := h) (by omega) (by omega)]
      · simp -implicitDefEqProofs [goes_ok ok]
      · simp -implicitDefEqProofs
    have cmp := cmp _ rfl
    have key : (((List.range' T.head.length (2 * T.turn.length)).filter fun n => !Frm.goes (T.val n) (T.val (n + s)) (T.val (n + 2 * s))).length = 0) = (Frm.allGo (Frm.at' T.turn) T.turn.length s = true) := by
      rw [List.length_eq_zero_iff, List.filter_eq_nil_iff]
      unfold Frm.allGo
      rw [List.all_eq_true, List.range'_eq_map_range]
      simp only [List.mem_map, List.mem_range, forall_exists_index, and_imp, forall_apply_eq_imp_iff₂]
      have e : ∀ k, T.val (T.head.length + k) = Frm.at' T.turn k := fun k => by unfold Tab.val; rw [if_neg (by omega), Nat.add_sub_cancel_left]
      refine propext ⟨fun z k hk => ?_, fun z k hk => ?_⟩
      · have := z k hk
        rw [e, Nat.add_assoc, e, Nat.add_assoc, e] at this
        simpa using this
      · rw [e, Nat.add_assoc, e, Nat.add_assoc, e]
        simpa using z k hk
    generalize ((List.range' T.head.length (2 * T.turn.length)).filter fun n => !Frm.goes (T.val n) (T.val (n + s)) (T.val (n + 2 * s))) = L at *
    cases q : Frm.allGo (Frm.at' T.turn) T.turn.length s with
    | true =>
      rw [q] at key
      have k0 : L.length = 0 := by rw [key]
      refine .inl ⟨rfl, ?_⟩
      simp -implicitDefEqProofs [B__law_round_0, cmp, k0]
    | false =>
      rw [q] at key
      have k0 : ¬ (L.length = 0) := by rw [key]; decide
      refine .inr ⟨rfl, .inl ?_⟩
      have k1 : ¬ L = [] := fun z => k0 (by rw [z]; rfl)
      simp -implicitDefEqProofs [B__law_round_0, cmp, k0, k1]
theorem head_loop {T : Tab} {h : Hh} {s : Nat} (ok : T.Ok) (x3 x4 x5 x6 : Option Val) : ∀ b : Nat, b ≤ 1000 → sWhile T__law_least_0 B__law_least_1 [some (encT T), some (.int (s : Int)), some (.int (b : Int)), x3, x4, x5, x6] h = .nx [some (encT T), some (.int (s : Int)), some (.int (lawHead T.val s b : Nat)), x3, x4, x5, x6] h
  | 0, _ => by
    rw [while_f (h1 := h) (by simp [T__law_least_0])]
    rfl
  | b + 1, hb => by
    have g := goes_ok (n := b) (s := s) (h := h) ok
    have e : (((b + 1 : Nat) : Int) - 1) = (b : Int) := by omega
    have pos : (0 : Int) < ((b + 1 : Nat) : Int) := by omega
    unfold lawHead
    cases q : Frm.goes (T.val b) (T.val (b + s)) (T.val (b + 2 * s)) with
    | true =>
      rw [if_pos rfl, ← head_loop ok x3 x4 x5 x6 b (by omega)]
      rw [q] at g
      refine while_t (h1 := h) ?_ ?_
      · generalize ((b + 1 : Nat) : Int) = z at *
        simp -implicitDefEqProofs [T__law_least_0, pos, e, g]
      · generalize ((b + 1 : Nat) : Int) = z at *
        simp -implicitDefEqProofs [B__law_least_1, e]
    | false =>
      rw [if_neg (by decide)]
      rw [q] at g
      refine while_f ?_
      generalize ((b + 1 : Nat) : Int) = z at *
      simp -implicitDefEqProofs [T__law_least_0, pos, e, g]
theorem lawHead_le (f : Nat → Option Int) (s : Nat) : ∀ b, lawHead f s b ≤ b
  | 0 => Nat.le_refl _
  | b + 1 => by
    unfold lawHead
    split
    · exact Nat.le_trans (lawHead_le f s b) (Nat.le_succ b)
    · exact Nat.le_refl _
theorem lawHead_goes (f : Nat → Option Int) (s : Nat) : ∀ B n, lawHead f s B ≤ n → n < B → Frm.goes (f n) (f (n + s)) (f (n + 2 * s)) = true
  | 0, n, _, h => by omega
  | B + 1, n, h1, h2 => by
    unfold lawHead at h1
    split at h1
    · rename_i q
      by_cases c : n = B
      · rw [c]; exact q
      · exact lawHead_goes f s B n h1 (by omega)
    · omega
theorem head_some {T : Tab} (ok : T.Ok) {n : Nat} (hn : lawHead T.val (Frm.leastM T.turn) T.head.length ≤ n) : (T.val (n + Frm.leastM T.turn)).isSome = (T.val n).isSome := by
  by_cases c : n < T.head.length
  · exact (Frm.goes_num (lawHead_goes _ _ _ n hn c)).1
  · have p := (Frm.leastM_per ok.l1 (n - T.head.length)).2
    unfold Tab.val
    rw [if_neg (by omega), if_neg c, show n + Frm.leastM T.turn - T.head.length = n - T.head.length + Frm.leastM T.turn by omega]
    unfold Frm.rel at p
    split at p
    · rename_i e1 e2; rw [e1, e2]
    · rename_i e1 e2; rw [e1, e2]; rfl
    · exact p.elim
theorem law_least_ok {T : Tab} {h : Hh} (ok : T.Ok) : F__law_least [encT T] h = .ok (encT T.least) h := by
  have h1000 := ok.h1; have := ok.l2; have hl := ok.l1
  have sp := Frm.leastM_spec hl
  have lw := lawLeast_eq ok
  have hb := lawHead_le T.val (Frm.leastM T.turn) T.head.length
  have hso := fun n => head_some (n := n) ok
  refine run_rt (h1 := h ++ [.lst ((lawTab T.val (lawHead T.val (Frm.leastM T.turn) T.head.length) (Frm.leastM T.turn)).turn.map encP)]) ?_ (encT_pl _ _) (take_end _ _)
  have r := round_ok (h := h) ok
  have hlp := head_loop (h := h) (s := Frm.leastM T.turn) ok none none none none T.head.length h1000
  simp -implicitDefEqProofs [S__law_least, r, hlp, x_for]
  rw [← lw]
  generalize hs : Frm.leastM T.turn = s at *
  generalize lawHead T.val s T.head.length = b at *
  have e1 := rg2 (a := b) (n := s) (z := (b : Int) + (s : Int)) (h := h ++ [.lst []]) rfl (by omega)
  simp -implicitDefEqProofs [e1]
  rw [for_app (fun (n : Nat) => encP (T.val n, lawRise (T.val n) (T.val (n + s))))]
  rotate_left
  · intro n hn acc hacc
    obtain ⟨hn1, hn2⟩ : b ≤ n ∧ n < b + s := by rw [List.mem_range'] at hn; omega
    refine ⟨_, rfl, .inl ?_⟩
    have v1 := fun g => at_nat (n := n) (h := g) ok
    have v2 := fun g => at_nat (n := n + s) (h := g) ok
    rw [Int.natCast_add] at v2
    have hs2 := hso n hn1
    cases a : T.val n with
    | none =>
      rw [a] at v1
      simp -implicitDefEqProofs only [encA_none] at v1
      have ap : appP (.ref h.length) [.tup [.non, .int 0]] (h ++ [.lst acc]) = .ok .non (h ++ [.lst (acc ++ [.tup [.non, .int 0]])]) := app_end rfl hacc rfl
      simp -implicitDefEqProofs [B__law_least_2, v1, ap, isL, szz, encP, lawRise]
    | some a' =>
      rw [a] at v1 hs2
      cases c : T.val (n + s) with
      | none => rw [c] at hs2; cases hs2
      | some c' =>
        rw [c] at v2
        simp -implicitDefEqProofs only [encA_some] at v1 v2
        have ap : appP (.ref h.length) [.tup [.int a', .int (c' - a')]] (h ++ [.lst acc]) = .ok .non (h ++ [.lst (acc ++ [.tup [.int a', .int (c' - a')]])]) := app_end rfl hacc rfl
        simp -implicitDefEqProofs [B__law_least_2, v1, v2, ap, isL, szz, encP, lawRise]
  · simp; omega
  have e9 : (List.range' b s).map (fun n => encP (T.val n, lawRise (T.val n) (T.val (n + s)))) = (lawTab T.val b s).turn.map encP := by unfold lawTab; rw [List.map_map]; rfl
  have e8 : (List.range b).map (fun n => encA (T.val n)) = (lawTab T.val b s).head.map encA := by unfold lawTab; rw [List.map_map]; rfl
  rw [List.nil_append, e9]
  simp -implicitDefEqProofs
  rw [compE (fun (n : Nat) => Val.int (n : Int)) (fun n => encA (T.val n)) (List.range b)]
  rotate_left
  · simp -implicitDefEqProofs [rg1 (show b ≤ 1000000000 by omega)]
  · simp; omega
  · intro n _
    refine ⟨_, rfl, ?_⟩
    simp -implicitDefEqProofs [at_nat ok]
  rw [e8]
  have te : tupleP [.ref h.length] (h ++ [.lst ((lawTab T.val b s).turn.map encP)]) = .ok (.tup ((lawTab T.val b s).turn.map encP)) (h ++ [.lst ((lawTab T.val b s).turn.map encP)]) := tuple_end rfl
  simp -implicitDefEqProofs [te, szz, encT]
end Ev

set_option Elab.async false
set_option linter.all false
set_option maxRecDepth 100000
namespace Mp
open PySem PyProof.Rows
theorem ne_str {s : Str} {h : Hh} (hs : SeqAt.shaped (.str s) = true) : neP (.str s) (.str s) h = .ok (.bl false) h := by
  unfold neP
  show (match some (PyData.str s), some (PyData.str s) with | some d, some e => if SeqAt.shaped d = true ∧ SeqAt.shaped e = true then R.ok (Val.bl (!PyData.eqv d e)) h else .bad | _, _ => .bad) = _
  dsimp only
  rw [if_pos ⟨hs, hs⟩, SeqAt.eqv_refl _ (SeqAt.canLay_of_shaped hs)]
  rfl
theorem not_bl (a b : Bool) (h : Hh) : notBP (.bl a) (.bl b) h = .ok (.bl (!decide (a = b))) h := by
  cases a <;> cases b <;> rfl
end Mp
namespace Ev
open PySem PySem.Spec PyProof.Rows Mp
theorem strN (h : Hh) : neP (.str "number") (.str "number") h = .ok (.bl false) h := ne_str (by decide +kernel)
end Ev

set_option Elab.async false
set_option linter.all false
set_option maxRecDepth 100000
namespace Ev
open PySem PySem.Spec PyProof.Rows L2 Mp
theorem pts_nn {T : Tab} (ok : T.Ok) : ∀ p ∈ ptsOf T.head, 0 ≤ p.2 := fun p hp => by
  obtain ⟨n, v⟩ := p
  obtain ⟨h1, h2⟩ := mem_pts.mp hp
  have := ok.ha (some v) (by rw [← h2, List.getD_eq_getElem?_getD, List.getElem?_eq_getElem h1]; exact List.getElem_mem h1)
  exact this
theorem pts_len (hd : List (Option Int)) : (ptsOf hd).length ≤ hd.length := by
  unfold ptsOf
  rw [List.length_map]
  exact Nat.le_trans (List.length_filter_le _ _) (by simp)
theorem rays_len (T : Tab) : (raysOf T).length ≤ T.turn.length := by
  unfold raysOf
  rw [List.length_map]
  exact Nat.le_trans (List.length_filter_le _ _) (by simp)
/-- the lesser of two forms, if it can be told -/
theorem raw_lesser_ok {T U V : Tab} {h : Hh} (oT : T.Ok) (oU : U.Ok) (rT : ∀ p ∈ T.turn, p.2 ≤ 2 ^ 50) (rU : ∀ p ∈ U.turn, p.2 ≤ 2 ^ 50) (hl : lcmOf (raysOf T ++ raysOf U) ≤ 120) (hZ : madeZ (ptsOf T.head ++ ptsOf U.head) (raysOf T ++ raysOf U) ≤ 9000)
    (oV : V.Big) (hV : ∀ n, V.val n = Mp.lo (T.val n) (U.val n)) (hh : V.least.head.length ≤ 1000) : F_raw_lesser [encT T, encT U] h = .ok (encT V.least) h := by
  have := oT.h1; have := oU.h1; have := oT.l2; have := oU.l2
  have l1 := pts_len T.head; have l2 := pts_len U.head; have l3 := rays_len T; have l4 := rays_len U
  refine run_rt (h1 := h) ?_ (encT_pl _ _) List.take_length
  have a1 : addP false (.lst ((ptsOf T.head).map encPt)) (.lst ((ptsOf U.head).map encPt)) h = .ok (.lst ((ptsOf T.head ++ ptsOf U.head).map encPt)) h := by
    rw [add_lst (by rw [List.length_map, List.length_map]; omega), List.map_append]
  have a2 : addP false (.lst ((raysOf T).map encRay)) (.lst ((raysOf U).map encRay)) h = .ok (.lst ((raysOf T ++ raysOf U).map encRay)) h := by
    rw [add_lst (by rw [List.length_map, List.length_map]; omega), List.map_append]
  have md := made_is (ps := ptsOf T.head ++ ptsOf U.head) (rs := raysOf T ++ raysOf U) (V := V) (h := h)
    (fun ρ hρ => (List.mem_append.mp hρ).elim (rays_ok oT rT ρ) (rays_ok oU rU ρ)) (fun p hp => (List.mem_append.mp hp).elim (pts_nn oT p) (pts_nn oU p))
    (by rw [List.length_append]; omega) (by rw [List.length_append]; omega) hl hZ oV (fun m => by
      rw [hV m]
      exact ((least_tab oT.l1 m).or (least_tab oU.l1 m)).imp fun v => tells_app.symm) hh
  have p1 := points_of_ok (h := h) oT
  have p2 := points_of_ok (h := h) oU
  have p3 := rays_of_ok (h := h) oT
  have p4 := rays_of_ok (h := h) oU
  generalize (ptsOf T.head ++ ptsOf U.head).map encPt = X1 at *
  generalize (raysOf T ++ raysOf U).map encRay = X2 at *
  generalize encT V.least = VV at *
  simp -implicitDefEqProofs [S_raw_lesser, p1, p2, p3, p4, a1, a2, md]
end Ev

set_option Elab.async false
set_option linter.all false
set_option maxRecDepth 100000
namespace Ev
open PySem PySem.Spec PyProof.Rows L2 Mp
theorem zipV_self : ∀ r : List Val, zipV r r = r.map fun a => Val.tup [a, a]
  | [] => rfl
  | a :: r => by rw [List.map_cons, zipV, zipV_self r]
theorem is_tup {l : List Val} {d : Nat} {h : Hh} (hl : l.length ≤ 1000000) (ih : ∀ v ∈ l, F__law_is d [v, v] h = .ok (.bl true) h) : F__law_is (d + 1) [.tup l, .tup l] h = .ok (.bl true) h := by
  refine run_rt (h1 := h) ?_ rfl List.take_length
  have i1 := isiT .tup .lst .tup (.tup l) h rfl (by decide) (by decide)
  have i2 := isi1 .tup .tup (.tup l) h rfl (by decide)
  have i3 := isi1 .lst .tup (.tup l) h rfl (by decide)
  simp -implicitDefEqProofs [isTy] at i1 i2 i3
  simp -implicitDefEqProofs [S__law_is, i1, i2, i3, szz]
  rw [compE (fun a => Val.tup [a, a]) (fun _ => Val.bl true) l]
  · have := all_map (h := h) (l := l) (p := fun _ => true)
    simp -implicitDefEqProofs [this]
  · simp -implicitDefEqProofs [zipI, zipV_self]
  · exact hl
  · intro v hv
    refine ⟨_, rfl, ?_⟩
    simp -implicitDefEqProofs [ih v hv]
theorem is_P {p : Frm.P} {d : Nat} {h : Hh} : F__law_is (d + 2) [encP p, encP p] h = .ok (.bl true) h := is_tup (by simp) fun v hv => by
  simp only [List.mem_cons, List.not_mem_nil, or_false] at hv
  rcases hv with rfl | rfl
  · exact is_A
  · exact is_A (a := some p.2)
theorem is_T {T : Tab} {d : Nat} {h : Hh} (ok : T.Ok) : F__law_is (d + 4) [encT T, encT T] h = .ok (.bl true) h := is_tup (by simp) fun v hv => by
  have := ok.h1; have := ok.l2
  simp only [List.mem_cons, List.not_mem_nil, or_false] at hv
  rcases hv with rfl | rfl
  · exact is_tup (by simp; omega) fun v hv => by obtain ⟨a, _, rfl⟩ := List.mem_map.mp hv; exact is_A
  · exact is_tup (by simp; omega) fun v hv => by obtain ⟨a, _, rfl⟩ := List.mem_map.mp hv; exact is_P
theorem great_gen {h : Hh} {k : Nat} {l : List Val} {c : Int} (hc : 0 < c) (hc2 : c < 1000) (e : h[k]? = some (.lst l)) (ok : HandOk l) : ∃ (l' : List Val) (z : Int), HandOk l' ∧ 0 ≤ z ∧ F__law_great [.ref k, .int c] h = .ok (.int z) (h.set k (.lst l')) := by
  have hk : k < h.length := (List.getElem?_eq_some_iff.mp e).1
  obtain ⟨l1, d, ok1, d1, d2, e1⟩ := draw_ok e ok (m := c) hc (by omega)
  obtain ⟨l', z, y3, ok2, hz, e2⟩ := great_loop (a := some (.int c)) hk (rangeV 0 (1 + d)) l1 0 none ok1 (by decide)
  refine ⟨l', z, ok2, hz, run_rtH (h1 := h.set k (.lst l')) ?_ (by unfold Val.bel; rfl) (List.take_of_length_le (by simp))⟩
  have r2 : ∀ g : Hh, rng1I [.int (1 + d)] g = .ok ⟨rangeV 0 (1 + d), []⟩ g := fun g => rng1 (by omega) (by omega)
  simp -implicitDefEqProofs [S__law_great, x_for, e1, r2, e2]
theorem due_ok {p l : Int} {q n : Nat} {h : Hh} (hp : 0 ≤ p) (hp2 : p ≤ 1000000000) (hq : 1 ≤ q) (hq2 : q ≤ 120) : F__law_due [.int p, .int (q : Int), .int l, .int (n : Int)] h = .ok (.int (line p q l n)) h := by
  refine run_rt (h1 := h) ?_ rfl List.take_length
  have m : mulP false (.int p) (.int (n : Int)) h = .ok (.int (p * (n : Int))) h := mul_sm' (by omega)
  have d : ∀ x : Int, divP (.int x) (.int (q : Int)) h = .ok (.int (x / (q : Int))) h := fun x => div_sm (by omega) (by omega)
  have e : ∀ x : Int, 0 - x = -x := fun x => Int.zero_sub x
  simp -implicitDefEqProofs [S__law_due, m, d, max2, line, e]
  rw [show -(p * (n : Int)) - l = -(p * (n : Int) + l) by omega]
theorem table_loop {p l : Int} {q : Nat} {h : Hh} (hp : 0 ≤ p) (hp2 : p ≤ 1000000000) (hl : -200 ≤ l) (x4 x5 : Option Val) : ∀ k b : Nat, b + k = 300 → (b = 0 ∨ p * ((b : Int) - 1) + l ≤ 0) → ∃ c : Nat, c ≤ 300 ∧ (p = 0 ∨ 0 ≤ p * (c : Int) + l) ∧
    sWhile T__law_table_v54_0 B__law_table_v54_1 [some (.int p), some (.int (q : Int)), some (.int l), some (.int (b : Int)), x4, x5] h = .nx [some (.int p), some (.int (q : Int)), some (.int l), some (.int (c : Int)), x4, x5] h := by
  intro k
  induction k with
  | zero =>
    intro b hb hi
    have hb : b = 300 := by omega
    subst hb
    refine ⟨300, Nat.le_refl _, ?_, while_f (by simp -implicitDefEqProofs [T__law_table_v54_0])⟩
    by_cases z : p = 0
    · exact .inl z
    · rcases hi with hi | hi
      · omega
      · have : p * 300 = p * 299 + p := by omega
        right
        have : 1 * 299 ≤ p * 299 := Int.mul_le_mul_of_nonneg_right (by omega) (by decide)
        have e : (((300 : Nat) : Int) - 1) = 299 := rfl
        rw [e] at hi
        omega
  | succ k ih =>
    intro b hb hi
    have m : mulP false (.int p) (.int (b : Int)) h = .ok (.int (p * (b : Int))) h := mul_sm' (by omega)
    have b3 : (b : Int) < 300 := by omega
    by_cases c : p * (b : Int) + l ≤ 0
    · by_cases z : 0 < p
      · obtain ⟨c', h1, h2, h3⟩ := ih (b + 1) (by omega) (.inr (by rw [Int.natCast_add]; simpa using c))
        refine ⟨c', h1, h2, ?_⟩
        rw [← h3]
        refine while_t (h1 := h) ?_ ?_
        · simp -implicitDefEqProofs [T__law_table_v54_0, m, b3, c, z]
        · simp -implicitDefEqProofs [B__law_table_v54_1]
      · exact ⟨b, by omega, .inl (by omega), while_f (by simp -implicitDefEqProofs [T__law_table_v54_0, m, b3, c, z])⟩
    · exact ⟨b, by omega, .inr (by omega), while_f (by simp -implicitDefEqProofs [T__law_table_v54_0, m, b3, c])⟩
theorem law_table_ok {p l : Int} {q : Nat} {h : Hh} (hp : 0 ≤ p) (hp2 : p ≤ 1000000000) (hq : 1 ≤ q) (hq2 : q ≤ 120) (hl : -200 ≤ l) : ∃ b, b ≤ 300 ∧ Goes p q l b ∧ F__law_table_v54 [.int p, .int (q : Int), .int l] h = .ok (encT (lineTab p q l b)) h := by
  obtain ⟨b, hb, hg, hlp⟩ := table_loop (q := q) (h := h) hp hp2 hl none none 300 0 rfl (.inl rfl)
  refine ⟨b, hb, goes_of hq hp hg, ?_⟩
  refine run_rt (h1 := h ++ [.lst ((lineTab p q l b).turn.map encP)]) ?_ (encT_pl _ _) (take_end _ _)
  rw [show ((0 : Nat) : Int) = 0 from rfl] at hlp
  have e1 := rg2 (a := b) (n := q) (z := (b : Int) + (q : Int)) (h := h ++ [.lst []]) rfl (by omega)
  simp -implicitDefEqProofs [S__law_table_v54, hlp, x_for, e1]
  rw [for_app (fun (n : Nat) => encP (some (line p q l n), p))]
  rotate_left
  · intro n _ acc hacc
    refine ⟨_, rfl, .inl ?_⟩
    have ap : appP (.ref h.length) [.tup [.int (line p q l n), .int p]] (h ++ [.lst acc]) = .ok .non (h ++ [.lst (acc ++ [.tup [.int (line p q l n), .int p]])]) := app_end rfl hacc rfl
    simp -implicitDefEqProofs [B__law_table_v54_2, due_ok hp hp2 hq hq2, ap, isL, szz, encP]
  · simp; omega
  have e9 : (List.range' b q).map (fun n => encP (some (line p q l n), p)) = (lineTab p q l b).turn.map encP := by unfold lineTab; rw [List.map_map]; rfl
  have e8 : (List.range b).map (fun n => Val.int (line p q l n)) = (lineTab p q l b).head.map encA := by unfold lineTab; rw [List.map_map]; rfl
  rw [List.nil_append, e9]
  simp -implicitDefEqProofs
  rw [compE (fun (n : Nat) => Val.int (n : Int)) (fun n => Val.int (line p q l n)) (List.range b)]
  rotate_left
  · simp -implicitDefEqProofs [rg1 (show b ≤ 1000000000 by omega)]
  · simp; omega
  · intro n _
    refine ⟨_, rfl, ?_⟩
    simp -implicitDefEqProofs [due_ok hp hp2 hq hq2]
  rw [e8]
  have te : tupleP [.ref h.length] (h ++ [.lst ((lineTab p q l b).turn.map encP)]) = .ok (.tup ((lineTab p q l b).turn.map encP)) (h ++ [.lst ((lineTab p q l b).turn.map encP)]) := tuple_end rfl
  simp -implicitDefEqProofs [te, szz, encT]
theorem told_rate {v w : Val} {h : Hh} (hd : v.data = true) (hv : isLow v = false) : F__law_told_v54 [v, w] h = .ok (.str "rate") h := by
  refine run_rt (h1 := h) ?_ rfl List.take_length
  simp -implicitDefEqProofs [S__law_told_v54, line_form_rate hd hv, catchA, xSub, inA, unA]
theorem told_number {p : Int} {q : Nat} {w : Val} {h : Hh} (k0 : 0 ≤ p) (k1 : p ≤ 1000000000) (k2 : 1 ≤ q) (k3 : q ≤ 120) (hw : w.thing = true) (hl : isLift w = false) : F__law_told_v54 [.tup [.int p, .int (q : Int)], w] h = .ok (.str "number") h := by
  refine run_rt (h1 := h) ?_ rfl List.take_length
  simp -implicitDefEqProofs [S__law_told_v54, line_form_lift k0 k1 k2 k3 hw hl, catchA, xSub, inA, unA]
theorem told_many {h : Hh} : F__law_told_v54 [.tup [.int 1, .int 1], .int (-1000000)] h = .ok (.str "many") h := by
  refine run_rt (h1 := h) ?_ rfl List.take_length
  simp -implicitDefEqProofs [S__law_told_v54, line_form_many, catchA, xSub, inA, unA, aPick, xfl]
end Ev

set_option Elab.async false
set_option linter.all false
set_option maxRecDepth 100000
/-! ### more on every amount: the form stays one -/
namespace Frm
def dP (c : Int) (p : P) : P := (p.1.map fun a => c + a, p.2)
theorem dP_get (c : Int) (t : List P) (i : Nat) : get (t.map (dP c)) i = dP c (get t i) := by
  unfold get
  rw [List.getD_eq_getElem?_getD, List.getD_eq_getElem?_getD, List.getElem?_map]
  cases t[i]? <;> rfl
theorem dP_tie (c : Int) (L m i : Nat) (p q : P) : tie L m i (dP c p) (dP c q) = tie L m i p q := by
  obtain ⟨a, r⟩ := p
  obtain ⟨b, s⟩ := q
  cases a with
  | none => cases b <;> rfl
  | some a =>
    cases b with
    | none => rfl
    | some b =>
      show (decide (r = s) && decide ((c + b - (c + a)) * (L : Int) = _)) = (decide (r = s) && decide ((b - a) * (L : Int) = _))
      rw [show c + b - (c + a) = b - a by omega]
      rfl
theorem dP_round (c : Int) (t : List P) (m : Nat) : isRound (t.map (dP c)) m = isRound t m := by
  unfold isRound
  rw [List.length_map]
  congr 1
  funext i
  rw [dP_get, dP_get, dP_tie]
theorem dP_leastM (c : Int) (t : List P) : leastM (t.map (dP c)) = leastM t := by
  unfold leastM
  rw [List.length_map]
  have : good (t.map (dP c)) = good t := by
    funext m
    unfold good
    rw [List.length_map, dP_round]
  rw [this]
theorem dP_leastRound (c : Int) (t : List P) : leastRound (t.map (dP c)) = (leastRound t).map (dP c) := by
  unfold leastRound thin
  rw [dP_leastM, List.length_map, ← List.map_take, List.map_map, List.map_map]
  rfl
theorem dP_last (c : Int) (t : List P) : last (t.map (dP c)) = dP c (last t) := by
  unfold last
  rw [List.getLastD_eq_getLast?, List.getLastD_eq_getLast?, List.getLast?_map]
  cases t.getLast? <;> rfl
theorem dP_ahead (c : Int) (p : P) : ahead (dP c p) = (ahead p).map fun a => c + a := by
  obtain ⟨a, r⟩ := p
  cases a with
  | none => rfl
  | some a => show some (c + a - r) = some (c + (a - r)); congr 1; omega
theorem dP_rot (c : Int) (t : List P) : rot (t.map (dP c)) = (rot t).map (dP c) := by
  unfold rot
  rw [dP_last, dP_ahead, List.map_cons, List.map_dropLast]
  rfl
theorem dP_strip (c : Int) : ∀ (rh : List (Option Int)) (t : List P), strip (rh.map (Option.map fun a => c + a)) (t.map (dP c)) = ((strip rh t).1.map (Option.map fun a => c + a), (strip rh t).2.map (dP c))
  | [], t => rfl
  | a :: r, t => by
    rw [List.map_cons]
    unfold strip
    rw [dP_last, dP_ahead]
    have e : (Option.map (fun a => c + a) a = Option.map (fun a => c + a) (ahead (last t))) ↔ (a = ahead (last t)) := by
      cases a <;> cases ahead (last t) <;> simp
    by_cases q : a = ahead (last t)
    · rw [if_pos (e.mpr q), if_pos q, dP_rot, dP_strip c r (rot t)]
    · rw [if_neg (fun z => q (e.mp z)), if_neg q]
      rfl
end Frm
namespace Mp
open PySem
theorem dear_least (T : Tab) (c : Int) : (T.dear c).least = T.least.dear c := by
  unfold Tab.least
  have e1 : (T.dear c).head.reverse = T.head.reverse.map (Option.map fun a => c + a) := by show (T.head.map _).reverse = _; rw [List.map_reverse]
  have e2 : (T.dear c).turn = T.turn.map (Frm.dP c) := rfl
  rw [e1, e2, Frm.dP_leastRound, Frm.dP_strip]
  dsimp only
  unfold Tab.dear
  dsimp only
  rw [← List.map_reverse]
  rfl
theorem line_dear {p l : Int} {q : Nat} (hp : 0 ≤ p) (hq : 1 ≤ q) (hl : 0 ≤ l) (n : Nat) : line p q (l + 3 * (q : Int)) n = 3 + line p q l n := by
  unfold line
  have e : -(p * (n : Int) + (l + 3 * (q : Int))) = -(p * (n : Int) + l) + (-3) * (q : Int) := by omega
  rw [e, Int.add_mul_ediv_right _ _ (by omega)]
  have h0 : 0 ≤ p * (n : Int) := Int.mul_nonneg hp (by omega)
  have z : -(p * (n : Int) + l) / (q : Int) ≤ 0 := Int.ediv_nonpos_of_nonpos_of_neg (by omega) (by omega)
  generalize -(p * (n : Int) + l) / (q : Int) = y at *
  rw [Int.max_eq_right (by omega), Int.max_eq_right (by omega)]
  omega
theorem form_dear {p l : Int} {q : Nat} (hp : 0 ≤ p) (hq : 1 ≤ q) (hl : 0 ≤ l) : lineForm p q (l + 3 * (q : Int)) = (lineForm p q l).dear 3 := by
  unfold lineForm
  have s1 : lineSize p l = 0 := by unfold lineSize; rw [if_neg (by omega)]
  have s2 : lineSize p (l + 3 * (q : Int)) = 0 := by unfold lineSize; rw [if_neg (by omega)]
  rw [s1, s2, ← dear_least]
  congr 1
  unfold lineTab Tab.dear
  simp only [List.map_map]
  congr 1
  · refine List.map_congr_left fun n _ => ?_
    show ((some (line p q (l + 3 * (q : Int)) n), p) : Frm.P) = (some (3 + line p q l n), p)
    rw [line_dear hp hq hl]
theorem line_twice {p l : Int} {q : Nat} (hq : 1 ≤ q) (n : Nat) : line (2 * p) (2 * q) (2 * l) n = line p q l n := by
  unfold line
  have e : -(2 * p * (n : Int) + 2 * l) = 2 * (-(p * (n : Int) + l)) := by rw [Int.mul_assoc]; omega
  rw [e, Int.natCast_mul]
  have := Int.mul_ediv_mul_of_pos (a := 2) (-(p * (n : Int) + l)) (q : Int) (by decide)
  rw [show ((2 : Nat) : Int) = 2 from rfl, this]
theorem form_twice {p l : Int} {q : Nat} (k : LineOk p q l) (k2 : LineOk (2 * p) (2 * q) (2 * l)) : lineForm (2 * p) (2 * q) (2 * l) = lineForm p q l := by
  unfold lineForm
  refine least_uniq k2.tab k.tab fun n => ?_
  rw [lineTab_val k2.q1 (lineSize_goes k2.p0 k2.q1).2, lineTab_val k.q1 (lineSize_goes k.p0 k.q1).2, line_twice k.q1]
theorem form_any {p l : Int} {q b : Nat} (k : LineOk p q l) (hb : b ≤ 1000) (hG : Goes p q l b) : (lineTab p q l b).least = lineForm p q l := by
  unfold lineForm
  exact lineTab_least hb (by have := k.s; omega) k.q1 k.q2 k.p0 (by have := k.p1; omega) hG (lineSize_goes k.p0 k.q1).2
theorem line_max {p l m : Int} {q : Nat} (hq : 1 ≤ q) (n : Nat) : max (line p q l n) (line p q m n) = line p q (max l m) n := by
  have mono : ∀ {l m : Int}, l ≤ m → line p q l n ≤ line p q m n := fun {l m} h => by
    unfold line
    have : -(p * (n : Int) + m) / (q : Int) ≤ -(p * (n : Int) + l) / (q : Int) := Int.ediv_le_ediv (by omega) (by omega)
    omega
  rcases Int.le_total l m with c | c
  · rw [Int.max_eq_right c, Int.max_eq_right (mono c)]
  · rw [Int.max_eq_left c, Int.max_eq_left (mono c)]
end Mp
namespace Ev
open PySem PySem.Spec PyProof.Rows L2 Mp
theorem greater_line {p l m : Int} {q : Nat} {h : Hh} (k : LineOk p q l) (k2 : LineOk p q m) : F_greater [encT (lineForm p q l), encT (lineForm p q m)] h = .ok (encT (lineForm p q (max l m))) h := by
  have km : LineOk p q (max l m) := by
    rcases Int.le_total l m with c | c
    · rw [Int.max_eq_right c]; exact k2
    · rw [Int.max_eq_left c]; exact k
  have hq2 := k.q2
  have hq1 := k.q1
  obtain ⟨o1, v1, f1, d1⟩ := k.form
  obtain ⟨o2, v2, f2, d2⟩ := k2.form
  obtain ⟨o3, v3, f3, d3⟩ := km.form
  have G1 := (lineSize_goes (l := l) k.p0 k.q1).2
  have G2 := (lineSize_goes (l := m) k.p0 k.q1).2
  have G3 := (lineSize_goes (l := max l m) k.p0 k.q1).2
  have hd : Nat.lcm (lineForm p q l).turn.length (lineForm p q m).turn.length ∣ q := Nat.lcm_dvd d1 d2
  have hle : Nat.lcm (lineForm p q l).turn.length (lineForm p q m).turn.length ≤ 120 := Nat.le_trans (Nat.le_of_dvd (by omega) hd) k.q2
  have c1 := line_calm o1 k.q1 k.p0 k.p1 hle G1 v1 (Nat.dvd_lcm_left _ _)
  have c2 := line_calm o2 k.q1 k.p0 k.p1 hle G2 v2 (Nat.dvd_lcm_right _ _)
  have hV : lineForm p q (max l m) = lineForm p q l ∨ lineForm p q (max l m) = lineForm p q m := by
    rcases Int.le_total l m with c | c
    · rw [Int.max_eq_right c]; exact .inr rfl
    · rw [Int.max_eq_left c]; exact .inl rfl
  have e := raw_greater_ok (h := h) o1 o2 o3 hle c1 c2 (fun n a b hn ha hb => by
    have r1 := line_lawRise o1 k.q1 G1 v1 (Nat.dvd_lcm_left _ (lineForm p q m).turn.length) (Nat.le_trans (Nat.le_max_left _ _) hn)
    have r2 := line_lawRise o2 k.q1 G2 v2 (Nat.dvd_lcm_right (lineForm p q l).turn.length _) (Nat.le_trans (Nat.le_max_right _ _) hn)
    have := Int.eq_of_mul_eq_mul_right (show (q : Int) ≠ 0 by omega) (r1.trans r2.symm)
    rw [this, Int.sub_self, Int.mul_zero]
    exact Int.le_refl _) (fun n => by rw [v1, v2, v3]; show some (max _ _) = _; rw [line_max k.q1]) (by rcases hV with z | z <;> rw [z]; exact Nat.le_max_left _ _; exact Nat.le_max_right _ _)
    (by rcases hV with z | z <;> rw [z]; exact Nat.dvd_lcm_left _ _; exact Nat.dvd_lcm_right _ _) (line_B o3 k.q1 k.p0 k.p1 G3 v3)
  rw [f3] at e
  exact greater_ok f1 f2 o1 o2 e
end Ev

set_option Elab.async false
set_option linter.all false
set_option maxRecDepth 100000
namespace Mp
theorem for_lit {g : Gv} {b : Sv} {env : Env} {h : Hh} {l : List Val} (hb : ∀ a ∈ l, ∃ e1, g a env h = .ok e1 h ∧ (b e1 h = .nx env h ∨ b e1 h = .ct env h)) : forL g b [] l env h = .nx env h := by
  have := for_same (g := g) (b := b) (enc := id) (env := env) (h := h) (l := l) hb
  rwa [List.map_id] at this
end Mp
namespace Ev
open PySem PySem.Spec PyProof.Rows L2 Mp
@[simp] theorem seqI_lst (l : List Val) (h : Hh) : seqI (.lst l) h = .ok ⟨l, []⟩ h := rfl
@[simp] theorem seqI_tup (l : List Val) (h : Hh) : seqI (.tup l) h = .ok ⟨l, []⟩ h := rfl
theorem ne_pair (a b : Int) (h : Hh) : neP (.tup [.int a, .int b]) (.tup [.int a, .int b]) h = .ok (.bl false) h := by
  have := ne_pd (h := h) (pd_pair pd_int pd_int) (by decide) (a, b) (a, b)
  simpa using this
theorem strR (h : Hh) : neP (.str "rate") (.str "rate") h = .ok (.bl false) h := ne_str (by decide +kernel)
theorem eq_str {s : Str} {h : Hh} (hs : SeqAt.shaped (.str s) = true) : eqP (.str s) (.str s) h = .ok (.bl true) h := by
  show (if SeqAt.shaped (.str s) = true ∧ SeqAt.shaped (.str s) = true then R.ok (Val.bl (PyData.eqv (.str s) (.str s))) h else .bad) = _
  rw [if_pos ⟨hs, hs⟩]
  simp [PyData.eqv]
theorem strM (h : Hh) : eqP (.str "many") (.str "many") h = .ok (.bl true) h := eq_str (by decide +kernel)
noncomputable def S_law_v54_t6 : Sv :=
  (sSeq (sSet 6 (eFn F_line_form (aCons (eTup (aCons (eVar 2) (aCons (eVar 3) aNil))) (aCons (eVar 4) aNil))))
  (sSeq (sIf (tB (eOp notBP (eFn F_is_form (aCons (eVar 6) aNil)) (eC (.bl true)))) (sRet (eC (.bl false))) sNext)
  (sSeq (sSet 7 (eFn F__law_table_v54 (aCons (eVar 2) (aCons (eVar 3) (aCons (eVar 4) aNil)))))
  (sSeq (sSet 8 (eFn F__law_least (aCons (eVar 7) aNil)))
  (sSeq (sIf (Mp.tOr (Mp.tNot (tB (eFn (F__law_is 8) (aCons (eVar 6) (aCons (eVar 8) aNil))))) (Mp.tNot (tB (eFn (F__law_is 8) (aCons (eFn F_least (aCons (eVar 7) aNil)) (aCons (eVar 8) aNil)))))) (sRet (eC (.bl false))) sNext)
  (sSeq (sIf (Mp.tOr (tB (eOp neP (eFn F_head_many (aCons (eVar 6) aNil)) (eCall lenP (aCons (eOp ixP (eVar 8) (eC (.int 0))) aNil)))) (tB (eOp neP (eFn F_round_many (aCons (eVar 6) aNil)) (eCall lenP (aCons (eOp ixP (eVar 8) (eC (.int 1))) aNil))))) (sRet (eC (.bl false))) sNext)
  (sSeq (sFor (iSeq (eOp (addP false) (eRgL false (aCons (eC (.int 300)) aNil)) (eLst false (aCons (eFn F__law_great (aCons (eVar 1) (aCons (eC (.int 37)) aNil))) (aCons (eFn F__law_great (aCons (eVar 1) (aCons (eC (.int 37)) aNil))) aNil))))) (gName 9) B_law_v54_0)
  (sSeq (sIf (tB (eOp neP (eFn F_slope_of (aCons (eVar 6) aNil)) (eFn F__law_lowest (aCons (eVar 2) (aCons (eVar 3) aNil))))) (sRet (eC (.bl false))) sNext)
  (sSeq (sIf (Mp.tNot (tB (eFn (F__law_is 8) (aCons (eFn F_greater (aCons (eVar 6) (aCons (eFn F_line_form (aCons (eTup (aCons (eVar 2) (aCons (eVar 3) aNil))) (aCons (eVar 5) aNil))) aNil))) (aCons (eFn F_line_form (aCons (eTup (aCons (eVar 2) (aCons (eVar 3) aNil))) (aCons (eCall maxP (aCons (eVar 4) (aCons (eVar 5) aNil))) aNil))) aNil))))) (sRet (eC (.bl false))) sNext)
  (sSeq (sIf (Mp.tAnd (tB (eOp geP (eVar 4) (eC (.int 0)))) (Mp.tNot (tB (eFn (F__law_is 8) (aCons (eFn F_line_form (aCons (eTup (aCons (eVar 2) (aCons (eVar 3) aNil))) (aCons (eOp (addP false) (eVar 4) (eOp (mulP false) (eC (.int 3)) (eVar 3))) aNil))) (aCons (eFn F_dearer (aCons (eVar 6) (aCons (eC (.int 3)) aNil))) aNil)))))) (sRet (eC (.bl false))) sNext)
  (sSeq (sIf (Mp.tAnd (tB (eOp ltP (eOp (mulP false) (eC (.int 2)) (eVar 3)) (eC (.int 121)))) (Mp.tNot (tB (eFn (F__law_is 8) (aCons (eFn F_line_form (aCons (eTup (aCons (eOp (mulP false) (eC (.int 2)) (eVar 2)) (aCons (eOp (mulP false) (eC (.int 2)) (eVar 3)) aNil))) (aCons (eOp (mulP false) (eC (.int 2)) (eVar 4)) aNil))) (aCons (eVar 6) aNil)))))) (sRet (eC (.bl false))) sNext)
  (sSeq (sSet 10 (eLst false (aCons (eTup (aCons (eVar 2) (aCons (eC (.int 0)) aNil))) (aCons (eTup (aCons (eVar 2) (aCons (eC (.int 121)) aNil))) (aCons (eTup (aCons (eOp subP (eC (.int 0)) (eC (.int 1))) (aCons (eC (.int 1)) aNil))) (aCons (eTup (aCons (eOp (addP false) (eOp powP (eC (.int 10)) (eC (.int 9))) (eC (.int 1))) (aCons (eC (.int 1)) aNil))) (aCons (eLst false (aCons (eVar 2) (aCons (eVar 3) aNil))) (aCons (eTup (aCons (eVar 2) aNil)) (aCons (eTup (aCons (eC (.bl true)) (aCons (eVar 3) aNil))) (aCons (eTup (aCons (eVar 2) (aCons (eC (.bl false)) aNil))) (aCons (eC .non) (aCons (eTup (aCons (eVar 2) (aCons (eVar 3) (aCons (eC (.int 1)) aNil)))) aNil))))))))))))
  (sSeq (sFor (iSeq (eVar 10)) (gName 11) B_law_v54_1)
  (sSeq (sFor (iSeq (eLst false (aCons (eOp (addP false) (eOp powP (eC (.int 10)) (eC (.int 6))) (eC (.int 1))) (aCons (eOp subP (eOp subP (eC (.int 0)) (eOp powP (eC (.int 10)) (eC (.int 6)))) (eC (.int 1))) (aCons (eC (.bl true)) (aCons (eC .non) (aCons (eC (.str "1")) aNil))))))) (gName 12) B_law_v54_2)
  (sRet (eOp eqP (eFn F__law_told_v54 (aCons (eTup (aCons (eC (.int 1)) (aCons (eC (.int 1)) aNil))) (aCons (eOp subP (eC (.int 0)) (eOp powP (eC (.int 10)) (eC (.int 6)))) aNil))) (eC (.str "many"))))))))))))))))))
theorem S_law_v54_t6_eq : S_law_v54 = (sSeq (sSet 1 (eFn F__law_hand (aCons (eVar 0) aNil)))
  (sSeq (sSet 2 (eFn F__law_draw (aCons (eVar 1) (aCons (eC (.int 13)) aNil))))
  (sSeq (sSet 3 (eOp (addP false) (eC (.int 1)) (eFn F__law_draw (aCons (eVar 1) (aCons (eC (.int 12)) aNil)))))
  (sSeq (sIf (tB (eOp eqP (eFn F__law_draw (aCons (eVar 1) (aCons (eC (.int 4)) aNil))) (eC (.int 0)))) (sSet 3 (eOp (addP false) (eC (.int 1)) (eFn F__law_draw (aCons (eVar 1) (aCons (eC (.int 120)) aNil))))) sNext)
  (sSeq (sSet 4 (eOp subP (eFn F__law_draw (aCons (eVar 1) (aCons (eC (.int 401)) aNil))) (eC (.int 200))))
  (sSeq (sSet 5 (eOp subP (eFn F__law_draw (aCons (eVar 1) (aCons (eC (.int 401)) aNil))) (eC (.int 200)))) S_law_v54_t6)))))) := rfl
noncomputable def S_law_v54_t6_t11 : Sv :=
  (sSeq (sSet 10 (eLst false (aCons (eTup (aCons (eVar 2) (aCons (eC (.int 0)) aNil))) (aCons (eTup (aCons (eVar 2) (aCons (eC (.int 121)) aNil))) (aCons (eTup (aCons (eOp subP (eC (.int 0)) (eC (.int 1))) (aCons (eC (.int 1)) aNil))) (aCons (eTup (aCons (eOp (addP false) (eOp powP (eC (.int 10)) (eC (.int 9))) (eC (.int 1))) (aCons (eC (.int 1)) aNil))) (aCons (eLst false (aCons (eVar 2) (aCons (eVar 3) aNil))) (aCons (eTup (aCons (eVar 2) aNil)) (aCons (eTup (aCons (eC (.bl true)) (aCons (eVar 3) aNil))) (aCons (eTup (aCons (eVar 2) (aCons (eC (.bl false)) aNil))) (aCons (eC .non) (aCons (eTup (aCons (eVar 2) (aCons (eVar 3) (aCons (eC (.int 1)) aNil)))) aNil))))))))))))
  (sSeq (sFor (iSeq (eVar 10)) (gName 11) B_law_v54_1)
  (sSeq (sFor (iSeq (eLst false (aCons (eOp (addP false) (eOp powP (eC (.int 10)) (eC (.int 6))) (eC (.int 1))) (aCons (eOp subP (eOp subP (eC (.int 0)) (eOp powP (eC (.int 10)) (eC (.int 6)))) (eC (.int 1))) (aCons (eC (.bl true)) (aCons (eC .non) (aCons (eC (.str "1")) aNil))))))) (gName 12) B_law_v54_2)
  (sRet (eOp eqP (eFn F__law_told_v54 (aCons (eTup (aCons (eC (.int 1)) (aCons (eC (.int 1)) aNil))) (aCons (eOp subP (eC (.int 0)) (eOp powP (eC (.int 10)) (eC (.int 6)))) aNil))) (eC (.str "many")))))))
theorem S_law_v54_t6_t11_eq : S_law_v54_t6 = (sSeq (sSet 6 (eFn F_line_form (aCons (eTup (aCons (eVar 2) (aCons (eVar 3) aNil))) (aCons (eVar 4) aNil))))
  (sSeq (sIf (tB (eOp notBP (eFn F_is_form (aCons (eVar 6) aNil)) (eC (.bl true)))) (sRet (eC (.bl false))) sNext)
  (sSeq (sSet 7 (eFn F__law_table_v54 (aCons (eVar 2) (aCons (eVar 3) (aCons (eVar 4) aNil)))))
  (sSeq (sSet 8 (eFn F__law_least (aCons (eVar 7) aNil)))
  (sSeq (sIf (Mp.tOr (Mp.tNot (tB (eFn (F__law_is 8) (aCons (eVar 6) (aCons (eVar 8) aNil))))) (Mp.tNot (tB (eFn (F__law_is 8) (aCons (eFn F_least (aCons (eVar 7) aNil)) (aCons (eVar 8) aNil)))))) (sRet (eC (.bl false))) sNext)
  (sSeq (sIf (Mp.tOr (tB (eOp neP (eFn F_head_many (aCons (eVar 6) aNil)) (eCall lenP (aCons (eOp ixP (eVar 8) (eC (.int 0))) aNil)))) (tB (eOp neP (eFn F_round_many (aCons (eVar 6) aNil)) (eCall lenP (aCons (eOp ixP (eVar 8) (eC (.int 1))) aNil))))) (sRet (eC (.bl false))) sNext)
  (sSeq (sFor (iSeq (eOp (addP false) (eRgL false (aCons (eC (.int 300)) aNil)) (eLst false (aCons (eFn F__law_great (aCons (eVar 1) (aCons (eC (.int 37)) aNil))) (aCons (eFn F__law_great (aCons (eVar 1) (aCons (eC (.int 37)) aNil))) aNil))))) (gName 9) B_law_v54_0)
  (sSeq (sIf (tB (eOp neP (eFn F_slope_of (aCons (eVar 6) aNil)) (eFn F__law_lowest (aCons (eVar 2) (aCons (eVar 3) aNil))))) (sRet (eC (.bl false))) sNext)
  (sSeq (sIf (Mp.tNot (tB (eFn (F__law_is 8) (aCons (eFn F_greater (aCons (eVar 6) (aCons (eFn F_line_form (aCons (eTup (aCons (eVar 2) (aCons (eVar 3) aNil))) (aCons (eVar 5) aNil))) aNil))) (aCons (eFn F_line_form (aCons (eTup (aCons (eVar 2) (aCons (eVar 3) aNil))) (aCons (eCall maxP (aCons (eVar 4) (aCons (eVar 5) aNil))) aNil))) aNil))))) (sRet (eC (.bl false))) sNext)
  (sSeq (sIf (Mp.tAnd (tB (eOp geP (eVar 4) (eC (.int 0)))) (Mp.tNot (tB (eFn (F__law_is 8) (aCons (eFn F_line_form (aCons (eTup (aCons (eVar 2) (aCons (eVar 3) aNil))) (aCons (eOp (addP false) (eVar 4) (eOp (mulP false) (eC (.int 3)) (eVar 3))) aNil))) (aCons (eFn F_dearer (aCons (eVar 6) (aCons (eC (.int 3)) aNil))) aNil)))))) (sRet (eC (.bl false))) sNext)
  (sSeq (sIf (Mp.tAnd (tB (eOp ltP (eOp (mulP false) (eC (.int 2)) (eVar 3)) (eC (.int 121)))) (Mp.tNot (tB (eFn (F__law_is 8) (aCons (eFn F_line_form (aCons (eTup (aCons (eOp (mulP false) (eC (.int 2)) (eVar 2)) (aCons (eOp (mulP false) (eC (.int 2)) (eVar 3)) aNil))) (aCons (eOp (mulP false) (eC (.int 2)) (eVar 4)) aNil))) (aCons (eVar 6) aNil)))))) (sRet (eC (.bl false))) sNext) S_law_v54_t6_t11))))))))))) := rfl

def wrongs54 (p : Int) (q : Nat) : List Val := [.tup [.int p, .int 0], .tup [.int p, .int 121], .tup [.int (-1), .int 1], .tup [.int 1000000001, .int 1], .lst [.int p, .int (q : Int)], .tup [.int p], .tup [.bl true, .int (q : Int)], .tup [.int p, .bl false], .non, .tup [.int p, .int (q : Int), .int 1]]
theorem wrong54 {p : Int} {q : Nat} : ∀ v ∈ wrongs54 p q, v.data = true ∧ isLow v = false := by
  intro v hv
  unfold wrongs54 at hv
  simp only [List.mem_cons, List.not_mem_nil, or_false] at hv
  rcases hv with rfl | rfl | rfl | rfl | rfl | rfl | rfl | rfl | rfl | rfl <;> refine ⟨by simp [Val.data, dataL], ?_⟩ <;> simp [isLow, isRate]
theorem law54_core {p l m : Int} {q : Nat} (x0 : Option Val) (hd : List Val) (ok : HandOk hd) (hp : 0 ≤ p) (hp2 : p ≤ 12) (hq : 1 ≤ q) (hq2 : q ≤ 120) (hl : -200 ≤ l) (hl2 : l ≤ 200) (hm : -200 ≤ m) (hm2 : m ≤ 200) :
    ∃ g, S_law_v54_t6 [x0, some (.ref 0), some (.int p), some (.int (q : Int)), some (.int l), some (.int m), none, none, none, none, none, none, none] [.lst hd] = .rt (.bl true) g := by
  have kL : ∀ l, -200 ≤ l → LineOk p q l := fun l h => ⟨hp, by omega, hq, hq2, by have := lineSize_le hp (B := 200) (by decide) h; omega⟩
  obtain ⟨p, rfl⟩ : ∃ n : Nat, p = (n : Int) := ⟨p.toNat, by omega⟩
  have k1 := kL l hl
  have k2 := kL m hm
  have k3 := kL (max l m) (by omega)
  obtain ⟨o1, v1, f1, d1⟩ := k1.form
  have e1 := fun h => line_form_ok (h := h) k1 (by omega) (by omega)
  have e2 := fun h => is_form_ok (h := h) o1
  rw [f1] at e2
  simp only [decide_true] at e2
  obtain ⟨b, hb, hG, e3⟩ := law_table_ok (q := q) (h := [.lst hd]) hp (by omega) hq hq2 hl
  have oB : (lineTab (p : Int) q l b).Ok := lineTab_ok (by omega) hq hq2 hp (by omega)
  have e4 := fun h => law_least_ok (h := h) oB
  rw [form_any k1 (by omega) hG] at e4
  have e5 := fun h => least_ok (h := h) oB
  rw [form_any k1 (by omega) hG] at e5
  have i1 : ∀ h, F__law_is 8 [encT (lineForm (p : Int) q l), encT (lineForm (p : Int) q l)] h = .ok (.bl true) h := fun h => is_T (d := 4) (h := h) o1
  have e6 := fun h => head_many_ok (h := h) o1 f1
  have e7 := fun h => round_many_ok (h := h) o1 f1
  obtain ⟨h1, z1, ok1, hz1, g1⟩ := great_gen (h := [.lst hd]) (k := 0) (c := 37) (by decide) (by decide) rfl ok
  have g1 : F__law_great [.ref 0, .int 37] [.lst hd] = .ok (.int z1) [.lst h1] := g1
  obtain ⟨h2, z2, ok2, hz2, g2⟩ := great_gen (h := [.lst h1]) (k := 0) (c := 37) (by decide) (by decide) rfl ok1
  have g2 : F__law_great [.ref 0, .int 37] [.lst h1] = .ok (.int z2) [.lst h2] := g2
  have r3 : rgLst false [.int 300] [.lst hd] = .ok (.lst (rangeV 0 300)) [.lst hd] := rfl
  have ad : addP false (.lst (rangeV 0 300)) (.lst [.int z1, .int z2]) [.lst h2] = .ok (.lst (rangeV 0 300 ++ [.int z1, .int z2])) [.lst h2] := add_lst (by simp [rangeV])
  have items : ∀ v ∈ rangeV 0 300 ++ [.int z1, .int z2], ∃ n : Nat, v = .int (n : Int) := fun v hv => by
    rcases List.mem_append.mp hv with hv | hv
    · obtain ⟨i, h1, h2, rfl⟩ := mem_rangeV hv
      exact ⟨i.toNat, by rw [Int.toNat_of_nonneg h1]⟩
    · simp only [List.mem_cons, List.not_mem_nil, or_false] at hv
      rcases hv with rfl | rfl
      · exact ⟨z1.toNat, by rw [Int.toNat_of_nonneg hz1]⟩
      · exact ⟨z2.toNat, by rw [Int.toNat_of_nonneg hz2]⟩
  have lt0 : lenP [.tup ((lineForm (p : Int) q l).head.map encA)] = fun h => .ok (.int ((lineForm (p : Int) q l).head.length : Int)) h := by funext h; simp
  generalize rangeV 0 300 ++ [.int z1, .int z2] = IT at *
  have nn := fun a (h : Hh) => ne_int (h := h) a a
  have sl := fun h => slope_of_line (h := h) k1
  have lw := fun h => lowest_ok (p := p) (q := q) (h := h) (by omega) (by omega)
  simp only [lw] at sl
  have np := fun h => ne_pair ((p / Nat.gcd p q : Nat) : Int) ((q / Nat.gcd p q : Nat) : Int) h
  have e8 := fun h => line_form_ok (h := h) k2 (by omega) (by omega)
  have e9 := fun h => line_form_ok (h := h) k3 (by omega) (by omega)
  have gr := fun h => greater_line (h := h) k1 k2
  obtain ⟨o3, _⟩ := k3.form
  have i3 : ∀ h, F__law_is 8 [encT (lineForm (p : Int) q (max l m)), encT (lineForm (p : Int) q (max l m))] h = .ok (.bl true) h := fun h => is_T (d := 4) (h := h) o3
  have m2 : ∀ (x : Int) (h : Hh), mulP false (.int 2) (.int x) h = .ok (.int (2 * x)) h := fun x h => mul_sm' (by omega)
  have m3 : ∀ (x : Int) (h : Hh), mulP false (.int 3) (.int x) h = .ok (.int (3 * x)) h := fun x h => mul_sm' (by omega)
  have p9 : ∀ h : Hh, powP (.int 10) (.int 9) h = .ok (.int 1000000000) h := fun h => rfl
  have p6 : ∀ h : Hh, powP (.int 10) (.int 6) h = .ok (.int 1000000) h := fun h => rfl
  -- the branches
  have bA : 0 ≤ l → (∀ h, F_line_form [.tup [.int (p : Int), .int (q : Int)], .int (l + 3 * (q : Int))] h = .ok (encT ((lineForm (p : Int) q l).dear 3)) h) ∧ (∀ h, F_dearer [encT (lineForm (p : Int) q l), .int 3] h = .ok (encT ((lineForm (p : Int) q l).dear 3)) h) ∧ ∀ h, F__law_is 8 [encT ((lineForm (p : Int) q l).dear 3), encT ((lineForm (p : Int) q l).dear 3)] h = .ok (.bl true) h := fun h0 => by
    have kk := kL (l + 3 * (q : Int)) (by omega)
    obtain ⟨o4, _⟩ := kk.form
    rw [form_dear hp hq h0] at o4
    refine ⟨fun h => ?_, fun h => dearer_ok o1 f1 (by decide) (by decide), fun h => is_T (d := 4) o4⟩
    have := line_form_ok (h := h) kk (by omega) (by omega)
    rwa [form_dear hp hq h0] at this
  have bB : 2 * (q : Int) < 121 → (∀ h, F_line_form [.tup [.int (2 * (p : Int)), .int (2 * (q : Int))], .int (2 * l)] h = .ok (encT (lineForm (p : Int) q l)) h) := fun h0 h => by
    have kk : LineOk (2 * (p : Int)) (2 * q) (2 * l) := ⟨by omega, by omega, by omega, by omega, by have := lineSize_le (p := 2 * (p : Int)) (l := 2 * l) (by omega) (B := 400) (by decide) (by omega); omega⟩
    have := line_form_ok (h := h) kk (by omega) (by omega)
    rwa [form_twice k1 kk, show ((2 * q : Nat) : Int) = 2 * (q : Int) by omega] at this
  have ll : ∀ h : Hh, lenP [.tup ((lineForm (p : Int) q l).head.map encA)] h = .ok (.int ((lineForm (p : Int) q l).head.length : Int)) h := fun h => by rw [lt0]
  have vv : ∀ (n : Nat) (h : Hh), F_value [encT (lineForm (p : Int) q l), .int (n : Int)] h = .ok (.int (line p q l n)) h := fun n h => by
    have := value_ok (h := h) (z := (n : Int)) o1 (by omega)
    rw [Int.toNat_natCast, v1] at this
    exact this
  have dd : ∀ (n : Nat) (h : Hh), F__law_due [.int (p : Int), .int (q : Int), .int l, .int (n : Int)] h = .ok (.int (line p q l n)) h := fun n h => due_ok hp (by omega) hq hq2
  have ii : ∀ (x : Int) (h : Hh), F__law_is 8 [.int x, .int x] h = .ok (.bl true) h := fun x h => is_A (a := some x) (d := 7)
  have tR := fun (v w : Val) (h : Hh) (hv : v ∈ wrongs54 (p : Int) q) => told_rate (w := w) (h := h) (wrong54 v hv).1 (wrong54 v hv).2
  have tN := fun (w : Val) (h : Hh) (h1 : w.thing = true) (h2 : isLift w = false) => told_number (h := h) (q := q) hp (by omega) hq hq2 h1 h2
  have t0 : (0 : Int) - 1 = -1 := rfl
  have fin : ∀ (EF ET : Val), S_law_v54_t6_t11 [x0, some (.ref 0), some (.int (p : Int)), some (.int (q : Int)), some (.int l), some (.int m), some EF, some ET, some EF, none, none, none, none] [.lst h2] = .rt (.bl true) [.lst h2] := by
    intro EF ET
    unfold S_law_v54_t6_t11
    simp -implicitDefEqProofs [p9, p6, szz, x_for]
    rw [for_lit]
    rotate_left
    · intro v hv
      have hv : v ∈ wrongs54 (p : Int) q := hv
      refine ⟨_, rfl, .inl ?_⟩
      have r1 := tR v (.int l) [.lst h2] hv
      have r2 := tR v .non [.lst h2] hv
      simp -implicitDefEqProofs [B_law_v54_1, r1, r2, strR]
    simp -implicitDefEqProofs [p9, p6, szz, x_for]
    rw [for_lit]
    rotate_left
    · intro v hv
      have hv2 : v.thing = true ∧ isLift v = false := by
        simp only [List.mem_cons, List.not_mem_nil, or_false] at hv
        rcases hv with rfl | rfl | rfl | rfl | rfl <;> simp [isLift]
      refine ⟨_, rfl, .inl ?_⟩
      have r1 := tN v [.lst h2] hv2.1 hv2.2
      simp -implicitDefEqProofs [B_law_v54_2, r1, strN, szz]
    simp -implicitDefEqProofs [p6, told_many, strM, szz]
  have tail : S_law_v54_t6 = _ := S_law_v54_t6_t11_eq
  rw [tail]
  generalize lineForm (p : Int) q l = F at *
  generalize lineForm (p : Int) q m = Fm at *
  generalize lineForm (p : Int) q (max l m) = FM at *
  refine ⟨[.lst h2], ?_⟩
  by_cases c : 0 ≤ l
  · obtain ⟨a1, a2, a3⟩ := bA c
    by_cases c2 : 2 * (q : Int) < 121
    · have b1 := bB c2
      simp -implicitDefEqProofs [e1, e2, not_bl, e3, e4, e5, i1, e6, e7, ll, nn, x_for, r3, g1, g2, ad, szz, -Int.natCast_ediv]
      rw [for_lit fun v hv => by
        obtain ⟨n, rfl⟩ := items v hv
        refine ⟨_, rfl, .inl ?_⟩
        simp -implicitDefEqProofs [B_law_v54_0, vv, dd, ii]]
      simp -implicitDefEqProofs [sl, lw, np, e1, e8, e9, gr, i1, i3, max2, m2, m3, szz, c, c2, a1, a2, a3, b1, fin, -Int.natCast_ediv]
    · simp -implicitDefEqProofs [e1, e2, not_bl, e3, e4, e5, i1, e6, e7, ll, nn, x_for, r3, g1, g2, ad, szz, -Int.natCast_ediv]
      rw [for_lit fun v hv => by
        obtain ⟨n, rfl⟩ := items v hv
        refine ⟨_, rfl, .inl ?_⟩
        simp -implicitDefEqProofs [B_law_v54_0, vv, dd, ii]]
      simp -implicitDefEqProofs [sl, lw, np, e1, e8, e9, gr, i1, i3, max2, m2, m3, szz, c, c2, a1, a2, a3, fin, -Int.natCast_ediv]
  · by_cases c2 : 2 * (q : Int) < 121
    · have b1 := bB c2
      simp -implicitDefEqProofs [e1, e2, not_bl, e3, e4, e5, i1, e6, e7, ll, nn, x_for, r3, g1, g2, ad, szz, -Int.natCast_ediv]
      rw [for_lit fun v hv => by
        obtain ⟨n, rfl⟩ := items v hv
        refine ⟨_, rfl, .inl ?_⟩
        simp -implicitDefEqProofs [B_law_v54_0, vv, dd, ii]]
      simp -implicitDefEqProofs [sl, lw, np, e1, e8, e9, gr, i1, i3, max2, m2, m3, szz, c, c2, b1, fin, -Int.natCast_ediv]
    · simp -implicitDefEqProofs [e1, e2, not_bl, e3, e4, e5, i1, e6, e7, ll, nn, x_for, r3, g1, g2, ad, szz, -Int.natCast_ediv]
      rw [for_lit fun v hv => by
        obtain ⟨n, rfl⟩ := items v hv
        refine ⟨_, rfl, .inl ?_⟩
        simp -implicitDefEqProofs [B_law_v54_0, vv, dd, ii]]
      simp -implicitDefEqProofs [sl, lw, np, e1, e8, e9, gr, i1, i3, max2, m2, m3, szz, c, c2, fin, -Int.natCast_ediv]
theorem law54_true (ns : List Int) (hl : ns.length ≤ 63) : F_law_v54 [.fz (ns.map .int)] [] = .ok (.bl true) [] := by
  obtain ⟨l0, ok0, e0⟩ := hand_ok (ns := ns) (h := []) hl
  have e0 : F__law_hand [.fz (ns.map Val.int)] [] = .ok (.ref 0) [.lst l0] := e0
  obtain ⟨l1, p, ok1, p1, p2, e1⟩ := draw_ok (h := [.lst l0]) (k := 0) rfl ok0 (m := 13) (by decide) (by decide)
  have e1 : F__law_draw [.ref 0, .int 13] [.lst l0] = .ok (.int p) [.lst l1] := e1
  obtain ⟨l2, q1, ok2, q2, q3, e2⟩ := draw_ok (h := [.lst l1]) (k := 0) rfl ok1 (m := 12) (by decide) (by decide)
  have e2 : F__law_draw [.ref 0, .int 12] [.lst l1] = .ok (.int q1) [.lst l2] := e2
  obtain ⟨l3, c, ok3, c2, c3, e3⟩ := draw_ok (h := [.lst l2]) (k := 0) rfl ok2 (m := 4) (by decide) (by decide)
  have e3 : F__law_draw [.ref 0, .int 4] [.lst l2] = .ok (.int c) [.lst l3] := e3
  generalize ns.map Val.int = N at *
  -- from the lift on
  have go : ∀ (hd : List Val) (q : Int), HandOk hd → 1 ≤ q → q ≤ 120 → ∃ g, (sSeq (sSet 4 (eOp subP (eFn F__law_draw (aCons (eVar 1) (aCons (eC (.int 401)) aNil))) (eC (.int 200))))
      (sSeq (sSet 5 (eOp subP (eFn F__law_draw (aCons (eVar 1) (aCons (eC (.int 401)) aNil))) (eC (.int 200)))) S_law_v54_t6)) [some (.fz N), some (.ref 0), some (.int p), some (.int q), none, none, none, none, none, none, none, none, none] [.lst hd] = .rt (.bl true) g := by
    intro hd q okh hq hq2
    obtain ⟨l4, a, ok4, a1, a2, e4⟩ := draw_ok (h := [.lst hd]) (k := 0) rfl okh (m := 401) (by decide) (by decide)
    have e4 : F__law_draw [.ref 0, .int 401] [.lst hd] = .ok (.int a) [.lst l4] := e4
    obtain ⟨l5, b, ok5, b1, b2, e5⟩ := draw_ok (h := [.lst l4]) (k := 0) rfl ok4 (m := 401) (by decide) (by decide)
    have e5 : F__law_draw [.ref 0, .int 401] [.lst l4] = .ok (.int b) [.lst l5] := e5
    obtain ⟨g, eg⟩ := law54_core (p := p) (l := a - 200) (m := b - 200) (q := q.toNat) (some (.fz N)) l5 ok5 (by omega) (by omega) (by omega) (by omega) (by omega) (by omega) (by omega) (by omega)
    rw [Int.toNat_of_nonneg (by omega)] at eg
    refine ⟨g, ?_⟩
    simp -implicitDefEqProofs [e4, e5, eg]
  by_cases c0 : c = 0
  · subst c0
    obtain ⟨l6, d, ok6, d1, d2, e6⟩ := draw_ok (h := [.lst l3]) (k := 0) rfl ok3 (m := 120) (by decide) (by decide)
    have e6 : F__law_draw [.ref 0, .int 120] [.lst l3] = .ok (.int d) [.lst l6] := e6
    obtain ⟨g, eg⟩ := go l6 (1 + d) ok6 (by omega) (by omega)
    refine run_rt (h1 := g) ?_ rfl rfl
    rw [S_law_v54_t6_eq]
    rw [← eg]
    simp -implicitDefEqProofs [e0, e1, e2, e3, e6]
  · obtain ⟨g, eg⟩ := go l3 (1 + q1) ok3 (by omega) (by omega)
    refine run_rt (h1 := g) ?_ rfl rfl
    rw [S_law_v54_t6_eq]
    rw [← eg]
    simp -implicitDefEqProofs [e0, e1, e2, e3, c0]
end Ev
namespace K54
open Mp
theorem law_true (ns : List Int) (hl : ns.length ≤ 63) (hb : ∀ z ∈ ns, PySem.Builtin.Int.intBits z ≤ 1048576) : Ev.F_law_v54 [.fz (ns.map .int)] [] = .ok (.bl true) [] := Ev.law54_true ns hl
end K54

set_option Elab.async false
set_option linter.all false
set_option maxRecDepth 100000
namespace Ev
open PySem PySem.Spec PyProof.Rows L2 Mp
end Ev

set_option Elab.async false
set_option linter.all false
set_option maxRecDepth 100000
namespace Ev
open PySem PySem.Spec PyProof.Rows L2 Mp
end Ev

set_option Elab.async false
set_option linter.all false
set_option maxRecDepth 100000
namespace Mp
open PySem PySem.Spec PyProof.Rows L2
theorem cut_drop (l : List Val) (m : Nat) : cutL l (some (m : Int)) none = l.drop m := by
  unfold cutL HT.sIx
  have e : ¬ (m : Int) < 0 := by omega
  simp [e]
  by_cases c : m ≤ l.length
  · rw [Nat.min_eq_left c, List.take_of_length_le (by rw [List.length_drop]; exact Nat.le_refl _)]
  · rw [Nat.min_eq_right (by omega), List.drop_eq_nil_of_le (show l.length ≤ m by omega)]
    simp
theorem sl_take (m : Bool) (l : List Val) (n : Nat) (h : Hh) : slP m (.tup l) none (some (n : Int)) h = .ok (.tup (l.take n)) h := by
  show R.ok (Val.tup (cutL l none (some (n : Int)))) h = _
  rw [cut_take]
theorem sl_drop (m : Bool) (l : List Val) (n : Nat) (h : Hh) : slP m (.tup l) (some (n : Int)) none h = .ok (.tup (l.drop n)) h := by
  show R.ok (Val.tup (cutL l (some (n : Int)) none)) h = _
  rw [cut_drop]
end Mp
namespace Ev
open PySem PySem.Spec PyProof.Rows L2 Mp
end Ev

set_option Elab.async false
set_option linter.all false
set_option maxRecDepth 100000
namespace Mp
open PySem PySem.Spec PyProof.Rows L2
theorem strip_B {B : Int} : ∀ (rh : List (Option Int)) (t : List Frm.P), 1 ≤ t.length → (∀ p ∈ t, p.2 ≤ B) → ∀ p ∈ (Frm.strip rh t).2, p.2 ≤ B
  | [], t, _, h => by unfold Frm.strip; exact h
  | a :: r, t, hl, h => by
    unfold Frm.strip
    split
    · refine strip_B r (Frm.rot t) (by rw [Frm.rot_len hl]; exact hl) fun p hp => ?_
      unfold Frm.rot at hp
      rcases List.mem_cons.mp hp with rfl | hp
      · exact h (Frm.last t) (getLast_mem' hl)
      · exact h p (List.dropLast_subset _ hp)
    · exact h
/-- a least form rises no more than its table -/
theorem least_B {T : Tab} {B : Int} (ok : T.Ok) (h : ∀ p ∈ T.turn, p.2 ≤ B) : ∀ p ∈ T.least.turn, p.2 ≤ B := by
  have sp := Frm.leastM_spec ok.l1
  refine strip_B T.head.reverse (Frm.leastRound T.turn) (by rw [Frm.leastRound_len ok.l1]; exact sp.1) fun p hp => ?_
  unfold Frm.leastRound Frm.thin at hp
  obtain ⟨q, hq, rfl⟩ := List.mem_map.mp hp
  have hq' := List.mem_of_mem_take hq
  have h1 := (ok.hp q hq').1
  refine Int.le_trans ?_ (h q hq')
  refine Int.ediv_le_of_le_mul (by have := ok.l1; omega) ?_
  exact Int.mul_le_mul_of_nonneg_left (by have := sp.2.1; omega) h1
theorem loose_least {T : Tab} {b q : Nat} (oT : T.Ok) (r : ∀ p ∈ T.turn, p.2 ≤ 3) (h1 : T.head.length ≤ b) (h2 : b ≤ 1000) (q1 : 1 ≤ q) (q2 : q * T.turn.length ≤ 120) : (lawTab T.val b (q * T.turn.length)).Ok ∧ (lawTab T.val b (q * T.turn.length)).least = T.least := by
  have ok := lawTab_ok (B := 3) oT h1 h2 q1 q2 r (by decide)
  exact ⟨ok, Mp.least_uniq ok oT fun n => lawTab_val oT.l1 (okP_zr oT.hp) h1 (Nat.mul_pos q1 oT.l1) (Nat.dvd_mul_left _ _) n⟩
end Mp
namespace Ev
open PySem PySem.Spec PyProof.Rows L2 Mp
end Ev

set_option Elab.async false
set_option linter.all false
set_option maxRecDepth 100000
namespace Mp
open PySem PySem.Spec PyProof.Rows L2
def pairOk (x y : Option Int) : Bool := match x, y with
  | none, none => true
  | some a, some b => decide (a ≤ b)
  | _, _ => false
/-- the places of a row's end, told by what stands a round ahead -/
def rowTab (X : List (Option Int)) (m : Nat) : Tab := ⟨X.take (X.length - m), (List.range' (X.length - m) m).map fun n => (X.getD n none, lawRise (X.getD (n - m) none) (X.getD n none))⟩
def rowGood (X : List (Option Int)) (m : Nat) : Bool := (List.range' (X.length - m) m).all fun n => pairOk (X.getD (n - m) none) (X.getD n none)
theorem rowTab_ok {X : List (Option Int)} {m : Nat} (hX : ∀ a ∈ X, okA a) (hN : X.length ≤ 1000) (h1 : 1 ≤ m) (h2 : 2 * m ≤ X.length) (h3 : m ≤ 120) (g : rowGood X m = true) (hB : ∀ a, some a ∈ X → a < 2 ^ 60) : (rowTab X m).Ok := by
  have gd : ∀ n, n < X.length → X.getD n none ∈ X := fun n hn => by
    rw [List.getD_eq_getElem?_getD, List.getElem?_eq_getElem hn]
    exact List.getElem_mem hn
  refine ⟨by unfold rowTab; simp; omega, by unfold rowTab; simp; omega, by unfold rowTab; simp; omega, fun a ha => hX a (List.mem_of_mem_take ha), fun p hp => ?_⟩
  unfold rowTab at hp
  obtain ⟨n, hn, rfl⟩ := List.mem_map.mp hp
  have q := List.all_eq_true.mp g n hn
  obtain ⟨i, hi, rfl⟩ := List.mem_range'.mp hn
  have g1 := gd (X.length - m + 1 * i) (by omega)
  have g2 := gd (X.length - m + 1 * i - m) (by omega)
  generalize X.getD (X.length - m + 1 * i) none = y at *
  generalize X.getD (X.length - m + 1 * i - m) none = x at *
  cases x with
  | none =>
    cases y with
    | none => exact ⟨Int.le_refl _, show (0 : Int) < 2 ^ 60 by decide, rfl⟩
    | some b => cases q
  | some a =>
    cases y with
    | none => cases q
    | some b =>
      have q' : a ≤ b := of_decide_eq_true q
      have a0 : 0 ≤ a := hX _ g2
      have b0 : 0 ≤ b := hX _ g1
      have b1 := hB b g1
      exact ⟨show 0 ≤ b - a by omega, show b - a < 2 ^ 60 by omega, b0⟩
theorem rowTab_val {X : List (Option Int)} {m n : Nat} (h2 : m ≤ X.length) (hn : n < X.length) : (rowTab X m).val n = X.getD n none := by
  have hh : (rowTab X m).head.length = X.length - m := by unfold rowTab; simp
  have ht : (rowTab X m).turn.length = m := by unfold rowTab; simp
  by_cases c : n < X.length - m
  · rw [val_lt (by rw [hh]; exact c)]
    unfold rowTab
    dsimp only
    rw [List.getD_eq_getElem?_getD, List.getElem?_take_of_lt c, ← List.getD_eq_getElem?_getD]
  · have := val_ge (T := rowTab X m) (r := n - (X.length - m)) (by rw [ht]; omega)
    rw [hh, show X.length - m + (n - (X.length - m)) = n by omega] at this
    rw [this]
    unfold Frm.get rowTab
    dsimp only
    rw [List.getD_eq_getElem?_getD, List.getElem?_map, List.getElem?_range' (by omega), Nat.one_mul, show X.length - m + (n - (X.length - m)) = n by omega]
    rfl
end Mp

set_option Elab.async false
set_option linter.all false
set_option maxRecDepth 100000
namespace Mp
open PySem PySem.Spec PyProof.Rows L2
def isRow : Val → Bool
  | .tup l => decide (2 ≤ l.length) && decide (l.length ≤ 1000) && l.all Val.isAmt
  | _ => false
end Mp
namespace Ev
open PySem PySem.Spec PyProof.Rows L2 Mp
theorem are_amounts_ok {v : Val} {h : Hh} (hd : v.data = true) : F_are_amounts [v] h = .ok (.bl (isRow v)) h := by
  have hv := data_thing hd
  refine run_rt (h1 := h) ?_ rfl List.take_length
  have sz := is_sized_ok (v := v) (lo := 2) (hi := 1000) (h := h) hv
  cases v with
  | tup l =>
    have e0 : (Val.tup l).sized 2 1000 = (decide (2 ≤ l.length) && decide (l.length ≤ 1000)) := by
      unfold Val.sized
      simp
      by_cases c1 : 2 ≤ l.length <;> by_cases c2 : l.length ≤ 1000 <;> simp [c1, c2] <;> omega
    rw [e0] at sz
    have eR : isRow (.tup l) = (decide (2 ≤ l.length) && decide (l.length ≤ 1000) && l.all Val.isAmt) := rfl
    rw [eR]
    by_cases c : (decide (2 ≤ l.length) && decide (l.length ≤ 1000)) = true
    · have c2 : l.length ≤ 1000 := by simp at c; exact c.2
      rw [c] at sz ⊢
      have one : eComp false [1] (iSeq (eVar 0)) (gName 1) tTrue (eFn F_is_amount (aCons (eVar 1) aNil)) [some (.tup l), none] h = .ok (.lst (l.map fun w => .bl w.isAmt)) h := by
        refine x_comp (iv := ⟨l, []⟩) (h1 := h) (by simp [seqI]) (comp_map l [] (fun w hw => ⟨_, rfl, ?_⟩) (by simp; exact sz_le (by omega)))
        simp [wipeE, is_amount_ok (data_thing (data_tup hd w hw))]
      have al := all_map (h := h) (l := l) (p := Val.isAmt)
      simp -implicitDefEqProofs [S_are_amounts, sz, one, al]
    · have c' : (decide (2 ≤ l.length) && decide (l.length ≤ 1000)) = false := by simpa using c
      rw [c'] at sz ⊢
      simp -implicitDefEqProofs [S_are_amounts, sz]
  | _ => 
    have e0 := sz
    unfold Val.sized at e0
    simp -implicitDefEqProofs [S_are_amounts, e0, isRow]
theorem isRow_X {X : List (Option Int)} (hX : ∀ a ∈ X, okA a) (h1 : 2 ≤ X.length) (h2 : X.length ≤ 1000) : isRow (.tup (X.map encA)) = true := by
  unfold isRow
  simp [h1, h2, List.all_eq_true]
  exact fun a ha => encA_amt (hX a ha)
/-! ### zip of a row's last places and those a round ahead -/
theorem sIx_neg {n d m : Nat} (h0 : 1 ≤ m) (h1 : m ≤ n) : HT.sIx n d (some (-(m : Int))) = n - m := by
  show (if (-(m : Int)) < 0 then ((-(m : Int)) + (n : Int)).toNat else _) = _
  rw [if_pos (by omega)]
  omega
theorem cut_neg (l : List Val) {m : Nat} (h0 : 1 ≤ m) (h1 : m ≤ l.length) : cutL l (some (-(m : Int))) none = l.drop (l.length - m) := by
  unfold cutL
  rw [sIx_neg h0 h1, HT.sIx_none, List.take_of_length_le (by rw [List.length_drop]; exact Nat.le_refl _)]
theorem cut_neg2 (l : List Val) {m b : Nat} (h0 : 1 ≤ m) (h1 : m ≤ l.length) (hb : l.length - m ≤ b) (h2 : b ≤ l.length) : cutL l (some (-(m : Int))) (some (b : Int)) = (l.drop (l.length - m)).take (b - (l.length - m)) := by
  unfold cutL
  rw [sIx_neg h0 h1, HT.sIx_nat, Nat.min_eq_left h2]
theorem zip_row {X : List (Option Int)} {m : Nat} (h1 : 1 ≤ m) (h2 : 2 * m ≤ X.length) : zipV ((X.map encA).drop (X.length - m)) (((X.map encA).drop (X.length - 2 * m)).take m) = (List.range' (X.length - m) m).map fun n => Val.tup [encA (X.getD n none), encA (X.getD (n - m) none)] := by
  have gen : ∀ (k a b : Nat), a + k = X.length → b + k ≤ X.length → zipV ((X.map encA).drop a) (((X.map encA).drop b).take k) = (List.range k).map fun i => Val.tup [encA (X.getD (a + i) none), encA (X.getD (b + i) none)] := by
    intro k
    induction k with
    | zero => intro a b ha hb; rw [List.take_zero]; cases (X.map encA).drop a <;> rfl
    | succ k ih =>
      intro a b ha hb
      have la : a < (X.map encA).length := by rw [List.length_map]; omega
      have lb : b < (X.map encA).length := by rw [List.length_map]; omega
      rw [List.drop_eq_getElem_cons la, List.drop_eq_getElem_cons lb, List.take_succ_cons]
      rw [List.range_succ_eq_map, List.map_cons, List.map_map]
      show Val.tup [_, _] :: zipV _ _ = _
      rw [ih (a + 1) (b + 1) (by omega) (by omega)]
      have ga : (X.map encA)[a] = encA (X.getD a none) := by rw [List.getElem_map, List.getD_eq_getElem?_getD, List.getElem?_eq_getElem (by rw [List.length_map] at la; exact la)]; rfl
      have gb : (X.map encA)[b] = encA (X.getD b none) := by rw [List.getElem_map, List.getD_eq_getElem?_getD, List.getElem?_eq_getElem (by rw [List.length_map] at lb; exact lb)]; rfl
      rw [ga, gb]
      congr 1
      refine List.map_congr_left fun i _ => ?_
      show _ = Val.tup [encA (X.getD (a + (i + 1)) none), encA (X.getD (b + (i + 1)) none)]
      rw [show a + 1 + i = a + (i + 1) by omega, show b + 1 + i = b + (i + 1) by omega]
  rw [gen m (X.length - m) (X.length - 2 * m) (by omega) (by omega), List.range'_eq_map_range, List.map_map]
  refine List.map_congr_left fun i _ => ?_
  show _ = Val.tup [encA (X.getD (X.length - m + i) none), encA (X.getD (X.length - m + i - m) none)]
  rw [show X.length - 2 * m + i = X.length - m + i - m by omega]
end Ev

set_option Elab.async false
set_option linter.all false
set_option maxRecDepth 100000
namespace Ev
open PySem PySem.Spec PyProof.Rows L2 Mp
abbrev itemX (X : List (Option Int)) (m n : Nat) : Val := Val.tup [encA (X.getD n none), encA (X.getD (n - m) none)]
abbrev plcX (X : List (Option Int)) (m n : Nat) : Frm.P := (X.getD n none, lawRise (X.getD (n - m) none) (X.getD n none))
theorem by_good {x y : Option Int} {v w : Val} {h : Hh} {acc : List Val} (g : pairOk x y = true) (hz : acc.length < 1000000) : B_form_by_0 [some v, some w, some (.ref h.length), some (encA y), some (encA x)] (h ++ [.lst acc]) = .nx [some v, some w, some (.ref h.length), none, none] (h ++ [.lst (acc ++ [encP (y, lawRise x y)])]) := by
  have ap := fun (v : Val) (hv : v.bel 0 = true) => app_end (h := h) (n := h.length) (l := acc) (v := v) rfl hz hv
  have m8 : ∀ v, (h ++ [Ob.lst (acc ++ [v])]).length = (h ++ [Ob.lst acc]).length := fun v => by simp
  cases x with
  | none =>
    cases y with
    | some b => cases g
    | none =>
      have ap1 := ap (.tup [.non, .int 0]) rfl
      have m9 := m8 (.tup [.non, .int 0])
      show _ = SR.nx _ (h ++ [Ob.lst (acc ++ [Val.tup [.non, .int 0]])])
      generalize h ++ [Ob.lst (acc ++ [Val.tup [.non, .int 0]])] = H2 at *
      generalize h ++ [Ob.lst acc] = H1 at *
      simp -implicitDefEqProofs [B_form_by_0, ap1, isL, szz, wipeE, m9]
  | some a =>
    cases y with
    | none => cases g
    | some b =>
      have ap1 := ap (.tup [.int b, .int (b - a)]) rfl
      have m9 := m8 (.tup [.int b, .int (b - a)])
      have q : ¬ b < a := by have := of_decide_eq_true g; omega
      show _ = SR.nx _ (h ++ [Ob.lst (acc ++ [Val.tup [.int b, .int (b - a)]])])
      generalize h ++ [Ob.lst (acc ++ [Val.tup [.int b, .int (b - a)]])] = H2 at *
      generalize h ++ [Ob.lst acc] = H1 at *
      simp -implicitDefEqProofs [B_form_by_0, ap1, isL, szz, wipeE, m9, q]
theorem by_bad {x y : Option Int} {v w u : Val} {h : Hh} (g : pairOk x y = false) : ∃ e, B_form_by_0 [some v, some w, some u, some (encA y), some (encA x)] h = .exc ⟨23, []⟩ e h := by
  refine ⟨[some v, some w, some u, some (encA y), some (encA x)], ?_⟩
  cases x with
  | none =>
    cases y with
    | some b => simp -implicitDefEqProofs [B_form_by_0]
    | none => cases g
  | some a =>
    cases y with
    | none => simp -implicitDefEqProofs [B_form_by_0]
    | some b =>
      have q : b < a := by have := of_decide_eq_false g; omega
      simp -implicitDefEqProofs [B_form_by_0, q]
theorem by_bind {x y : Option Int} {v w u : Val} {h : Hh} : gTup (gCons (gName 3) (gCons (gName 4) gNil)) (.tup [encA y, encA x]) [some v, some w, some u, none, none] h = .ok [some v, some w, some u, some (encA y), some (encA x)] h := by
  simp -implicitDefEqProofs
/-- form_by's loop: all the pairs go, or a NoRow comes -/
theorem by_loop {X : List (Option Int)} {m : Nat} {v w : Val} {h : Hh} : ∀ (l : List Nat) (acc : List Val), acc.length + l.length ≤ 100000 →
    ((l.all fun n => pairOk (X.getD (n - m) none) (X.getD n none)) = true → forL (gTup (gCons (gName 3) (gCons (gName 4) gNil))) B_form_by_0 [] (l.map (itemX X m)) [some v, some w, some (.ref h.length), none, none] (h ++ [.lst acc]) = .nx [some v, some w, some (.ref h.length), none, none] (h ++ [.lst (acc ++ l.map fun n => encP (plcX X m n))])) ∧
    ((l.all fun n => pairOk (X.getD (n - m) none) (X.getD n none)) = false → ∃ e acc2, forL (gTup (gCons (gName 3) (gCons (gName 4) gNil))) B_form_by_0 [] (l.map (itemX X m)) [some v, some w, some (.ref h.length), none, none] (h ++ [.lst acc]) = .exc ⟨23, []⟩ e (h ++ [.lst acc2]))
  | [], acc, _ => ⟨(fun _ => by rw [List.map_nil, forL_nil, List.map_nil, List.append_nil]), (fun z => nomatch z)⟩
  | n :: l, acc, hz => by
    rw [List.length_cons] at hz
    have ih := by_loop (X := X) (m := m) (v := v) (w := w) (h := h) l (acc ++ [encP (plcX X m n)]) (by rw [List.length_append, List.length_singleton]; omega)
    rw [List.append_assoc, List.singleton_append] at ih
    rw [List.map_cons, List.all_cons, forL_cons, List.map_cons, by_bind, lift_ok]
    cases g : pairOk (X.getD (n - m) none) (X.getD n none) with
    | true =>
      rw [by_good g (by omega)]
      exact ih
    | false =>
      obtain ⟨e, eb⟩ := by_bad (v := v) (w := w) (u := .ref h.length) (h := h ++ [.lst acc]) g
      rw [eb]
      exact ⟨(fun z => nomatch z), (fun _ => ⟨e, acc, rfl⟩)⟩
theorem form_by_gen {X : List (Option Int)} {m : Nat} {h : Hh} (hX : ∀ a ∈ X, okA a) (n1 : 2 ≤ X.length) (n2 : X.length ≤ 1000) (h1 : 1 ≤ m) (h2 : 2 * m ≤ X.length) (h3 : m ≤ 120) :
    (rowGood X m = true → F_form_by [.tup (X.map encA), .int (m : Int)] h = .ok (encT (rowTab X m).least) h) ∧ (rowGood X m = false → F_form_by [.tup (X.map encA), .int (m : Int)] h = .exc ⟨23, []⟩ h) := by
  have rw1 := isRow_X hX n1 n2
  have hd : (Val.tup (X.map encA)).data = true := by unfold Val.data; exact dataL_map fun _ _ => encA_data _
  have aa := are_amounts_ok (h := h) hd
  rw [rw1] at aa
  have ln : ∀ h, lenP [.tup (X.map encA)] h = .ok (.int (X.length : Int)) h := fun h => by rw [len_tup, List.length_map]
  have d2 : divP (.int (X.length : Int)) (.int 2) h = .ok (.int ((X.length / 2 : Nat) : Int)) h := by rw [div_sm (by decide) (by decide)]; rfl
  have mn : minP [.int 120, .int ((X.length / 2 : Nat) : Int)] h = .ok (.int (min 120 ((X.length / 2 : Nat) : Int))) h := min2 _ _ _
  have wi := is_within_ok (v := .int (m : Int)) (lo := 1) (hi := min 120 ((X.length / 2 : Nat) : Int)) (h := h) rfl
  have wt : Val.isIn 1 (min 120 ((X.length / 2 : Nat) : Int)) (.int (m : Int)) = true := by
    unfold Val.isIn
    simp
    omega
  have wi' : F_is_within [.int (m : Int), .int 1, .int (min 120 ((X.length / 2 : Nat) : Int))] h = .ok (.bl true) h := by rw [wi]; congr 2
  generalize min 120 ((X.length / 2 : Nat) : Int) = MN at *
  generalize ((X.length / 2 : Nat) : Int) = HX at *
  have lenX : (X.map encA).length = X.length := List.length_map ..
  have s1 : ∀ h, slP false (.tup (X.map encA)) (some (-(m : Int))) none h = .ok (.tup ((X.map encA).drop (X.length - m))) h := fun h => by
    show R.ok (Val.tup (cutL _ _ _)) h = _
    rw [cut_neg _ h1 (by omega), lenX]
  have m2 : ∀ h, mulP false (.int (-2)) (.int (m : Int)) h = .ok (.int (-((2 * m : Nat) : Int))) h := fun h => by
    rw [mul_sm' (by omega)]
    congr 2 <;> omega
  have s2 : ∀ h, slP false (.tup (X.map encA)) (some (-((2 * m : Nat) : Int))) (some ((X.length : Int) - (m : Int))) h = .ok (.tup (((X.map encA).drop (X.length - 2 * m)).take m)) h := fun h => by
    show R.ok (Val.tup (cutL _ _ _)) h = _
    rw [show ((X.length : Int) - (m : Int)) = ((X.length - m : Nat) : Int) by omega, cut_neg2 _ (by omega) (by omega) (by omega) (by omega), lenX, show X.length - m - (X.length - 2 * m) = m by omega]
  have s3 : ∀ h, slP false (.tup (X.map encA)) none (some ((X.length : Int) - (m : Int))) h = .ok (.tup ((X.take (X.length - m)).map encA)) h := fun h => by
    rw [show ((X.length : Int) - (m : Int)) = ((X.length - m : Nat) : Int) by omega, sl_take, List.map_take]
  have zp : ∀ h, zipI [.tup ((X.map encA).drop (X.length - m)), .tup (((X.map encA).drop (X.length - 2 * m)).take m)] h = .ok ⟨(List.range' (X.length - m) m).map (itemX X m), []⟩ h := fun h => by
    show R.ok (Iv.mk (zipV _ _) []) h = _
    rw [zip_row h1 h2]
  have lp := by_loop (X := X) (m := m) (v := .tup (X.map encA)) (w := .int (m : Int)) (h := h) (List.range' (X.length - m) m) [] (by simp; omega)
  have tl : (rowTab X m).turn.length = m := by unfold rowTab; simp
  have e3 : ∀ H, listP true [.tup ((X.take (X.length - m)).map encA)] H = .ok (.ref H.length) (H ++ [.lst ((rowTab X m).head.map encA)]) := fun H => rfl
  have rl := raw_least_gen (hd := (rowTab X m).head) (t := (rowTab X m).turn) (h := h ++ [.lst ((rowTab X m).turn.map encP)]) (u := .tup ((X.take (X.length - m)).map encA)) (w := .ref h.length) (e3 _) (seqR_lsq (fun l z => nomatch z) (lsq_end rfl)) (by omega) (by omega)
  have et : (List.range' (X.length - m) m).map (fun n => encP (plcX X m n)) = (rowTab X m).turn.map encP := by
    unfold rowTab
    rw [List.map_map]
    rfl
  rw [et, List.nil_append] at lp
  have eR : (⟨(rowTab X m).head, (rowTab X m).turn⟩ : Tab) = rowTab X m := rfl
  rw [eR] at rl
  have rg : rowGood X m = (List.range' (X.length - m) m).all fun n => pairOk (X.getD (n - m) none) (X.getD n none) := rfl
  rw [rg]
  clear rg e3 et eR hd rw1 wi wt
  have pl := encT_pl (rowTab X m).least h.length
  generalize (List.range' (X.length - m) m).map (itemX X m) = IT at *
  generalize (X.map encA).drop (X.length - m) = Y1 at *
  generalize ((X.map encA).drop (X.length - 2 * m)).take m = Y2 at *
  generalize (X.take (X.length - m)).map encA = Y3 at *
  generalize X.map encA = Y0 at *
  generalize -((2 * m : Nat) : Int) = M2 at *
  have n2' : ∀ h, negP (.int 2) h = .ok (.int (-2)) h := fun h => rfl
  constructor
  · intro g
    have lp1 := lp.1 g
    clear lp g
    refine run_rt (h1 := h ++ [.lst ((rowTab X m).turn.map encP)]) ?_ pl (take_end _ _)
    generalize encT (rowTab X m).least = LT at *
    generalize (rowTab X m).turn.map encP = TP at *
    simp -implicitDefEqProofs [S_form_by, aa, ln, d2, mn, wi', s1, s2, s3, m2, n2', zp, x_for, lp1, rl]
  · intro g
    obtain ⟨e, acc2, lp2⟩ := lp.2 g
    clear lp g rl
    refine run_exc (en := e) (h1 := h ++ [.lst acc2]) ?_ (take_end _ _)
    simp -implicitDefEqProofs [S_form_by, aa, ln, d2, mn, wi', s1, s2, s3, m2, n2', zp, x_for, lp2]
end Ev

set_option Elab.async false
set_option linter.all false
set_option maxRecDepth 100000
namespace Ev
open PySem PySem.Spec PyProof.Rows L2 Mp
theorem on_good {x y : Option Int} {Y : List Val} {m n : Int} {h : Hh} {acc : List Val} (i1 : ∀ h, ixP (.tup Y) (.int (n - m)) h = .ok (encA x) h) (i2 : ∀ h, ixP (.tup Y) (.int n) h = .ok (encA y) h) (g : pairOk x y = true) (hz : acc.length < 1000000) :
    B__law_on_0 [some (.tup Y), some (.int m), some (.ref h.length), some (.int n), none, none] (h ++ [.lst acc]) = .nx [some (.tup Y), some (.int m), some (.ref h.length), none, none, none] (h ++ [.lst (acc ++ [encP (y, lawRise x y)])]) := by
  have ap := fun (v : Val) (hv : v.bel 0 = true) => app_end (h := h) (n := h.length) (l := acc) (v := v) rfl hz hv
  have m8 : ∀ v, (h ++ [Ob.lst (acc ++ [v])]).length = (h ++ [Ob.lst acc]).length := fun v => by simp
  cases x with
  | none =>
    cases y with
    | some b => cases g
    | none =>
      have ap1 := ap (.tup [.non, .int 0]) rfl
      have m9 := m8 (.tup [.non, .int 0])
      show _ = SR.nx _ (h ++ [Ob.lst (acc ++ [Val.tup [.non, .int 0]])])
      generalize h ++ [Ob.lst (acc ++ [Val.tup [.non, .int 0]])] = H2 at *
      generalize h ++ [Ob.lst acc] = H1 at *
      simp -implicitDefEqProofs only [encA_none] at i1 i2
      simp -implicitDefEqProofs [B__law_on_0, i1, i2, ap1, isL, szz, wipeE, m9]
  | some a =>
    cases y with
    | none => cases g
    | some b =>
      have ap1 := ap (.tup [.int b, .int (b - a)]) rfl
      have m9 := m8 (.tup [.int b, .int (b - a)])
      have q : ¬ b < a := by have := of_decide_eq_true g; omega
      show _ = SR.nx _ (h ++ [Ob.lst (acc ++ [Val.tup [.int b, .int (b - a)]])])
      generalize h ++ [Ob.lst (acc ++ [Val.tup [.int b, .int (b - a)]])] = H2 at *
      generalize h ++ [Ob.lst acc] = H1 at *
      simp -implicitDefEqProofs only [encA_some] at i1 i2
      simp -implicitDefEqProofs [B__law_on_0, i1, i2, ap1, isL, szz, wipeE, m9, q]
theorem on_bad {x y : Option Int} {Y : List Val} {m n : Int} {u : Val} {h : Hh} (i1 : ∀ h, ixP (.tup Y) (.int (n - m)) h = .ok (encA x) h) (i2 : ∀ h, ixP (.tup Y) (.int n) h = .ok (encA y) h) (g : pairOk x y = false) :
    B__law_on_0 [some (.tup Y), some (.int m), some u, some (.int n), none, none] h = .rt .non h := by
  cases x with
  | none =>
    cases y with
    | some b =>
      simp -implicitDefEqProofs only [encA_none, encA_some] at i1 i2
      simp -implicitDefEqProofs [B__law_on_0, i1, i2]
    | none => cases g
  | some a =>
    cases y with
    | none =>
      simp -implicitDefEqProofs only [encA_none, encA_some] at i1 i2
      simp -implicitDefEqProofs [B__law_on_0, i1, i2]
    | some b =>
      have q : b < a := by have := of_decide_eq_false g; omega
      simp -implicitDefEqProofs only [encA_none, encA_some] at i1 i2
      simp -implicitDefEqProofs [B__law_on_0, i1, i2, q]
theorem ix_X {X : List (Option Int)} {n : Nat} (hn : n < X.length) (h : Hh) : ixP (.tup (X.map encA)) (.int (n : Int)) h = .ok (encA (X.getD n none)) h :=
  ix_tup (by rw [List.getElem?_map, List.getD_eq_getElem?_getD, List.getElem?_eq_getElem hn]; rfl)
theorem on_loop {X : List (Option Int)} {m : Nat} {h : Hh} : ∀ (l : List Nat) (acc : List Val), (∀ n ∈ l, m ≤ n ∧ n < X.length) → acc.length + l.length ≤ 100000 →
    ((l.all fun n => pairOk (X.getD (n - m) none) (X.getD n none)) = true → forL (gName 3) B__law_on_0 [] (l.map fun (n : Nat) => Val.int (n : Int)) [some (.tup (X.map encA)), some (.int (m : Int)), some (.ref h.length), none, none, none] (h ++ [.lst acc]) = .nx [some (.tup (X.map encA)), some (.int (m : Int)), some (.ref h.length), none, none, none] (h ++ [.lst (acc ++ l.map fun n => encP (plcX X m n))])) ∧
    ((l.all fun n => pairOk (X.getD (n - m) none) (X.getD n none)) = false → ∃ acc2, forL (gName 3) B__law_on_0 [] (l.map fun (n : Nat) => Val.int (n : Int)) [some (.tup (X.map encA)), some (.int (m : Int)), some (.ref h.length), none, none, none] (h ++ [.lst acc]) = .rt .non (h ++ [.lst acc2]))
  | [], acc, _, _ => ⟨(fun _ => by rw [List.map_nil, forL_nil, List.map_nil, List.append_nil]), (fun z => nomatch z)⟩
  | n :: l, acc, hn, hz => by
    rw [List.length_cons] at hz
    obtain ⟨n1, n2⟩ := hn n List.mem_cons_self
    have ih := on_loop (X := X) (m := m) (h := h) l (acc ++ [encP (plcX X m n)]) (fun k hk => hn k (List.mem_cons_of_mem _ hk)) (by rw [List.length_append, List.length_singleton]; omega)
    rw [List.append_assoc, List.singleton_append] at ih
    have i1 : ∀ h, ixP (.tup (X.map encA)) (.int ((n : Int) - (m : Int))) h = .ok (encA (X.getD (n - m) none)) h := fun h => by
      rw [show ((n : Int) - (m : Int)) = ((n - m : Nat) : Int) by omega]
      exact ix_X (by omega) h
    have i2 : ∀ h, ixP (.tup (X.map encA)) (.int (n : Int)) h = .ok (encA (X.getD n none)) h := fun h => ix_X n2 h
    rw [List.map_cons, List.all_cons, forL_cons, List.map_cons]
    simp -implicitDefEqProofs only [x_gN, lift_ok, List.set_cons_succ, List.set_cons_zero]
    cases g : pairOk (X.getD (n - m) none) (X.getD n none) with
    | true =>
      rw [on_good i1 i2 g (by omega)]
      exact ih
    | false =>
      rw [on_bad (u := .ref h.length) (h := h ++ [Ob.lst acc]) i1 i2 g]
      exact ⟨(fun z => nomatch z), (fun _ => ⟨acc, rfl⟩)⟩
theorem law_on_ok {X : List (Option Int)} {m : Nat} {h : Hh} (n2 : X.length ≤ 1000) (h1 : 1 ≤ m) (h2 : 2 * m ≤ X.length) :
    (rowGood X m = true → F__law_on [.tup (X.map encA), .int (m : Int)] h = .ok (encT (rowTab X m)) h) ∧ (rowGood X m = false → F__law_on [.tup (X.map encA), .int (m : Int)] h = .ok .non h) := by
  have ln : ∀ h, lenP [.tup (X.map encA)] h = .ok (.int (X.length : Int)) h := fun h => by rw [len_tup, List.length_map]
  have s3 : ∀ h, slP false (.tup (X.map encA)) none (some ((X.length : Int) - (m : Int))) h = .ok (.tup ((X.take (X.length - m)).map encA)) h := fun h => by
    rw [show ((X.length : Int) - (m : Int)) = ((X.length - m : Nat) : Int) by omega, sl_take, List.map_take]
  have rg : ∀ h, rng2I [.int ((X.length : Int) - (m : Int)), .int (X.length : Int)] h = .ok ⟨(List.range' (X.length - m) m).map fun (n : Nat) => Val.int (n : Int), []⟩ h := fun h => by
    rw [show ((X.length : Int) - (m : Int)) = ((X.length - m : Nat) : Int) by omega]
    exact rg2 (by omega) (by omega)
  have lp := on_loop (X := X) (m := m) (h := h) (List.range' (X.length - m) m) [] (fun n hn => by rw [List.mem_range'] at hn; omega) (by simp; omega)
  have et : (List.range' (X.length - m) m).map (fun n => encP (plcX X m n)) = (rowTab X m).turn.map encP := by
    unfold rowTab
    rw [List.map_map]
    rfl
  rw [et, List.nil_append] at lp
  have rgd : rowGood X m = (List.range' (X.length - m) m).all fun n => pairOk (X.getD (n - m) none) (X.getD n none) := rfl
  rw [rgd]
  have pl := encT_pl (rowTab X m) h.length
  have eT : encT (rowTab X m) = .tup [.tup ((X.take (X.length - m)).map encA), .tup ((rowTab X m).turn.map encP)] := rfl
  rw [eT] at pl ⊢
  have te : tupleP [.ref h.length] (h ++ [.lst ((rowTab X m).turn.map encP)]) = .ok (.tup ((rowTab X m).turn.map encP)) (h ++ [.lst ((rowTab X m).turn.map encP)]) := tuple_end rfl
  clear et eT rgd
  generalize (List.range' (X.length - m) m).map (fun (n : Nat) => Val.int (n : Int)) = IT at *
  generalize (X.take (X.length - m)).map encA = Y3 at *
  generalize X.map encA = Y0 at *
  generalize (rowTab X m).turn.map encP = TP at *
  constructor
  · intro g
    have lp1 := lp.1 g
    clear lp g
    refine run_rt (h1 := h ++ [.lst TP]) ?_ pl (take_end _ _)
    simp -implicitDefEqProofs [S__law_on, ln, s3, rg, x_for, lp1, te, szz]
  · intro g
    obtain ⟨acc2, lp2⟩ := lp.2 g
    clear lp g
    refine run_rt (h1 := h ++ [.lst acc2]) ?_ rfl (take_end _ _)
    simp -implicitDefEqProofs [S__law_on, ln, s3, rg, x_for, lp2]
end Ev

set_option Elab.async false
set_option linter.all false
set_option maxRecDepth 100000
namespace Mp
open PySem PySem.Spec PyProof.Rows L2
/-- a table that tells one amount alone -/
def aloneT (n : Nat) (c : Int) : Tab := ⟨List.replicate n none ++ [some c], [(none, 0)]⟩
theorem strip_none : ∀ (rh : List (Option Int)), (Frm.strip rh [(none, 0)]).2 = [(none, 0)] ∧ (Frm.strip rh [(none, 0)]).1.length ≤ rh.length
  | [] => ⟨rfl, Nat.le_refl _⟩
  | a :: r => by
    unfold Frm.strip
    split
    · have e : Frm.rot [((none : Option Int), (0 : Int))] = [(none, 0)] := rfl
      rw [e]
      obtain ⟨h1, h2⟩ := strip_none r
      exact ⟨h1, Nat.le_succ_of_le h2⟩
    · exact ⟨rfl, Nat.le_refl _⟩
theorem round_none : Frm.leastRound [((none : Option Int), (0 : Int))] = [(none, 0)] := by decide +kernel
theorem least_turn {T : Tab} (h : T.turn = [(none, 0)]) : T.least.turn = [(none, 0)] := by
  unfold Tab.least
  dsimp only
  rw [h, round_none]
  exact (strip_none _).1
theorem alone_ok {n : Nat} {c : Int} (hn : n ≤ 300) (hc : 0 ≤ c) : (aloneT n c).Ok := by
  refine ⟨by unfold aloneT; simp; omega, by unfold aloneT; simp, by unfold aloneT; simp, fun a ha => ?_, fun p hp => ?_⟩
  · rcases List.mem_append.mp ha with ha | ha
    · rw [List.eq_of_mem_replicate ha]; trivial
    · rw [List.mem_singleton.mp ha]; exact hc
  · rw [List.mem_singleton.mp hp]; exact ⟨by decide, by decide, rfl⟩
theorem alone_least {n : Nat} {c : Int} : (aloneT n c).least = aloneT n c := by
  unfold Tab.least aloneT
  dsimp only
  rw [round_none, List.reverse_append]
  show Tab.mk (Frm.strip (some c :: (List.replicate n none).reverse) [(none, 0)]).1.reverse (Frm.strip (some c :: (List.replicate n none).reverse) [(none, 0)]).2 = _
  have e : Frm.strip (some c :: (List.replicate n none).reverse) [(none, 0)] = (some c :: (List.replicate n none).reverse, [(none, 0)]) := by
    unfold Frm.strip
    rw [if_neg]
    intro z
    cases z
  rw [e]
  simp
theorem val_none {T : Tab} (h : T.turn = [(none, 0)]) {n : Nat} (hn : T.head.length ≤ n) : T.val n = none := by
  unfold Tab.val Frm.at'
  rw [if_neg (by omega), h]
  rw [show ([((none : Option Int), (0 : Int))] : List Frm.P).length = 1 from rfl, Nat.mod_one]
  rfl
theorem alone_val (n : Nat) (c : Int) (m : Nat) : (aloneT n c).val m = if m = n then some c else none := by
  have hl : (aloneT n c).head.length = n + 1 := by unfold aloneT; simp
  by_cases h : m < n + 1
  · rw [val_lt (by rw [hl]; exact h)]
    unfold aloneT
    dsimp only
    rw [List.getD_eq_getElem?_getD]
    by_cases e : m = n
    · rw [if_pos e, e, List.getElem?_append_right (by simp)]
      simp
    · rw [if_neg e, List.getElem?_append_left (by simp; omega), List.getElem?_replicate, if_pos (by omega)]
      rfl
  · rw [if_neg (by omega), val_none rfl (by rw [hl]; omega)]
end Mp
namespace Ev
open PySem PySem.Spec PyProof.Rows L2 Mp
theorem mulQ_none {n : Nat} {h : Hh} (hn : n ≤ 300) (x : Val) : mulQ false (.tup [x]) (.int (n : Int)) h = .ok (.tup (List.replicate n x)) h := by
  have fl : ∀ k : Nat, (List.replicate k [x]).flatten = List.replicate k x := fun k => by
    induction k with
    | zero => rfl
    | succ k ih => rw [List.replicate_succ, List.flatten_cons, ih, List.replicate_succ]; rfl
  unfold mulQ
  dsimp only
  split
  · rw [Int.toNat_natCast, fl]
  · rename_i c
    have : 2 ≤ n := by
      refine Nat.not_lt.mp fun z => c ⟨by simp, by omega, by omega⟩
    exact rep_tup this (by omega)
theorem raw_alone_ok {n : Nat} {c : Int} {h : Hh} (hn : n ≤ 300) : F_raw_alone [.int (n : Int), .int c] h = .ok (encT (aloneT n c)) h := by
  refine run_rt (h1 := h) ?_ (encT_pl _ _) List.take_length
  have e1 := mulQ_none (h := h) hn .non
  have e2 : addP false (.tup (List.replicate n .non)) (.tup [.int c]) h = .ok (.tup (List.replicate n .non ++ [.int c])) h := add_tup (by simp; omega)
  have eT : encT (aloneT n c) = .tup [.tup (List.replicate n .non ++ [.int c]), .tup [.tup [.non, .int 0]]] := by
    unfold encT aloneT
    dsimp only
    rw [List.map_append, List.map_replicate]
    rfl
  rw [eT]
  generalize List.replicate n Val.non = RN at *
  simp -implicitDefEqProofs [S_raw_alone, e1, e2, szz]
theorem alone_fn {n : Nat} {c : Int} {h : Hh} (hn : n ≤ 300) (hc : 0 ≤ c) (hc2 : c < 10 ^ 40) : F_alone [.int (n : Int), .int c] h = .ok (encT (aloneT n c)) h := by
  refine run_rt (h1 := h) ?_ (encT_pl _ _) List.take_length
  have wi := is_within_ok (v := .int (n : Int)) (lo := 0) (hi := 300) (h := h) rfl
  have wt : Val.isIn 0 300 (.int (n : Int)) = true := by unfold Val.isIn; simp; omega
  rw [wt] at wi
  have ck := check_number_ok (h := h) hc hc2
  simp -implicitDefEqProofs [S_alone, wi, ck, raw_alone_ok hn]
theorem alone_len {v w : Val} {h : Hh} (hv : v.thing = true) (b : v.isIn 0 300 = false) : F_alone [v, w] h = .exc ⟨9, []⟩ h := by
  refine run_exc (h1 := h) (en := [some v, some w]) ?_ List.take_length
  have wi := is_within_ok (v := v) (lo := 0) (hi := 300) (h := h) hv
  rw [b] at wi
  simp -implicitDefEqProofs [S_alone, wi]
theorem alone_num {n : Nat} {w : Val} {h : Hh} (hn : n ≤ 300) (b : F_check_number [w] h = .exc ⟨14, []⟩ h) : F_alone [.int (n : Int), w] h = .exc ⟨14, []⟩ h := by
  refine run_exc (h1 := h) (en := [some (.int (n : Int)), some w]) ?_ List.take_length
  have wi := is_within_ok (v := .int (n : Int)) (lo := 0) (hi := 300) (h := h) rfl
  have wt : Val.isIn 0 300 (.int (n : Int)) = true := by unfold Val.isIn; simp; omega
  rw [wt] at wi
  simp -implicitDefEqProofs [S_alone, wi, b]
theorem law_alone_ok {n : Nat} {c : Int} {h : Hh} (hn : n ≤ 300) (hc : 0 ≤ c) (hc2 : c < 10 ^ 40) : F__law_alone [.int (n : Int), .int c] h = .ok (.bl true) h := by
  have ok := alone_ok hn hc
  refine run_rt (h1 := h) ?_ rfl List.take_length
  have e0 := alone_fn (h := h) hn hc hc2
  have e1 := mulQ_none (h := h) hn .non
  have e2 : addP false (.tup (List.replicate n .non)) (.tup [.int c]) h = .ok (.tup (List.replicate n .non ++ [.int c])) h := add_tup (by simp; omega)
  have eT : encT (aloneT n c) = .tup [.tup (List.replicate n .non ++ [.int c]), .tup [.tup [.non, .int 0]]] := by
    unfold encT aloneT
    dsimp only
    rw [List.map_append, List.map_replicate]
    rfl
  have fm := is_form_ok (h := h) ok
  rw [decide_eq_true alone_least] at fm
  have v1 := value_ok (h := h) (z := (n : Int)) ok (by omega)
  have v2 := value_ok (h := h) (z := ((n : Int) + 1)) ok (by omega)
  rw [alone_val, if_pos (by omega)] at v1
  rw [alone_val, if_neg (by omega)] at v2
  have i1 := is_T (d := 4) (h := h) ok
  rw [eT] at e0 fm v1 v2 i1
  simp -implicitDefEqProofs only [encA_none, encA_some] at v1 v2
  generalize List.replicate n Val.non = RN at *
  simp -implicitDefEqProofs [S__law_alone, e0, e1, e2, fm, v1, v2, i1, not_bl, szz]
end Ev

set_option Elab.async false
set_option linter.all false
set_option maxRecDepth 100000
namespace Mp
open PySem PySem.Spec PyProof.Rows L2
/-- forms without a round -/
structure NT (T : Tab) : Prop where
  ok : T.Ok
  form : T.least = T
  turn : T.turn = [(none, 0)]
  head : T.head.length ≤ 301
theorem alone_nt {n : Nat} {c : Int} (hn : n ≤ 300) (hc : 0 ≤ c) : NT (aloneT n c) := ⟨alone_ok hn hc, alone_least, rfl, by unfold aloneT; simp; omega⟩
theorem rays_none {T : Tab} (h : T.turn = [(none, 0)]) : raysOf T = [] := by
  unfold raysOf
  rw [h]
  rfl
theorem head_nn {T : Tab} (ok : T.Ok) {n : Nat} {a : Int} (h : T.val n = some a) (hn : n < T.head.length) : 0 ≤ a := by
  rw [val_lt hn, List.getD_eq_getElem?_getD, List.getElem?_eq_getElem hn] at h
  have := ok.ha _ (List.getElem_mem hn)
  rw [show T.head[n] = some a from h] at this
  exact this
end Mp
namespace Ev
open PySem PySem.Spec PyProof.Rows L2 Mp
theorem lesser_none {F U : Tab} (nF : NT F) (nU : NT U) : ∃ W, NT W ∧ (∀ n, W.val n = Mp.lo (F.val n) (U.val n)) ∧ ∀ h, F_raw_lesser [encT F, encT U] h = .ok (encT W) h := by
  have h1 := nF.head; have h2 := nU.head
  have hK : max F.head.length U.head.length ≤ 301 := by omega
  have kF : F.head.length ≤ max F.head.length U.head.length := by omega
  have kU : U.head.length ≤ max F.head.length U.head.length := by omega
  generalize max F.head.length U.head.length = K at *
  have hl : (⟨(List.range K).map fun n => Mp.lo (F.val n) (U.val n), [(none, 0)]⟩ : Tab).head.length = K := by simp
  have vV : ∀ n, (⟨(List.range K).map fun n => Mp.lo (F.val n) (U.val n), [(none, 0)]⟩ : Tab).val n = Mp.lo (F.val n) (U.val n) := fun n => by
    by_cases c : n < K
    · rw [val_lt (by rw [hl]; exact c)]
      show ((List.range K).map fun n => Mp.lo (F.val n) (U.val n)).getD n none = _
      rw [List.getD_eq_getElem?_getD, List.getElem?_map, List.getElem?_range c]
      rfl
    · rw [val_none rfl (by rw [hl]; omega), val_none nF.turn (by omega), val_none nU.turn (by omega)]
      rfl
  have nn : ∀ (T : Tab), NT T → ∀ n a, T.val n = some a → 0 ≤ a := fun T nT n a e => by
    by_cases c : n < T.head.length
    · exact head_nn nT.ok e c
    · rw [val_none nT.turn (by omega)] at e; cases e
  have oV : (⟨(List.range K).map fun n => Mp.lo (F.val n) (U.val n), [(none, 0)]⟩ : Tab).Ok := by
    refine ⟨by rw [hl]; omega, by simp, by simp, fun a ha => ?_, fun p hp => ?_⟩
    · obtain ⟨n, _, rfl⟩ := List.mem_map.mp ha
      have q1 := nn F nF n
      have q2 := nn U nU n
      cases e1 : F.val n with
      | none => cases e2 : U.val n with
        | none => trivial
        | some b => exact q2 b e2
      | some a => cases e2 : U.val n with
        | none => exact q1 a e1
        | some b =>
          have := q1 a e1; have := q2 b e2
          show 0 ≤ min a b
          omega
    · rw [List.mem_singleton.mp hp]; exact ⟨by decide, by decide, rfl⟩
  obtain ⟨oL, vL, idL, lh, _⟩ := least_all oV
  rw [hl] at lh
  have rF := rays_none nF.turn
  have rU := rays_none nU.turn
  have b0 : ∀ (T : Tab), NT T → ∀ p ∈ T.turn, p.2 ≤ 2 ^ 50 := fun T nT p hp => by rw [nT.turn] at hp; rw [List.mem_singleton.mp hp]; decide
  refine ⟨_, ⟨oL, idL, least_turn rfl, by omega⟩, fun n => by rw [vL, vV], fun h => ?_⟩
  refine raw_lesser_ok nF.ok nU.ok (b0 F nF) (b0 U nU) ?_ ?_ oV.big vV (by omega)
  · rw [rF, rU]; decide
  · rw [rF, rU]
    refine madeZ_le (by decide) (fun p hp => ?_) fun c hc b hb => ?_
    · obtain ⟨n, v⟩ := p
      rcases List.mem_append.mp hp with hp | hp
      · have := (mem_pts.mp hp).1; show (n : Int) + 1 ≤ _; omega
      · have := (mem_pts.mp hp).1; show (n : Int) + 1 ≤ _; omega
    · cases hb
theorem all_loop {v : Val} {h : Hh} : ∀ (Us : List Tab) (F : Tab), NT F → (∀ U ∈ Us, NT U) → ∃ W, NT W ∧ (∀ n, W.val n = Us.foldl (fun x U => Mp.lo x (U.val n)) (F.val n)) ∧
    forL (gName 2) B_lesser_all_0 [] (Us.map encT) [some v, some (encT F), none] h = .nx [some v, some (encT W), none] h
  | [], F, nF, _ => ⟨F, nF, fun _ => rfl, by rw [List.map_nil, forL_nil]⟩
  | U :: Us, F, nF, nU => by
    obtain ⟨W, nW, vW, eW⟩ := lesser_none nF (nU U List.mem_cons_self)
    obtain ⟨Z, nZ, vZ, eZ⟩ := all_loop (v := v) (h := h) Us W nW fun X hX => nU X (List.mem_cons_of_mem _ hX)
    refine ⟨Z, nZ, fun n => by rw [vZ, vW, List.foldl_cons], ?_⟩
    rw [List.map_cons, forL_cons, ← eZ]
    generalize encT F = FF at *
    generalize encT U = UU at *
    generalize encT W = WW at *
    simp -implicitDefEqProofs [B_lesser_all_0, eW, wipeE]
theorem lesser_all_ok {U : Tab} {Us : List Tab} {h : Hh} (nU : ∀ T ∈ U :: Us, NT T) (h8 : (U :: Us).length ≤ 8) : ∃ W, NT W ∧ (∀ n, W.val n = Us.foldl (fun x U => Mp.lo x (U.val n)) (U.val n)) ∧ F_lesser_all [.tup ((U :: Us).map encT)] h = .ok (encT W) h := by
  obtain ⟨W, nW, vW, eW⟩ := all_loop (v := .tup ((U :: Us).map encT)) (h := h) Us U (nU U List.mem_cons_self) fun T hT => nU T (List.mem_cons_of_mem _ hT)
  refine ⟨W, nW, vW, ?_⟩
  refine run_rt (h1 := h) ?_ (encT_pl _ _) List.take_length
  have sz := is_sized_ok (v := .tup ((U :: Us).map encT)) (lo := 1) (hi := 8) (h := h) rfl
  have st : Val.sized 1 8 (.tup ((U :: Us).map encT)) = true := by
    unfold Val.sized
    simp at h8 ⊢
    omega
  rw [st] at sz
  have cm : F_check_many [.tup ((U :: Us).map encT)] h = .ok .non h := by
    refine run_nx (h1 := h) (en := [some (.tup ((U :: Us).map encT)), none]) ?_ List.take_length
    have one : eComp false [1] (iSeq (eVar 0)) (gName 1) tTrue (eFn F_is_form (aCons (eVar 1) aNil)) [some (.tup ((U :: Us).map encT)), none] h = .ok (.lst ((U :: Us).map fun _ => .bl true)) h := by
      refine compE encT (fun _ => .bl true) (U :: Us) (by simp [seqI]) (by omega) fun T hT => ?_
      have f := is_form_ok (h := h) (nU T hT).ok
      rw [decide_eq_true (nU T hT).form] at f
      refine ⟨_, rfl, ?_⟩
      simp -implicitDefEqProofs [wipeE, f]
    have al := all_map (h := h) (l := U :: Us) (p := fun _ => true)
    have al2 : allP [.lst ((U :: Us).map fun _ => Val.bl true)] h = .ok (.bl true) h := by rw [al]; simp
    generalize (U :: Us).map (fun _ => Val.bl true) = AL at *
    generalize Val.tup ((U :: Us).map encT) = UV at *
    simp -implicitDefEqProofs [S_check_many, sz, one, al2]
  have ix : ∀ h, ixP (.tup ((U :: Us).map encT)) (.int 0) h = .ok (encT U) h := fun h => ix_t0 _ _
  have sl : ∀ h, slP false (.tup ((U :: Us).map encT)) (some 1) none h = .ok (.tup (Us.map encT)) h := fun h => sl_drop _ _ 1 _
  have sq : ∀ h, seqI (.tup (Us.map encT)) h = .ok ⟨Us.map encT, []⟩ h := fun h => rfl
  generalize Val.tup ((U :: Us).map encT) = UV at *
  generalize Us.map encT = UL at *
  generalize encT U = U0 at *
  generalize encT W = WW at *
  simp -implicitDefEqProofs [S_lesser_all, cm, ix, sl, x_for, sq, eW]
theorem fold_lo {c : Nat → Int} {n : Nat} : ∀ (ns : List Nat) (acc : Option Int), (acc = none ∨ acc = some (c n)) → ns.foldl (fun x k => Mp.lo x (if n = k then some (c k) else none)) acc = if n ∈ ns then some (c n) else acc
  | [], acc, _ => by simp
  | k :: ns, acc, ha => by
    rw [List.foldl_cons]
    by_cases e : n = k
    · subst e
      rw [if_pos rfl]
      have q : Mp.lo acc (some (c n)) = some (c n) := by
        rcases ha with rfl | rfl
        · rfl
        · simp [Mp.lo]
      rw [q, fold_lo ns _ (.inr rfl)]
      simp
    · rw [if_neg e]
      have q : Mp.lo acc none = acc := by cases acc <;> rfl
      rw [q, fold_lo ns acc ha]
      simp [e]
end Ev

set_option Elab.async false
set_option linter.all false
set_option maxRecDepth 100000
namespace Mp
def okB (m : Int) : Option Int → Prop
  | none => True
  | some i => 0 ≤ i ∧ i < m
def okQB (m : Int) (p : Option Int × Int) : Prop := okP p ∧ p.2 < 4 ∧ okB m p.1
theorem okB_A {m : Int} {a : Option Int} (h : okB m a) : okA a := by
  cases a with
  | none => trivial
  | some i => exact h.1
end Mp
namespace Ev
open PySem PySem.Spec PyProof.Rows Mp
theorem amount_b {h : Hh} {k : Nat} {l : List Val} {m : Int} (e : h[k]? = some (.lst l)) (ok : HandOk l) (hm : 0 < m) (hm2 : m < 2 ^ 200) : ∃ l' a, HandOk l' ∧ okB m a ∧ F__law_amount [.ref k, .int m] h = .ok (encA a) (h.set k (.lst l')) := by
  have hk : k < h.length := (List.getElem?_eq_some_iff.mp e).1
  obtain ⟨l1, d, ok1, d1, d2, e1⟩ := draw_ok e ok (m := 4) (by decide) (by decide)
  by_cases q : d = 0
  · refine ⟨l1, none, ok1, trivial, ?_⟩
    refine run_rtH (h1 := h.set k (.lst l1)) ?_ rfl (List.take_of_length_le (by simp))
    simp -implicitDefEqProofs [S__law_amount, e1, q]
  · obtain ⟨l2, d', ok2, d3, d4, e2⟩ := draw_ok (get_set (x := .lst l1) hk) ok1 hm hm2
    rw [List.set_set] at e2
    refine ⟨l2, some d', ok2, ⟨d3, d4⟩, ?_⟩
    refine run_rtH (h1 := h.set k (.lst l2)) ?_ (by simp [Val.bel]) (List.take_of_length_le (by simp))
    simp -implicitDefEqProofs [S__law_amount, e1, e2, q]
theorem tloop0b {h : Hh} {k : Nat} {m : Int} (hk : k < h.length) (hm : 0 < m) (hm2 : m < 2 ^ 200) : ∀ (items : List Val) (l : List Val) (X : List (Option Int)) (a b x5 : Option Val), HandOk l → (∀ a ∈ X, okB m a) → X.length + items.length ≤ 1000 →
    ∃ (l' : List Val) (X' : List (Option Int)) (y5 : Option Val), HandOk l' ∧ (∀ a ∈ X', okB m a) ∧ X'.length = X.length + items.length ∧ forL (gName 5) B__law_table_0 [] items [some (.ref k), a, b, some (.int m), some (.ref h.length), x5, none, none, none] (h.set k (.lst l) ++ [.lst (X.map encA)]) = .nx [some (.ref k), a, b, some (.int m), some (.ref h.length), y5, none, none, none] (h.set k (.lst l') ++ [.lst (X'.map encA)])
  | [], l, X, a, b, x5, ok, hX, hlen => ⟨l, X, x5, ok, hX, rfl, forL_nil _ _ _ _⟩
  | v :: items, l, X, a, b, x5, ok, hX, hlen => by
    rw [List.length_cons] at hlen
    have hz : 1000000 ≤ sizeLine := sz_le (by omega)
    obtain ⟨l1, am, ok1, oa, e1⟩ := amount_b (get_app (x := .lst (X.map encA)) (get_set (h := h) (x := .lst l) hk)) ok hm hm2
    rw [set_app (by rw [List.length_set]; exact hk), List.set_set] at e1
    have e2 : appP (.ref h.length) [encA am] (h.set k (.lst l1) ++ [.lst (X.map encA)]) = .ok .non (h.set k (.lst l1) ++ [.lst ((X ++ [am]).map encA)]) := by
      rw [app_top (by simp) (by simp; omega) (encA_pl _ _), List.map_append]
      rfl
    obtain ⟨l', X', y5, h1, h2, h3, h4⟩ := tloop0b hk hm hm2 items l1 (X ++ [am]) a b (some v) ok1 (fun c hc => by
      rcases List.mem_append.mp hc with hc | hc
      · exact hX c hc
      · rw [List.mem_singleton.mp hc]; exact oa) (by simp; omega)
    refine ⟨l', X', y5, h1, h2, by rw [h3]; simp; omega, ?_⟩
    rw [forL_cons, x_gN, lift_ok]
    have e3 : B__law_table_0 ([some (.ref k), a, b, some (.int m), some (.ref h.length), x5, none, none, none].set 5 (some v)) (h.set k (.lst l) ++ [.lst (X.map encA)]) = .nx [some (.ref k), a, b, some (.int m), some (.ref h.length), some v, none, none, none] (h.set k (.lst l1) ++ [.lst ((X ++ [am]).map encA)]) := by
      generalize (X ++ [am]).map encA = Z at *
      generalize X.map encA = Z0 at *
      simp -implicitDefEqProofs [B__law_table_0, e1, e2, isL]
    rw [e3]
    exact h4
theorem tloop1b {h : Hh} {k : Nat} {m : Int} {O : Ob} (hk : k < h.length) (hm : 0 < m) (hm2 : m < 2 ^ 200) : ∀ (items : List Val) (l : List Val) (X : List Frm.P) (a b c x5 x7 x8 : Option Val), HandOk l → (∀ a ∈ X, okQB m a) → X.length + items.length ≤ 1000 →
    ∃ (l' : List Val) (X' : List Frm.P) (y5 y7 y8 : Option Val), HandOk l' ∧ (∀ a ∈ X', okQB m a) ∧ X'.length = X.length + items.length ∧ forL (gName 5) B__law_table_1 [] items [some (.ref k), a, b, some (.int m), c, x5, some (.ref (h.length + 1)), x7, x8] (h.set k (.lst l) ++ [O] ++ [.lst (X.map encP)]) = .nx [some (.ref k), a, b, some (.int m), c, y5, some (.ref (h.length + 1)), y7, y8] (h.set k (.lst l') ++ [O] ++ [.lst (X'.map encP)])
  | [], l, X, a, b, c, x5, x7, x8, ok, hX, hlen => ⟨l, X, x5, x7, x8, ok, hX, rfl, forL_nil _ _ _ _⟩
  | v :: items, l, X, a, b, c, x5, x7, x8, ok, hX, hlen => by
    rw [List.length_cons] at hlen
    have hz : 1000000 ≤ sizeLine := sz_le (by omega)
    have hz2 : 2 ≤ sizeLine := by omega
    have st : ∀ (l1 l2 : List Val), (h.set k (Ob.lst l1) ++ [O] ++ [Ob.lst (X.map encP)]).set k (Ob.lst l2) = h.set k (Ob.lst l2) ++ [O] ++ [Ob.lst (X.map encP)] := fun l1 l2 => by
      rw [set_app (by simp; omega), set_app (by rw [List.length_set]; exact hk), List.set_set]
    have gt : ∀ l1 : List Val, (h.set k (Ob.lst l1) ++ [O] ++ [Ob.lst (X.map encP)])[k]? = some (.lst l1) := fun l1 => get_app (get_app (get_set hk))
    obtain ⟨l1, am, ok1, oa, e1⟩ := amount_b (gt l) ok hm hm2
    rw [st] at e1
    have e2 : ∀ (l2 : List Val) (p : Frm.P), appP (.ref (h.length + 1)) [encP p] (h.set k (.lst l2) ++ [O] ++ [.lst (X.map encP)]) = .ok .non (h.set k (.lst l2) ++ [O] ++ [.lst ((X ++ [p]).map encP)]) := fun l2 p => by
      rw [app_top (by simp) (by simp; omega) (encP_pl _ _), List.map_append]
      rfl
    have step : ∃ l2 ri, HandOk l2 ∧ okQB m (am, ri) ∧ B__law_table_1 ([some (.ref k), a, b, some (.int m), c, x5, some (.ref (h.length + 1)), x7, x8].set 5 (some v)) (h.set k (.lst l) ++ [O] ++ [.lst (X.map encP)]) = .nx [some (.ref k), a, b, some (.int m), c, some v, some (.ref (h.length + 1)), some (encA am), some (.int ri)] (h.set k (.lst l2) ++ [O] ++ [.lst ((X ++ [(am, ri)]).map encP)]) := by
      cases am with
      | none =>
        refine ⟨l1, 0, ok1, ⟨⟨by decide, by decide, rfl⟩, by decide, trivial⟩, ?_⟩
        have e4 := e2 l1 (none, 0)
        generalize (X ++ [((none : Option Int), (0 : Int))]).map encP = Z at *
        generalize X.map encP = Z0 at *
        simp -implicitDefEqProofs [encP] at e4 e1
        simp -implicitDefEqProofs [B__law_table_1, e1, e4, isL, hz2]
      | some am =>
        obtain ⟨l2, ri, ok2, d1, d2, e5⟩ := draw_ok (gt l1) ok1 (m := 4) (by decide) (by decide)
        rw [st] at e5
        refine ⟨l2, ri, ok2, ⟨⟨d1, by simp only; omega, oa.1⟩, by simp only; omega, oa⟩, ?_⟩
        have e4 := e2 l2 (some am, ri)
        generalize (X ++ [(some am, ri)]).map encP = Z at *
        generalize X.map encP = Z0 at *
        simp -implicitDefEqProofs [encP] at e4 e1 e5
        simp -implicitDefEqProofs [B__law_table_1, e1, e4, e5, isL, hz2]
    obtain ⟨l2, ri, ok2, op, e3⟩ := step
    obtain ⟨l', X', y5, y7, y8, h1, h2, h3, h4⟩ := tloop1b hk hm hm2 items l2 (X ++ [(am, ri)]) a b c (some v) (some (encA am)) (some (.int ri)) ok2 (fun c hc => by
      rcases List.mem_append.mp hc with hc | hc
      · exact hX c hc
      · rw [List.mem_singleton.mp hc]; exact op) (by simp; omega)
    refine ⟨l', X', y5, y7, y8, h1, h2, by rw [h3]; simp; omega, ?_⟩
    rw [forL_cons, x_gN, lift_ok, e3]
    exact h4
theorem table_b {h : Hh} {k : Nat} {l : List Val} {m a b : Int} (ha : 0 ≤ a) (ha2 : a ≤ 900) (hb : 1 ≤ b) (hb2 : b ≤ 120) (e : h[k]? = some (.lst l)) (ok : HandOk l) (hm : 0 < m) (hm2 : m < 2 ^ 200) : ∃ (l' : List Val) (T : Tab), HandOk l' ∧ T.Ok ∧ (T.head.length : Int) ≤ a ∧ (T.turn.length : Int) ≤ b ∧ (∀ p ∈ T.turn, p.2 < 4 ∧ okB m p.1) ∧ (∀ x ∈ T.head, okB m x) ∧ F__law_table [.ref k, .int a, .int b, .int m] h = .ok (encT T) (h.set k (.lst l')) := by
  have hk : k < h.length := (List.getElem?_eq_some_iff.mp e).1
  have hz : 1000000 ≤ sizeLine := sz_le (by omega)
  have hz2 : 2 ≤ sizeLine := by omega
  obtain ⟨l1, d1, ok1, a1, a2, e1⟩ := draw_ok (get_app (x := .lst []) e) ok (m := a + 1) (by omega) (by omega)
  rw [set_app hk] at e1
  obtain ⟨l2, X, y5, ok2, hX, lenX, e2⟩ := tloop0b (m := m) hk hm hm2 (rangeV 0 d1) l1 [] (some (.int a)) (some (.int b)) none ok1 (fun _ q => nomatch q) (by rw [rangeV_len]; simp; omega)
  rw [rangeV_len] at lenX
  obtain ⟨l3, d2, ok3, b1, b2, e3⟩ := draw_ok (h := h.set k (.lst l2) ++ [.lst (X.map encA)] ++ [.lst []]) (k := k) (l := l2) (get_app (get_app (get_set hk))) ok2 (m := b) (by omega) (by omega)
  rw [set_app (by simp; omega), set_app (by rw [List.length_set]; exact hk), List.set_set] at e3
  obtain ⟨l4, Y, z5, z7, z8, ok4, hY, lenY, e4⟩ := tloop1b (m := m) (O := .lst (X.map encA)) hk hm hm2 (rangeV 0 (1 + d2)) l3 [] (some (.int a)) (some (.int b)) (some (.ref h.length)) y5 none none ok3 (fun _ q => nomatch q) (by rw [rangeV_len]; simp; omega)
  rw [rangeV_len] at lenY
  simp only [List.length_nil, Nat.zero_add] at lenX lenY
  refine ⟨l4, ⟨X, Y⟩, ok4, ⟨by show X.length ≤ _; omega, by show 1 ≤ Y.length; omega, by show Y.length ≤ _; omega, fun a ha => okB_A (hX a ha), fun p hp => (hY p hp).1⟩, by show (X.length : Int) ≤ _; omega, by show (Y.length : Int) ≤ _; omega, fun p hp => (hY p hp).2, hX, ?_⟩
  refine run_rtH (h1 := h.set k (.lst l4) ++ [.lst (X.map encA)] ++ [.lst (Y.map encP)]) ?_ (encT_pl _ _) (by rw [List.append_assoc, List.take_left' (by simp)])
  have t1 : tupleP [.ref h.length] (h.set k (.lst l4) ++ [.lst (X.map encA)] ++ [.lst (Y.map encP)]) = .ok (.tup (X.map encA)) (h.set k (.lst l4) ++ [.lst (X.map encA)] ++ [.lst (Y.map encP)]) := by
    show (match lsq (.ref h.length) _ with | some l => R.ok (Val.tup l) _ | none => .bad) = _
    have : lsq (.ref h.length) (h.set k (.lst l4) ++ [Ob.lst (X.map encA)] ++ [Ob.lst (Y.map encP)]) = some (X.map encA) := by
      unfold lsq
      dsimp only
      rw [get_app (o := .lst (X.map encA)) (by have := get_top (h.set k (.lst l4)) (.lst (X.map encA)); rwa [List.length_set] at this)]
    rw [this]
  have t2 : tupleP [.ref (h.length + 1)] (h.set k (.lst l4) ++ [.lst (X.map encA)] ++ [.lst (Y.map encP)]) = .ok (.tup (Y.map encP)) (h.set k (.lst l4) ++ [.lst (X.map encA)] ++ [.lst (Y.map encP)]) := by
    show (match lsq (.ref (h.length + 1)) _ with | some l => R.ok (Val.tup l) _ | none => .bad) = _
    have := lsq_top (h.set k (.lst l4) ++ [.lst (X.map encA)]) (Y.map encP)
    rw [List.length_append, List.length_set, List.length_singleton] at this
    rw [this]
  have r1 : ∀ g : Hh, rng1I [.int d1] g = .ok ⟨rangeV 0 d1, []⟩ g := fun g => rng1 (by omega) (by omega)
  have r2 : ∀ g : Hh, rng1I [.int (1 + d2)] g = .ok ⟨rangeV 0 (1 + d2), []⟩ g := fun g => rng1 (by omega) (by omega)
  have mk1 : mk true [] h = .ok (.ref h.length) (h ++ [.lst []]) := rfl
  have mk2 : mk true [] (h.set k (.lst l2) ++ [.lst (X.map encA)]) = .ok (.ref (h.length + 1)) (h.set k (.lst l2) ++ [.lst (X.map encA)] ++ [.lst []]) := by
    unfold mk
    rw [if_pos rfl, List.length_append, List.length_set]
    rfl
  simp only [List.map_nil] at e2 e4
  show _ = SR.rt (Val.tup [.tup (X.map encA), .tup (Y.map encP)]) _
  generalize X.map encA = ZX at *
  generalize Y.map encP = ZY at *
  generalize hH1 : h.set k (.lst l1) ++ [Ob.lst []] = H1 at *
  generalize hH2 : h.set k (.lst l2) ++ [Ob.lst ZX] = H2 at *
  generalize hH3 : h.set k (.lst l3) ++ [Ob.lst ZX] ++ [Ob.lst []] = H3 at *
  generalize hH4 : h.set k (.lst l4) ++ [Ob.lst ZX] ++ [Ob.lst ZY] = H4 at *
  generalize hH5 : H2 ++ [Ob.lst []] = H5 at *
  generalize hH6 : h ++ [Ob.lst []] = H6 at *
  simp -implicitDefEqProofs [-mk_t, S__law_table, x_for, mk1, mk2, e1, r1, e2, e3, r2, e4, t1, t2, hz2]
/-- what a drawn table tells is small -/
theorem val_b {T : Tab} {m : Int} (oT : T.Ok) (hm : 0 ≤ m) (hp : ∀ p ∈ T.turn, p.2 < 4 ∧ okB m p.1) (hh : ∀ x ∈ T.head, okB m x) {n : Nat} {a : Int} (e : T.val n = some a) : 0 ≤ a ∧ a < m + 4 * (n : Int) + 1 := by
  by_cases c : n < T.head.length
  · rw [val_lt c, List.getD_eq_getElem?_getD, List.getElem?_eq_getElem c] at e
    have := hh _ (List.getElem_mem c)
    rw [show T.head[n] = some a from e] at this
    have h1 : 0 ≤ a := this.1
    have h2 : a < m := this.2
    omega
  · unfold Tab.val Frm.at' at e
    rw [if_neg c] at e
    have l1 := oT.l1
    have hk : (n - T.head.length) % T.turn.length < T.turn.length := Nat.mod_lt _ (by omega)
    have hq : (n - T.head.length) / T.turn.length ≤ n := Nat.le_trans (Nat.div_le_self _ _) (by omega)
    have hm := Frm.get_mem hk
    have h1 := hp _ hm
    have h2 := oT.hp _ hm
    generalize (n - T.head.length) / T.turn.length = q at *
    generalize Frm.get T.turn ((n - T.head.length) % T.turn.length) = p at *
    obtain ⟨x, r⟩ := p
    cases x with
    | none => cases e
    | some x =>
      have e' : x + (q : Int) * r = a := Option.some.inj e
      have r0 : 0 ≤ r := h2.1
      have r1 : r < 4 := h1.1
      have x1 : 0 ≤ x ∧ x < m := h1.2
      have q1 : (q : Int) * r ≤ (q : Int) * 3 := Int.mul_le_mul_of_nonneg_left (by omega) (by omega)
      have q0 : 0 ≤ (q : Int) * r := Int.mul_nonneg (by omega) r0
      omega
end Ev

set_option Elab.async false
set_option linter.all false
set_option maxRecDepth 100000
namespace Mp
open PySem PySem.Spec PyProof.Rows L2
theorem run_frzH {N : Nat} {b : Sv} {args : List Val} {v u : Val} {h h1 h2 : Hh} (e : b (args.map some ++ List.replicate (N - args.length) none) h = .rt v h1) (hv : v.frz h1 h.length 8 = some u) (hh : h1.take h.length = h2) : runFn N b args h = .ok u h2 := by
  unfold runFn
  rw [e]
  show finV h v h1 = _
  unfold finV
  rw [hv, hh]
theorem bel_pair {l : List Val} {n : Nat} {i : Int} (h : belL n l = true) : (Val.tup [.lst l, .int i]).bel n = true := by
  simp only [Val.bel, belL, h, Bool.and_true]
end Mp
namespace Ev
open PySem PySem.Spec PyProof.Rows L2 Mp
theorem row_loop {x1 x2 : Option Val} : ∀ (items : List Nat) (l : List Val) (X : List (Option Int)), HandOk l → (∀ a ∈ X, okB 9 a) → X.length + items.length ≤ 1000 → ∃ (l' : List Val) (Y : List (Option Int)), HandOk l' ∧ (∀ a ∈ Y, okB 9 a) ∧ Y.length = X.length + items.length ∧
    forL (gName 4) B__law_row_0 [] (items.map fun (n : Nat) => Val.int (n : Int)) [some (.ref 0), x1, x2, some (.ref 1), none, none] [.lst l, .lst (X.map encA)] = .nx [some (.ref 0), x1, x2, some (.ref 1), none, none] [.lst l', .lst (Y.map encA)]
  | [], l, X, ok, hX, _ => ⟨l, X, ok, hX, rfl, by rw [List.map_nil, forL_nil]⟩
  | n :: items, l, X, ok, hX, hz => by
    rw [List.length_cons] at hz
    obtain ⟨l1, a, ok1, ob, e1⟩ := amount_b (h := [.lst l, .lst (X.map encA)]) (k := 0) (m := 9) rfl ok (by decide) (by decide)
    have e1 : F__law_amount [.ref 0, .int 9] [.lst l, .lst (X.map encA)] = .ok (encA a) [.lst l1, .lst (X.map encA)] := e1
    have e2 : appP (.ref 1) [encA a] [.lst l1, .lst (X.map encA)] = .ok .non [.lst l1, .lst ((X ++ [a]).map encA)] := by
      have := app_end (h := [.lst l1]) (n := 1) (l := X.map encA) (v := encA a) rfl (by rw [List.length_map]; omega) (encA_pl _ _)
      rw [List.map_append]
      exact this
    obtain ⟨l', Y, ok', hY, lY, ih⟩ := row_loop (x1 := x1) (x2 := x2) items l1 (X ++ [a]) ok1 (fun b hb => by
      rcases List.mem_append.mp hb with hb | hb
      · exact hX b hb
      · rw [List.mem_singleton.mp hb]; exact ob) (by rw [List.length_append, List.length_singleton]; omega)
    refine ⟨l', Y, ok', hY, by rw [lY, List.length_append, List.length_singleton, List.length_cons]; omega, ?_⟩
    rw [List.map_cons, forL_cons, ← ih]
    generalize (X ++ [a]).map encA = Z at *
    generalize X.map encA = Z0 at *
    simp -implicitDefEqProofs [B__law_row_0, e1, e2, isL, wipeE]
theorem law_row_ok {l : List Val} (ok : HandOk l) : ∃ (l' : List Val) (X : List (Option Int)) (m : Nat), HandOk l' ∧ (∀ a ∈ X, okB 100 a) ∧ 2 ≤ X.length ∧ X.length ≤ 14 ∧ 1 ≤ m ∧ 2 * m ≤ X.length ∧ F__law_row [.ref 0] [.lst l] = .ok (.tup [.lst (X.map encA), .int (m : Int)]) [.lst l'] := by
  obtain ⟨g1, d, ok1, d1, d2, e1⟩ := draw_ok (h := [.lst l]) (k := 0) rfl ok (m := 2) (by decide) (by decide)
  have e1 : F__law_draw [.ref 0, .int 2] [.lst l] = .ok (.int d) [.lst g1] := e1
  by_cases c : d = 0
  · subst c
    obtain ⟨g2, T, ok2, oT, hh, ht, hb1, hb2, e2⟩ := table_b (h := [.lst g1]) (k := 0) (m := 9) (a := 4) (b := 3) (by decide) (by decide) (by decide) (by decide) rfl ok1 (by decide) (by decide)
    have e2 : F__law_table [.ref 0, .int 4, .int 3, .int 9] [.lst g1] = .ok (encT T) [.lst g2] := e2
    obtain ⟨g3, t, ok3, t1, t2, e3⟩ := draw_ok (h := [.lst g2]) (k := 0) rfl ok2 (m := 3) (by decide) (by decide)
    have e3 : F__law_draw [.ref 0, .int 3] [.lst g2] = .ok (.int t) [.lst g3] := e3
    obtain ⟨t, rfl⟩ : ∃ n : Nat, t = (n : Int) := ⟨t.toNat, by omega⟩
    have l1 := oT.l1
    have lA : ∀ h, lenP [.tup (T.head.map encA)] h = .ok (.int (T.head.length : Int)) h := fun h => by rw [len_tup, List.length_map]
    have ix0 := fun h => ixT0 T h
    have ix1 := fun h => ixT1 T h
    have lR := fun h => lenR T.turn h
    have m2 : ∀ h, mulP false (.int 2) (.int (T.turn.length : Int)) h = .ok (.int (2 * (T.turn.length : Int))) h := fun h => mul_sm' (by omega)
    have mx : ∀ h, maxP [.int 2, .int ((T.head.length : Int) + 2 * (T.turn.length : Int) + (t : Int))] h = .ok (.int ((T.head.length + 2 * T.turn.length + t : Nat) : Int)) h := fun h => by
      rw [max2]
      congr 2
      omega
    have rg := fun h => rg1 (n := T.head.length + 2 * T.turn.length + t) (h := h) (by omega)
    have hlen : ((List.range (T.head.length + 2 * T.turn.length + t)).map T.val).length = T.head.length + 2 * T.turn.length + t := by simp
    refine ⟨g3, (List.range (T.head.length + 2 * T.turn.length + t)).map T.val, T.turn.length, ok3, fun a ha => ?_, by omega, by omega, by omega, by omega, ?_⟩
    · obtain ⟨n, hn, rfl⟩ := List.mem_map.mp ha
      have hn' := List.mem_range.mp hn
      cases e : T.val n with
      | none => trivial
      | some a =>
        obtain ⟨v1, v2⟩ := val_b oT (by decide) hb1 hb2 e
        exact ⟨v1, by omega⟩
    · refine run_rtH (h1 := [.lst g3]) ?_ ?_ rfl
      · rw [List.map_map]
        clear hlen hb1 hb2
        have at1 := fun (n : Nat) => at_nat (n := n) (h := [.lst g3]) oT
        generalize hL : T.head.length + 2 * T.turn.length + t = L at *
        have hL2 : L ≤ 1000 := by omega
        generalize encT T = TT at *
        simp -implicitDefEqProofs [S__law_row, e1, e2, e3, ix0, ix1, lA, lR, m2]
        rw [compE (fun (n : Nat) => Val.int (n : Int)) (fun n => encA (T.val n)) (List.range L)]
        rotate_left
        · simp -implicitDefEqProofs [mx, rg]
        · simp; omega
        · intro n hn
          refine ⟨_, rfl, ?_⟩
          simp -implicitDefEqProofs [wipeE, at1 n]
        simp -implicitDefEqProofs [ix1, lR, szz]
      · exact bel_pair (belL_map fun x _ => encA_pl _ _)
  · obtain ⟨g2, t, ok2, t1, t2, e2⟩ := draw_ok (h := [.lst g1, .lst []]) (k := 0) rfl ok1 (m := 13) (by decide) (by decide)
    have e2 : F__law_draw [.ref 0, .int 13] [.lst g1, .lst []] = .ok (.int t) [.lst g2, .lst []] := e2
    obtain ⟨t, rfl⟩ : ∃ n : Nat, t = (n : Int) := ⟨t.toNat, by omega⟩
    obtain ⟨g3, Y, ok3, hY, lY, lp⟩ := row_loop (x1 := none) (x2 := none) (List.range (2 + t)) g2 [] ok2 (fun _ q => nomatch q) (by simp; omega)
    rw [List.length_range, List.length_nil, Nat.zero_add] at lY
    obtain ⟨g4, s, ok4, s1, s2, e4⟩ := draw_ok (h := [.lst g3, .lst (Y.map encA)]) (k := 0) rfl ok3 (m := ((Y.length / 2 : Nat) : Int)) (by omega) (by omega)
    have e4 : F__law_draw [.ref 0, .int ((Y.length / 2 : Nat) : Int)] [.lst g3, .lst (Y.map encA)] = .ok (.int s) [.lst g4, .lst (Y.map encA)] := e4
    obtain ⟨s, rfl⟩ : ∃ n : Nat, s = (n : Int) := ⟨s.toNat, by omega⟩
    refine ⟨g4, Y, 1 + s, ok4, fun a ha => ?_, by omega, by omega, by omega, by omega, ?_⟩
    · have := hY a ha
      cases a with
      | none => trivial
      | some a => exact ⟨this.1, by have := this.2; omega⟩
    · have ln : lenP [.ref 1] [.lst g3, .lst (Y.map encA)] = .ok (.int (Y.length : Int)) [.lst g3, .lst (Y.map encA)] := by
        have := len_end (l := Y.map encA) (h := [.lst g3]) (n := 1) rfl
        rw [List.length_map] at this
        exact this
      have dv : ∀ h, divP (.int (Y.length : Int)) (.int 2) h = .ok (.int ((Y.length / 2 : Nat) : Int)) h := fun h => by rw [div_sm (by decide) (by decide)]; rfl
      have rg : ∀ h, rng1I [.int (2 + (t : Int))] h = .ok ⟨(List.range (2 + t)).map fun (n : Nat) => Val.int (n : Int), []⟩ h := fun h => rg1 (n := 2 + t) (by omega)
      refine run_frzH (v := .tup [.ref 1, .int ((1 + s : Nat) : Int)]) (h1 := [.lst g4, .lst (Y.map encA)]) ?_ ?_ rfl
      · have as : (1 : Int) + (s : Int) = ((1 + s : Nat) : Int) := rfl
        rw [List.map_nil] at lp
        generalize ((Y.length / 2 : Nat) : Int) = HX at *
        generalize (List.range (2 + t)).map (fun (n : Nat) => Val.int (n : Int)) = IT at *
        generalize Y.map encA = YV at *
        clear lY
        rw [← as]
        have mk1 : mk true [] [.lst g1] = .ok (.ref 1) [.lst g1, .lst []] := rfl
        simp -implicitDefEqProofs [-mk_t, S__law_row, e1, c, mk1, e2, rg, x_for, lp, ln, dv, e4, szz]
      · have pY : belL 1 (Y.map encA) = true := belL_map fun _ _ => encA_pl _ _
        unfold Val.frz
        rw [if_neg (by simp [Val.bel, belL])]
        dsimp only
        rw [mapM_some (g := fun v => match v with | .ref _ => .lst (Y.map encA) | v => v)]
        · rfl
        · intro x hx
          simp only [List.mem_cons, List.not_mem_nil, or_false] at hx
          rcases hx with rfl | rfl
          · unfold Val.frz
            rw [if_neg (by simp [Val.bel])]
            dsimp only
            have gx : ([Ob.lst g4, Ob.lst (Y.map encA)] : Hh)[1]? = some (Ob.lst (Y.map encA)) := rfl
            rw [gx]
            dsimp only
            rw [mapM_some (g := fun v => v)]
            · rw [List.map_id', Option.map_some]
            · intro y hy
              obtain ⟨a, _, rfl⟩ := List.mem_map.mp hy
              unfold Val.frz
              rw [if_pos (encA_pl _ _)]
          · unfold Val.frz
            exact if_pos (by simp [Val.bel])
end Ev

set_option Elab.async false
set_option linter.all false
set_option maxRecDepth 100000
namespace Mp
open PySem PySem.Spec PyProof.Rows L2
/-- a whole form's own row gives it back -/
theorem long_tab {W : Tab} {L : Nat} (oW : W.Ok) (h1 : W.head.length + 2 * W.turn.length ≤ L) : rowTab ((List.range L).map W.val) W.turn.length = lawTab W.val (L - W.turn.length) W.turn.length ∧ rowGood ((List.range L).map W.val) W.turn.length = true := by
  have l1 := oW.l1
  have zr := okP_zr oW.hp
  have len : ((List.range L).map W.val).length = L := by simp
  have gd : ∀ n, n < L → ((List.range L).map W.val).getD n none = W.val n := fun n hn => by
    rw [List.getD_eq_getElem?_getD, List.getElem?_map, List.getElem?_range hn]
    rfl
  constructor
  · unfold rowTab lawTab
    rw [len]
    congr 1
    · rw [← List.map_take, List.take_range, Nat.min_eq_left (by omega)]
    · refine List.map_congr_left fun n hn => ?_
      obtain ⟨i, hi, rfl⟩ := List.mem_range'.mp hn
      rw [gd _ (by omega), gd _ (by omega)]
      congr 1
      have hm : W.head.length ≤ L - W.turn.length + 1 * i - W.turn.length := by omega
      have e0 : L - W.turn.length + 1 * i = (L - W.turn.length + 1 * i - W.turn.length) + 1 * W.turn.length := by omega
      generalize L - W.turn.length + 1 * i - W.turn.length = k at *
      rw [e0]
      cases ea : W.val k with
      | none =>
        have v1 := val_turns l1 zr hm 1
        rw [ea] at v1
        rw [v1]
        rfl
      | some a =>
        have v1 := val_turns l1 zr hm 1
        rw [ea] at v1
        have r1 := rise_many (q := 1) l1 zr hm ea
        have r2 := rise_many (q := 1) l1 zr (m := k + 1 * W.turn.length) (by omega) v1
        rw [ea] at r1
        rw [Nat.one_mul W.turn.length] at r2 r1 ⊢
        rw [r1, r2]
        have : Frm.ris W.turn (k + W.turn.length - W.head.length) = Frm.ris W.turn (k - W.head.length) := by
          unfold Frm.ris
          rw [show k + W.turn.length - W.head.length = (k - W.head.length) + W.turn.length by omega, Nat.add_mod_right]
        rw [this]
  · unfold rowGood
    rw [len, List.all_eq_true]
    intro n hn
    obtain ⟨i, hi, rfl⟩ := List.mem_range'.mp hn
    rw [gd _ (by omega), gd _ (by omega)]
    have hm : W.head.length ≤ L - W.turn.length + 1 * i - W.turn.length := by omega
    have e0 : L - W.turn.length + 1 * i = (L - W.turn.length + 1 * i - W.turn.length) + 1 * W.turn.length := by omega
    generalize L - W.turn.length + 1 * i - W.turn.length = k at *
    rw [e0, val_turns l1 zr hm 1]
    cases ea : W.val k with
    | none => rfl
    | some a =>
      show decide (a ≤ a + ((1 : Nat) : Int) * Frm.ris W.turn (k - W.head.length)) = true
      have hp := oW.hp _ (Frm.get_mem (show (k - W.head.length) % W.turn.length < W.turn.length from Nat.mod_lt _ (by omega)))
      have h0 : 0 ≤ Frm.ris W.turn (k - W.head.length) := hp.1
      exact decide_eq_true (by omega)
end Mp

set_option Elab.async false
set_option linter.all false
set_option maxRecDepth 100000
namespace Ev
open PySem PySem.Spec PyProof.Rows L2 Mp
theorem strRow (h : Hh) : neP (.str "row") (.str "row") h = .ok (.bl false) h := ne_str (by decide +kernel)
theorem strLen (h : Hh) : neP (.str "length") (.str "length") h = .ok (.bl false) h := ne_str (by decide +kernel)
theorem strNum (h : Hh) : neP (.str "number") (.str "number") h = .ok (.bl false) h := ne_str (by decide +kernel)
theorem told0 {v w : Val} {h : Hh} (e : F_form_by [v, w] h = .exc ⟨23, []⟩ h) : F__law_told_v03 [.int 0, v, w] h = .ok (.str "row") h := by
  refine run_rt (h1 := h) ?_ rfl List.take_length
  simp -implicitDefEqProofs [S__law_told_v03, e, catchL, xSub]
theorem told0n {v w : Val} {h : Hh} (e : F_form_by [v, w] h = .exc ⟨14, []⟩ h) : F__law_told_v03 [.int 0, v, w] h = .ok (.str "number") h := by
  refine run_rt (h1 := h) ?_ rfl List.take_length
  simp -implicitDefEqProofs [S__law_told_v03, e, catchL, xSub]
theorem told1l {v w : Val} {h : Hh} (e : F_alone [v, w] h = .exc ⟨9, []⟩ h) : F__law_told_v03 [.int 1, v, w] h = .ok (.str "length") h := by
  refine run_rt (h1 := h) ?_ rfl List.take_length
  simp -implicitDefEqProofs [S__law_told_v03, e, catchL, xSub]
theorem told1n {v w : Val} {h : Hh} (e : F_alone [v, w] h = .exc ⟨14, []⟩ h) : F__law_told_v03 [.int 1, v, w] h = .ok (.str "number") h := by
  refine run_rt (h1 := h) ?_ rfl List.take_length
  simp -implicitDefEqProofs [S__law_told_v03, e, catchL, xSub]
theorem form_by_row {v w : Val} {h : Hh} (hd : v.data = true) (b : isRow v = false) : F_form_by [v, w] h = .exc ⟨23, []⟩ h := by
  refine run_exc (h1 := h) (en := [some v, some w, none, none, none]) ?_ List.take_length
  have aa := are_amounts_ok (h := h) hd
  rw [b] at aa
  simp -implicitDefEqProofs [S_form_by, aa]
theorem form_by_num {l : List Val} {w : Val} {h : Hh} (hd : (Val.tup l).data = true) (b : isRow (.tup l) = true) (hw : w.thing = true) (hi : w.isIn 1 (min 120 ((l.length / 2 : Nat) : Int)) = false) : F_form_by [.tup l, w] h = .exc ⟨14, []⟩ h := by
  refine run_exc (h1 := h) (en := [some (.tup l), some w, none, none, none]) ?_ List.take_length
  have aa := are_amounts_ok (h := h) hd
  rw [b] at aa
  have ln : lenP [.tup l] h = .ok (.int (l.length : Int)) h := len_tup _
  have d2 : divP (.int (l.length : Int)) (.int 2) h = .ok (.int ((l.length / 2 : Nat) : Int)) h := by rw [div_sm (by decide) (by decide)]; rfl
  have mn : minP [.int 120, .int ((l.length / 2 : Nat) : Int)] h = .ok (.int (min 120 ((l.length / 2 : Nat) : Int))) h := min2 _ _ _
  have wi := is_within_ok (v := w) (lo := 1) (hi := min 120 ((l.length / 2 : Nat) : Int)) (h := h) hw
  rw [hi] at wi
  clear hi
  generalize min 120 ((l.length / 2 : Nat) : Int) = MN at *
  generalize ((l.length / 2 : Nat) : Int) = HX at *
  generalize (l.length : Int) = LL at *
  generalize Val.tup l = VL at *
  simp -implicitDefEqProofs [S_form_by, aa, ln, d2, mn, wi]
theorem check_number_no {v : Val} {h : Hh} (hv : v.thing = true) (b : v.isNum = false) : F_check_number [v] h = .exc ⟨14, []⟩ h := by
  refine run_exc (h1 := h) (en := [some v]) ?_ List.take_length
  simp -implicitDefEqProofs [S_check_number, is_number_ok hv, b]
/-- the wrong rows -/
def wrongs03 (A : List Val) : List Val := [.non, .lst A, .tup (A.take 1), .tup (List.replicate 1001 .non), .tup (A ++ [.int (-1)]), .tup (A ++ [.bl true]), .tup (A ++ [.str "1"]), .tup []]
theorem wrong03 {A : List Val} (hA : dataL A = true) : ∀ w ∈ wrongs03 A, w.data = true ∧ isRow w = false := by
  have dl : ∀ a b : List Val, dataL (a ++ b) = (dataL a && dataL b) := fun a b => by
    induction a with
    | nil => simp [dataL]
    | cons x a ih => simp [dataL, ih, Bool.and_assoc]
  have dr : ∀ (k : Nat) (x : Val), x.data = true → dataL (List.replicate k x) = true := fun k x hx => dataL_all.mpr fun v hv => by rw [(List.mem_replicate.mp hv).2]; exact hx
  have dt : dataL (A.take 1) = true := dataL_all.mpr fun v hv => dataL_all.mp hA v (List.mem_of_mem_take hv)
  have no : ∀ x : Val, x.isAmt = false → isRow (.tup (A ++ [x])) = false := fun x hx => by
    unfold isRow
    simp [List.all_append, hx]
  intro w hw
  unfold wrongs03 at hw
  simp only [List.mem_cons, List.not_mem_nil, or_false] at hw
  rcases hw with rfl | rfl | rfl | rfl | rfl | rfl | rfl | rfl
  · exact ⟨rfl, rfl⟩
  · exact ⟨by unfold Val.data; exact hA, rfl⟩
  · refine ⟨by unfold Val.data; exact dt, ?_⟩
    unfold isRow
    have : ¬ 2 ≤ (A.take 1).length := by rw [List.length_take]; omega
    simp [this]
    omega
  · refine ⟨by unfold Val.data; exact dr _ _ rfl, ?_⟩
    have : ∀ k, 1000 < k → isRow (.tup (List.replicate k .non)) = false := fun k hk => by
      unfold isRow
      simp
      omega
    exact this 1001 (by decide)
  · exact ⟨by unfold Val.data; rw [dl, hA]; rfl, no _ rfl⟩
  · exact ⟨by unfold Val.data; rw [dl, hA]; rfl, no _ rfl⟩
  · exact ⟨by unfold Val.data; rw [dl, hA]; rfl, no _ rfl⟩
  · exact ⟨rfl, rfl⟩
end Ev

set_option Elab.async false
set_option linter.all false
set_option maxRecDepth 100000
namespace Ev
open PySem PySem.Spec PyProof.Rows L2 Mp
noncomputable def S_law_v03_t7 : Sv :=
  (sSeq (sSet 7 (eFn F__law_least (aCons (eFn F__law_table (aCons (eVar 1) (aCons (eC (.int 4)) (aCons (eC (.int 4)) (aCons (eC (.int 9)) aNil))))) aNil)))
  (sSeq (sSet 8 (eCall lenP (aCons (eOp ixP (eVar 7) (eC (.int 1))) aNil)))
  (sSeq (sSet 9 (eFn F_row_of (aCons (eVar 7) (aCons (eC (.int 0)) (aCons (eOp (addP false) (eOp (addP false) (eCall lenP (aCons (eOp ixP (eVar 7) (eC (.int 0))) aNil)) (eOp (mulP false) (eC (.int 2)) (eVar 8))) (eFn F__law_draw (aCons (eVar 1) (aCons (eC (.int 9)) aNil)))) aNil)))))
  (sSeq (sIf (Mp.tNot (tB (eFn (F__law_is 8) (aCons (eFn F_form_by (aCons (eVar 9) (aCons (eVar 8) aNil))) (aCons (eVar 7) aNil))))) (sRet (eC (.bl false))) sNext)
  (sSeq (sIf (Mp.tOr (Mp.tNot (tB (eFn (F__law_is 8) (aCons (eFn F_never aNil) (aCons (eTup (aCons (eTup aNil) (aCons (eTup (aCons (eTup (aCons (eC .non) (aCons (eC (.int 0)) aNil))) aNil)) aNil))) aNil))))) (Mp.tNot (tB (eFn F__law_alone (aCons (eFn F__law_draw (aCons (eVar 1) (aCons (eC (.int 301)) aNil))) (aCons (eFn F__law_draw (aCons (eVar 1) (aCons (eOp powP (eC (.int 10)) (eC (.int 9))) aNil))) aNil)))))) (sRet (eC (.bl false))) sNext)
  (sSeq (sSet 10 (eComp false [6] (iRng1 (aCons (eCall minP (aCons (eC (.int 8)) (aCons (eCall lenP (aCons (eVar 2) aNil)) aNil))) aNil)) (gName 6) (tB (eOp notNP (eOp ixP (eVar 2) (eVar 6)) (eC .non))) (eFn F_alone (aCons (eVar 6) (aCons (eOp ixP (eVar 2) (eVar 6)) aNil)))))
  (sSeq (sIf (tB (eOp gtP (eCall lenP (aCons (eVar 10) aNil)) (eC (.int 0)))) (sSeq (sSet 11 (eFn F__law_least (aCons (eTup (aCons (eSl false (eVar 2) oNone (oSome (eC (.int 8)))) (aCons (eTup (aCons (eTup (aCons (eC .non) (aCons (eC (.int 0)) aNil))) aNil)) aNil))) aNil)))
  (sIf (Mp.tNot (tB (eFn (F__law_is 8) (aCons (eFn F_lesser_all (aCons (eCall tupleP (aCons (eVar 10) aNil)) aNil)) (aCons (eVar 11) aNil))))) (sRet (eC (.bl false))) sNext)) sNext)
  (sSeq (sFor (iSeq (eLst false (aCons (eC .non) (aCons (eCall (listP false) (aCons (eVar 2) aNil)) (aCons (eSl false (eVar 2) oNone (oSome (eC (.int 1)))) (aCons (eOp (mulQ false) (eTup (aCons (eC .non) aNil)) (eC (.int 1001))) (aCons (eOp (addP false) (eVar 2) (eTup (aCons (eOp subP (eC (.int 0)) (eC (.int 1))) aNil))) (aCons (eOp (addP false) (eVar 2) (eTup (aCons (eC (.bl true)) aNil))) (aCons (eOp (addP false) (eVar 2) (eTup (aCons (eC (.str "1")) aNil))) (aCons (eTup aNil) aNil)))))))))) (gName 12) B_law_v03_1)
  (sSeq (sFor (iSeq (eLst false (aCons (eC (.int 0)) (aCons (eOp (addP false) (eOp divP (eCall lenP (aCons (eVar 2) aNil)) (eC (.int 2))) (eC (.int 1))) (aCons (eC (.int 121)) (aCons (eC (.bl true)) (aCons (eC .non) aNil))))))) (gName 12) B_law_v03_2)
  (sSeq (sFor (iSeq (eLst false (aCons (eC (.int 301)) (aCons (eOp subP (eC (.int 0)) (eC (.int 1))) (aCons (eC (.bl true)) (aCons (eC .non) aNil)))))) (gName 12) B_law_v03_3)
  (sRet (eOp eqP (eCall lenP (aCons (eComp false [13] (iSeq (eLst false (aCons (eOp subP (eC (.int 0)) (eC (.int 1))) (aCons (eC (.bl true)) (aCons (eC .non) (aCons (eC (.str "1")) aNil)))))) (gName 13) (tB (eOp neP (eFn F__law_told_v03 (aCons (eC (.int 1)) (aCons (eC (.int 3)) (aCons (eVar 13) aNil)))) (eC (.str "number")))) (eVar 13)) aNil)) (eC (.int 0))))))))))))))
theorem S_law_v03_t7_eq : S_law_v03 = (sSeq (sSet 1 (eFn F__law_hand (aCons (eVar 0) aNil)))
  (sSeq (sAsg (gTup (gCons (gName 2) (gCons (gName 3) gNil))) (eFn F__law_row (aCons (eVar 1) aNil)))
  (sSeq (sSet 2 (eCall tupleP (aCons (eVar 2) aNil)))
  (sSeq (sSet 4 (eFn F__law_on (aCons (eVar 2) (aCons (eVar 3) aNil))))
  (sSeq (sIf (tB (eOp isNP (eVar 4) (eC .non))) (sIf (tB (eOp neP (eFn F__law_told_v03 (aCons (eC (.int 0)) (aCons (eVar 2) (aCons (eVar 3) aNil)))) (eC (.str "row")))) (sRet (eC (.bl false))) sNext) (sSeq (sSet 5 (eFn F_form_by (aCons (eVar 2) (aCons (eVar 3) aNil))))
  (sSeq (sIf (Mp.tOr (Mp.tNot (tB (eFn (F__law_is 8) (aCons (eVar 5) (aCons (eFn F__law_least (aCons (eVar 4) aNil)) aNil))))) (Mp.tNot (tB (eFn (F__law_is 8) (aCons (eFn F_row_of (aCons (eVar 5) (aCons (eC (.int 0)) (aCons (eCall lenP (aCons (eVar 2) aNil)) aNil)))) (aCons (eVar 2) aNil)))))) (sRet (eC (.bl false))) sNext)
  (sFor (iRng2 (aCons (eCall lenP (aCons (eVar 2) aNil)) (aCons (eOp (addP false) (eCall lenP (aCons (eVar 2) aNil)) (eOp (mulP false) (eC (.int 3)) (eVar 3))) aNil))) (gName 6) B_law_v03_0)))) S_law_v03_t7))))) := rfl
noncomputable def S_law_v03_t12 : Sv :=
  (sSeq (sSet 10 (eComp false [6] (iRng1 (aCons (eCall minP (aCons (eC (.int 8)) (aCons (eCall lenP (aCons (eVar 2) aNil)) aNil))) aNil)) (gName 6) (tB (eOp notNP (eOp ixP (eVar 2) (eVar 6)) (eC .non))) (eFn F_alone (aCons (eVar 6) (aCons (eOp ixP (eVar 2) (eVar 6)) aNil)))))
  (sSeq (sIf (tB (eOp gtP (eCall lenP (aCons (eVar 10) aNil)) (eC (.int 0)))) (sSeq (sSet 11 (eFn F__law_least (aCons (eTup (aCons (eSl false (eVar 2) oNone (oSome (eC (.int 8)))) (aCons (eTup (aCons (eTup (aCons (eC .non) (aCons (eC (.int 0)) aNil))) aNil)) aNil))) aNil)))
  (sIf (Mp.tNot (tB (eFn (F__law_is 8) (aCons (eFn F_lesser_all (aCons (eCall tupleP (aCons (eVar 10) aNil)) aNil)) (aCons (eVar 11) aNil))))) (sRet (eC (.bl false))) sNext)) sNext)
  (sSeq (sFor (iSeq (eLst false (aCons (eC .non) (aCons (eCall (listP false) (aCons (eVar 2) aNil)) (aCons (eSl false (eVar 2) oNone (oSome (eC (.int 1)))) (aCons (eOp (mulQ false) (eTup (aCons (eC .non) aNil)) (eC (.int 1001))) (aCons (eOp (addP false) (eVar 2) (eTup (aCons (eOp subP (eC (.int 0)) (eC (.int 1))) aNil))) (aCons (eOp (addP false) (eVar 2) (eTup (aCons (eC (.bl true)) aNil))) (aCons (eOp (addP false) (eVar 2) (eTup (aCons (eC (.str "1")) aNil))) (aCons (eTup aNil) aNil)))))))))) (gName 12) B_law_v03_1)
  (sSeq (sFor (iSeq (eLst false (aCons (eC (.int 0)) (aCons (eOp (addP false) (eOp divP (eCall lenP (aCons (eVar 2) aNil)) (eC (.int 2))) (eC (.int 1))) (aCons (eC (.int 121)) (aCons (eC (.bl true)) (aCons (eC .non) aNil))))))) (gName 12) B_law_v03_2)
  (sSeq (sFor (iSeq (eLst false (aCons (eC (.int 301)) (aCons (eOp subP (eC (.int 0)) (eC (.int 1))) (aCons (eC (.bl true)) (aCons (eC .non) aNil)))))) (gName 12) B_law_v03_3)
  (sRet (eOp eqP (eCall lenP (aCons (eComp false [13] (iSeq (eLst false (aCons (eOp subP (eC (.int 0)) (eC (.int 1))) (aCons (eC (.bl true)) (aCons (eC .non) (aCons (eC (.str "1")) aNil)))))) (gName 13) (tB (eOp neP (eFn F__law_told_v03 (aCons (eC (.int 1)) (aCons (eC (.int 3)) (aCons (eVar 13) aNil)))) (eC (.str "number")))) (eVar 13)) aNil)) (eC (.int 0)))))))))
theorem S_law_v03_t12_eq : S_law_v03_t7 = (sSeq (sSet 7 (eFn F__law_least (aCons (eFn F__law_table (aCons (eVar 1) (aCons (eC (.int 4)) (aCons (eC (.int 4)) (aCons (eC (.int 9)) aNil))))) aNil)))
  (sSeq (sSet 8 (eCall lenP (aCons (eOp ixP (eVar 7) (eC (.int 1))) aNil)))
  (sSeq (sSet 9 (eFn F_row_of (aCons (eVar 7) (aCons (eC (.int 0)) (aCons (eOp (addP false) (eOp (addP false) (eCall lenP (aCons (eOp ixP (eVar 7) (eC (.int 0))) aNil)) (eOp (mulP false) (eC (.int 2)) (eVar 8))) (eFn F__law_draw (aCons (eVar 1) (aCons (eC (.int 9)) aNil)))) aNil)))))
  (sSeq (sIf (Mp.tNot (tB (eFn (F__law_is 8) (aCons (eFn F_form_by (aCons (eVar 9) (aCons (eVar 8) aNil))) (aCons (eVar 7) aNil))))) (sRet (eC (.bl false))) sNext)
  (sSeq (sIf (Mp.tOr (Mp.tNot (tB (eFn (F__law_is 8) (aCons (eFn F_never aNil) (aCons (eTup (aCons (eTup aNil) (aCons (eTup (aCons (eTup (aCons (eC .non) (aCons (eC (.int 0)) aNil))) aNil)) aNil))) aNil))))) (Mp.tNot (tB (eFn F__law_alone (aCons (eFn F__law_draw (aCons (eVar 1) (aCons (eC (.int 301)) aNil))) (aCons (eFn F__law_draw (aCons (eVar 1) (aCons (eOp powP (eC (.int 10)) (eC (.int 9))) aNil))) aNil)))))) (sRet (eC (.bl false))) sNext) S_law_v03_t12))))) := rfl
noncomputable def S_law_v03_t15 : Sv :=
  (sSeq (sFor (iSeq (eLst false (aCons (eC .non) (aCons (eCall (listP false) (aCons (eVar 2) aNil)) (aCons (eSl false (eVar 2) oNone (oSome (eC (.int 1)))) (aCons (eOp (mulQ false) (eTup (aCons (eC .non) aNil)) (eC (.int 1001))) (aCons (eOp (addP false) (eVar 2) (eTup (aCons (eOp subP (eC (.int 0)) (eC (.int 1))) aNil))) (aCons (eOp (addP false) (eVar 2) (eTup (aCons (eC (.bl true)) aNil))) (aCons (eOp (addP false) (eVar 2) (eTup (aCons (eC (.str "1")) aNil))) (aCons (eTup aNil) aNil)))))))))) (gName 12) B_law_v03_1)
  (sSeq (sFor (iSeq (eLst false (aCons (eC (.int 0)) (aCons (eOp (addP false) (eOp divP (eCall lenP (aCons (eVar 2) aNil)) (eC (.int 2))) (eC (.int 1))) (aCons (eC (.int 121)) (aCons (eC (.bl true)) (aCons (eC .non) aNil))))))) (gName 12) B_law_v03_2)
  (sSeq (sFor (iSeq (eLst false (aCons (eC (.int 301)) (aCons (eOp subP (eC (.int 0)) (eC (.int 1))) (aCons (eC (.bl true)) (aCons (eC .non) aNil)))))) (gName 12) B_law_v03_3)
  (sRet (eOp eqP (eCall lenP (aCons (eComp false [13] (iSeq (eLst false (aCons (eOp subP (eC (.int 0)) (eC (.int 1))) (aCons (eC (.bl true)) (aCons (eC .non) (aCons (eC (.str "1")) aNil)))))) (gName 13) (tB (eOp neP (eFn F__law_told_v03 (aCons (eC (.int 1)) (aCons (eC (.int 3)) (aCons (eVar 13) aNil)))) (eC (.str "number")))) (eVar 13)) aNil)) (eC (.int 0)))))))
theorem S_law_v03_t15_eq : S_law_v03_t12 = (sSeq (sSet 10 (eComp false [6] (iRng1 (aCons (eCall minP (aCons (eC (.int 8)) (aCons (eCall lenP (aCons (eVar 2) aNil)) aNil))) aNil)) (gName 6) (tB (eOp notNP (eOp ixP (eVar 2) (eVar 6)) (eC .non))) (eFn F_alone (aCons (eVar 6) (aCons (eOp ixP (eVar 2) (eVar 6)) aNil)))))
  (sSeq (sIf (tB (eOp gtP (eCall lenP (aCons (eVar 10) aNil)) (eC (.int 0)))) (sSeq (sSet 11 (eFn F__law_least (aCons (eTup (aCons (eSl false (eVar 2) oNone (oSome (eC (.int 8)))) (aCons (eTup (aCons (eTup (aCons (eC .non) (aCons (eC (.int 0)) aNil))) aNil)) aNil))) aNil)))
  (sIf (Mp.tNot (tB (eFn (F__law_is 8) (aCons (eFn F_lesser_all (aCons (eCall tupleP (aCons (eVar 10) aNil)) aNil)) (aCons (eVar 11) aNil))))) (sRet (eC (.bl false))) sNext)) sNext) S_law_v03_t15)) := rfl
end Ev

set_option Elab.async false
set_option linter.all false
set_option maxRecDepth 100000
namespace Ev
open PySem PySem.Spec PyProof.Rows L2 Mp
theorem t15_ok {X : List (Option Int)} (hX : ∀ a ∈ X, okA a) (n1 : 2 ≤ X.length) (n2 : X.length ≤ 14) (x0 x1 x3 x4 x5 x6 x7 x8 x9 x10 x11 : Option Val) (h : Hh) :
    S_law_v03_t15 [x0, x1, some (.tup (X.map encA)), x3, x4, x5, x6, x7, x8, x9, x10, x11, none, none] h = .rt (.bl true) h := by
  have hd : dataL (X.map encA) = true := dataL_map fun _ _ => encA_data _
  have wl := wrong03 hd
  have lenX : (X.map encA).length = X.length := List.length_map ..
  have ls : ∀ h, listP false [.tup (X.map encA)] h = .ok (.lst (X.map encA)) h := fun h => rfl
  have s1 : ∀ h, slP false (.tup (X.map encA)) none (some 1) h = .ok (.tup ((X.map encA).take 1)) h := fun h => sl_take _ _ 1 _
  have mq : ∀ h, mulQ false (.tup [.non]) (.int 1001) h = .ok (.tup (List.replicate 1001 .non)) h := fun h => by
    unfold mulQ
    dsimp only
    rw [if_neg (by simp)]
    exact rep_tup (n := 1001) (by omega) (by omega)
  have ad : ∀ x h, addP false (.tup (X.map encA)) (.tup [x]) h = .ok (.tup (X.map encA ++ [x])) h := fun x h => add_tup (by rw [lenX]; simp; omega)
  have ln : ∀ h, lenP [.tup (X.map encA)] h = .ok (.int (X.length : Int)) h := fun h => by rw [len_tup, lenX]
  have dv : ∀ h, divP (.int (X.length : Int)) (.int 2) h = .ok (.int ((X.length / 2 : Nat) : Int)) h := fun h => by rw [div_sm (by decide) (by decide)]; rfl
  have mn : ∀ h, mulQ false (.tup [.int 1]) (.int (X.length : Int)) h = .ok (.tup (List.replicate X.length (.int 1))) h := fun h => mulQ_none (by omega) _
  have nums : ∀ v ∈ [Val.int 0, .int (((X.length / 2 : Nat) : Int) + 1), .int 121, .bl true, .non], v.thing = true ∧ v.isIn 1 (min 120 (((List.replicate X.length (Val.int 1)).length / 2 : Nat) : Int)) = false := fun v hv => by
    rw [List.length_replicate]
    simp only [List.mem_cons, List.not_mem_nil, or_false] at hv
    rcases hv with rfl | rfl | rfl | rfl | rfl
    · exact ⟨rfl, by unfold Val.isIn; simp⟩
    · refine ⟨rfl, ?_⟩
      unfold Val.isIn
      simp
      omega
    · exact ⟨rfl, by unfold Val.isIn; simp; omega⟩
    · exact ⟨rfl, rfl⟩
    · exact ⟨rfl, rfl⟩
  have ones : isRow (.tup (List.replicate X.length (.int 1))) = true := by
    have e : List.replicate X.length (Val.int 1) = (List.replicate X.length (some (1 : Int))).map encA := by rw [List.map_replicate]; rfl
    rw [e]
    exact isRow_X (fun a ha => by rw [List.eq_of_mem_replicate ha]; exact (by decide : (0 : Int) ≤ 1)) (by simpa using n1) (by simp; omega)
  have oneD : (Val.tup (List.replicate X.length (.int 1))).data = true := by
    unfold Val.data
    exact dataL_all.mpr fun v hv => by rw [(List.mem_replicate.mp hv).2]; rfl
  have fn := fun (v : Val) (hv : v.thing = true ∧ _) (h : Hh) => told0n (form_by_num (h := h) oneD ones hv.1 hv.2)
  have w1 : ∀ v ∈ wrongs03 (X.map encA), ∀ w h, F__law_told_v03 [.int 0, v, w] h = .ok (.str "row") h := fun v hv w h => told0 (form_by_row (wl v hv).1 (wl v hv).2)
  have lens : ∀ v ∈ [Val.int 301, .int (-1), .bl true, .non], ∀ h, F__law_told_v03 [.int 1, v, .non] h = .ok (.str "length") h := fun v hv h => by
    simp only [List.mem_cons, List.not_mem_nil, or_false] at hv
    rcases hv with rfl | rfl | rfl | rfl <;> exact told1l (alone_len rfl (by first | rfl | (unfold Val.isIn; simp)))
  have cnum : ∀ v ∈ [Val.int (-1), .bl true, .non, .str "1"], ∀ h, F__law_told_v03 [.int 1, .int 3, v] h = .ok (.str "number") h := fun v hv h => by
    simp only [List.mem_cons, List.not_mem_nil, or_false] at hv
    rcases hv with rfl | rfl | rfl | rfl <;> exact told1n (alone_num (n := 3) (by decide) (check_number_no rfl (by first | rfl | (unfold Val.isNum; simp))))
  have wd : wrongs03 (X.map encA) = [.non, .lst (X.map encA), .tup ((X.map encA).take 1), .tup (List.replicate 1001 .non), .tup (X.map encA ++ [.int (-1)]), .tup (X.map encA ++ [.bl true]), .tup (X.map encA ++ [.str "1"]), .tup []] := rfl
  rw [wd] at w1
  clear wd wl
  generalize List.replicate 1001 Val.non = Z1 at *
  generalize List.replicate X.length (Val.int 1) = Z2 at *
  generalize (X.map encA).take 1 = Z3 at *
  generalize X.map encA = A at *
  generalize ((X.length / 2 : Nat) : Int) = HX at *
  generalize (X.length : Int) = LX at *
  clear hd lenX hX n1 n2
  simp -implicitDefEqProofs [S_law_v03_t15, ls, s1, mq, ad, szz, x_for, seqI_l]
  rw [for_lit fun v hv => by
    have e := w1 v hv
    refine ⟨_, rfl, .inl ?_⟩
    simp -implicitDefEqProofs [B_law_v03_1, e, strRow, wipeE]]
  simp -implicitDefEqProofs [ln, dv, szz, x_for, seqI_l]
  rw [for_lit fun v hv => by
    have e := fn v (nums v hv)
    refine ⟨_, rfl, .inl ?_⟩
    simp -implicitDefEqProofs [B_law_v03_2, ln, mn, szz, e, strNum, wipeE]]
  simp -implicitDefEqProofs [szz, x_for, seqI_l]
  rw [for_lit fun v hv => by
    have e := lens v hv
    refine ⟨_, rfl, .inl ?_⟩
    simp -implicitDefEqProofs [B_law_v03_3, e, strLen, wipeE]]
  simp -implicitDefEqProofs
  rw [compF (fun v => v) (fun v => v) (fun _ => false) [Val.int (-1), .bl true, .non, .str "1"]]
  rotate_left
  · simp -implicitDefEqProofs [szz, seqI_l]
  · simp
  · intro v hv
    have e := cnum v hv
    refine ⟨_, rfl, ?_, fun z => nomatch z⟩
    simp -implicitDefEqProofs [wipeE, e, strNum]
  simp -implicitDefEqProofs
end Ev

set_option Elab.async false
set_option linter.all false
set_option maxRecDepth 100000
namespace Ev
open PySem PySem.Spec PyProof.Rows L2 Mp
def firstT (X : List (Option Int)) : Tab := ⟨X.take 8, [(none, 0)]⟩
theorem firstT_ok {X : List (Option Int)} (hX : ∀ a ∈ X, okA a) : (firstT X).Ok := by
  refine ⟨by unfold firstT; simp; omega, by unfold firstT; simp, by unfold firstT; simp, fun a ha => hX a (List.mem_of_mem_take ha), fun p hp => ?_⟩
  rw [List.mem_singleton.mp hp]
  exact ⟨by decide, by decide, rfl⟩
theorem firstT_val {X : List (Option Int)} (n : Nat) : (firstT X).val n = if n < min 8 X.length then X.getD n none else none := by
  have hl : (firstT X).head.length = min 8 X.length := by unfold firstT; simp
  by_cases c : n < min 8 X.length
  · rw [val_lt (by rw [hl]; exact c), if_pos c]
    unfold firstT
    dsimp only
    rw [List.getD_eq_getElem?_getD, List.getElem?_take_of_lt (by omega), ← List.getD_eq_getElem?_getD]
  · rw [val_none rfl (by rw [hl]; omega), if_neg c]
abbrev oneC (X : List (Option Int)) (n : Nat) : Int := (X.getD n none).getD 0
abbrev onesN (X : List (Option Int)) : List Nat := (List.range (min 8 X.length)).filter fun n => (X.getD n none).isSome
theorem ones_least {X : List (Option Int)} (hX : ∀ a ∈ X, okB 100 a) {n0 : Nat} {rest : List Nat} (e : onesN X = n0 :: rest) (h : Hh) : F_lesser_all [.tup ((onesN X).map fun n => encT (aloneT n (oneC X n)))] h = .ok (encT (firstT X).least) h := by
  have hX' : ∀ a ∈ X, okA a := fun a ha => okB_A (hX a ha)
  have gd : ∀ n ∈ onesN X, n < 8 ∧ n < X.length ∧ X.getD n none = some (oneC X n) ∧ 0 ≤ oneC X n := fun n hn => by
    obtain ⟨h1, h2⟩ := List.mem_filter.mp hn
    have h3 := List.mem_range.mp h1
    have hm : X.getD n none ∈ X := by
      rw [List.getD_eq_getElem?_getD, List.getElem?_eq_getElem (show n < X.length by omega)]
      exact List.getElem_mem _
    cases q : X.getD n none with
    | none => rw [q] at h2; cases h2
    | some a =>
      have := hX' _ hm
      rw [q] at this
      refine ⟨by omega, by omega, ?_, ?_⟩
      · show some a = some ((X.getD n none).getD 0); rw [q]; rfl
      · show 0 ≤ (X.getD n none).getD 0; rw [q]; exact this
  have nts : ∀ T ∈ (aloneT n0 (oneC X n0)) :: rest.map (fun n => aloneT n (oneC X n)), NT T := fun T hT => by
    have hT' : T ∈ (n0 :: rest).map (fun n => aloneT n (oneC X n)) := hT
    obtain ⟨n, hn, rfl⟩ := List.mem_map.mp hT'
    rw [← e] at hn
    obtain ⟨g1, g2, g3, g4⟩ := gd n hn
    exact alone_nt (by omega) g4
  have l8 : (n0 :: rest).length ≤ 8 := by
    rw [← e]
    refine Nat.le_trans (List.length_filter_le _ _) ?_
    rw [List.length_range]
    exact Nat.min_le_left _ _
  obtain ⟨W, nW, vW, eW⟩ := lesser_all_ok (U := aloneT n0 (oneC X n0)) (Us := rest.map fun n => aloneT n (oneC X n)) (h := h) nts (by rw [List.length_cons, List.length_map]; exact l8)
  have eq : W = (firstT X).least := by
    rw [← nW.form]
    refine Mp.least_uniq nW.ok (firstT_ok hX') fun n => ?_
    rw [vW, firstT_val, List.foldl_map]
    have f := fold_lo (c := oneC X) (n := n) rest ((aloneT n0 (oneC X n0)).val n) (by
      rw [alone_val]
      by_cases q : n = n0
      · rw [if_pos q, q]; exact .inr rfl
      · rw [if_neg q]; exact .inl rfl)
    have g : (fun (x : Option Int) (k : Nat) => Mp.lo x ((aloneT k (oneC X k)).val n)) = fun x k => Mp.lo x (if n = k then some (oneC X k) else none) := by
      funext x k
      rw [alone_val]
    rw [g, f, alone_val]
    have mem : n ∈ onesN X ↔ (n = n0 ∨ n ∈ rest) := by rw [e]; simp
    by_cases q : n ∈ onesN X
    · obtain ⟨g1, g2, g3, g4⟩ := gd n q
      rw [if_pos (show n < min 8 X.length by omega), g3]
      rcases mem.mp q with r | r
      · by_cases s : n ∈ rest
        · rw [if_pos s]
        · rw [if_neg s, if_pos r, r]
      · rw [if_pos r]
    · have r : ¬ (n = n0 ∨ n ∈ rest) := fun z => q (mem.mpr z)
      rw [if_neg (fun z => r (.inr z)), if_neg (fun z => r (.inl z))]
      by_cases c : n < min 8 X.length
      · rw [if_pos c]
        cases q2 : X.getD n none with
        | none => rfl
        | some a => exact absurd (List.mem_filter.mpr ⟨List.mem_range.mpr c, by rw [q2]; rfl⟩) q
      · rw [if_neg c]
  have em : (onesN X).map (fun n => encT (aloneT n (oneC X n))) = ((aloneT n0 (oneC X n0)) :: rest.map fun n => aloneT n (oneC X n)).map encT := by
    rw [e, List.map_cons, List.map_cons, List.map_map]
    rfl
  rw [em, eW, eq]
theorem t12_ok {X : List (Option Int)} (hX : ∀ a ∈ X, okB 100 a) (n1 : 2 ≤ X.length) (n2 : X.length ≤ 14) (x0 x1 x3 x4 x5 x7 x8 x9 : Option Val) (h : Hh) :
    S_law_v03_t12 [x0, x1, some (.tup (X.map encA)), x3, x4, x5, none, x7, x8, x9, none, none, none, none] h = .rt (.bl true) h := by
  have hX' : ∀ a ∈ X, okA a := fun a ha => okB_A (hX a ha)
  have t15 := fun x10 x11 => t15_ok hX' n1 n2 x0 x1 x3 x4 x5 none x7 x8 x9 x10 x11 h
  have ln : ∀ h, lenP [.tup (X.map encA)] h = .ok (.int (X.length : Int)) h := fun h => by rw [len_tup, List.length_map]
  have mn : ∀ h, minP [.int 8, .int (X.length : Int)] h = .ok (.int ((min 8 X.length : Nat) : Int)) h := fun h => by rw [min2]; congr 2; omega
  have rg := fun h => rg1 (n := min 8 X.length) (h := h) (by omega)
  have ixx := fun (n : Nat) (hn : n < X.length) (h : Hh) => ix_X (X := X) hn h
  have cp : eComp false [6] (iRng1 (aCons (eCall minP (aCons (eC (.int 8)) (aCons (eCall lenP (aCons (eVar 2) aNil)) aNil))) aNil)) (gName 6) (tB (eOp notNP (eOp ixP (eVar 2) (eVar 6)) (eC .non))) (eFn F_alone (aCons (eVar 6) (aCons (eOp ixP (eVar 2) (eVar 6)) aNil))) [x0, x1, some (.tup (X.map encA)), x3, x4, x5, none, x7, x8, x9, none, none, none, none] h = .ok (.lst ((onesN X).map fun n => encT (aloneT n (oneC X n)))) h := by
    refine compF (fun (n : Nat) => Val.int (n : Int)) (fun n => encT (aloneT n (oneC X n))) (fun n => (X.getD n none).isSome) (List.range (min 8 X.length)) ?_ (by simp; omega) fun n hn => ?_
    · simp -implicitDefEqProofs [ln, mn, rg]
    · have hn' := List.mem_range.mp hn
      have ix := ixx n (by omega) h
      have hm : X.getD n none ∈ X := by
        rw [List.getD_eq_getElem?_getD, List.getElem?_eq_getElem (show n < X.length by omega)]
        exact List.getElem_mem _
      have ob := hX _ hm
      unfold oneC
      generalize X.map encA = A at *
      generalize X.getD n none = x at *
      refine ⟨_, rfl, ?_, fun q => ?_⟩
      · cases x with
        | none => simp -implicitDefEqProofs only [encA_none] at ix; simp -implicitDefEqProofs [wipeE, ix]
        | some a => simp -implicitDefEqProofs only [encA_some] at ix; simp -implicitDefEqProofs [wipeE, ix]
      · cases x with
        | none => cases q
        | some a =>
          simp -implicitDefEqProofs only [encA_some] at ix
          have b1 : 0 ≤ a := ob.1
          have b2 : a < 100 := ob.2
          have al := alone_fn (n := n) (c := a) (h := h) (by omega) b1 (by omega)
          simp -implicitDefEqProofs [wipeE, ix, al]
  rw [S_law_v03_t15_eq]
  cases e : onesN X with
  | nil =>
    rw [e, List.map_nil] at cp
    clear ixx rg
    generalize X.map encA = A at *
    have t := t15 (some (.lst [])) none
    generalize S_law_v03_t15 = T15 at *
    simp -implicitDefEqProofs [cp, t]
  | cons n0 rest =>
    have le := ones_least hX e
    have dl := fun h => law_least_ok (h := h) (firstT_ok hX')
    have eT : encT (firstT X) = .tup [.tup ((X.take 8).map encA), .tup [.tup [.non, .int 0]]] := rfl
    rw [eT] at dl
    have s8 : ∀ h, slP false (.tup (X.map encA)) none (some 8) h = .ok (.tup ((X.take 8).map encA)) h := fun h => by
      rw [List.map_take]
      exact sl_take _ _ 8 _
    have ii := fun h => is_T (d := 4) (h := h) (least_all (firstT_ok hX')).1
    have hl : ((onesN X).map fun n => encT (aloneT n (oneC X n))).length ≠ 0 := by rw [e]; simp
    clear ixx rg eT
    generalize (onesN X).map (fun n => encT (aloneT n (oneC X n))) = OV at *
    generalize (X.take 8).map encA = A8 at *
    generalize X.map encA = A at *
    generalize encT (firstT X).least = D8 at *
    have t := t15 (some (.lst OV)) (some D8)
    generalize S_law_v03_t15 = T15 at *
    have pos : 0 < OV.length := Nat.pos_of_ne_zero hl
    simp -implicitDefEqProofs [cp, t, le, dl, s8, ii, pos, szz]
end Ev

set_option Elab.async false
set_option linter.all false
set_option maxRecDepth 100000
namespace Ev
open PySem PySem.Spec PyProof.Rows L2 Mp
theorem never_ok (h : Hh) : F_never [] h = .ok (.tup [.tup [], .tup [.tup [.non, .int 0]]]) h := by
  refine run_rt (h1 := h) ?_ rfl List.take_length
  simp -implicitDefEqProofs [S_never]
theorem t7_ok {X : List (Option Int)} {l : List Val} (ok : HandOk l) (hX : ∀ a ∈ X, okB 100 a) (n1 : 2 ≤ X.length) (n2 : X.length ≤ 14) (x0 x3 x4 x5 : Option Val) :
    ∃ g, S_law_v03_t7 [x0, some (.ref 0), some (.tup (X.map encA)), x3, x4, x5, none, none, none, none, none, none, none, none] [.lst l] = .rt (.bl true) g := by
  obtain ⟨l1, T, ok1, oT, hh, ht, r4, ha, e1⟩ := table_b (h := [.lst l]) (k := 0) (m := 9) (a := 4) (b := 4) (by decide) (by decide) (by decide) (by decide) rfl ok (by decide) (by decide)
  have e1 : F__law_table [.ref 0, .int 4, .int 4, .int 9] [.lst l] = .ok (encT T) [.lst l1] := e1
  have r3 : ∀ p ∈ T.turn, p.2 ≤ 3 := fun p hp => by have := (r4 p hp).1; omega
  obtain ⟨oW, vW, fW, lh, lt, _⟩ := least_all oT
  have wl := oW.l1
  obtain ⟨l2, d, ok2, d1, d2, e2⟩ := draw_ok (h := [.lst l1]) (k := 0) rfl ok1 (m := 9) (by decide) (by decide)
  have e2 : F__law_draw [.ref 0, .int 9] [.lst l1] = .ok (.int d) [.lst l2] := e2
  obtain ⟨d, rfl⟩ : ∃ n : Nat, d = (n : Int) := ⟨d.toNat, by omega⟩
  obtain ⟨l3, n, ok3, p1, p2, e3⟩ := draw_ok (h := [.lst l2]) (k := 0) rfl ok2 (m := 301) (by decide) (by decide)
  have e3 : F__law_draw [.ref 0, .int 301] [.lst l2] = .ok (.int n) [.lst l3] := e3
  obtain ⟨n, rfl⟩ : ∃ k : Nat, n = (k : Int) := ⟨n.toNat, by omega⟩
  obtain ⟨l4, c, ok4, c1, c2, e4⟩ := draw_ok (h := [.lst l3]) (k := 0) rfl ok3 (m := 1000000000) (by decide) (by decide)
  have e4 : F__law_draw [.ref 0, .int 1000000000] [.lst l3] = .ok (.int c) [.lst l4] := e4
  have p9 : ∀ h : Hh, powP (.int 10) (.int 9) h = .ok (.int 1000000000) h := fun h => rfl
  have rWT := least_B oT r3
  have lw := fun h => law_least_ok (h := h) oT
  -- the long row
  have iW := fun h => is_T (d := 4) (h := h) oW
  have iN := fun h => is_T (d := 4) (h := h) neverT_ok
  have eN : encT neverT = .tup [.tup [], .tup [.tup [.non, .int 0]]] := rfl
  rw [eN] at iN
  have la := fun h => law_alone_ok (n := n) (c := c) (h := h) (by omega) c1 (by omega)
  generalize T.least = W at *
  have hvl : (W.head.map encA).length = W.head.length := List.length_map ..
  have lR := fun h => lenR W.turn h
  have ix0 := fun h => ixT0 W h
  have ix1 := fun h => ixT1 W h
  have m2 : ∀ h, mulP false (.int 2) (.int (W.turn.length : Int)) h = .ok (.int (2 * (W.turn.length : Int))) h := fun h => mul_sm' (by omega)
  have hL : W.head.length + 2 * W.turn.length + d ≤ 2000 := by omega
  have ro : ∀ h, F_row_of [encT W, .int 0, .int ((W.head.length : Int) + 2 * (W.turn.length : Int) + (d : Int))] h = .ok (.tup (((List.range (W.head.length + 2 * W.turn.length + d)).map W.val).map encA)) h := fun h => by
    have := row_of_ok (T := W) (z := 0) (m := W.head.length + 2 * W.turn.length + d) (h := h) oW (by decide) hL
    have em : ((List.range (W.head.length + 2 * W.turn.length + d)).map fun i => encA (W.val ((0 : Int).toNat + i))) = ((List.range (W.head.length + 2 * W.turn.length + d)).map W.val).map encA := by
      rw [List.map_map]
      refine List.map_congr_left fun i _ => ?_
      show encA (W.val (0 + i)) = encA (W.val i)
      rw [Nat.zero_add]
    rw [em] at this
    exact this
  obtain ⟨lg1, lg2⟩ := long_tab (L := W.head.length + 2 * W.turn.length + d) oW (by omega)
  have lenL : ((List.range (W.head.length + 2 * W.turn.length + d)).map W.val).length = W.head.length + 2 * W.turn.length + d := by simp
  have fb : ∀ h, F_form_by [.tup (((List.range (W.head.length + 2 * W.turn.length + d)).map W.val).map encA), .int (W.turn.length : Int)] h = .ok (encT W) h := fun h => by
    have := (form_by_gen (X := (List.range (W.head.length + 2 * W.turn.length + d)).map W.val) (m := W.turn.length) (h := h) (fun a ha' => by
      obtain ⟨k, _, rfl⟩ := List.mem_map.mp ha'
      cases q : W.val k with
      | none => trivial
      | some v =>
        rw [vW k] at q
        exact (val_b oT (by decide) r4 ha q).1) (by omega) (by omega) wl (by omega) (by omega)).1 lg2
    rw [this, lg1]
    have q := loose_least (b := W.head.length + 2 * W.turn.length + d - W.turn.length) (q := 1) oW rWT (by omega) (by omega) (by omega) (by omega)
    rw [Nat.one_mul] at q
    rw [q.2, fW]
  have t := fun x4 x5 x7 x8 x9 h => t12_ok hX n1 n2 x0 (some (.ref 0)) x3 x4 x5 x7 x8 x9 h
  generalize ((List.range (W.head.length + 2 * W.turn.length + d)).map W.val).map encA = LV at *
  rw [S_law_v03_t12_eq]
  have t1 := t x4 x5 (some (encT W)) (some (.int (W.turn.length : Int))) (some (.tup LV)) [.lst l4]
  clear t lg1 lg2 hL r4 ha
  generalize S_law_v03_t12 = T12 at *
  generalize encT W = WV at *
  generalize encT T = TV at *
  generalize encR W.turn = TR at *
  generalize W.head.map encA = HV at *
  generalize X.map encA = A at *
  refine ⟨[.lst l4], ?_⟩
  simp -implicitDefEqProofs [e1, lw, ix0, ix1, lR, hvl, m2, e2, ro, fb, iW, never_ok, iN, e3, p9, e4, la, t1, szz]
theorem law03_true (ns : List Int) (hl : ns.length ≤ 63) : F_law_v03 [.fz (ns.map .int)] [] = .ok (.bl true) [] := by
  obtain ⟨l0, ok0, e0⟩ := hand_ok (ns := ns) (h := []) hl
  have e0 : F__law_hand [.fz (ns.map Val.int)] [] = .ok (.ref 0) [.lst l0] := e0
  obtain ⟨l1, X, m, ok1, hX, n1, n2, m1, m2, e1⟩ := law_row_ok ok0
  have hX' : ∀ a ∈ X, okA a := fun a ha => okB_A (hX a ha)
  obtain ⟨on1, on2⟩ := law_on_ok (X := X) (m := m) (h := [.lst l1]) (by omega) m1 m2
  obtain ⟨fb1, fb2⟩ := form_by_gen (X := X) (m := m) (h := [.lst l1]) hX' n1 (by omega) m1 m2 (by omega)
  generalize ns.map Val.int = N at *
  have tt : ∀ h, tupleP [.lst (X.map encA)] h = .ok (.tup (X.map encA)) h := fun h => rfl
  cases g : rowGood X m with
  | false =>
    have on := on2 g
    have told := told0 (fb2 g)
    obtain ⟨gg, t⟩ := t7_ok ok1 hX n1 n2 (some (.fz N)) (some (.int (m : Int))) (some .non) none
    refine run_rt (h1 := gg) ?_ rfl rfl
    rw [S_law_v03_t7_eq]
    generalize S_law_v03_t7 = T7 at *
    generalize X.map encA = A at *
    simp -implicitDefEqProofs [e0, e1, tt, on, told, strRow, t]
  | true =>
    have on := on1 g
    have fb := fb1 g
    have oR := rowTab_ok hX' (by omega) m1 m2 (by omega) g (fun a ha => by have := (hX _ ha).2; omega)
    obtain ⟨oL, vL, idL, _⟩ := least_all oR
    have lw := fun h => law_least_ok (h := h) oR
    have iL := fun h => is_T (d := 4) (h := h) oL
    have ro : ∀ h, F_row_of [encT (rowTab X m).least, .int 0, .int (X.length : Int)] h = .ok (.tup (X.map encA)) h := fun h => by
      have := row_of_ok (T := (rowTab X m).least) (z := 0) (m := X.length) (h := h) oL (by decide) (by omega)
      have em : ((List.range X.length).map fun i => encA ((rowTab X m).least.val ((0 : Int).toNat + i))) = X.map encA := by
        refine List.ext_getElem? fun i => ?_
        rw [List.getElem?_map, List.getElem?_map]
        by_cases c : i < X.length
        · rw [List.getElem?_range c, List.getElem?_eq_getElem c]
          show some (encA ((rowTab X m).least.val (0 + i))) = some (encA X[i])
          rw [Nat.zero_add, vL, rowTab_val (by omega) c, List.getD_eq_getElem?_getD, List.getElem?_eq_getElem c]
          rfl
        · rw [List.getElem?_eq_none (by simp; omega), List.getElem?_eq_none (by omega)]
          rfl
      rw [em] at this
      exact this
    have iR := fun h => is_L (l := X) (d := 6) (h := h) (by omega)
    have v1 := fun (n : Nat) (h : Hh) => value_ok (h := h) (T := (rowTab X m).least) (z := (n : Int)) oL (by omega)
    have v2 := fun (n : Nat) (h : Hh) => at_nat (n := n) (h := h) oR
    have iA := fun (a : Option Int) (h : Hh) => is_A (a := a) (d := 7) (h := h)
    simp only [Int.toNat_natCast, vL] at v1
    have ln : (X.map encA).length = X.length := List.length_map ..
    have m3 : ∀ h, mulP false (.int 3) (.int (m : Int)) h = .ok (.int (3 * (m : Int))) h := fun h => mul_sm' (by omega)
    have rg : ∀ h, rng2I [.int (X.length : Int), .int ((X.length : Int) + 3 * (m : Int))] h = .ok ⟨(List.range' X.length (3 * m)).map fun (n : Nat) => Val.int (n : Int), []⟩ h := fun h => rg2 (by omega) (by omega)
    obtain ⟨gg, t⟩ := t7_ok ok1 hX n1 n2 (some (.fz N)) (some (.int (m : Int))) (some (encT (rowTab X m))) (some (encT (rowTab X m).least))
    refine run_rt (h1 := gg) ?_ rfl rfl
    rw [S_law_v03_t7_eq]
    have isN : ∀ h, isNP (encT (rowTab X m)) .non h = .ok (.bl false) h := fun h => rfl
    generalize S_law_v03_t7 = T7 at *
    generalize (rowTab X m).val = V at *
    generalize encT (rowTab X m).least = RL at *
    generalize encT (rowTab X m) = RT at *
    generalize X.map encA = A at *
    clear vL oL idL oR
    simp -implicitDefEqProofs [e0, e1, tt, on, isN, fb, lw, iL, ro, iR, ln, m3, rg, x_for]
    rw [for_same fun n _ => by
      refine ⟨_, rfl, .inl ?_⟩
      simp -implicitDefEqProofs [B_law_v03_0, v1, v2, iA, wipeE]]
    simp -implicitDefEqProofs [t]
end Ev
namespace K03
open Mp
theorem law_true (ns : List Int) (hl : ns.length ≤ 63) (hb : ∀ z ∈ ns, PySem.Builtin.Int.intBits z ≤ 1048576) : Ev.F_law_v03 [.fz (ns.map .int)] [] = .ok (.bl true) [] := Ev.law03_true ns hl
end K03

set_option Elab.async false
open PySem PySem.W PyProof.Rows
set_option maxRecDepth 100000
set_option maxHeartbeats 0 in
theorem PySem.Challenge.cw_everylength_k03_whole_forms_from_rows_holds : PySem.Challenge.rw_everylength_k03_whole_forms_from_rows.Holds := by
  w_on; o_law; k_head; (case hw => w_witness2)
  k_fill
  refine L2.walk_ofB (l := PySem.Challenge.rw_everylength_k03_whole_forms_from_rows) (n := 63) (k := 10) (x := "script") (CX := fun w => L2.CX PySem.Challenge.rw_everylength_k03_whole_forms_from_rows.prog w) (sp := fun w => Mp.spA _ Ev.F_law_v03) rfl (by decide) rfl ⟨rfl, by decide, by decide⟩ (fun w h Y => PySem.W.kIn_of Y) ?F (fun w H a ns hl hb hO hS => Mp.law_sp hO hS (K03.law_true ns hl hb)) (fun w H s e s' q => ?C)
  case F =>
    intro w mg fa h KX G hmg
    refine' K03.law_ok ?_ hmg
    refine' K03.mk_facts KX G ?a0 ?l0 ?c0 ?k0 ?a1 ?l1 ?c1 ?k1 ?a2 ?l2 ?c2 ?k2 ?a3 ?l3 ?c3 ?k3 ?a4 ?l4 ?c4 ?k4 ?a5 ?l5 ?c5 ?k5 ?a6 ?l6 ?c6 ?k6 ?a7 ?l7 ?c7 ?k7 ?a8 ?l8 ?c8 ?k8 ?a9 ?l9 ?c9 ?k9 ?a10 ?l10 ?c10 ?k10 ?a11 ?l11 ?c11 ?k11 ?a12 ?l12 ?c12 ?k12 ?a13 ?l13 ?c13 ?k13 ?a14 ?l14 ?c14 ?k14 ?a15 ?l15 ?c15 ?k15 ?a16 ?l16 ?c16 ?k16 ?a17 ?l17 ?c17 ?k17 ?a18 ?l18 ?c18 ?k18 ?a19 ?l19 ?c19 ?k19 ?a20 ?l20 ?c20 ?k20 ?a21 ?l21 ?c21 ?k21 ?a22 ?l22 ?c22 ?k22 ?a23 ?l23 ?c23 ?k23 ?a24 ?l24 ?c24 ?k24 ?a25 ?l25 ?c25 ?k25 ?a26 ?l26 ?c26 ?k26 ?a27 ?l27 ?c27 ?k27 ?a28 ?l28 ?c28 ?k28 ?a29 ?l29 ?c29 ?k29 ?a30 ?l30 ?c30 ?k30 ?a31 ?l31 ?c31 ?k31 ?a32 ?l32 ?c32 ?k32 ?a33 ?l33 ?c33 ?k33 ?a34 ?l34 ?c34 ?k34 ?a35 ?l35 ?c35 ?k35 ?a36 ?l36 ?c36 ?k36 ?a37 ?l37 ?c37 ?k37 ?a38 ?l38 ?c38 ?k38 ?a39 ?l39 ?c39 ?k39 ?a40 ?l40 ?c40 ?k40 ?a41 ?l41 ?c41 ?k41 ?a42 ?l42 ?c42 ?k42 ?a43 ?l43 ?c43 ?k43 ?a44 ?l44 ?c44 ?k44 ?a45 ?l45 ?c45 ?k45 ?a46 ?l46 ?c46 ?k46 ?a47 ?l47 ?c47 ?k47 ?a48 ?l48 ?c48 ?k48 ?a49 ?l49 ?c49 ?k49 ?z_int ?z_isinstance ?z_bool ?z_tuple ?z_len ?z_all ?z_range ?z_list ?z_min ?z_zip ?z_enumerate ?z_max ?z_abs ?z_str ?c_MOST_HEAD ?c_MOST_ROUND ?c_MOST_SHORT ?c_MOST_ROW ?c_NEVER ?l_NEVER ?l_NEVER_0 ?l_NEVER_1 ?l_NEVER_1_0 ?c_MOST_SHIFT ?c_MOST_WORK ?c_MOST_FORMS ?xa_NoTable ?xe_NoTable ?xk_NoTable ?xs_NoTable ?xt_NoTable ?xa_NoLength ?xe_NoLength ?xk_NoLength ?xs_NoLength ?xt_NoLength ?xa_NoNumber ?xe_NoNumber ?xk_NoNumber ?xs_NoNumber ?xt_NoNumber ?xa_NoRow ?xe_NoRow ?xk_NoRow ?xs_NoRow ?xt_NoRow ?xa_NoForms ?xe_NoForms ?xk_NoForms ?xs_NoForms ?xt_NoForms ?xa_TooMany ?xL_TooMany ?xsa_TooMany ?xs_TooMany ?xt_TooMany ?xk_TooMany ?xi1_TooMany ?xi2_TooMany ?xi3_TooMany ?xl_TooMany ?xc_TooMany ?xkf_TooMany ?xi_NoLength ?xi_NoNumber ?xi_NoRow ?xi_TooMany ?xp_9_9 ?xp_9_14 ?xp_9_23 ?xp_9_41 ?xp_14_9 ?xp_14_14 ?xp_14_23 ?xp_14_41 ?xp_23_9 ?xp_23_14 ?xp_23_23 ?xp_23_41 ?xp_41_9 ?xp_41_14 ?xp_41_23 ?xp_41_41
    (case a0 => k_is); (case l0 => k_is); (case c0 => k_is); (case k0 => k_is); (case a1 => k_is); (case l1 => k_is); (case c1 => k_is); (case k1 => k_is); (case a2 => k_is); (case l2 => k_is); (case c2 => k_is); (case k2 => k_is); (case a3 => k_is); (case l3 => k_is); (case c3 => k_is); (case k3 => k_is); (case a4 => k_is); (case l4 => k_is); (case c4 => k_is); (case k4 => k_is); (case a5 => k_is); (case l5 => k_is); (case c5 => k_is); (case k5 => k_is); (case a6 => k_is); (case l6 => k_is); (case c6 => k_is); (case k6 => k_is); (case a7 => k_is); (case l7 => k_is); (case c7 => k_is); (case k7 => k_is); (case a8 => k_is); (case l8 => k_is); (case c8 => k_is); (case k8 => k_is); (case a9 => k_is); (case l9 => k_is); (case c9 => k_is); (case k9 => k_is); (case a10 => k_is); (case l10 => k_is); (case c10 => k_is); (case k10 => k_is); (case a11 => k_is); (case l11 => k_is); (case c11 => k_is); (case k11 => k_is); (case a12 => k_is); (case l12 => k_is); (case c12 => k_is); (case k12 => k_is); (case a13 => k_is); (case l13 => k_is); (case c13 => k_is); (case k13 => k_is); (case a14 => k_is); (case l14 => k_is); (case c14 => k_is); (case k14 => k_is); (case a15 => k_is); (case l15 => k_is); (case c15 => k_is); (case k15 => k_is); (case a16 => k_is); (case l16 => k_is); (case c16 => k_is); (case k16 => k_is); (case a17 => k_is); (case l17 => k_is); (case c17 => k_is); (case k17 => k_is); (case a18 => k_is); (case l18 => k_is); (case c18 => k_is); (case k18 => k_is); (case a19 => k_is); (case l19 => k_is); (case c19 => k_is); (case k19 => k_is); (case a20 => k_is); (case l20 => k_is); (case c20 => k_is); (case k20 => k_is); (case a21 => k_is); (case l21 => k_is); (case c21 => k_is); (case k21 => k_is); (case a22 => k_is); (case l22 => k_is); (case c22 => k_is); (case k22 => k_is); (case a23 => k_is); (case l23 => k_is); (case c23 => k_is); (case k23 => k_is); (case a24 => k_is); (case l24 => k_is); (case c24 => k_is); (case k24 => k_is); (case a25 => k_is); (case l25 => k_is); (case c25 => k_is); (case k25 => k_is); (case a26 => k_is); (case l26 => k_is); (case c26 => k_is); (case k26 => k_is); (case a27 => k_is); (case l27 => k_is); (case c27 => k_is); (case k27 => k_is); (case a28 => k_is); (case l28 => k_is); (case c28 => k_is); (case k28 => k_is); (case a29 => k_is); (case l29 => k_is); (case c29 => k_is); (case k29 => k_is); (case a30 => k_is); (case l30 => k_is); (case c30 => k_is); (case k30 => k_is); (case a31 => k_is); (case l31 => k_is); (case c31 => k_is); (case k31 => k_is); (case a32 => k_is); (case l32 => k_is); (case c32 => k_is); (case k32 => k_is); (case a33 => k_is); (case l33 => k_is); (case c33 => k_is); (case k33 => k_is); (case a34 => k_is); (case l34 => k_is); (case c34 => k_is); (case k34 => k_is); (case a35 => k_is); (case l35 => k_is); (case c35 => k_is); (case k35 => k_is); (case a36 => k_is); (case l36 => k_is); (case c36 => k_is); (case k36 => k_is); (case a37 => k_is); (case l37 => k_is); (case c37 => k_is); (case k37 => k_is); (case a38 => k_is); (case l38 => k_is); (case c38 => k_is); (case k38 => k_is); (case a39 => k_is); (case l39 => k_is); (case c39 => k_is); (case k39 => k_is); (case a40 => k_is); (case l40 => k_is); (case c40 => k_is); (case k40 => k_is); (case a41 => k_is); (case l41 => k_is); (case c41 => k_is); (case k41 => k_is); (case a42 => k_is); (case l42 => k_is); (case c42 => k_is); (case k42 => k_is); (case a43 => k_is); (case l43 => k_is); (case c43 => k_is); (case k43 => k_is); (case a44 => k_is); (case l44 => k_is); (case c44 => k_is); (case k44 => k_is); (case a45 => k_is); (case l45 => k_is); (case c45 => k_is); (case k45 => k_is); (case a46 => k_is); (case l46 => k_is); (case c46 => k_is); (case k46 => k_is); (case a47 => k_is); (case l47 => k_is); (case c47 => k_is); (case k47 => k_is); (case a48 => k_is); (case l48 => k_is); (case c48 => k_is); (case k48 => k_is); (case a49 => k_is); (case l49 => k_is); (case c49 => k_is); (case k49 => k_is); (case z_int => k_is); (case z_isinstance => k_is); (case z_bool => k_is); (case z_tuple => k_is); (case z_len => k_is); (case z_all => k_is); (case z_range => k_is); (case z_list => k_is); (case z_min => k_is); (case z_zip => k_is); (case z_enumerate => k_is); (case z_max => k_is); (case z_abs => k_is); (case z_str => k_is); (case c_MOST_HEAD => k_is); (case c_MOST_ROUND => k_is); (case c_MOST_SHORT => k_is); (case c_MOST_ROW => k_is); (case c_NEVER => k_is); (case l_NEVER => k_is); (case l_NEVER_0 => k_is); (case l_NEVER_1 => k_is); (case l_NEVER_1_0 => k_is); (case c_MOST_SHIFT => k_is); (case c_MOST_WORK => k_is); (case c_MOST_FORMS => k_is); (case xa_NoTable => k_is); (case xe_NoTable => k_exc); (case xk_NoTable => k_is); (case xs_NoTable => k_is); (case xt_NoTable => k_is); (case xa_NoLength => k_is); (case xe_NoLength => k_exc); (case xk_NoLength => k_is); (case xs_NoLength => k_is); (case xt_NoLength => k_is); (case xa_NoNumber => k_is); (case xe_NoNumber => k_exc); (case xk_NoNumber => k_is); (case xs_NoNumber => k_is); (case xt_NoNumber => k_is); (case xa_NoRow => k_is); (case xe_NoRow => k_exc); (case xk_NoRow => k_is); (case xs_NoRow => k_is); (case xt_NoRow => k_is); (case xa_NoForms => k_is); (case xe_NoForms => k_exc); (case xk_NoForms => k_is); (case xs_NoForms => k_is); (case xt_NoForms => k_is); (case xa_TooMany => k_is); (case xL_TooMany => k_is); (case xsa_TooMany => k_is); (case xs_TooMany => k_is); (case xt_TooMany => k_is); (case xk_TooMany => k_is); (case xi1_TooMany => k_is); (case xi2_TooMany => k_is); (case xi3_TooMany => k_is); (case xl_TooMany => k_is); (case xc_TooMany => k_is); (case xkf_TooMany => k_is); (case xi_NoLength => k_is); (case xi_NoNumber => k_is); (case xi_NoRow => k_is); (case xi_TooMany => k_is); (case xp_9_9 => first | rfl | k_is); (case xp_9_14 => first | rfl | k_is); (case xp_9_23 => first | rfl | k_is); (case xp_9_41 => first | rfl | k_is); (case xp_14_9 => first | rfl | k_is); (case xp_14_14 => first | rfl | k_is); (case xp_14_23 => first | rfl | k_is); (case xp_14_41 => first | rfl | k_is); (case xp_23_9 => first | rfl | k_is); (case xp_23_14 => first | rfl | k_is); (case xp_23_23 => first | rfl | k_is); (case xp_23_41 => first | rfl | k_is); (case xp_41_9 => first | rfl | k_is); (case xp_41_14 => first | rfl | k_is); (case xp_41_23 => first | rfl | k_is); (case xp_41_41 => first | rfl | k_is)
  case C =>
    obtain ⟨_, _, _, _, _, _, _, _, _, _, _, _, z⟩ := q
    exact z.elim
