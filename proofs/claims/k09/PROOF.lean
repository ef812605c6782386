import PyProof.Rows.All
import Wide.All
import OpenK.AllK
import Wide.FinOn
import HandS.ForMost
import HandS.ForExc
import HandS.IsInst
import HandS.Small
import HandS.TryMany
import HandS.TupAny
import HandS.TupMul
import HandS.Style
import HandS.Zip
import HandS.Wide
import HandS.Deep
import HandS.Lambda
import HandS.Dict
import PyProof.ReprRoads
import HandS.EndTab
import HandS.EndBits
import HandS.ExcInit
import HandS.ExcField
import HandS.Conv
import KE.KMinKey
import HandS.SortKw
import HandS.SetKeys
import HandS.TupLen
import PyProof.DictMoreH
import PyProof.P3In
import HandS.DictComp
import KE.KNest
import PySem.Challenge.RW_everylength_k09_whole_windings_unwound
import PyProof.Rows.StrJoinMade
set_option Elab.async false
set_option linter.all false
set_option maxRecDepth 100000
/-! Mp: mini Python. Values by value, mutable lists in a small heap; each combinator is sound for the machine (by HandS's rules). -/
namespace Mp
open PySem PySem.Spec PyProof.Rows L2
abbrev St := L2.St

/-- the built-in classes that are asked for -/
inductive Ty where
  | non | bl | int | str | tup | lst | dct
  deriving DecidableEq
def Ty.nm : Ty → String
  | .non => "NoneType" | .bl => "bool" | .int => "int" | .str => "str" | .tup => "tuple" | .lst => "list" | .dct => "dict"
/-- a key of a dict: an int, a text, a tuple of such -/
inductive DK where
  | int (i : Int) | str (s : Str) | tup (l : List L2.Key)
  deriving DecidableEq
/-- a value: tuples, frozen lists, frozen dicts by value; `fz`: a list that is only read (the script); `ref`, `dref`: a list, a dict that may change; `fn`: a def by its name -/
inductive Val where
  | non | bl (b : Bool) | int (i : Int) | str (s : Str) | tup (l : List Val) | lst (l : List Val) | fz (l : List Val) | ref (n : Nat) | ty (t : Ty)
  | fn (x : Str) | dic (ks : List DK) (vs : List Val) | dref (n : Nat)
inductive Ob where
  | lst (l : List Val) | dct (ks : List DK) (vs : List Val)
def kVal : L2.Key → Val
  | .inl i => .int i
  | .inr s => .str s
def DK.ofK : L2.Key → DK
  | .inl i => .int i
  | .inr s => .str s
def DK.val : DK → Val
  | .int i => .int i
  | .str s => .str s
  | .tup l => .tup (l.map kVal)
/-- the tables of code objects: the code object, its table, the name that the table's code objects bear -/
class Tb where
  cs : List (Addr × Addr × Str)
abbrev Tb.τ [Tb] : List (Addr × Str) := Tb.cs.map fun c => (c.2.1, c.2.2)
abbrev Hh := List Ob
abbrev Env := List (Option Val)
/-- the program's error classes by number; 0 is the base of all -/
def xNms : List Str := (["LengthError", "BadText", "NoArc", "NoAxiom", "NoExpression", "NoExpressions", "NoFlags", "NoForm", "NoForms", "NoLength", "NoLevels", "NoLot", "NoNet", "NoNode", "NoNumber", "NoOrder", "NoPacks", "NoPair", "NoPaper", "NoPath", "NoPlan", "NoRank", "NoRate", "NoRow", "NoScheme", "NoSet", "NoSheet", "NoStations", "NoStep", "NoTable", "NoTale", "NoTime", "NoTimed", "NoToken", "NoTrip", "NoTrips", "NoTwins", "NoWalk", "NoWinding", "NoWord", "NotCut", "TooMany"] : List String).map Str.ofString
def xNm (n : Nat) : Str := xNms.getD n "?"
def xSub (a c : Nat) : Bool := decide (a = c) || decide (c = 0)
structure Ex where
  cls : Nat
  fs : List (Str × Val)

mutual
def Val.bel (n : Nat) : Val → Bool
  | .tup l => belL n l
  | .lst l => belL n l
  | .fz l => belL n l
  | .ref k => decide (k < n)
  | .non => true
  | .bl _ => true
  | .int _ => true
  | .str _ => true
  | .ty _ => true
  | .fn _ => true
  | .dic _ l => belL n l
  | .dref k => decide (k < n)
def belL (n : Nat) : List Val → Bool
  | [] => true
  | v :: l => v.bel n && belL n l
end
def Ob.bel (n : Nat) : Ob → Bool
  | .lst l => belL n l
  | .dct _ l => belL n l

/-! ### results -/
inductive R (α : Type) where
  | ok (a : α) (h : Hh) | exc (e : Ex) (h : Hh) | bad
abbrev Out (β : Type) {α : Type} (_ : α → Hh → R β) : Type := R β
def R.bnd {α β : Type} (r : R α) (f : α → Hh → R β) : Out β f := match r with
  | .ok a h => f a h
  | .exc e h => .exc e h
  | .bad => .bad
@[simp] theorem R.bnd_ok {α β : Type} (a : α) (h : Hh) (f : α → Hh → R β) : (R.ok a h).bnd f = f a h := rfl
@[simp] theorem R.bnd_exc {α β : Type} (e : Ex) (h : Hh) (f : α → Hh → R β) : (R.exc e h : R α).bnd f = .exc e h := rfl
@[simp] theorem R.bnd_bad {α β : Type} (f : α → Hh → R β) : (R.bad : R α).bnd f = .bad := rfl
abbrev Ev := Env → Hh → R Val
abbrev Tv := Env → Hh → R Bool
abbrev Av := Env → Hh → R (List Val)
inductive SR where
  | nx (e : Env) (h : Hh) | rt (v : Val) (h : Hh) | bk (e : Env) (h : Hh) | ct (e : Env) (h : Hh) | exc (x : Ex) (e : Env) (h : Hh) | bad
abbrev Sv := Env → Hh → SR

/-! ### the relation with the abstract heap -/
/-- ρ: the machine's addresses of the small heap's lists; β: further addresses that may change -/
structure Tr where
  ρ : List Addr
  β : List Addr
/-- a list, a dict, another thing -/
def knd : Option HO → Nat
  | some (.lst _) => 1
  | some (.dK _) => 2
  | some (.dT _) => 2
  | _ => 0
def Tr.ban (T : Tr) (a : Addr) : Prop := a ∈ T.ρ ∨ a ∈ T.β
/-- a tuple of the written part -/
def WrT (K : PySem.W.Frag) (a : Addr) (xs : List V) : Prop :=
  ∃ (o : Obj) (its : Array Value) (n : Nat), K.lookup a = some o ∧ o.cls = .type "tuple" ∧ o.data = .seq its n ∧ its.size ≤ sizeLine ∧ Vals xs its.toList
/-- a list of the written part -/
def WrL (K : PySem.W.Frag) (a : Addr) (xs : List V) : Prop :=
  ∃ (o : Obj) (its : Array Value) (n : Nat), K.lookup a = some o ∧ o.cls = .type "list" ∧ o.dict = none ∧ o.data = .seq its n ∧ its.size ≤ sizeLine ∧ Vals xs its.toList
/-- tuples of the written part are no keys of dicts -/
def noKey : List Val → Bool
  | .int _ :: _ :: _ => false
  | _ => true
mutual
inductive RepV (K : PySem.W.Frag) (H : Hp) (T : Tr) : Val → V → Prop
  | non : RepV K H T .non .non
  | bl (b : Bool) : RepV K H T (.bl b) (.bl b)
  | int (i : Int) : RepV K H T (.int i) (.int i)
  | str (s : Str) : RepV K H T (.str s) (.str s)
  | ty (t : Ty) : RepV K H T (.ty t) (.ty t.nm)
  | tup {a : Addr} {xs : List V} {vs : List Val} (h : (¬ T.ban a ∧ H a = some (.tup xs)) ∨ (WrT K a xs ∧ noKey vs = true)) (r : RepL K H T vs xs) : RepV K H T (.tup vs) (.ref a)
  | lst {a : Addr} {xs : List V} {vs : List Val} (b : ¬ T.ban a) (h : H a = some (.lst xs)) (r : RepL K H T vs xs) : RepV K H T (.lst vs) (.ref a)
  | fz {a : Addr} {xs : List V} {vs : List Val} (h : (¬ T.ban a ∧ ∃ o, H a = some (.frz o (.lst xs))) ∨ WrL K a xs) (r : RepL K H T vs xs) : RepV K H T (.fz vs) (.ref a)
  | ref {n : Nat} {a : Addr} (h : T.ρ[n]? = some a) (k : knd (H a) = 1) : RepV K H T (.ref n) (.ref a)
  | fn {x : Str} {a : Addr} (h : PySem.W.nsIn K mainGlobals x = some (some (.ref a))) : RepV K H T (.fn x) (.ref a)
  | dicK {a : Addr} {l : List (L2.Key × V)} {vs : List Val} (b : ¬ T.ban a) (h : H a = some (.dK l)) (r : RepL K H T vs (l.map (·.2))) : RepV K H T (.dic (l.map fun p => DK.ofK p.1) vs) (.ref a)
  | dicT {a : Addr} {l : List (List L2.Key × V)} {vs : List Val} (b : ¬ T.ban a) (h : H a = some (.dT l)) (r : RepL K H T vs (l.map (·.2))) : RepV K H T (.dic (l.map fun p => DK.tup p.1) vs) (.ref a)
  | dref {n : Nat} {a : Addr} (h : T.ρ[n]? = some a) (k : knd (H a) = 2) : RepV K H T (.dref n) (.ref a)
inductive RepL (K : PySem.W.Frag) (H : Hp) (T : Tr) : List Val → List V → Prop
  | nil : RepL K H T [] []
  | cons {v : Val} {x : V} {vs : List Val} {xs : List V} (h : RepV K H T v x) (r : RepL K H T vs xs) : RepL K H T (v :: vs) (x :: xs)
end

/-- tracked, and no table of code objects -/
def lv : Option HO → Bool
  | none => false
  | some (.tbl _) => false
  | _ => true
theorem lv_some {o : HO} (n : ∀ ps, o ≠ .tbl ps) : lv (some o) = true := by
  cases o with
  | tbl ps => exact absurd rfl (n ps)
  | _ => rfl
structure Step (T : Tr) (H : Hp) (T' : Tr) (H' : Hp) : Prop where
  ext : ∃ δ, T'.ρ = T.ρ ++ δ ∧ ∀ b ∈ δ, lv (H b) = false
  same : ∃ ε, T'.β = ε ++ T.β ∧ ∀ b ∈ ε, lv (H b) = false
  frm : ∀ b o, H b = some o → b ∉ T.ρ → (∀ ps, o ≠ .tbl ps) → H' b = some o
  liv : ∀ b, lv (H b) = true → lv (H' b) = true
  kd : ∀ b, b ∈ T.ρ → knd (H b) ≠ 0 → knd (H' b) = knd (H b)
theorem Step.refl (T : Tr) (H : Hp) : Step T H T H := ⟨⟨[], by simp, by simp⟩, ⟨[], rfl, by simp⟩, fun _ _ h _ _ => h, fun _ h => h, fun _ _ _ => rfl⟩
theorem Step.trans {T T1 T2 : Tr} {H H1 H2 : Hp} (a : Step T H T1 H1) (b : Step T1 H1 T2 H2) : Step T H T2 H2 := by
  obtain ⟨δ, e1, f1⟩ := a.ext
  obtain ⟨δ2, e2, f2⟩ := b.ext
  obtain ⟨ε, e3, f3⟩ := a.same
  obtain ⟨ε2, e4, f4⟩ := b.same
  refine ⟨⟨δ ++ δ2, by rw [e2, e1, List.append_assoc], fun c hc => ?_⟩, ⟨ε2 ++ ε, by rw [e4, e3, List.append_assoc], fun c hc => ?_⟩, fun c o h n nt => ?_, fun c h => b.liv c (a.liv c h), fun c hc k => by
    have e := a.kd c hc k
    rw [b.kd c (by rw [e1]; exact List.mem_append_left _ hc) (by rw [e]; exact k), e]⟩
  rotate_left
  · rcases List.mem_append.mp hc with h | h
    · cases q : lv (H c) with
      | false => rfl
      | true => have z := a.liv c q; rw [f4 c h] at z; cases z
    · exact f3 c h
  rotate_right
  · rcases List.mem_append.mp hc with h | h
    · exact f1 c h
    · cases q : lv (H c) with
      | false => rfl
      | true => have z := a.liv c q; rw [f2 c h] at z; cases z
  · refine b.frm c o (a.frm c o h n nt) (fun q => ?_) nt
    rw [e1] at q
    rcases List.mem_append.mp q with q | q
    · exact n q
    · have z := f1 c q; rw [h, lv_some nt] at z; cases z
theorem Step.ban {T T' : Tr} {H H' : Hp} (s : Step T H T' H') {a : Addr} (h : lv (H a) = true) : T'.ban a → T.ban a := by
  obtain ⟨δ, e1, f1⟩ := s.ext
  rintro (q | q)
  · rw [e1] at q
    rcases List.mem_append.mp q with q | q
    · exact .inl q
    · have z := f1 a q; rw [h] at z; cases z
  · obtain ⟨ε, e2, f2⟩ := s.same
    rw [e2] at q
    rcases List.mem_append.mp q with q | q
    · have z := f2 a q; rw [h] at z; cases z
    · exact .inr q
mutual
theorem RepV.step {K : PySem.W.Frag} {T T' : Tr} {H H' : Hp} (s : Step T H T' H') : ∀ {v : Val} {x : V}, RepV K H T v x → RepV K H' T' v x
  | _, _, .non => .non
  | _, _, .bl b => .bl b
  | _, _, .int b => .int b
  | _, _, .str b => .str b
  | _, _, .ty b => .ty b
  | _, _, .tup (.inl ⟨n, h⟩) r => .tup (.inl ⟨fun q => n (s.ban (by rw [h]; rfl) q), s.frm _ _ h (fun q => n (.inl q)) nofun⟩) (r.step s)
  | _, _, .tup (.inr h) r => .tup (.inr h) (r.step s)
  | _, _, .lst n h r => .lst (fun q => n (s.ban (by rw [h]; rfl) q)) (s.frm _ _ h (fun q => n (.inl q)) nofun) (r.step s)
  | _, _, .fz (.inl ⟨n, o, h⟩) r => .fz (.inl ⟨fun q => n (s.ban (by rw [h]; rfl) q), o, s.frm _ _ h (fun q => n (.inl q)) nofun⟩) (r.step s)
  | _, _, .fz (.inr h) r => .fz (.inr h) (r.step s)
  | _, _, .ref (n := n) h k => .ref (by
      obtain ⟨δ, e, _⟩ := s.ext
      rw [e, List.getElem?_append_left (List.getElem?_eq_some_iff.mp h).1]; exact h) (by rw [s.kd _ (List.mem_of_getElem? h) (by rw [k]; decide)]; exact k)
  | _, _, .dref (n := n) h k => .dref (by
      obtain ⟨δ, e, _⟩ := s.ext
      rw [e, List.getElem?_append_left (List.getElem?_eq_some_iff.mp h).1]; exact h) (by rw [s.kd _ (List.mem_of_getElem? h) (by rw [k]; decide)]; exact k)
  | _, _, .fn h => .fn h
  | _, _, .dicK n h r => .dicK (fun q => n (s.ban (by rw [h]; rfl) q)) (s.frm _ _ h (fun q => n (.inl q)) nofun) (r.step s)
  | _, _, .dicT n h r => .dicT (fun q => n (s.ban (by rw [h]; rfl) q)) (s.frm _ _ h (fun q => n (.inl q)) nofun) (r.step s)
theorem RepL.step {K : PySem.W.Frag} {T T' : Tr} {H H' : Hp} (s : Step T H T' H') : ∀ {vs : List Val} {xs : List V}, RepL K H T vs xs → RepL K H' T' vs xs
  | _, _, .nil => .nil
  | _, _, .cons h r => .cons (h.step s) (r.step s)
end
section
variable {K : PySem.W.Frag} {T : Tr} {H : Hp}
theorem RepL.length : ∀ {vs : List Val} {xs : List V}, RepL K H T vs xs → xs.length = vs.length
  | _, _, .nil => rfl
  | _, _, .cons _ r => by simp [r.length]
theorem RepL.get : ∀ {vs : List Val} {xs : List V} {i : Nat} {v : Val}, RepL K H T vs xs → vs[i]? = some v → ∃ x, xs[i]? = some x ∧ RepV K H T v x
  | _, _, _, _, .nil, e => by simp at e
  | _, _, 0, _, .cons h _, e => by simp at e; subst e; exact ⟨_, rfl, h⟩
  | _, _, i + 1, v, .cons _ r, e => by
    obtain ⟨x, h1, h2⟩ := r.get (i := i) (v := v) (by simpa using e)
    exact ⟨x, by simpa using h1, h2⟩
theorem RepL.append : ∀ {vs ws : List Val} {xs ys : List V}, RepL K H T vs xs → RepL K H T ws ys → RepL K H T (vs ++ ws) (xs ++ ys)
  | _, _, _, _, .nil, s => s
  | _, _, _, _, .cons h r, s => .cons h (r.append s)
theorem RepL.take : ∀ {vs : List Val} {xs : List V} (n : Nat), RepL K H T vs xs → RepL K H T (vs.take n) (xs.take n)
  | _, _, 0, _ => .nil
  | _, _, _ + 1, .nil => .nil
  | _, _, n + 1, .cons h r => .cons h (r.take n)
theorem RepL.drop : ∀ {vs : List Val} {xs : List V} (n : Nat), RepL K H T vs xs → RepL K H T (vs.drop n) (xs.drop n)
  | _, _, 0, r => r
  | _, _, _ + 1, .nil => .nil
  | _, _, n + 1, .cons _ r => r.drop n
theorem RepL.set {v : Val} {x : V} (h : RepV K H T v x) : ∀ {vs : List Val} {xs : List V} (n : Nat), RepL K H T vs xs → RepL K H T (vs.set n v) (xs.set n x)
  | _, _, _, .nil => .nil
  | _, _, 0, .cons _ r => .cons h r
  | _, _, n + 1, .cons q r => .cons q (r.set h n)
theorem RepL.rep {v : Val} {x : V} (h : RepV K H T v x) : ∀ n, RepL K H T (List.replicate n v) (List.replicate n x)
  | 0 => .nil
  | n + 1 => .cons h (RepL.rep h n)
theorem RepL.ints : ∀ ns : List Int, RepL K H T (ns.map Val.int) (ns.map V.int)
  | [] => .nil
  | n :: r => .cons (.int n) (RepL.ints r)
theorem RepL.dropLast {vs : List Val} {xs : List V} (r : RepL K H T vs xs) : RepL K H T vs.dropLast xs.dropLast := by
  rw [List.dropLast_eq_take, List.dropLast_eq_take, r.length]; exact r.take _
end

/-! ### the small heap, the slots -/
def DRep (K : PySem.W.Frag) (H : Hp) (T : Tr) (ks : List DK) (vs : List Val) (a : Addr) : Prop :=
  (∃ l : List (L2.Key × V), H a = some (.dK l) ∧ ks = l.map (fun p => DK.ofK p.1) ∧ RepL K H T vs (l.map (·.2))) ∨ ∃ l : List (List L2.Key × V), H a = some (.dT l) ∧ ks = l.map (fun p => DK.tup p.1) ∧ RepL K H T vs (l.map (·.2))
def ORep (K : PySem.W.Frag) (H : Hp) (T : Tr) (o : Ob) (a : Addr) : Prop := match o with
  | .lst vs => ∃ xs, H a = some (.lst xs) ∧ RepL K H T vs xs
  | .dct ks vs => DRep K H T ks vs a
/-- known tables of code objects -/
def Tabs (H : Hp) [Tb] : Prop := LamX.Tabs Tb.τ H
variable [Tb]
structure HSim (K : PySem.W.Frag) (T : Tr) (μ : Hh) (H : Hp) : Prop where
  len : T.ρ.length = μ.length
  nd : T.ρ.Nodup
  obj : ∀ (n : Nat) (o : Ob), μ[n]? = some o → ∃ a, T.ρ[n]? = some a ∧ ORep K H T o a
  old : ∀ (n : Nat) (o : Ob), μ[n]? = some o → o.bel n = true
  bt : ∀ b ∈ T.β, lv (H b) = true
  tb : Tabs H
structure ESim (K : PySem.W.Frag) (H : Hp) (T : Tr) (env : Env) (σ : St) : Prop where
  len : env.length = σ.length
  at' : ∀ (i : Nat) (v : Val), env[i]? = some (some v) → ∃ x, σ[i]? = some (some x) ∧ RepV K H T v x
section
variable {K : PySem.W.Frag} {T T' : Tr} {μ : Hh} {H H' : Hp} {env : Env} {σ : St} {p : Addr} {o : HO}
omit [Tb] in
theorem ORep.tracked {o : Ob} {a : Addr} (h : ORep K H T o a) : ∃ u, H a = some u ∧ (∀ ps, u ≠ .tbl ps) ∧ (∀ φ, u ≠ .ext φ) := by
  cases o with
  | lst vs => obtain ⟨xs, e, _⟩ := h; exact ⟨_, e, nofun, nofun⟩
  | dct ks vs => rcases h with ⟨l, e, _⟩ | ⟨l, e, _⟩ <;> exact ⟨_, e, nofun, nofun⟩
omit [Tb] in
theorem ORep.map {o : Ob} {a : Addr} {n : Nat} (h : ORep K H T o a) (hb : o.bel n = true) (e : H' a = H a) (f : ∀ vs xs, belL n vs = true → RepL K H T vs xs → RepL K H' T' vs xs) : ORep K H' T' o a := by
  cases o with
  | lst vs => obtain ⟨xs, q, r⟩ := h; exact ⟨xs, e.trans q, f _ _ hb r⟩
  | dct ks vs =>
    rcases h with ⟨l, q, c, r⟩ | ⟨l, q, c, r⟩
    · exact .inl ⟨l, e.trans q, c, f _ _ hb r⟩
    · exact .inr ⟨l, e.trans q, c, f _ _ hb r⟩
omit [Tb] in
theorem ORep.step {o : Ob} {a : Addr} (h : ORep K H T o a) (s : Step T H T' H') (e : H' a = H a) : ORep K H' T' o a := by
  cases o with
  | lst vs => obtain ⟨xs, q, r⟩ := h; exact ⟨xs, e.trans q, r.step s⟩
  | dct ks vs =>
    rcases h with ⟨l, q, c, r⟩ | ⟨l, q, c, r⟩
    · exact .inl ⟨l, e.trans q, c, r.step s⟩
    · exact .inr ⟨l, e.trans q, c, r.step s⟩
theorem HSim.trackedO (h : HSim K T μ H) {a : Addr} (ha : a ∈ T.ρ) : ∃ u, H a = some u ∧ (∀ ps, u ≠ .tbl ps) ∧ (∀ φ, u ≠ .ext φ) := by
  obtain ⟨n, e⟩ := List.getElem?_of_mem ha
  have hn : n < μ.length := by rw [← h.len]; exact (List.getElem?_eq_some_iff.mp e).1
  obtain ⟨a', e', r⟩ := h.obj n μ[n] (List.getElem?_eq_getElem hn)
  rw [e] at e'; cases e'
  exact r.tracked
theorem HSim.tracked (h : HSim K T μ H) {a : Addr} (ha : a ∈ T.ρ) : lv (H a) = true := by
  obtain ⟨u, e, n, _⟩ := h.trackedO ha
  rw [e]; exact lv_some n
theorem tabs_upd {a : Addr} (h : Tabs H) (ha : ∀ u, H a = some u → (∀ ps, u ≠ .tbl ps) ∧ (∀ φ, u ≠ .ext φ)) : Tabs (upd H a o) := fun p hp => by
  obtain ⟨ps, h1, h2, h3⟩ := h p hp
  refine ⟨ps, ?_, h2, fun pos cv hc => ?_⟩
  · rw [upd_ne fun q => (ha _ (by rw [← q]; exact h1)).1 ps rfl]; exact h1
  · obtain ⟨c, e1, e2⟩ := h3 pos cv hc
    exact ⟨c, e1, by rw [upd_ne fun q => (ha _ (by rw [← q]; exact e2)).2 _ rfl]; exact e2⟩
theorem tabs_new (h : Tabs H) (hp : H p = none) : Tabs (upd H p o) := tabs_upd h fun u e => by rw [hp] at e; cases e
omit [Tb] in
theorem ESim.step (h : ESim K H T env σ) (s : Step T H T' H') : ESim K H' T' env σ :=
  ⟨h.len, fun i v e => let ⟨x, e', r⟩ := h.at' i v e; ⟨x, e', r.step s⟩⟩
omit [Tb] in
theorem Step.new (hp : H p = none) : Step T H T (upd H p o) :=
  ⟨⟨[], by simp, by simp⟩, ⟨[], rfl, by simp⟩, fun b u h _ _ => by rw [upd_ne (ne_of_none h hp)]; exact h, fun b h => by
    by_cases e : b = p
    · subst e; rw [hp] at h; cases h
    · rw [upd_ne e]; exact h, fun b _ k => by rw [upd_ne fun e : b = p => k (by rw [e, hp]; rfl)]⟩
theorem HSim.new (h : HSim K T μ H) (hp : H p = none) : HSim K T μ (upd H p o) := by
  refine ⟨h.len, h.nd, fun n ob e => ?_, h.old, fun b hb => (Step.new (T := T) hp).liv b (h.bt b hb), tabs_new h.tb hp⟩
  obtain ⟨a, e', r⟩ := h.obj n ob e
  exact ⟨a, e', r.step (Step.new hp) (upd_ne fun q => by obtain ⟨u, z, _⟩ := r.tracked; rw [q, hp] at z; cases z)⟩
theorem HSim.notban (h : HSim K T μ H) (hp : H p = none) : ¬ T.ban p := by
  rintro (q | q)
  · have z := h.tracked q; rw [hp] at z; cases z
  · have z := h.bt p q; rw [hp] at z; cases z
theorem HSim.notmem (h : HSim K T μ H) (hp : H p = none) : p ∉ T.ρ := fun q => by have z := h.tracked q; rw [hp] at z; cases z
omit [Tb] in
mutual
theorem RepV.belOf : ∀ {v : Val} {x : V}, RepV K H T v x → v.bel T.ρ.length = true
  | _, _, .non => rfl
  | _, _, .bl b => rfl
  | _, _, .int b => rfl
  | _, _, .str b => rfl
  | _, _, .ty b => rfl
  | _, _, .tup _ r => by unfold Val.bel; exact r.belOf
  | _, _, .lst _ _ r => by unfold Val.bel; exact r.belOf
  | _, _, .fz _ r => by unfold Val.bel; exact r.belOf
  | _, _, .ref h _ => by unfold Val.bel; exact decide_eq_true (List.getElem?_eq_some_iff.mp h).1
  | _, _, .dref h _ => by unfold Val.bel; exact decide_eq_true (List.getElem?_eq_some_iff.mp h).1
  | _, _, .fn _ => rfl
  | _, _, .dicK _ _ r => by unfold Val.bel; exact r.belOf
  | _, _, .dicT _ _ r => by unfold Val.bel; exact r.belOf
theorem RepL.belOf : ∀ {vs : List Val} {xs : List V}, RepL K H T vs xs → belL T.ρ.length vs = true
  | _, _, .nil => rfl
  | _, _, .cons h r => by unfold belL; rw [h.belOf, r.belOf]; rfl
end
omit [Tb] in
/-- a new list that may change -/
theorem Step.push {xs : List V} (hp : H p = none) : Step T H ⟨T.ρ ++ [p], T.β⟩ (upd H p o) :=
  ⟨⟨[p], rfl, fun b hb => by have e : b = p := by simpa using hb
                             rw [e, hp]; rfl⟩, ⟨[], rfl, by simp⟩, (Step.new (T := T) hp).frm, (Step.new (T := T) hp).liv, (Step.new (T := T) hp).kd⟩
theorem HSim.pushO {nb : Ob} (h : HSim K T μ H) (hp : H p = none) (hb : nb.bel T.ρ.length = true) (r : ORep K (upd H p o) ⟨T.ρ ++ [p], T.β⟩ nb p) : HSim K ⟨T.ρ ++ [p], T.β⟩ (μ ++ [nb]) (upd H p o) := by
  have st : Step T H ⟨T.ρ ++ [p], T.β⟩ (upd H p o) := Step.push (xs := []) hp
  refine ⟨by simp [h.len], ?_, fun n ob e => ?_, fun n ob e => ?_, fun b hb => st.liv b (h.bt b hb), tabs_new h.tb hp⟩
  · refine List.nodup_append.mpr ⟨h.nd, by simp, fun a ha b hb => ?_⟩
    have e : b = p := by simpa using hb
    subst e
    exact fun q => h.notmem hp (q ▸ ha)
  · by_cases hn : n < μ.length
    · rw [List.getElem?_append_left hn] at e
      obtain ⟨a, e', r'⟩ := h.obj n ob e
      exact ⟨a, by rw [List.getElem?_append_left (List.getElem?_eq_some_iff.mp e').1]; exact e', r'.step st (upd_ne fun q => by obtain ⟨u, z, _⟩ := r'.tracked; rw [q, hp] at z; cases z)⟩
    · have hl : n < (μ ++ [nb]).length := (List.getElem?_eq_some_iff.mp e).1
      have : n = μ.length := by simp at hl; omega
      subst this
      simp at e
      subst e
      exact ⟨p, by rw [← h.len]; simp, r⟩
  · by_cases hn : n < μ.length
    · rw [List.getElem?_append_left hn] at e
      exact h.old n ob e
    · have hl : n < (μ ++ [nb]).length := (List.getElem?_eq_some_iff.mp e).1
      have : n = μ.length := by simp at hl; omega
      subst this
      simp at e
      subst e
      rw [h.len] at hb
      exact hb
theorem HSim.push {vs : List Val} {xs : List V} (h : HSim K T μ H) (hp : H p = none) (r : RepL K H T vs xs) : HSim K ⟨T.ρ ++ [p], T.β⟩ (μ ++ [.lst vs]) (upd H p (.lst xs)) :=
  h.pushO hp (nb := .lst vs) r.belOf ⟨xs, upd_same, r.step (Step.push (xs := []) hp)⟩
omit [Tb] in
/-- a list of the small heap changed -/
theorem Step.put {a : Addr} (ha : a ∈ T.ρ) (hk : knd (some o) = knd (H a)) (ho : lv (some o) = true := by rfl) : Step T H T (upd H a o) :=
  ⟨⟨[], by simp, by simp⟩, ⟨[], rfl, by simp⟩, fun b u h n _ => by rw [upd_ne (fun e : b = a => n (by rw [e]; exact ha))]; exact h, fun b h => by
    by_cases e : b = a
    · subst e; rw [upd_same]; exact ho
    · rw [upd_ne e]; exact h, fun b _ _ => by
    by_cases e : b = a
    · subst e; rw [upd_same]; exact hk
    · rw [upd_ne e]⟩
theorem HSim.putO {n : Nat} {a : Addr} {nb : Ob} (h : HSim K T μ H) (ha : T.ρ[n]? = some a) (hk : knd (some o) = knd (H a)) (r : ORep K (upd H a o) T nb a) (b : nb.bel n = true) (ho : lv (some o) = true := by rfl) : HSim K T (μ.set n nb) (upd H a o) := by
  have st : Step T H T (upd H a o) := Step.put (List.mem_of_getElem? ha) hk ho
  refine ⟨by simp [h.len], h.nd, fun m ob e => ?_, fun m ob e => ?_, fun b hb => st.liv b (h.bt b hb), tabs_upd h.tb fun u e => ?_⟩
  rotate_right
  · obtain ⟨u', e', q⟩ := h.trackedO (List.mem_of_getElem? ha)
    rw [e] at e'; cases e'
    exact q
  · by_cases hm : m = n
    · subst hm
      have hl : m < μ.length := by rw [← h.len]; exact (List.getElem?_eq_some_iff.mp ha).1
      rw [List.getElem?_set_self hl] at e
      cases e
      exact ⟨a, ha, r⟩
    · rw [List.getElem?_set_ne (Ne.symm hm)] at e
      obtain ⟨a', e', r'⟩ := h.obj m ob e
      refine ⟨a', e', r'.step st (upd_ne fun q => hm ?_)⟩
      subst q
      exact nodup_ix' h.nd e' ha
  · by_cases hm : m = n
    · subst hm
      have hl : m < μ.length := by rw [← h.len]; exact (List.getElem?_eq_some_iff.mp ha).1
      rw [List.getElem?_set_self hl] at e
      cases e
      exact b
    · rw [List.getElem?_set_ne (Ne.symm hm)] at e
      exact h.old m ob e
where
  nodup_ix' {l : List Addr} (hN : l.Nodup) {i j : Nat} {x : Addr} (a : l[i]? = some x) (b : l[j]? = some x) : i = j := by
    obtain ⟨h1, e1⟩ := List.getElem?_eq_some_iff.mp a
    obtain ⟨h2, e2⟩ := List.getElem?_eq_some_iff.mp b
    exact (List.getElem_inj hN).mp (e1.trans e2.symm)
theorem HSim.put {n : Nat} {a : Addr} {vs : List Val} {xs : List V} (h : HSim K T μ H) (ha : T.ρ[n]? = some a) (hk : knd (H a) = 1) (r : RepL K H T vs xs) (b : belL n vs = true) : HSim K T (μ.set n (.lst vs)) (upd H a (.lst xs)) :=
  have e : knd (some (HO.lst xs)) = knd (H a) := hk.symm
  h.putO ha (nb := .lst vs) e ⟨xs, upd_same, r.step (Step.put (List.mem_of_getElem? ha) e)⟩ b
/-- the items of a list or tuple, as they stand now -/
theorem HSim.get {n : Nat} {vs : List Val} {x : V} (h : HSim K T μ H) (e : μ[n]? = some (.lst vs)) (r : RepV K H T (.ref n) x) : ∃ a xs, x = .ref a ∧ T.ρ[n]? = some a ∧ H a = some (.lst xs) ∧ RepL K H T vs xs := by
  cases r with
  | @ref _ a ha _ =>
    obtain ⟨a', e', xs, q, r⟩ := h.obj n _ e
    rw [ha] at e'; cases e'
    exact ⟨a, xs, rfl, ha, q, r⟩
end

/-! ### what is wanted of a result -/
section
variable {K : PySem.W.Frag} {mg : Str → Option Value}
/-- an exception: its class by its name, its fields -/
def XRep (K : PySem.W.Frag) (mg : Str → Option Value) (H : Hp) (T : Tr) (e : Ex) (cls : Value) (d : Option Addr) : Prop :=
  (∃ C, cls = .ref C ∧ mg (xNm e.cls) = some (.ref C)) ∧ ∀ f v, (f, v) ∈ e.fs → ∃ dx fs x, d = some dx ∧ ¬ T.ban dx ∧ H dx = some (.xd fs) ∧ fs.lookup f = some x ∧ RepV K H T v x
omit [Tb] in
theorem XRep.step {H H' : Hp} {T T' : Tr} {e : Ex} {cls : Value} {d : Option Addr} (h : XRep K mg H T e cls d) (s : Step T H T' H') : XRep K mg H' T' e cls d :=
  ⟨h.1, fun f v hm => let ⟨dx, fs, x, e1, n, e2, e3, r⟩ := h.2 f v hm; ⟨dx, fs, x, e1, fun q => n (s.ban (by rw [e2]; rfl) q), s.frm _ _ e2 (fun q => n (.inl q)) nofun, e3, r.step s⟩⟩
abbrev EK := Ex → Tr → Hp → Prop
def Post {α β : Type} (K : PySem.W.Frag) (Rel : Hp → Tr → α → β → Prop) (T : Tr) (H : Hp) (r : R α) (Q : β → Hp → Prop) (E : EK) : Prop := match r with
  | .ok a μ' => ∀ T' H' b, Step T H T' H' → HSim K T' μ' H' → Rel H' T' a b → Q b H'
  | .exc e μ' => ∀ T' H', Step T H T' H' → HSim K T' μ' H' → E e T' H'
  | .bad => False
abbrev RV (K : PySem.W.Frag) : Hp → Tr → Val → V → Prop := fun H T v x => RepV K H T v x
abbrev RL (K : PySem.W.Frag) : Hp → Tr → List Val → List V → Prop := fun H T v x => RepL K H T v x
abbrev RB : Hp → Tr → Bool → Bool → Prop := fun _ _ v x => x = v
def EX (K : PySem.W.Frag) (mg : Str → Option Value) (W : WX) (σ : St) : EK := fun e T' H' => ∀ cls d, XRep K mg H' T' e cls d → W cls d σ H'
/-- the reading of a combinator -/
def Gn {α β : Type} (K : PySem.W.Frag) (mg : Str → Option Value) (W : WX) (Rel : Hp → Tr → α → β → Prop) (f : Env → Hh → R α) : St → Hp → (β → Hp → Prop) → Prop := fun σ H Q =>
  ∃ T μ env, HSim K T μ H ∧ ESim K H T env σ ∧ Post K Rel T H (f env μ) Q (EX K mg W σ)
abbrev GE (K : PySem.W.Frag) (mg : Str → Option Value) (W : WX) (f : Ev) : TE := Gn K mg W (RV K) f
abbrev GT (K : PySem.W.Frag) (mg : Str → Option Value) (W : WX) (f : Tv) : TT := Gn K mg W RB f
abbrev GA (K : PySem.W.Frag) (mg : Str → Option Value) (W : WX) (f : Av) : TA := Gn K mg W (RL K) f
theorem Post.step {α β : Type} {Rel : Hp → Tr → α → β → Prop} {T T1 : Tr} {H H1 : Hp} {r : R α} {Q : β → Hp → Prop} {E : EK} (h : Post K Rel T H r Q E) (s : Step T H T1 H1) : Post K Rel T1 H1 r Q E := by
  cases r with
  | ok a μ => exact fun T' H' b s' => h T' H' b (s.trans s')
  | exc e μ => exact fun T' H' s' => h T' H' (s.trans s')
  | bad => exact h
theorem Post.seq {α β γ δ : Type} {Rel : Hp → Tr → α → β → Prop} {Rel2 : Hp → Tr → γ → δ → Prop} {T : Tr} {H : Hp} {r : R α} {f : α → Hh → R γ} {Q : δ → Hp → Prop} {Q1 : β → Hp → Prop} {E : EK}
    (h : Post K Rel2 T H (r.bnd f) Q E)
    (k : ∀ a μ1 T1 H1 b, Step T H T1 H1 → HSim K T1 μ1 H1 → Rel H1 T1 a b → Post K Rel2 T1 H1 (f a μ1) Q E → Q1 b H1) : Post K Rel T H r Q1 E := by
  cases r with
  | ok a μ => exact fun T' H' b s hs rl => k a μ T' H' b s hs rl (Post.step h s)
  | exc e μ => exact h
  | bad => exact h
/-- the end: the answer at hand -/
theorem Post.here {α β : Type} {Rel : Hp → Tr → α → β → Prop} {T T1 : Tr} {H H1 : Hp} {a : α} {b : β} {μ1 : Hh} {Q : β → Hp → Prop} {E : EK} (h : Post K Rel T H (.ok a μ1) Q E) (s : Step T H T1 H1) (hs : HSim K T1 μ1 H1) (r : Rel H1 T1 a b) : Q b H1 := h T1 H1 b s hs r
theorem Post.now {α β : Type} {Rel : Hp → Tr → α → β → Prop} {T : Tr} {H : Hp} {a : α} {b : β} {μ1 : Hh} {Q : β → Hp → Prop} {E : EK} (h : Post K Rel T H (.ok a μ1) Q E) (hs : HSim K T μ1 H) (r : Rel H T a b) : Q b H := h T H b (Step.refl T H) hs r
end
end Mp

set_option Elab.async false
set_option linter.all false
set_option maxRecDepth 100000
namespace Mp
open PySem PySem.Spec PyProof.Rows L2
variable [Tb]

/-! ### expressions -/
omit [Tb] in
theorem PE.imp {X : Cx} {e : Expr} {t t' : TE} (h : PE X e t) (k : ∀ σ H Q, t' σ H Q → t σ H Q) : PE X e t' := ⟨fun pins s σ H Q I q => h.run pins s σ H Q I (k σ H Q q)⟩
omit [Tb] in
theorem PT.imp {X : Cx} {e : Expr} {t t' : TT} (h : PT X e t) (k : ∀ σ H Q, t' σ H Q → t σ H Q) : PT X e t' := ⟨fun pins s σ H Q I q => h.run pins s σ H Q I (k σ H Q q)⟩
omit [Tb] in
theorem PW.imp {X : Cx} {e : Expr} {t t' : TT} (h : PW X e t) (k : ∀ σ H Q, t' σ H Q → t σ H Q) : PW X e t' := ⟨fun wh pins s σ H Q I q => h.run wh pins s σ H Q I (k σ H Q q)⟩
omit [Tb] in
theorem PA.imp {X : Cx} {es : List Expr} {t t' : TA} (h : PA X es t) (k : ∀ σ H Q, t' σ H Q → t σ H Q) : PA X es t' := ⟨fun pos pins s σ H Q I q => h.run pos pins s σ H Q I (k σ H Q q)⟩

def eVar (i : Nat) : Ev := fun env h => match env[i]? with
  | some (some v) => .ok v h
  | _ => .bad
def eC (v : Val) : Ev := fun _ h => .ok v h
def eOp (p : Val → Val → Hh → R Val) (a b : Ev) : Ev := fun env h => (a env h).bnd fun x h1 => (b env h1).bnd fun y h2 => p x y h2
def eUn (p : Val → Hh → R Val) (a : Ev) : Ev := fun env h => (a env h).bnd fun x h1 => p x h1
def eCall (p : List Val → Hh → R Val) (a : Av) : Ev := fun env h => (a env h).bnd fun xs h1 => p xs h1
def eMeth (c : Val → Bool) (p : Val → List Val → Hh → R Val) (o : Ev) (a : Av) : Ev := fun env h => (o env h).bnd fun x h1 => if c x = true then (a env h1).bnd fun xs h2 => p x xs h2 else .bad
def eMeth0 (c : Val → Bool) (p : Val → List Val → Hh → R Val) (o : Ev) : Ev := fun env h => (o env h).bnd fun x h1 => if c x = true then p x [] h1 else .bad
def isL : Val → Bool
  | .ref _ => true
  | .lst _ => true
  | _ => false
def aNil : Av := fun _ h => .ok [] h
def aCons (a : Ev) (r : Av) : Av := fun env h => (a env h).bnd fun x h1 => (r env h1).bnd fun xs h2 => .ok (x :: xs) h2
def tB (a : Ev) : Tv := fun env h => (a env h).bnd fun x h1 => match x with
  | .bl b => .ok b h1
  | _ => .bad
def eAnd (a b : Ev) : Ev := fun env h => (a env h).bnd fun x h1 => match x with
  | .bl true => b env h1
  | .bl false => .ok (.bl false) h1
  | _ => .bad
def eOr (a b : Ev) : Ev := fun env h => (a env h).bnd fun x h1 => match x with
  | .bl false => b env h1
  | .bl true => .ok (.bl true) h1
  | _ => .bad
def eNot (a : Ev) : Ev := fun env h => (a env h).bnd fun x h1 => match x with
  | .bl b => .ok (.bl (!b)) h1
  | _ => .bad
def eIf (c : Tv) (a b : Ev) : Ev := fun env h => (c env h).bnd fun x h1 => if x = true then a env h1 else b env h1
def tAnd (a b : Tv) : Tv := fun env h => (a env h).bnd fun x h1 => if x = true then b env h1 else .ok false h1
def tOr (a b : Tv) : Tv := fun env h => (a env h).bnd fun x h1 => if x = true then .ok true h1 else b env h1
def tNot (a : Tv) : Tv := fun env h => (a env h).bnd fun x h1 => .ok (!x) h1
/-- a list made: to be changed (m), or frozen -/
def mk (m : Bool) (l : List Val) (h : Hh) : R Val := if m = true then .ok (.ref h.length) (h ++ [.lst l]) else .ok (.lst l) h
def eTup (a : Av) : Ev := fun env h => (a env h).bnd fun xs h1 => if xs.length ≤ sizeLine then .ok (.tup xs) h1 else .bad
def eLst (m : Bool) (a : Av) : Ev := fun env h => (a env h).bnd fun xs h1 => if xs.length ≤ sizeLine then mk m xs h1 else .bad
def eChain (p q : Val → Val → Hh → R Val) (a b c : Ev) : Ev := fun env h => (a env h).bnd fun x h1 => (b env h1).bnd fun y h2 => (p x y h2).bnd fun z h3 => match z with
  | .bl true => (c env h3).bnd fun w h4 => q y w h4
  | .bl false => .ok (.bl false) h3
  | _ => .bad

/-- a rule of HandS by values, and its plain function -/
def P1 (K : PySem.W.Frag) (r : V → Hp → VK → Prop) (p : Val → Hh → R Val) : Prop := ∀ (T : Tr) (μ : Hh) (H : Hp) (v : Val) (x : V) (Q : VK) (E : EK), HSim K T μ H → RepV K H T v x → Post K (RV K) T H (p v μ) Q E → r x H Q
def P2 (K : PySem.W.Frag) (r : R2) (p : Val → Val → Hh → R Val) : Prop := ∀ (T : Tr) (μ : Hh) (H : Hp) (v w : Val) (x y : V) (Q : VK) (E : EK), HSim K T μ H → RepV K H T v x → RepV K H T w y → Post K (RV K) T H (p v w μ) Q E → r x y H Q
def PL (K : PySem.W.Frag) (r : List V → Hp → VK → Prop) (p : List Val → Hh → R Val) : Prop := ∀ (T : Tr) (μ : Hh) (H : Hp) (v : List Val) (x : List V) (Q : VK) (E : EK), HSim K T μ H → RepL K H T v x → Post K (RV K) T H (p v μ) Q E → r x H Q
def PM (K : PySem.W.Frag) (r : V → List V → Hp → VK → Prop) (p : Val → List Val → Hh → R Val) : Prop := ∀ (T : Tr) (μ : Hh) (H : Hp) (v : Val) (x : V) (vs : List Val) (xs : List V) (Q : VK) (E : EK), HSim K T μ H → RepV K H T v x → RepL K H T vs xs → Post K (RV K) T H (p v vs μ) Q E → r x xs H Q

section
variable {K : PySem.W.Frag} {T : Tr} {μ : Hh} {H : Hp} {Q : VK} {E : EK}
theorem mk_post {vs : List Val} {xs : List V} {m : Bool} {p : Addr} (hs : HSim K T μ H) (r : RepL K H T vs xs) (hp : H p = none) (q : Post K (RV K) T H (mk m vs μ) Q E) : Q (.ref p) (upd H p (.lst xs)) := by
  unfold mk at q
  cases m with
  | true =>
    rw [if_pos rfl] at q
    refine Post.here q (Step.push (xs := xs) hp) (hs.push hp r) (RepV.ref ?_ (by rw [upd_same]; rfl))
    rw [← hs.len]; simp
  | false =>
    rw [if_neg (by decide)] at q
    exact Post.here q (Step.new hp) (hs.new hp) (RepV.lst (hs.notban hp) upd_same (r.step (Step.new hp)))
theorem tup_post {vs : List Val} {xs : List V} {p : Addr} {μ' : Hh} (e : μ' = μ) (hs : HSim K T μ H) (r : RepL K H T vs xs) (hp : H p = none) (q : Post K (RV K) T H (.ok (.tup vs) μ') Q E) : Q (.ref p) (upd H p (.tup xs)) := by
  subst e
  exact Post.here q (Step.new hp) (hs.new hp) (RepV.tup (.inl ⟨hs.notban hp, upd_same⟩) (r.step (Step.new hp)))
end

section
variable {X : Cx} {W : WX} {a b c : Expr} {es : List Expr} {pos : Pos} {ea eb ec : Ev} {av : Av} {tv tv' : Tv}
theorem ge_var (i : Nat) {x : Str} {pos : Pos} (hN : X.N[i]? = some x := by rfl) (hv : Vis X.env.scope x := by first | exact Or.inl rfl | exact Or.inr (Or.inl rfl) | exact Or.inr (Or.inr rfl)) (hd : (x == ("__debug__" : Str)) = false := by decide)
    (hcd : (x == ("__classdict__" : Str)) = false := by decide) : PE X (.Name x pos) (GE X.K X.mg W (eVar i)) := by
  refine PE.imp (pe_var hN hv hd hcd) fun σ H Q ⟨T, μ, env, hs, es, q⟩ => ?_
  unfold eVar at q
  split at q
  · rename_i v e
    obtain ⟨x, e', r⟩ := es.at' i v e
    exact ⟨x, e', Post.now q hs r⟩
  · exact q.elim
theorem ge_c {v : Val} {x : V} (h : PE X a (tC x)) (r : ∀ H T, RepV X.K H T v x) : PE X a (GE X.K X.mg W (eC v)) :=
  PE.imp h fun σ H Q ⟨T, μ, env, hs, es, q⟩ => Post.now q hs (r H T)
theorem ge_int {i j pos} : PE X (.Constant (.int i) j pos) (GE X.K X.mg W (eC (.int i))) := ge_c pe_int fun _ _ => .int i
theorem ge_bl {i j pos} : PE X (.Constant (.bool i) j pos) (GE X.K X.mg W (eC (.bl i))) := ge_c pe_bl fun _ _ => .bl i
theorem ge_non {j pos} : PE X (.Constant .none j pos) (GE X.K X.mg W (eC .non)) := ge_c pe_non fun _ _ => .non
theorem ge_str {i j pos} : PE X (.Constant (.str i) j pos) (GE X.K X.mg W (eC (.str i))) := ge_c pe_str fun _ _ => .str i
/-- a module's int -/
theorem ge_gi {x : Str} {i : Int} {pos : Pos} (hg : Gl X x) (hm : ∃ t, X.mg x = some (.int i t)) (hd : (x == ("__debug__" : Str)) = false := by decide) : PE X (.Name x pos) (GE X.K X.mg W (eC (.int i))) := let ⟨t, e⟩ := hm; ge_c (pe_glob (v := .int i) hg e ⟨t, rfl⟩ hd) fun _ _ => .int i
/-- a built-in class as a value -/
theorem ge_ty {x : Str} {t : Ty} {pos : Pos} (hg : Gl X x) (hm : X.mg x = none) (hv : bootBuiltins x = some (.type t.nm)) (hn : x ≠ "__name__" := by decide) (hd : (x == ("__debug__" : Str)) = false := by decide) : PE X (.Name x pos) (GE X.K X.mg W (eC (.ty t))) :=
  ge_c (pe_bltn (v := .ty t.nm) hg hm hv rfl hn hd) fun _ _ => .ty t
theorem ge_op {op : Operator} {r : R2} {p : Val → Val → Hh → R Val} (ho : OpR X (binaryOp op) r) (hp : P2 X.K r p) (ha : PE X a (GE X.K X.mg W ea)) (hb : PE X b (GE X.K X.mg W eb)) : PE X (.BinOp a op b pos) (GE X.K X.mg W (eOp p ea eb)) :=
  PE.imp (pe_op ho ha hb) fun σ H Q ⟨T, μ, env, hs, es, q⟩ => ⟨T, μ, env, hs, es, q.seq fun v μ1 T1 H1 x s1 hs1 r1 q1 => ⟨T1, μ1, env, hs1, es.step s1, q1.seq fun w μ2 T2 H2 y s2 hs2 r2 q2 => hp T2 μ2 H2 v w x y Q _ hs2 (r1.step s2) r2 q2⟩⟩
theorem ge_cmp {op : CmpOp} {r : R2} {p : Val → Val → Hh → R Val} (ho : OpR X (compareOp op) r) (hp : P2 X.K r p) (ha : PE X a (GE X.K X.mg W ea)) (hb : PE X b (GE X.K X.mg W eb)) (hm : behindInMarks op b = false) : PE X (.Compare a [op] [b] pos) (GE X.K X.mg W (eOp p ea eb)) :=
  PE.imp (pe_cmpR ho ha hb hm) fun σ H Q ⟨T, μ, env, hs, es, q⟩ => ⟨T, μ, env, hs, es, q.seq fun v μ1 T1 H1 x s1 hs1 r1 q1 => ⟨T1, μ1, env, hs1, es.step s1, q1.seq fun w μ2 T2 H2 y s2 hs2 r2 q2 => hp T2 μ2 H2 v w x y Q _ hs2 (r1.step s2) r2 q2⟩⟩
/-- a bool's reading as a test -/
theorem tB_post {K : PySem.W.Frag} {T : Tr} {H : Hp} {r : R Val} {Q : Bool → Hp → Prop} {E : EK} (q : Post K RB T H (r.bnd fun x h1 => match x with
  | .bl b => .ok b h1
  | _ => .bad) Q E) : Post K (RV K) T H r (fun x H' => ∃ k, x = .bl k ∧ Q k H') E := q.seq fun v μ1 T1 H1 x s1 hs1 r1 q1 => by
  cases r1 with
  | bl k => exact ⟨k, rfl, Post.now q1 hs1 rfl⟩
  | _ => exact q1.elim
theorem gt_cmp {op : CmpOp} {r : R2} {p : Val → Val → Hh → R Val} (ho : OpR X (compareOp op) r) (hp : P2 X.K r p) (ha : PE X a (GE X.K X.mg W ea)) (hb : PE X b (GE X.K X.mg W eb)) (hm : behindInMarks op b = false) : PT X (.Compare a [op] [b] pos) (GT X.K X.mg W (tB (eOp p ea eb))) :=
  PT.imp (pt_cmpR ho ha hb hm) fun σ H Q ⟨T, μ, env, hs, es, q⟩ => by
    have q' := tB_post q
    exact ⟨T, μ, env, hs, es, q'.seq fun v μ1 T1 H1 x s1 hs1 r1 q1 => ⟨T1, μ1, env, hs1, es.step s1, q1.seq fun w μ2 T2 H2 y s2 hs2 r2 q2 => hp T2 μ2 H2 v w x y _ _ hs2 (r1.step s2) r2 q2⟩⟩
/-- an expression that is a bool, as a test -/
theorem gt_val (h : PE X a (GE X.K X.mg W ea)) (he : ∀ whole, isTrue a X.env whole = (do let v ← whole; standAt a.pos; holding [v] (truthy v)) := by intro _; rfl) : PT X a (GT X.K X.mg W (tB ea)) :=
  PT.imp (pt_val h he) fun σ H Q ⟨T, μ, env, hs, es, q⟩ => ⟨T, μ, env, hs, es, tB_post q⟩
theorem gt_not (h : PT X a (GT X.K X.mg W tv)) : PT X (.UnaryOp .Not a pos) (GT X.K X.mg W (tNot tv)) :=
  PT.imp (pt_not h) fun σ H Q ⟨T, μ, env, hs, es, q⟩ => ⟨T, μ, env, hs, es, q.seq fun v μ1 T1 H1 x s1 hs1 r1 q1 => by
    cases r1; exact Post.now q1 hs1 rfl⟩
theorem gw_and1 (h : PT X a (GT X.K X.mg W tv)) : PW X (.BoolOp .And [a] pos) (GT X.K X.mg W tv) := pw_and1 h
theorem gw_or1 (h : PT X a (GT X.K X.mg W tv)) : PW X (.BoolOp .Or [a] pos) (GT X.K X.mg W tv) := pw_or1 h
theorem gw_and {rest : List Expr} (ha : PT X a (GT X.K X.mg W tv)) (hb : PW X (.BoolOp .And (b :: rest) pos) (GT X.K X.mg W tv')) : PW X (.BoolOp .And (a :: b :: rest) pos) (GT X.K X.mg W (Mp.tAnd tv tv')) :=
  PW.imp (pw_and ha hb) fun σ H Q ⟨T, μ, env, hs, es, q⟩ => ⟨T, μ, env, hs, es, q.seq fun v μ1 T1 H1 x s1 hs1 r1 q1 => by
    cases r1
    cases v with
    | true => rw [if_pos rfl] at q1 ⊢; exact ⟨T1, μ1, env, hs1, es.step s1, q1⟩
    | false => rw [if_neg (by decide)] at q1 ⊢; exact Post.now q1 hs1 rfl⟩
theorem gw_or {rest : List Expr} (ha : PT X a (GT X.K X.mg W tv)) (hb : PW X (.BoolOp .Or (b :: rest) pos) (GT X.K X.mg W tv')) : PW X (.BoolOp .Or (a :: b :: rest) pos) (GT X.K X.mg W (Mp.tOr tv tv')) :=
  PW.imp (pw_or ha hb) fun σ H Q ⟨T, μ, env, hs, es, q⟩ => ⟨T, μ, env, hs, es, q.seq fun v μ1 T1 H1 x s1 hs1 r1 q1 => by
    cases r1
    cases v with
    | false => rw [if_neg (by decide)] at q1 ⊢; exact ⟨T1, μ1, env, hs1, es.step s1, q1⟩
    | true => rw [if_pos rfl] at q1 ⊢; exact Post.now q1 hs1 rfl⟩
theorem ge_one {op} (h : PE X a (GE X.K X.mg W ea)) : PE X (.BoolOp op [a] pos) (GE X.K X.mg W ea) := pe_one h
theorem ge_and {rest : List Expr} (ha : PE X a (GE X.K X.mg W ea)) (hb : PE X (.BoolOp .And (b :: rest) pos) (GE X.K X.mg W eb)) : PE X (.BoolOp .And (a :: b :: rest) pos) (GE X.K X.mg W (eAnd ea eb)) :=
  PE.imp (pe_and ha hb) fun σ H Q ⟨T, μ, env, hs, es, q⟩ => ⟨T, μ, env, hs, es, q.seq fun v μ1 T1 H1 x s1 hs1 r1 q1 => by
    cases r1 with
    | bl k =>
      refine ⟨k, rfl, ?_⟩
      cases k with
      | true => rw [if_pos rfl]; exact ⟨T1, μ1, env, hs1, es.step s1, q1⟩
      | false => rw [if_neg (by decide)]; exact Post.now q1 hs1 (.bl false)
    | _ => exact q1.elim⟩
theorem ge_or {rest : List Expr} (ha : PE X a (GE X.K X.mg W ea)) (hb : PE X (.BoolOp .Or (b :: rest) pos) (GE X.K X.mg W eb)) : PE X (.BoolOp .Or (a :: b :: rest) pos) (GE X.K X.mg W (eOr ea eb)) :=
  PE.imp (pe_or ha hb) fun σ H Q ⟨T, μ, env, hs, es, q⟩ => ⟨T, μ, env, hs, es, q.seq fun v μ1 T1 H1 x s1 hs1 r1 q1 => by
    cases r1 with
    | bl k =>
      refine ⟨k, rfl, ?_⟩
      cases k with
      | false => rw [if_neg (by decide)]; exact ⟨T1, μ1, env, hs1, es.step s1, q1⟩
      | true => rw [if_pos rfl]; exact Post.now q1 hs1 (.bl true)
    | _ => exact q1.elim⟩
theorem ge_not (ha : PE X a (GE X.K X.mg W ea)) : PE X (.UnaryOp .Not a pos) (GE X.K X.mg W (eNot ea)) :=
  PE.imp (pe_not ha) fun σ H Q ⟨T, μ, env, hs, es, q⟩ => ⟨T, μ, env, hs, es, q.seq fun v μ1 T1 H1 x s1 hs1 r1 q1 => by
    cases r1 with
    | bl k => exact ⟨k, rfl, Post.now q1 hs1 (.bl _)⟩
    | _ => exact q1.elim⟩
theorem ge_if {c : Expr} (hc : PT X c (GT X.K X.mg W tv)) (ha : PE X a (GE X.K X.mg W ea)) (hb : PE X b (GE X.K X.mg W eb)) : PE X (.IfExp c a b pos) (GE X.K X.mg W (eIf tv ea eb)) :=
  PE.imp (pe_ifExp hc ha hb) fun σ H Q ⟨T, μ, env, hs, es, q⟩ => ⟨T, μ, env, hs, es, q.seq fun v μ1 T1 H1 x s1 hs1 r1 q1 => by
    cases r1
    cases v with
    | true => rw [if_pos rfl] at q1 ⊢; exact ⟨T1, μ1, env, hs1, es.step s1, q1⟩
    | false => rw [if_neg (by decide)] at q1 ⊢; exact ⟨T1, μ1, env, hs1, es.step s1, q1⟩⟩
theorem ge_un {op : UnaryOp} {r : V → Hp → VK → Prop} {p : Val → Hh → R Val} (ho : UnR X (unaryOp op) r) (hp : P1 X.K r p) (ha : PE X a (GE X.K X.mg W ea)) : PE X (.UnaryOp op a pos) (GE X.K X.mg W (eUn p ea)) :=
  PE.imp (pe_un ho ha) fun σ H Q ⟨T, μ, env, hs, es, q⟩ => ⟨T, μ, env, hs, es, q.seq fun v μ1 T1 H1 x s1 hs1 r1 q1 => hp T1 μ1 H1 v x Q _ hs1 r1 q1⟩
theorem chain_post {r r' : R2} {p p' : Val → Val → Hh → R Val} (hp : P2 X.K r p) (hp' : P2 X.K r' p') {σ : St} {H : Hp} {Q : VK} (q : GE X.K X.mg W (eChain p p' ea eb ec) σ H Q) :
    tChain r r' (GE X.K X.mg W ea) (GE X.K X.mg W eb) (GE X.K X.mg W ec) σ H Q := by
  obtain ⟨T, μ, env, hs, es, q⟩ := q
  refine ⟨T, μ, env, hs, es, q.seq fun v μ1 T1 H1 x s1 hs1 r1 q1 => ⟨T1, μ1, env, hs1, es.step s1, q1.seq fun w μ2 T2 H2 y s2 hs2 r2 q2 => ?_⟩⟩
  refine hp T2 μ2 H2 v w x y _ _ hs2 (r1.step s2) r2 (q2.seq fun z μ3 T3 H3 zz s3 hs3 r3 q3 => ?_)
  cases r3 with
  | bl k =>
    refine ⟨k, rfl, ?_⟩
    cases k with
    | true => exact ⟨T3, μ3, env, hs3, ((es.step s1).step s2).step s3, q3.seq fun u μ4 T4 H4 xx s4 hs4 r4 q4 => hp' T4 μ4 H4 w u y xx Q _ hs4 ((r2.step s3).step s4) r4 q4⟩
    | false => exact Post.now q3 hs3 (.bl false)
  | _ => exact q3.elim
theorem ge_chain {op op' : CmpOp} {r r' : R2} {p p' : Val → Val → Hh → R Val} (ho : OpR X (compareOp op) r) (hp : P2 X.K r p) (ho' : OpR X (compareOp op') r') (hp' : P2 X.K r' p') (ha : PE X a (GE X.K X.mg W ea)) (hb : PE X b (GE X.K X.mg W eb)) (hc : PE X c (GE X.K X.mg W ec))
    (h1 : lastMarks [op, op'] [b, c] = false) : PE X (.Compare a [op, op'] [b, c] pos) (GE X.K X.mg W (eChain p p' ea eb ec)) :=
  PE.imp (pe_chain ho ho' ha hb hc h1) fun σ H Q q => chain_post hp hp' q
theorem gt_chain {op op' : CmpOp} {r r' : R2} {p p' : Val → Val → Hh → R Val} (ho : OpR X (compareOp op) r) (hp : P2 X.K r p) (ho' : OpR X (compareOp op') r') (hp' : P2 X.K r' p') (ha : PE X a (GE X.K X.mg W ea)) (hb : PE X b (GE X.K X.mg W eb)) (hc : PE X c (GE X.K X.mg W ec))
    (h1 : lastMarks [op, op'] [b, c] = false) : PT X (.Compare a [op, op'] [b, c] pos) (GT X.K X.mg W (tB (eChain p p' ea eb ec))) :=
  PT.imp (pt_chain ho ho' ha hb hc h1) fun σ H Q ⟨T, μ, env, hs, es, q⟩ => chain_post hp hp' ⟨T, μ, env, hs, es, tB_post q⟩
theorem ga_nil : PA X [] (GA X.K X.mg W aNil) := PA.imp pa_nil fun σ H Q ⟨T, μ, env, hs, es, q⟩ => Post.now q hs .nil
theorem ga_cons (ha : PE X a (GE X.K X.mg W ea)) (hr : PA X es (GA X.K X.mg W av)) (hs : starEach (a :: es) X.env = (false, eval a X.env) :: starEach es X.env := by rfl) : PA X (a :: es) (GA X.K X.mg W (aCons ea av)) :=
  PA.imp (pa_cons ha hr hs) fun σ H Q ⟨T, μ, env, hs, es, q⟩ => ⟨T, μ, env, hs, es, q.seq fun v μ1 T1 H1 x s1 hs1 r1 q1 => ⟨T1, μ1, env, hs1, es.step s1, q1.seq fun w μ2 T2 H2 y s2 hs2 r2 q2 => Post.now q2 hs2 (.cons (r1.step s2) r2)⟩⟩
theorem ge_tup {k} (h : PA X es (GA X.K X.mg W av)) : PE X (.Tuple es k pos) (GE X.K X.mg W (eTup av)) :=
  PE.imp (pe_tup h) fun σ H Q ⟨T, μ, env, hs, es, q⟩ => ⟨T, μ, env, hs, es, q.seq fun v μ1 T1 H1 x s1 hs1 r1 q1 => by
    split at q1
    · rename_i hl
      exact ⟨by rw [r1.length]; exact hl, fun p hp => tup_post rfl hs1 r1 hp q1⟩
    · exact q1.elim⟩
theorem ge_lst (m : Bool) (h : PA X es (GA X.K X.mg W av)) : PE X (.List es pos) (GE X.K X.mg W (eLst m av)) :=
  PE.imp (pe_lst h) fun σ H Q ⟨T, μ, env, hs, es, q⟩ => ⟨T, μ, env, hs, es, q.seq fun v μ1 T1 H1 x s1 hs1 r1 q1 => by
    split at q1
    · rename_i hl
      exact ⟨by rw [r1.length]; exact hl, fun p hp => mk_post hs1 r1 hp q1⟩
    · exact q1.elim⟩
/-- x[i] -/
theorem ge_ix {r : R2} {p : Val → Val → Hh → R Val} (hr : IxR X r) (hp : P2 X.K r p) (ha : PE X a (GE X.K X.mg W ea)) (hb : PE X b (GE X.K X.mg W eb)) (hs : PlainIx b) : PE X (.Subscript a b pos) (GE X.K X.mg W (eOp p ea eb)) :=
  PE.imp (pe_ix hr ha hb hs) fun σ H Q ⟨T, μ, env, hs, es, q⟩ => ⟨T, μ, env, hs, es, q.seq fun v μ1 T1 H1 x s1 hs1 r1 q1 => ⟨T1, μ1, env, hs1, es.step s1, q1.seq fun w μ2 T2 H2 y s2 hs2 r2 q2 => hp T2 μ2 H2 v w x y Q _ hs2 (r1.step s2) r2 q2⟩⟩
/-- a built-in function, a built-in class called -/
theorem ge_callB {x : Str} {p pos : Pos} {id : String} {r : List V → Hp → VK → Prop} {f : List Val → Hh → R Val} (hc : CallR X (.builtin id) r) (hp : PL X.K r f) (hg : Gl X x) (hm : X.mg x = none) (hv : bootBuiltins x = some (.builtin id)) (ha : PA X (a :: es) (GA X.K X.mg W av)) (hn : x ≠ "__name__" := by decide) (hdb : (x == ("__debug__" : Str)) = false := by decide)
    (he : starEach (a :: es) X.env = (false, eval a X.env) :: starEach es X.env := by rfl) (hpl : (backTo pos (starEach es X.env)).any (·.1) = false := by rfl) : PE X (.Call (.Name x p) (a :: es) [] pos) (GE X.K X.mg W (eCall f av)) :=
  PE.imp (pe_callB hc hg hm hv ha hn hdb he hpl) fun σ H Q ⟨T, μ, env, hs, es, q⟩ => ⟨T, μ, env, hs, es, q.seq fun v μ1 T1 H1 x s1 hs1 r1 q1 => hp T1 μ1 H1 v x Q _ hs1 r1 q1⟩
/-- o.m(..), o.m() -/
theorem ge_bm {o : Expr} {name : Str} {apos cpos : Pos} {T id : String} {r : V → List V → Hp → VK → Prop} {eo : Ev} {ck : Val → Bool} {f : Val → List Val → Hh → R Val} (pa : PlainAttrs T) (slot : Slot T name id) (hty : typeOf (.builtin id) = pure (.type "method_descriptor")) (hm : MtR X id r) (hp : PM X.K r f)
    (hT : ∀ (T' : Tr) (μ : Hh) (H : Hp) (v : Val) (x : V), ck v = true → HSim X.K T' μ H → RepV X.K H T' v x → tyV X.K T x H)
    (ho : PE X o (GE X.K X.mg W eo)) (ha : PA X (a :: es) (GA X.K X.mg W av)) (hbase : attributeBase o name X.env (eval o X.env) = eval o X.env := by rfl)
    (hfew : ((backTo cpos (starEach (a :: es) X.env)).all (fun x => !x.1) && (backToKw cpos (keywordEach [] X.env)).all (fun x => x.1.isSome)
      && decide ((a :: es).length + ([] : List Keyword).length + (if ([] : List Keyword).isEmpty then 0 else 1) < 30)) = true := by rfl)
    (hline : (apos.endLine == cpos.line) = true := by rfl) (hs : starEach (a :: es) X.env = (false, eval a X.env) :: starEach es X.env := by rfl) (hplain : (backTo cpos (starEach es X.env)).any (·.1) = false := by rfl) :
    PE X (.Call (.Attribute o name apos) (a :: es) [] cpos) (GE X.K X.mg W (eMeth ck f eo av)) :=
  PE.imp (pe_bm pa slot hty hm ho ha hbase hfew hline hs hplain) fun σ H Q ⟨T1, μ, env, hs, es, q⟩ => ⟨T1, μ, env, hs, es, q.seq fun v μ1 T1 H1 x s1 hs1 r1 q1 => by
    split at q1
    · rename_i hc
      exact ⟨hT T1 μ1 H1 v x hc hs1 r1, T1, μ1, env, hs1, es.step s1, q1.seq fun vs μ2 T2 H2 xs s2 hs2 r2 q2 => hp T2 μ2 H2 v x vs xs Q _ hs2 (r1.step s2) r2 q2⟩
    · exact q1.elim⟩
omit [Tb] in
theorem knd_lst {o : Option HO} (h : knd o = 1) : ∃ xs, o = some (.lst xs) := by
  unfold knd at h
  split at h
  · exact ⟨_, rfl⟩
  all_goals cases h
theorem tyL {K : PySem.W.Frag} (T' : Tr) (μ : Hh) (H : Hp) (v : Val) (x : V) (hc : isL v = true) (hs : HSim K T' μ H) (r : RepV K H T' v x) : tyV K "list" x H := by
  cases r with
  | @lst a xs vs b h r => exact .inl ⟨rfl, xs, SqL.of h⟩
  | @ref n a h k =>
    obtain ⟨xs, q⟩ := knd_lst k
    exact .inl ⟨rfl, xs, SqL.of q⟩
  | _ => cases hc
theorem ge_callT {x : Str} {p pos : Pos} {id : String} {r : List V → Hp → VK → Prop} {f : List Val → Hh → R Val} (hc : CallR X (.type id) r) (hp : PL X.K r f) (hg : Gl X x) (hm : X.mg x = none) (hv : bootBuiltins x = some (.type id)) (ha : PA X (a :: es) (GA X.K X.mg W av)) (hn : x ≠ "__name__" := by decide) (hdb : (x == ("__debug__" : Str)) = false := by decide)
    (he : starEach (a :: es) X.env = (false, eval a X.env) :: starEach es X.env := by rfl) (hpl : (backTo pos (starEach es X.env)).any (·.1) = false := by rfl) : PE X (.Call (.Name x p) (a :: es) [] pos) (GE X.K X.mg W (eCall f av)) :=
  PE.imp (pe_callTy hc hg hm hv ha hn hdb he hpl) fun σ H Q ⟨T, μ, env, hs, es, q⟩ => ⟨T, μ, env, hs, es, q.seq fun v μ1 T1 H1 x s1 hs1 r1 q1 => hp T1 μ1 H1 v x Q _ hs1 r1 q1⟩
end
end Mp

set_option Elab.async false
set_option linter.all false
set_option maxRecDepth 100000
namespace Mp
open PySem PySem.Spec PyProof.Rows L2
variable [Tb]

/-! ### the items of a list, a tuple -/
/-- the items of a list as it stands -/
def lsq (v : Val) (h : Hh) : Option (List Val) := match v with
  | .lst l => some l
  | .fz l => some l
  | .ref n => match h[n]? with
    | some (.lst l) => some l
    | _ => none
  | _ => none
section
variable {K : PySem.W.Frag} {T : Tr} {μ : Hh} {H : Hp} {v : Val} {x : V} {vs : List Val} {Q : VK} {E : EK}
theorem lsq_rep (hs : HSim K T μ H) (r : RepV K H T v x) (e : lsq v μ = some vs) : ∃ a xs, x = .ref a ∧ SqL K H a xs ∧ RepL K H T vs xs := by
  cases r with
  | @lst a xs vs' b h r => simp only [lsq, Option.some.injEq] at e; subst e; exact ⟨a, xs, rfl, SqL.of h, r⟩
  | @fz a xs vs' h r =>
    simp only [lsq, Option.some.injEq] at e
    subst e
    exact ⟨a, xs, rfl, h.elim (fun q => .inl (.inr q.2)) .inr, r⟩
  | @ref n a h k =>
    unfold lsq at e
    dsimp only at e
    split at e
    · rename_i l el
      cases e
      obtain ⟨a', xs, ea, _, q, r⟩ := hs.get el (.ref h k)
      cases ea
      exact ⟨_, xs, rfl, SqL.of q, r⟩
    · cases e
  | _ => simp only [lsq] at e; cases e
/-- .. a list that is tracked (no script) -/
theorem lsq_rep' (hs : HSim K T μ H) (r : RepV K H T v x) (e : lsq v μ = some vs) (nf : ∀ l, v ≠ .fz l) : ∃ a xs, x = .ref a ∧ H a = some (.lst xs) ∧ RepL K H T vs xs := by
  cases r with
  | @lst a xs vs' b h r => simp only [lsq, Option.some.injEq] at e; subst e; exact ⟨a, xs, rfl, h, r⟩
  | @fz a xs vs' h r => exact absurd rfl (nf _)
  | @ref n a h k =>
    unfold lsq at e
    dsimp only at e
    split at e
    · rename_i l el
      cases e
      obtain ⟨a', xs, ea, _, q, r⟩ := hs.get el (.ref h k)
      cases ea
      exact ⟨_, xs, rfl, q, r⟩
    · cases e
  | _ => simp only [lsq] at e; cases e
omit [Tb] in
theorem tup_rep (r : RepV K H T (.tup vs) x) : ∃ a xs, x = .ref a ∧ SqT K H a xs ∧ RepL K H T vs xs := by
  cases r with
  | tup h r =>
    rcases h with ⟨_, h⟩ | h
    · exact ⟨_, _, rfl, SqT.of h, r⟩
    · exact ⟨_, _, rfl, .inr h.1, r⟩
omit [Tb] in
theorem RepL.cut {xs : List V} (r : RepL K H T vs xs) (lo hi : Option Int) : RepL K H T ((vs.drop (HT.sIx vs.length 0 lo)).take (HT.sIx vs.length vs.length hi - HT.sIx vs.length 0 lo)) (cutV xs lo hi) := by
  unfold cutV; rw [r.length]; exact (r.drop _).take _
omit [Tb] in
theorem RepL.reps {xs : List V} (r : RepL K H T vs xs) : ∀ n, RepL K H T (List.replicate n vs).flatten (List.replicate n xs).flatten
  | 0 => .nil
  | n + 1 => by
    rw [List.replicate_succ, List.replicate_succ, List.flatten_cons, List.flatten_cons]
    exact r.append (r.reps n)
end

/-! ### + - * // % ** -/
def addP (m : Bool) (v w : Val) (h : Hh) : R Val := match v, w with
  | .int i, .int j => .ok (.int (i + j)) h
  | .tup a, .tup b => if a.length + b.length ≤ sizeLine then .ok (.tup (a ++ b)) h else .bad
  | .str a, .str b => if a.length + b.length ≤ sizeLine then .ok (.str (a ++ b)) h else .bad
  | .fz _, _ => .bad
  | _, .fz _ => .bad
  | v, w => match lsq v h, lsq w h with
    | some a, some b => if a.length + b.length ≤ sizeLine then mk m (a ++ b) h else .bad
    | _, _ => .bad
omit [Tb] in
theorem opAdd {X : Cx} : OpR X (binaryOp .Add) (fun x y H Q => rI0 (fun i j => .int (i + j)) x y H Q ∨ rCat x y H Q ∨ rCatA X.K x y H Q ∨
    (∃ i j, x = .str i ∧ y = .str j ∧ i.length + j.length ≤ sizeLine ∧ Q (.str (i ++ j)) H)) := op_add.or (op_cat.or (op_catA.or op_add_str))
theorem p2_add {K : PySem.W.Frag} (m : Bool) : P2 K (fun x y H Q => rI0 (fun i j => .int (i + j)) x y H Q ∨ rCat x y H Q ∨ rCatA K x y H Q ∨
    (∃ i j, x = .str i ∧ y = .str j ∧ i.length + j.length ≤ sizeLine ∧ Q (.str (i ++ j)) H)) (addP m) := by
  intro T μ H v w x y Q E hs r1 r2 q
  unfold addP at q
  split at q
  · rename_i i j
    cases r1; cases r2
    exact .inl ⟨_, _, rfl, rfl, Post.now q hs (.int _)⟩
  · rename_i a b
    obtain ⟨p, xs, rfl, h1, l1⟩ := tup_rep r1
    obtain ⟨p2, ys, rfl, h2, l2⟩ := tup_rep r2
    split at q
    · rename_i hl
      refine .inr (.inr (.inl ⟨p, p2, xs, ys, rfl, rfl, h1, h2, by rw [l1.length, l2.length]; exact hl, fun e => ?_, fun e e2 => ?_, fun e e2 p hp => tup_post rfl hs (l1.append l2) hp q⟩))
      · subst e; cases l1; exact Post.now q hs r2
      · subst e2; cases l2; rw [List.append_nil] at q; exact Post.now q hs r1
    · exact q.elim
  · rename_i a b
    cases r1; cases r2
    split at q
    · rename_i hl
      exact .inr (.inr (.inr ⟨_, _, rfl, rfl, hl, Post.now q hs (.str _)⟩))
    · exact q.elim
  · exact q.elim
  · exact q.elim
  · rename_i nf1 nf2 _ _ _
    split at q
    · rename_i a b e1 e2
      obtain ⟨p, xs, rfl, h1, l1⟩ := lsq_rep' hs r1 e1 nf1
      obtain ⟨p2, ys, rfl, h2, l2⟩ := lsq_rep' hs r2 e2 nf2
      split at q
      · rename_i hl
        exact .inr (.inl ⟨p, p2, xs, ys, rfl, rfl, h1, h2, by rw [l1.length, l2.length]; exact hl, fun p hp => mk_post hs (l1.append l2) hp q⟩)
      · exact q.elim
    · exact q.elim
def subP (v w : Val) (h : Hh) : R Val := match v, w with
  | .int i, .int j => .ok (.int (i - j)) h
  | _, _ => .bad
theorem p2_sub {K : PySem.W.Frag} : P2 K (rI0 fun i j => .int (i - j)) subP := by
  intro T μ H v w x y Q E hs r1 r2 q
  unfold subP at q
  split at q
  · cases r1; cases r2
    exact ⟨_, _, rfl, rfl, Post.now q hs (.int _)⟩
  · exact q.elim
/-- products that the machine lets -/
def mulOk (i j : Int) : Prop := (-(2 ^ 64) < i ∧ i < 2 ^ 64) ∨ (-(2 ^ 64) < j ∧ j < 2 ^ 64) ∨ i.natAbs.log2 + j.natAbs.log2 < 1000000
instance (i j : Int) : Decidable (mulOk i j) := by unfold mulOk; infer_instance
/-- tuple * int, of any size that is laid -/
def rRepB (K : PySem.W.Frag) : R2 := fun x y H Q => ∃ a n vs, x = .ref a ∧ y = .int n ∧ SqT K H a vs ∧ vs ≠ [] ∧ 2 ≤ n ∧ vs.length * n.toNat ≤ 1000000 ∧ ∀ q, H q = none → Q (.ref q) (upd H q (.tup (List.replicate n.toNat vs).flatten))
omit [Tb] in
theorem op_repB {X : Cx} : OpR X (binaryOp .Mult) (rRepB X.K) := by
  intro pins s σ H x y v u Q I rx ry hq
  obtain ⟨a, n, vs, rfl, rfl, tT, nE, low, big, fin⟩ := hq
  cases rx
  obtain ⟨tk, rfl⟩ := ry
  obtain ⟨ws, rv, ⟨⟨c0, d0, da, so⟩, lk, ec, m, ed⟩, hz⟩ := I.tuple tT
  simp only at ec ed
  subst ec ed
  have len : ws.length = vs.length := rv.length.symm
  have nW : ws ≠ [] := fun z => nE (List.eq_nil_of_length_eq_zero (by rw [← len, z]; rfl))
  have em : ws.toArray.isEmpty = false := by
    cases ws with
    | nil => exact absurd rfl nW
    | cons _ _ => rfl
  have sz : ws.toArray.size = vs.length := by rw [List.size_toArray, len]
  have h1 : 1 ≤ vs.length := by
    rcases Nat.eq_zero_or_pos vs.length with z | z
    · exact absurd (List.eq_nil_of_length_eq_zero z) nE
    · exact z
  have nn : ((n.toNat : Nat) : Int) = n := Int.toNat_of_nonneg (by omega)
  have mulI : ((ws.toArray.size : Nat) : Int) * n ≤ 1000000 := by
    rw [sz, ← nn, ← Int.natCast_mul]
    omega
  have nb : n ≤ 1000000 := by
    have z : 1 * n.toNat ≤ vs.length * n.toNat := Nat.mul_le_mul_right _ h1
    omega
  have fl : (List.replicate n.toNat ws).flatten.length ≤ sizeLine := by
    rw [PyProof.Rows.lm_len_rep_flat, len, sizeLine_eq, Nat.mul_comm]
    omega
  have e0 : (decide (n < -(2 ^ 63)) || decide (n ≥ 2 ^ 63)) = false := by
    rw [decide_eq_false (by omega), decide_eq_false (by omega)] <;> rfl
  have e1 : (ws.toArray.isEmpty || n == 1) = false := by
    rw [em, Bool.false_or]; exact beq_eq_false_iff_ne.mpr (by omega)
  have e2 : (decide (n ≤ 0) || ws.toArray.isEmpty) = false := by
    rw [em, Bool.or_false]; exact decide_eq_false (by omega)
  have e4 : Builtin.Tuple.tupleTooMany (((ws.toArray.size : Nat) : Int) * n) = false := by
    unfold Builtin.Tuple.tupleTooMany
    rw [sizeLine_eq]; exact decide_eq_false (by omega)
  have inner := tuple_mulW a ws.toArray m d0 so n tk e0 e1 e2 (by omega) e4 (by rw [L2.size_rep, List.size_toArray]; exact fl)
  have outer := int_rmul_tuple n tk a ws.toArray m d0 so
  refine wpAny_binaryOp_repeat_ref (T := "tuple") (U := "int") (by decide) ⟨_, lk, rfl⟩ (fun s' => typeIs_int s' n tk) noFill_tuple_mul F.fills_int_mul F.slot_int_rmul repeat_tuple F.slot_int_index.lookup ?_
  refine call_meets F.slot_int_rmul (typeIs_int s n tk) F.entry_int_rmul (F.args_int_rmul_2 _ _) outer ⟨lk, rfl, ⟨_, lk, rfl⟩, ?_⟩
  refine call_meets F.slot_tuple_mul ⟨_, lk, rfl⟩ F.entry_tuple_mul (F.args_tuple_mul_2 _ _) inner ⟨lk, ?_⟩
  rw [L2.size_rep]
  refine ⟨.ref s.heap.objs.size, _, I.laid (t' := s.toks) (o := .tup (List.replicate n.toNat vs).flatten) (fun b ob z => Heap.get?_push_of_some _ z) (Nat.le_refl _) ⟨?_, _, rv.rep n.toNat, IsTup.new _ _⟩, rfl, fin _ (I.hok.fresh (Nat.le_refl _))⟩
  rw [PyProof.Rows.lm_len_rep_flat, sizeLine_eq, Nat.mul_comm]
  omega
def mulP (m : Bool) (v w : Val) (h : Hh) : R Val := match v, w with
  | .int i, .int j => if mulOk i j then .ok (.int (i * j)) h else .bad
  | .tup a, .int k => if a ≠ [] ∧ 2 ≤ k ∧ a.length * k.toNat ≤ 1000000 then .ok (.tup (List.replicate k.toNat a).flatten) h else .bad
  | .fz _, _ => .bad
  | v, .int k => match lsq v h with
    | some a => if -(2 ^ 63) ≤ k ∧ k < 2 ^ 63 ∧ a.length * k.toNat ≤ sizeLine then mk m (List.replicate k.toNat a).flatten h else .bad
    | _ => .bad
  | _, _ => .bad
omit [Tb] in
theorem opMul {X : Cx} : OpR X (binaryOp .Mult) (fun x y H Q => rI CMul (fun i j => .int (i * j)) x y H Q ∨ rI CMulW (fun i j => .int (i * j)) x y H Q ∨ rRepB X.K x y H Q ∨ rRep x y H Q) := op_mul.or (op_mulW.or (op_repB.or op_rep))
theorem p2_mul {K : PySem.W.Frag} (m : Bool) : P2 K (fun x y H Q => rI CMul (fun i j => .int (i * j)) x y H Q ∨ rI CMulW (fun i j => .int (i * j)) x y H Q ∨ rRepB K x y H Q ∨ rRep x y H Q) (mulP m) := by
  intro T μ H v w x y Q E hs r1 r2 q
  unfold mulP at q
  split at q
  · rename_i i j
    cases r1; cases r2
    split at q
    · rename_i hm
      rcases hm with hm | hm | hm
      · exact .inl ⟨_, _, rfl, rfl, .inl hm, Post.now q hs (.int _)⟩
      · exact .inl ⟨_, _, rfl, rfl, .inr hm, Post.now q hs (.int _)⟩
      · exact .inr (.inl ⟨_, _, rfl, rfl, hm, Post.now q hs (.int _)⟩)
    · exact q.elim
  · rename_i a k
    obtain ⟨p, xs, rfl, h1, l1⟩ := tup_rep r1
    cases r2
    split at q
    · rename_i hk
      refine .inr (.inr (.inl ⟨p, k, xs, rfl, rfl, h1, fun e => hk.1 ?_, hk.2.1, by rw [l1.length]; exact hk.2.2, fun p hp => tup_post rfl hs (l1.reps _) hp q⟩))
      subst e; cases l1; rfl
    · exact q.elim
  · exact q.elim
  · rename_i nf
    cases r2
    split at q
    · rename_i a e1
      obtain ⟨p, xs, rfl, h1, l1⟩ := lsq_rep' hs r1 e1 nf
      split at q
      · rename_i hk
        exact .inr (.inr (.inr ⟨p, _, xs, rfl, rfl, h1, hk.1, hk.2.1, by rw [l1.length]; exact hk.2.2, fun p hp => mk_post hs (l1.reps _) hp q⟩))
      · exact q.elim
    · exact q.elim
  · exact q.elim
def divP (v w : Val) (h : Hh) : R Val := match v, w with
  | .int i, .int j => if 0 < j ∧ j.natAbs.log2 < 9000 then .ok (.int (i / j)) h else .bad
  | _, _ => .bad
theorem p2_div {K : PySem.W.Frag} : P2 K (rI CDivW fun i j => .int (i / j)) divP := by
  intro T μ H v w x y Q E hs r1 r2 q
  unfold divP at q
  split at q
  · cases r1; cases r2
    split at q
    · rename_i hk
      exact ⟨_, _, rfl, rfl, hk, Post.now q hs (.int _)⟩
    · exact q.elim
  · exact q.elim
def modP (v w : Val) (h : Hh) : R Val := match v, w with
  | .int i, .int j => if 0 < j then .ok (.int (i % j)) h else .bad
  | _, _ => .bad
theorem p2_mod {K : PySem.W.Frag} : P2 K (rI (fun _ j => 0 < j) fun i j => .int (i % j)) modP := by
  intro T μ H v w x y Q E hs r1 r2 q
  unfold modP at q
  split at q
  · cases r1; cases r2
    split at q
    · rename_i hk
      exact ⟨_, _, rfl, rfl, hk, Post.now q hs (.int _)⟩
    · exact q.elim
  · exact q.elim
def powP (v w : Val) (h : Hh) : R Val := match v, w with
  | .int i, .int j => if 0 ≤ j ∧ j ≤ 1000000 ∧ i.natAbs < 2 ^ 64 then .ok (.int (i ^ j.toNat)) h else .bad
  | _, _ => .bad
theorem p2_pow {K : PySem.W.Frag} : P2 K (rI CPow fun i j => .int (i ^ j.toNat)) powP := by
  intro T μ H v w x y Q E hs r1 r2 q
  unfold powP at q
  split at q
  · cases r1; cases r2
    split at q
    · rename_i hk
      exact ⟨_, _, rfl, rfl, hk, Post.now q hs (.int _)⟩
    · exact q.elim
  · exact q.elim
def negP (v : Val) (h : Hh) : R Val := match v with
  | .int i => .ok (.int (-i)) h
  | _ => .bad
theorem p1_neg {K : PySem.W.Frag} : P1 K (rU fun i => .int (-i)) negP := by
  intro T μ H v x Q E hs r q
  unfold negP at q
  split at q
  · cases r; exact ⟨_, rfl, Post.now q hs (.int _)⟩
  · exact q.elim

/-! ### comparisons -/
def cmpP (f : Int → Int → Bool) (v w : Val) (h : Hh) : R Val := match v, w with
  | .int i, .int j => .ok (.bl (f i j)) h
  | _, _ => .bad
theorem p2_cmp {K : PySem.W.Frag} (f : Int → Int → Bool) : P2 K (rI0 fun i j => .bl (f i j)) (cmpP f) := by
  intro T μ H v w x y Q E hs r1 r2 q
  unfold cmpP at q
  split at q
  · cases r1; cases r2
    exact ⟨_, _, rfl, rfl, Post.now q hs (.bl _)⟩
  · exact q.elim
abbrev ltP := cmpP fun i j => decide (i < j)
abbrev leP := cmpP fun i j => decide (i ≤ j)
abbrev gtP := cmpP fun i j => decide (j < i)
abbrev geP := cmpP fun i j => decide (j ≤ i)
def isNP (v w : Val) (h : Hh) : R Val := match w with
  | .non => match v with
    | .non => .ok (.bl true) h
    | _ => .ok (.bl false) h
  | _ => .bad
def notNP (v w : Val) (h : Hh) : R Val := match w with
  | .non => match v with
    | .non => .ok (.bl false) h
    | _ => .ok (.bl true) h
  | _ => .bad
theorem p2_isN {K : PySem.W.Frag} : P2 K (fun x y H Q => y = .non ∧ Q (.bl (decide (x = .non))) H) isNP := by
  intro T μ H v w x y Q E hs r1 r2 q
  unfold isNP at q
  cases r2 with
  | non =>
    refine ⟨rfl, ?_⟩
    cases r1 with
    | non => exact Post.now q hs (.bl _)
    | _ => exact Post.now q hs (.bl false)
  | _ => exact q.elim
theorem p2_notN {K : PySem.W.Frag} : P2 K (fun x y H Q => y = .non ∧ Q (.bl (!decide (x = .non))) H) notNP := by
  intro T μ H v w x y Q E hs r1 r2 q
  unfold notNP at q
  cases r2 with
  | non =>
    refine ⟨rfl, ?_⟩
    cases r1 with
    | non => exact Post.now q hs (.bl _)
    | _ => exact Post.now q hs (.bl true)
  | _ => exact q.elim
def notBP (v w : Val) (h : Hh) : R Val := match v, w with
  | .bl a, .bl b => .ok (.bl (!decide (a = b))) h
  | _, _ => .bad
theorem p2_notB {K : PySem.W.Frag} : P2 K rNotB notBP := by
  intro T μ H v w x y Q E hs r1 r2 q
  unfold notBP at q
  split at q
  · cases r1; cases r2
    exact ⟨_, _, rfl, rfl, Post.now q hs (.bl _)⟩
  · exact q.elim

/-! ### == of data -/
mutual
def Val.pd : Val → Option PyData
  | .non => some .none
  | .bl b => some (.bool b)
  | .int i => some (.int i)
  | .str s => some (.str s)
  | .tup l => (pdL l).map .tuple
  | .lst l => (pdL l).map .list
  | .fz l => (pdL l).map .list
  | .ref _ => none
  | .ty _ => none
  | .fn _ => none
  | .dic _ _ => none
  | .dref _ => none
def pdL : List Val → Option (List PyData)
  | [] => some []
  | v :: l => match v.pd, pdL l with
    | some d, some ds => some (d :: ds)
    | _, _ => none
end
section
variable {K : PySem.W.Frag} {T : Tr} {H : Hp}
omit [Tb] in
mutual
theorem RepV.dp : ∀ {v : Val} {x : V} {d : PyData}, RepV K H T v x → v.pd = some d → Dp K H x d
  | _, _, _, .non, e => by unfold Val.pd at e; cases e; exact .non
  | _, _, _, .bl b, e => by unfold Val.pd at e; cases e; exact .bl b
  | _, _, _, .int b, e => by unfold Val.pd at e; cases e; exact .int b
  | _, _, _, .str b, e => by unfold Val.pd at e; cases e; exact .str b
  | _, _, _, .ty b, e => by unfold Val.pd at e; cases e
  | _, _, _, .ref b _, e => by unfold Val.pd at e; cases e
  | _, _, _, .dref b _, e => by unfold Val.pd at e; cases e
  | _, _, _, .fn b, e => by unfold Val.pd at e; cases e
  | _, _, _, .dicK _ _ _, e => by unfold Val.pd at e; cases e
  | _, _, _, .dicT _ _ _, e => by unfold Val.pd at e; cases e
  | _, _, _, .tup (.inl ⟨_, h⟩) r, e => by
    unfold Val.pd at e
    obtain ⟨ds, e1, e2⟩ := Option.map_eq_some_iff.mp e
    subst e2
    exact .tup (SqT.of h) (r.dp e1)
  | _, _, _, .tup (.inr h) r, e => by
    unfold Val.pd at e
    obtain ⟨ds, e1, e2⟩ := Option.map_eq_some_iff.mp e
    subst e2
    exact .tup (.inr h.1) (r.dp e1)
  | _, _, _, .lst _ h r, e => by
    unfold Val.pd at e
    obtain ⟨ds, e1, e2⟩ := Option.map_eq_some_iff.mp e
    subst e2
    exact .lst (SqL.of h) (r.dp e1)
  | _, _, _, .fz h r, e => by
    unfold Val.pd at e
    obtain ⟨ds, e1, e2⟩ := Option.map_eq_some_iff.mp e
    subst e2
    exact .lst (h.elim (fun q => .inl (.inr q.2)) .inr) (r.dp e1)
theorem RepL.dp : ∀ {vs : List Val} {xs : List V} {ds : List PyData}, RepL K H T vs xs → pdL vs = some ds → DpAll K H xs ds
  | _, _, _, .nil, e => by unfold pdL at e; cases e; exact .nil
  | _, _, _, .cons h r, e => by
    unfold pdL at e
    split at e
    · rename_i d ds e1 e2
      cases e
      exact .cons (h.dp e1) (r.dp e2)
    · cases e
end
end
/-- a value as data, a list that may change as it stands -/
def pdOf (v : Val) (h : Hh) : Option PyData := match v with
  | .ref n => match h[n]? with
    | some (.lst l) => (pdL l).map .list
    | _ => none
  | v => v.pd
theorem pdOf_rep {K : PySem.W.Frag} {T : Tr} {μ : Hh} {H : Hp} {v : Val} {x : V} {d : PyData} (hs : HSim K T μ H) (r : RepV K H T v x) (e : pdOf v μ = some d) : Dp K H x d := by
  cases r with
  | @ref n a h k =>
    unfold pdOf at e
    dsimp only at e
    split at e
    · rename_i l el
      obtain ⟨ds, e1, e2⟩ := Option.map_eq_some_iff.mp e
      subst e2
      obtain ⟨a', xs, ea, _, q, r⟩ := hs.get el (.ref h k)
      cases ea
      exact .lst (SqL.of q) (r.dp e1)
    · cases e
  | non => exact RepV.dp (T := T) .non e
  | bl b => exact RepV.dp (T := T) (.bl b) e
  | int b => exact RepV.dp (T := T) (.int b) e
  | str b => exact RepV.dp (T := T) (.str b) e
  | ty b => exact RepV.dp (T := T) (.ty b) e
  | tup h r => exact RepV.dp (.tup h r) e
  | lst b h r => exact RepV.dp (.lst b h r) e
  | fz h r => exact RepV.dp (.fz h r) e
  | fn h => exact RepV.dp (T := T) (.fn h) e
  | dicK b h r => exact RepV.dp (.dicK b h r) e
  | dicT b h r => exact RepV.dp (.dicT b h r) e
  | dref h k => exact RepV.dp (.dref h k) e
def eqP (v w : Val) (h : Hh) : R Val := match pdOf v h, pdOf w h with
  | some d, some e => if SeqAt.shaped d = true ∧ SeqAt.shaped e = true then .ok (.bl (PyData.eqv d e)) h else .bad
  | _, _ => .bad
def neP (v w : Val) (h : Hh) : R Val := match pdOf v h, pdOf w h with
  | some d, some e => if SeqAt.shaped d = true ∧ SeqAt.shaped e = true then .ok (.bl (!PyData.eqv d e)) h else .bad
  | _, _ => .bad
theorem p2_eq {K : PySem.W.Frag} : P2 K (rEqD K) eqP := by
  intro T μ H v w x y Q E hs r1 r2 q
  unfold eqP at q
  split at q
  · rename_i d e e1 e2
    split at q
    · rename_i hk
      exact ⟨d, e, pdOf_rep hs r1 e1, pdOf_rep hs r2 e2, hk.1, hk.2, Post.now q hs (.bl _)⟩
    · exact q.elim
  · exact q.elim
theorem p2_ne {K : PySem.W.Frag} : P2 K (rNeD K) neP := by
  intro T μ H v w x y Q E hs r1 r2 q
  unfold neP at q
  split at q
  · rename_i d e e1 e2
    split at q
    · rename_i hk
      exact ⟨d, e, pdOf_rep hs r1 e1, pdOf_rep hs r2 e2, hk.1, hk.2, Post.now q hs (.bl _)⟩
    · exact q.elim
  · exact q.elim
/-- in, not in a list of data -/
def inP (neg : Bool) (v w : Val) (h : Hh) : R Val := match pdOf v h, pdOf w h with
  | some d, some (.list ds) => if SeqAt.shaped d = true ∧ SeqAt.shaped (.list ds) = true then .ok (.bl (if neg = true then !ds.any fun z => PyData.eqv z d else ds.any fun z => PyData.eqv z d)) h else .bad
  | _, _ => .bad

theorem p2_notIn {K : PySem.W.Frag} : P2 K (rNotInD K) (inP true) := by
  intro T μ H v w x y Q E hs r1 r2 q
  unfold inP at q
  split at q
  · rename_i d ds e1 e2
    split at q
    · rename_i hk
      exact ⟨d, ds, pdOf_rep hs r1 e1, pdOf_rep hs r2 e2, hk.1, hk.2, Post.now q hs (.bl _)⟩
    · exact q.elim
  · exact q.elim

/-! ### x[i] -/
def ixP (v w : Val) (h : Hh) : R Val := match w with
  | .int i => match v with
    | .tup l => match atI l i with
      | some u => .ok u h
      | none => .bad
    | v => match lsq v h with
      | some l => match atI l i with
        | some u => .ok u h
        | none => .bad
      | none => .bad
  | _ => .bad
omit [Tb] in
theorem RepL.at' {K : PySem.W.Frag} {T : Tr} {H : Hp} {vs : List Val} {xs : List V} {i : Int} {u : Val} (r : RepL K H T vs xs) (e : atI vs i = some u) : ∃ x, atI xs i = some x ∧ RepV K H T u x := by
  unfold atI at e ⊢
  rw [r.length]
  cases hj : ixN vs.length i with
  | none => rw [hj] at e; cases e
  | some j =>
    rw [hj] at e
    exact r.get (show vs[j]? = some u from e)
theorem p2_ix {K : PySem.W.Frag} : P2 K (rIx K) ixP := by
  intro T μ H v w x y Q E hs r1 r2 q
  unfold ixP at q
  split at q
  · rename_i i
    cases r2
    split at q
    · rename_i l
      split at q
      · rename_i u e
        obtain ⟨p, xs, rfl, h1, l1⟩ := tup_rep r1
        obtain ⟨z, e', r⟩ := l1.at' e
        exact .inr (.inl ⟨p, xs, i, z, rfl, rfl, h1, e', Post.now q hs r⟩)
      · exact q.elim
    · split at q
      · rename_i l el
        split at q
        · rename_i u e
          obtain ⟨p, xs, rfl, h1, l1⟩ := lsq_rep hs r1 el
          obtain ⟨z, e', r⟩ := l1.at' e
          exact .inl ⟨p, xs, i, z, rfl, rfl, h1, e', Post.now q hs r⟩
        · exact q.elim
      · exact q.elim
  · exact q.elim

/-! ### x[lo:hi] -/
abbrev Pv := Env → Hh → R (Option Int)
abbrev RO : Hp → Tr → Option Int → Option Int → Prop := fun _ _ v x => x = v
def oNone : Pv := fun _ h => .ok none h
def oSome (a : Ev) : Pv := fun env h => (a env h).bnd fun x h1 => match x with
  | .int i => .ok (some i) h1
  | _ => .bad
def cutL (l : List Val) (lo hi : Option Int) : List Val := (l.drop (HT.sIx l.length 0 lo)).take (HT.sIx l.length l.length hi - HT.sIx l.length 0 lo)
def slP (m : Bool) (v : Val) (lo hi : Option Int) (h : Hh) : R Val := match v with
  | .tup l => .ok (.tup (cutL l lo hi)) h
  | v => match lsq v h with
    | some l => mk m (cutL l lo hi) h
    | none => .bad
def eSl (m : Bool) (a : Ev) (lo hi : Pv) : Ev := fun env h => (a env h).bnd fun x h1 => (lo env h1).bnd fun i h2 => (hi env h2).bnd fun j h3 => slP m x i j h3
section
variable {X : Cx} {W : WX} {a b : Expr} {ea : Ev} {pos p2 : Pos} {lo hi : Option Expr} {pl ph : Pv}
theorem go_none : PO X none (Gn X.K X.mg W RO oNone) := ⟨fun pins s σ H Q I ⟨T, μ, env, hs, es, q⟩ => po_none.run pins s σ H Q I (Post.now q hs rfl)⟩
theorem go_some (h : PE X a (GE X.K X.mg W ea)) : PO X (some a) (Gn X.K X.mg W RO (oSome ea)) :=
  ⟨fun pins s σ H Q I ⟨T, μ, env, hs, es, q⟩ => (po_some h).run pins s σ H Q I ⟨T, μ, env, hs, es, q.seq fun v μ1 T1 H1 x s1 hs1 r1 q1 => by
    cases r1 with
    | int i => exact ⟨i, rfl, Post.now q1 hs1 rfl⟩
    | _ => exact q1.elim⟩⟩
omit [Tb] in
theorem cut_whole {l : List Val} {lo hi : Option Int} (h1 : HT.sIx l.length 0 lo = 0) (h2 : HT.sIx l.length l.length hi = l.length) : cutL l lo hi = l := by
  unfold cutL; rw [h1, h2]; simp
theorem ge_sl (m : Bool) (he : PE X a (GE X.K X.mg W ea)) (hl : PO X lo (Gn X.K X.mg W RO pl)) (hu : PO X hi (Gn X.K X.mg W RO ph)) : PE X (.Subscript a (.Slice lo hi none p2) pos) (GE X.K X.mg W (eSl m ea pl ph)) :=
  PE.imp (pe_slice (sl_list.or sl_tupA) he hl hu) fun σ H Q ⟨T, μ, env, hs, es, q⟩ => ⟨T, μ, env, hs, es, q.seq fun v μ1 T1 H1 x s1 hs1 r1 q1 => ⟨T1, μ1, env, hs1, es.step s1, q1.seq fun i μ2 T2 H2 y s2 hs2 r2 q2 => ⟨T2, μ2, env, hs2, (es.step s1).step s2, q2.seq fun j μ3 T3 H3 z s3 hs3 r3 q3 => by
    cases r2; cases r3
    have r1' := (r1.step s2).step s3
    unfold slP at q3
    split at q3
    · rename_i l
      obtain ⟨p, xs, rfl, h1, l1⟩ := tup_rep r1'
      refine .inr ⟨p, xs, rfl, h1, fun hw => ?_, fun _ p hp => tup_post rfl hs3 (l1.cut i j) hp q3⟩
      rw [l1.length] at hw
      rw [cut_whole hw.1 hw.2] at q3
      exact Post.now q3 hs3 r1'
    · split at q3
      · rename_i l el
        obtain ⟨p, xs, rfl, h1, l1⟩ := lsq_rep hs3 r1' el
        exact .inl ⟨p, xs, rfl, h1, fun p hp => mk_post hs3 (l1.cut i j) hp q3⟩
      · exact q3.elim⟩⟩⟩
end

/-! ### built-in functions -/
def lenP (vs : List Val) (h : Hh) : R Val := match vs with
  | [.tup l] => .ok (.int l.length) h
  | [.str s] => if s.length ≤ sizeLine then .ok (.int s.length) h else .bad
  | [v] => match lsq v h with
    | some l => .ok (.int l.length) h
    | none => .bad
  | _ => .bad
omit [Tb] in
theorem cLen {X : Cx} : CallR X (.builtin "len") (fun xs H Q => (∃ p ys, xs = [.ref p] ∧ (SqL X.K H p ys ∨ SqT X.K H p ys) ∧ Q (.int ys.length) H) ∨ ∃ z, xs = [.str z] ∧ z.length ≤ sizeLine ∧ Q (.int z.length) H) := call_len_seq.or call_len_str
omit [Tb] in
theorem RepL.one {K : PySem.W.Frag} {T : Tr} {H : Hp} {v : Val} {xs : List V} (r : RepL K H T [v] xs) : ∃ x, xs = [x] ∧ RepV K H T v x := by
  cases r with
  | cons h r => cases r; exact ⟨_, rfl, h⟩
omit [Tb] in
theorem RepL.two {K : PySem.W.Frag} {T : Tr} {H : Hp} {v w : Val} {xs : List V} (r : RepL K H T [v, w] xs) : ∃ x y, xs = [x, y] ∧ RepV K H T v x ∧ RepV K H T w y := by
  cases r with
  | cons h r =>
    cases r with
    | cons h2 r => cases r; exact ⟨_, _, rfl, h, h2⟩
theorem pl_len {K : PySem.W.Frag} : PL K (fun xs H Q => (∃ p ys, xs = [.ref p] ∧ (SqL K H p ys ∨ SqT K H p ys) ∧ Q (.int ys.length) H) ∨ ∃ z, xs = [.str z] ∧ z.length ≤ sizeLine ∧ Q (.int z.length) H) lenP := by
  intro T μ H vs xs Q E hs r q
  unfold lenP at q
  split at q
  · obtain ⟨x, rfl, r1⟩ := r.one
    obtain ⟨p, ys, rfl, h1, l1⟩ := tup_rep r1
    exact .inl ⟨p, ys, rfl, .inr h1, by rw [l1.length]; exact Post.now q hs (.int _)⟩
  · obtain ⟨x, rfl, r1⟩ := r.one
    cases r1
    split at q
    · rename_i hl
      exact .inr ⟨_, rfl, hl, Post.now q hs (.int _)⟩
    · exact q.elim
  · obtain ⟨x, rfl, r1⟩ := r.one
    split at q
    · rename_i l el
      obtain ⟨p, ys, rfl, h1, l1⟩ := lsq_rep hs r1 el
      exact .inl ⟨p, ys, rfl, .inl h1, by rw [l1.length]; exact Post.now q hs (.int _)⟩
    · exact q.elim
  · exact q.elim
def tupleP (vs : List Val) (h : Hh) : R Val := match vs with
  | [.tup l] => .ok (.tup l) h
  | [v] => match lsq v h with
    | some l => .ok (.tup l) h
    | none => .bad
  | _ => .bad
theorem pl_tuple {K : PySem.W.Frag} : PL K (fun xs H Q => ∃ p ys, xs = [.ref p] ∧ ((SqL K H p ys ∧ ∀ l, H l = none → Q (.ref l) (upd H l (.tup ys))) ∨ (SqT K H p ys ∧ Q (.ref p) H))) tupleP := by
  intro T μ H vs xs Q E hs r q
  unfold tupleP at q
  split at q
  · obtain ⟨x, rfl, r1⟩ := r.one
    obtain ⟨p, ys, rfl, h1, l1⟩ := tup_rep r1
    exact ⟨p, ys, rfl, .inr ⟨h1, Post.now q hs r1⟩⟩
  · obtain ⟨x, rfl, r1⟩ := r.one
    split at q
    · rename_i l el
      obtain ⟨p, ys, rfl, h1, l1⟩ := lsq_rep hs r1 el
      exact ⟨p, ys, rfl, .inl ⟨h1, fun p hp => tup_post rfl hs l1 hp q⟩⟩
    · exact q.elim
  · exact q.elim
def listP (m : Bool) (vs : List Val) (h : Hh) : R Val := match vs with
  | [.tup l] => mk m l h
  | [v] => match lsq v h with
    | some l => mk m l h
    | none => .bad
  | _ => .bad
theorem pl_list {K : PySem.W.Frag} (m : Bool) : PL K (fun xs H Q => ∃ p ys, xs = [.ref p] ∧ (SqL K H p ys ∨ SqT K H p ys) ∧ ∀ l, H l = none → Q (.ref l) (upd H l (.lst ys))) (listP m) := by
  intro T μ H vs xs Q E hs r q
  unfold listP at q
  split at q
  · obtain ⟨x, rfl, r1⟩ := r.one
    obtain ⟨p, ys, rfl, h1, l1⟩ := tup_rep r1
    exact ⟨p, ys, rfl, .inr h1, fun p hp => mk_post hs l1 hp q⟩
  · obtain ⟨x, rfl, r1⟩ := r.one
    split at q
    · rename_i l el
      obtain ⟨p, ys, rfl, h1, l1⟩ := lsq_rep hs r1 el
      exact ⟨p, ys, rfl, .inl h1, fun p hp => mk_post hs l1 hp q⟩
    · exact q.elim
  · exact q.elim
def intP (vs : List Val) (h : Hh) : R Val := match vs with
  | [.int i] => .ok (.int i) h
  | [.bl b] => .ok (.int (if b = true then 1 else 0)) h
  | _ => .bad
theorem pl_int {K : PySem.W.Frag} : PL K (fun xs H Q => (∃ i, xs = [.int i] ∧ Q (.int i) H) ∨ ∃ k, xs = [.bl k] ∧ Q (.int (if k then 1 else 0)) H) intP := by
  intro T μ H vs xs Q E hs r q
  unfold intP at q
  split at q
  · obtain ⟨x, rfl, r1⟩ := r.one
    cases r1
    exact .inl ⟨_, rfl, Post.now q hs (.int _)⟩
  · obtain ⟨x, rfl, r1⟩ := r.one
    cases r1
    exact .inr ⟨_, rfl, Post.now q hs (.int _)⟩
  · exact q.elim
def absP (vs : List Val) (h : Hh) : R Val := match vs with
  | [.int i] => .ok (.int (if i < 0 then -i else i)) h
  | _ => .bad
theorem pl_abs {K : PySem.W.Frag} : PL K (fun xs H Q => ∃ i, xs = [.int i] ∧ Q (.int (if i < 0 then -i else i)) H) absP := by
  intro T μ H vs xs Q E hs r q
  unfold absP at q
  split at q
  · obtain ⟨x, rfl, r1⟩ := r.one
    cases r1
    exact ⟨_, rfl, Post.now q hs (.int _)⟩
  · exact q.elim
/-- the ints of a list of ints -/
def intsOf : List Val → Option (List Int)
  | [] => some []
  | .int i :: l => (intsOf l).map (i :: ·)
  | _ => none
omit [Tb] in
theorem intsOf_eq : ∀ {l : List Val} {ns : List Int}, intsOf l = some ns → l = ns.map Val.int
  | [], ns, e => by unfold intsOf at e; cases e; rfl
  | .int i :: l, ns, e => by
    unfold intsOf at e
    obtain ⟨ms, e1, e2⟩ := Option.map_eq_some_iff.mp e
    subst e2
    rw [intsOf_eq e1]; rfl
  | .non :: _, _, e | .bl _ :: _, _, e | .str _ :: _, _, e | .tup _ :: _, _, e | .lst _ :: _, _, e | .fz _ :: _, _, e | .ref _ :: _, _, e | .ty _ :: _, _, e | .fn _ :: _, _, e | .dic _ _ :: _, _, e | .dref _ :: _, _, e => by simp [intsOf] at e
omit [Tb] in
theorem RepL.intsV {K : PySem.W.Frag} {T : Tr} {H : Hp} : ∀ {ns : List Int} {xs : List V}, RepL K H T (ns.map Val.int) xs → xs = ns.map V.int
  | [], _, r => by cases r; rfl
  | n :: ns, _, r => by
    rw [List.map_cons] at r
    cases r with
    | cons h r => cases h; rw [RepL.intsV r]; rfl
/-- the bools of a list of bools -/
def blsOf : List Val → Option (List Bool)
  | [] => some []
  | .bl i :: l => (blsOf l).map (i :: ·)
  | _ => none
omit [Tb] in
theorem blsOf_eq : ∀ {l : List Val} {ns : List Bool}, blsOf l = some ns → l = ns.map Val.bl
  | [], ns, e => by unfold blsOf at e; cases e; rfl
  | .bl i :: l, ns, e => by
    unfold blsOf at e
    obtain ⟨ms, e1, e2⟩ := Option.map_eq_some_iff.mp e
    subst e2
    rw [blsOf_eq e1]; rfl
  | .non :: _, _, e | .int _ :: _, _, e | .str _ :: _, _, e | .tup _ :: _, _, e | .lst _ :: _, _, e | .fz _ :: _, _, e | .ref _ :: _, _, e | .ty _ :: _, _, e | .fn _ :: _, _, e | .dic _ _ :: _, _, e | .dref _ :: _, _, e => by simp [blsOf] at e
omit [Tb] in
theorem RepL.blsV {K : PySem.W.Frag} {T : Tr} {H : Hp} : ∀ {ns : List Bool} {xs : List V}, RepL K H T (ns.map Val.bl) xs → xs = ns.map V.bl
  | [], _, r => by cases r; rfl
  | n :: ns, _, r => by
    rw [List.map_cons] at r
    cases r with
    | cons h r => cases h; rw [RepL.blsV r]; rfl
def allP (vs : List Val) (h : Hh) : R Val := match vs with
  | [v] => match lsq v h with
    | some l => match blsOf l with
      | some bs => .ok (.bl (bs.all id)) h
      | none => .bad
    | none => .bad
  | _ => .bad
theorem pl_all {K : PySem.W.Frag} : PL K (rAll K) allP := by
  intro T μ H vs xs Q E hs r q
  unfold allP at q
  split at q
  · obtain ⟨x, rfl, r1⟩ := r.one
    split at q
    · rename_i l el
      split at q
      · rename_i bs eb
        obtain ⟨p, ys, rfl, h1, l1⟩ := lsq_rep hs r1 el
        rw [blsOf_eq eb] at l1
        rw [l1.blsV] at h1
        exact ⟨p, bs, rfl, h1, Post.now q hs (.bl _)⟩
      · exact q.elim
    · exact q.elim
  · exact q.elim
def sumP (vs : List Val) (h : Hh) : R Val := match vs with
  | [v] => match lsq v h with
    | some l => match intsOf l with
      | some bs => .ok (.int bs.sum) h
      | none => .bad
    | none => .bad
  | _ => .bad
theorem pl_sum {K : PySem.W.Frag} : PL K (rSum K) sumP := by
  intro T μ H vs xs Q E hs r q
  unfold sumP at q
  split at q
  · obtain ⟨x, rfl, r1⟩ := r.one
    split at q
    · rename_i l el
      split at q
      · rename_i bs eb
        obtain ⟨p, ys, rfl, h1, l1⟩ := lsq_rep hs r1 el
        rw [intsOf_eq eb] at l1
        rw [l1.intsV] at h1
        exact ⟨p, bs, rfl, h1, Post.now q hs (.int _)⟩
      · exact q.elim
    · exact q.elim
  · exact q.elim
/-! ### isinstance -/
def tyOfV : Val → Option Ty
  | .non => some .non
  | .bl _ => some .bl
  | .int _ => some .int
  | .str _ => some .str
  | .tup _ => some .tup
  | .lst _ => some .lst
  | .fz _ => some .lst
  | .ref _ => some .lst
  | .ty _ => none
  | .fn _ => none
  | .dic _ _ => some .dct
  | .dref _ => some .dct
def isTy (a b : Ty) : Bool := match a, b with
  | .bl, .int => true
  | a, b => decide (a = b)
omit [Tb] in
theorem kit_isTy (a b : Ty) (hb : b ≠ .non) : kitB a.nm b.nm = some (isTy a b) := by
  cases a <;> cases b <;> first | exact absurd rfl hb | decide +kernel
omit [Tb] in
theorem knd_dct {o : Option HO} (h : knd o = 2) : (∃ l, o = some (.dK l)) ∨ ∃ l, o = some (.dT l) := by
  unfold knd at h
  split at h
  · cases h
  · exact .inl ⟨_, rfl⟩
  · exact .inr ⟨_, rfl⟩
  · cases h
theorem tyOf_rep {K : PySem.W.Frag} {T : Tr} {μ : Hh} {H : Hp} {v : Val} {x : V} {t : Ty} (hs : HSim K T μ H) (r : RepV K H T v x) (e : tyOfV v = some t) : TyX K H x (.type t.nm) := by
  cases r with
  | non => cases e; exact .base .non
  | bl b => cases e; exact .base (.bl b)
  | int b => cases e; exact .base (.int b)
  | str b => cases e; exact .base (.str b)
  | ty b => cases e
  | tup h r =>
    cases e
    rcases h with ⟨_, h⟩ | ⟨⟨o, its, n, h, c, _⟩, _⟩
    · exact .base (.tup h)
    · exact .kTuple h c
  | lst b h r => cases e; exact .base (.lst h)
  | fz h r =>
    cases e
    rcases h with ⟨_, o, h⟩ | ⟨o, its, n, h, c, _⟩
    · exact .base (.frz h)
    · exact .kList h c
  | @ref n a h k =>
    cases e
    obtain ⟨xs, q⟩ := knd_lst k
    exact .base (.lst q)
  | dicK b h r => cases e; exact .base (.dK h)
  | dicT b h r => cases e; exact .base (.dT h)
  | fn h => cases e
  | @dref n a h k =>
    cases e
    rcases knd_dct k with ⟨l, q⟩ | ⟨l, q⟩
    · exact .base (.dK q)
    · exact .base (.dT q)
def tysOf : List Val → Option (List Ty)
  | [] => some []
  | .ty t :: l => if t ≠ .non then (tysOf l).map (t :: ·) else none
  | _ => none
def isiP (vs : List Val) (h : Hh) : R Val := match vs with
  | [v, .ty t] => match tyOfV v with
    | some a => if t ≠ .non then .ok (.bl (isTy a t)) h else .bad
    | none => .bad
  | [v, .tup l] => match tyOfV v, tysOf l with
    | some a, some ts => .ok (.bl (ts.any fun t => isTy a t)) h
    | _, _ => .bad
  | _ => .bad
omit [Tb] in
theorem tysOf_cls {K : PySem.W.Frag} {T : Tr} {H : Hp} {a : Ty} : ∀ {l : List Val} {ts : List Ty} {xs : List V}, tysOf l = some ts → RepL K H T l xs →
    Paired ClsV xs (ts.map fun t => Value.type t.nm) ∧ PySem.W.kitAny K (.type a.nm) (ts.map fun t => Value.type t.nm) = some (ts.any fun t => isTy a t)
  | [], _, _, e, r => by unfold tysOf at e; cases e; cases r; exact ⟨.nil, rfl⟩
  | .ty t :: l, ts, _, e, r => by
    unfold tysOf at e
    split at e
    · rename_i ht
      obtain ⟨us, e1, e2⟩ := Option.map_eq_some_iff.mp e
      subst e2
      cases r with
      | cons h r =>
        cases h
        obtain ⟨p, q⟩ := tysOf_cls (a := a) e1 r
        refine ⟨.cons (.ty _) p, ?_⟩
        rw [List.map_cons]
        unfold PySem.W.kitAny
        rw [kit_ty (kit_isTy a t ht)]
        cases hb : isTy a t with
        | true => simp [hb]
        | false => simp [hb]; rw [q]
    · cases e
  | .non :: _, _, _, e, _ | .bl _ :: _, _, _, e, _ | .int _ :: _, _, _, e, _ | .str _ :: _, _, _, e, _ | .tup _ :: _, _, _, e, _ | .lst _ :: _, _, _, e, _ | .fz _ :: _, _, _, e, _ | .ref _ :: _, _, _, e, _ | .fn _ :: _, _, _, e, _ | .dic _ _ :: _, _, _, e, _ | .dref _ :: _, _, _, e, _ => by simp [tysOf] at e
omit [Tb] in
theorem cIsi {X : Cx} : CallR X (.builtin "isinstance") (fun xs H Q => rIsi X.K xs H Q ∨ rIsiT X.K xs H Q ∨ rIsiK X.K xs H Q) := call_isi.or (call_isiT.or call_isiK)
theorem pl_isi {K : PySem.W.Frag} : PL K (fun xs H Q => rIsi K xs H Q ∨ rIsiT K xs H Q ∨ rIsiK K xs H Q) isiP := by
  intro T μ H vs xs Q E hs r q
  unfold isiP at q
  split at q
  · rename_i v t
    obtain ⟨x, y, rfl, r1, r2⟩ := r.two
    cases r2
    split at q
    · rename_i a ea
      split at q
      · rename_i ht
        exact .inl ⟨x, .ty t.nm, .type a.nm, .type t.nm, _, rfl, .ty _, tyOf_rep hs r1 ea, kit_ty (kit_isTy a t ht), Post.now q hs (.bl _)⟩
      · exact q.elim
    · exact q.elim
  · rename_i v l
    obtain ⟨x, y, rfl, r1, r2⟩ := r.two
    split at q
    · rename_i a ts ea et
      cases r2 with
      | @tup p ys _ h r2 =>
        obtain ⟨c1, c2⟩ := tysOf_cls (a := a) et r2
        rcases h with ⟨_, h⟩ | h
        · exact .inr (.inl ⟨x, p, ys, .type a.nm, _, _, rfl, h, c1, tyOf_rep hs r1 ea, c2, Post.now q hs (.bl _)⟩)
        · obtain ⟨⟨⟨oc, od, dt, sl⟩, its, n, hk, hc, hd, hz, rv⟩, _⟩ := h
          simp only at hc hd
          subst hc hd
          refine .inr (.inr ⟨x, p, od, its.toList, n, sl, .type a.nm, _, rfl, hk, tyOf_rep hs r1 ea, ?_, Post.now q hs (.bl _)⟩)
          rw [ClsV.all c1 rv]; exact c2
    · exact q.elim
  · exact q.elim

/-! ### methods of lists -/
def appP (v : Val) (vs : List Val) (h : Hh) : R Val := match v, vs with
  | .ref n, [u] => match h[n]? with
    | some (.lst l) => if l.length < sizeLine ∧ u.bel n = true then .ok .non (h.set n (.lst (l ++ [u]))) else .bad
    | _ => .bad
  | _, _ => .bad
omit [Tb] in
theorem belL_append (n : Nat) : ∀ a b : List Val, belL n (a ++ b) = (belL n a && belL n b)
  | [], b => by rw [List.nil_append]; unfold belL; simp
  | v :: a, b => by rw [List.cons_append]; unfold belL; rw [belL_append n a b, Bool.and_assoc]; cases b <;> rfl
omit [Tb] in
theorem belL_get {n : Nat} : ∀ {l : List Val}, belL n l = true ↔ ∀ v ∈ l, v.bel n = true
  | [] => by simp [belL]
  | v :: l => by unfold belL; rw [Bool.and_eq_true, belL_get (l := l)]; simp
theorem pm_app {K : PySem.W.Frag} : PM K (fun x xs H Q => rAppend x xs H Q) appP := by
  intro T μ H v x vs xs Q E hs r rs q
  unfold appP at q
  split at q
  · rename_i n u
    split at q
    · rename_i l el
      split at q
      · rename_i hk
        obtain ⟨a, ys, rfl, ha, h1, l1⟩ := hs.get el r
        obtain ⟨y, rfl, ru⟩ := rs.one
        have lr : RepL K H T (l ++ [u]) (ys ++ [y]) := l1.append (.cons ru .nil)
        refine ⟨a, ys, y, rfl, rfl, h1, by rw [l1.length]; exact hk.1, ?_⟩
        refine Post.here q (Step.put (List.mem_of_getElem? ha) (by rw [h1]; rfl)) (hs.put ha (by rw [h1]; rfl) lr ?_) .non
        rw [belL_append, Bool.and_eq_true]
        exact ⟨hs.old n _ el, by unfold belL belL; rw [hk.2]; rfl⟩
      · exact q.elim
    · exact q.elim
  · exact q.elim
end Mp

set_option Elab.async false
set_option linter.all false
set_option maxRecDepth 100000
namespace Mp
open PySem PySem.Spec PyProof.Rows L2
variable [Tb]

/-! ### statements -/
def SR.bnd (r : SR) (f : Env → Hh → SR) : SR := match r with
  | .nx e h => f e h
  | .rt v h => .rt v h
  | .bk e h => .bk e h
  | .ct e h => .ct e h
  | .exc x e h => .exc x e h
  | .bad => .bad
omit [Tb] in
@[simp] theorem SR.bnd_nx (e : Env) (h : Hh) (f : Env → Hh → SR) : (SR.nx e h).bnd f = f e h := rfl
omit [Tb] in
@[simp] theorem SR.bnd_rt (v : Val) (h : Hh) (f : Env → Hh → SR) : (SR.rt v h).bnd f = .rt v h := rfl
omit [Tb] in
@[simp] theorem SR.bnd_bk (e : Env) (h : Hh) (f : Env → Hh → SR) : (SR.bk e h).bnd f = .bk e h := rfl
omit [Tb] in
@[simp] theorem SR.bnd_ct (e : Env) (h : Hh) (f : Env → Hh → SR) : (SR.ct e h).bnd f = .ct e h := rfl
omit [Tb] in
@[simp] theorem SR.bnd_exc (x : Ex) (e : Env) (h : Hh) (f : Env → Hh → SR) : (SR.exc x e h).bnd f = .exc x e h := rfl
omit [Tb] in
@[simp] theorem SR.bnd_bad (f : Env → Hh → SR) : SR.bad.bnd f = .bad := rfl
abbrev SOut {α : Type} (_ : α → Hh → SR) : Type := SR
def lift {α : Type} (r : R α) (env : Env) (f : α → Hh → SR) : SOut f := match r with
  | .ok a h => f a h
  | .exc x h => .exc x env h
  | .bad => .bad
omit [Tb] in
@[simp] theorem lift_ok {α : Type} (a : α) (h : Hh) (env : Env) (f : α → Hh → SR) : lift (.ok a h) env f = f a h := rfl
omit [Tb] in
@[simp] theorem lift_exc {α : Type} (x : Ex) (h : Hh) (env : Env) (f : α → Hh → SR) : lift (.exc x h : R α) env f = .exc x env h := rfl
omit [Tb] in
@[simp] theorem lift_bad {α : Type} (env : Env) (f : α → Hh → SR) : lift (.bad : R α) env f = .bad := rfl
abbrev Gv := Val → Env → Hh → R Env
def sNext : Sv := fun env h => .nx env h
def sSeq (a b : Sv) : Sv := fun env h => (a env h).bnd b
def sSet (i : Nat) (e : Ev) : Sv := fun env h => lift (e env h) env fun v h1 => .nx (env.set i (some v)) h1
def sAsg (g : Gv) (e : Ev) : Sv := fun env h => lift (e env h) env fun v h1 => lift (g v env h1) env fun env2 h2 => .nx env2 h2
def sPar (i j : Nat) (a b : Ev) : Sv := fun env h => lift (a env h) env fun v h1 => lift (b env h1) env fun w h2 => .nx ((env.set i (some v)).set j (some w)) h2
def sExpr (e : Ev) : Sv := fun env h => lift (e env h) env fun _ h1 => .nx env h1
def sRet (e : Ev) : Sv := fun env h => lift (e env h) env fun v h1 => .rt v h1
def sRetN : Sv := fun _ h => .rt .non h
def sBrk : Sv := fun env h => .bk env h
def sCnt : Sv := fun env h => .ct env h
def sIf (c : Tv) (a b : Sv) : Sv := fun env h => lift (c env h) env fun x h1 => if x = true then a env h1 else b env h1
def sRaise (c : Nat) : Sv := fun env h => .exc ⟨c, []⟩ env h
def gName (i : Nat) : Gv := fun v env h => .ok (env.set i (some v)) h
def gNil : List Val → Env → Hh → R Env := fun vs env h => match vs with
  | [] => .ok env h
  | _ => .bad
def gCons (g : Gv) (r : List Val → Env → Hh → R Env) : List Val → Env → Hh → R Env := fun vs env h => match vs with
  | v :: vs => (g v env h).bnd fun env1 h1 => r vs env1 h1
  | [] => .bad
def gTup (g : List Val → Env → Hh → R Env) : Gv := fun v env h => match v with
  | .tup l => g l env h
  | _ => .bad
/-- as many targets -/
def GLen (g : List Val → Env → Hh → R Env) (n : Nat) : Prop := ∀ vs env h e m, g vs env h = .ok e m → vs.length = n
omit [Tb] in
theorem gl0 : GLen gNil 0 := fun vs env h e m q => by
  cases vs with
  | nil => rfl
  | cons v vs => cases q
omit [Tb] in
theorem gl1 {g : Gv} {r : List Val → Env → Hh → R Env} {n : Nat} (hr : GLen r n) : GLen (gCons g r) (n + 1) := fun vs env h e m q => by
  cases vs with
  | nil => cases q
  | cons v vs =>
    unfold gCons at q
    dsimp only at q
    cases hg : g v env h with
    | ok a b => rw [hg] at q; rw [List.length_cons, hr _ _ _ _ _ q]
    | exc x b => rw [hg] at q; cases q
    | bad => rw [hg] at q; cases q
/-- a target that raises nothing -/
def NX (g : Gv) : Prop := ∀ v env h x m, g v env h ≠ .exc x m
def NXs (g : List Val → Env → Hh → R Env) : Prop := ∀ vs env h x m, g vs env h ≠ .exc x m
omit [Tb] in
theorem nxN {i : Nat} : NX (gName i) := fun _ _ _ _ _ q => nomatch q
omit [Tb] in
theorem nx0 : NXs gNil := fun vs env h x m q => by cases vs <;> cases q
omit [Tb] in
theorem nx1 {g : Gv} {r : List Val → Env → Hh → R Env} (a : NX g) (b : NXs r) : NXs (gCons g r) := fun vs env h x m q => by
  cases vs with
  | nil => cases q
  | cons v vs =>
    unfold gCons at q
    dsimp only at q
    cases hg : g v env h with
    | ok c d => rw [hg] at q; exact b _ _ _ _ _ q
    | exc y d => exact a _ _ _ _ _ hg
    | bad => rw [hg] at q; cases q
omit [Tb] in
theorem nxT {r : List Val → Env → Hh → R Env} (b : NXs r) : NX (gTup r) := fun v env h x m q => by
  unfold gTup at q
  split at q
  · exact b _ _ _ _ _ q
  · cases q
/-- as many arguments -/
def ALen (a : Av) (n : Nat) : Prop := ∀ env h vs h1, a env h = .ok vs h1 → vs.length = n
omit [Tb] in
theorem al0 : ALen aNil 0 := fun _ _ _ _ q => by cases q; rfl
omit [Tb] in
theorem al1 {a : Ev} {r : Av} {n : Nat} (hr : ALen r n) : ALen (aCons a r) (n + 1) := fun env h vs h1 q => by
  unfold aCons at q
  cases ha : a env h with
  | ok x h2 =>
    rw [ha] at q
    dsimp only [R.bnd_ok] at q
    cases hr2 : r env h2 with
    | ok xs h3 => rw [hr2] at q; cases q; rw [List.length_cons, hr _ _ _ _ hr2]
    | exc y m => rw [hr2] at q; cases q
    | bad => rw [hr2] at q; cases q
  | exc y m => rw [ha] at q; cases q
  | bad => rw [ha] at q; cases q
def setP (o i v : Val) (h : Hh) : R Unit := match o, i with
  | .ref n, .int k => match h[n]? with
    | some (.lst l) => match ixN l.length k with
      | some j => if v.bel n = true then .ok () (h.set n (.lst (l.set j v))) else .bad
      | none => .bad
    | _ => .bad
  | _, _ => .bad
def gSub (o i : Ev) : Gv := fun v env h => (o env h).bnd fun x h1 => (i env h1).bnd fun y h2 => (setP x y v h2).bnd fun _ h3 => .ok env h3

/-! ### their readings -/
section
variable {K : PySem.W.Frag} {mg : Str → Option Value} {W : WX}
def SPost (K : PySem.W.Frag) (mg : Str → Option Value) (W : WX) (T : Tr) (H : Hp) (D : Ends) (r : SR) : Prop := match r with
  | .nx e h => ∀ T' H' σ', Step T H T' H' → HSim K T' h H' → ESim K H' T' e σ' → D.nx σ' H'
  | .rt v h => ∀ T' H' x, Step T H T' H' → HSim K T' h H' → RepV K H' T' v x → D.rt x H'
  | .bk e h => ∀ T' H' σ', Step T H T' H' → HSim K T' h H' → ESim K H' T' e σ' → D.bk σ' H'
  | .ct e h => ∀ T' H' σ', Step T H T' H' → HSim K T' h H' → ESim K H' T' e σ' → D.ct σ' H'
  | .exc x e h => ∀ T' H' σ' cls d, Step T H T' H' → HSim K T' h H' → ESim K H' T' e σ' → XRep K mg H' T' x cls d → W cls d σ' H'
  | .bad => False
def GS (K : PySem.W.Frag) (mg : Str → Option Value) (W : WX) (s : Sv) : TS := fun D σ H => ∃ T μ env, HSim K T μ H ∧ ESim K H T env σ ∧ SPost K mg W T H D (s env μ)
abbrev RE (K : PySem.W.Frag) : Hp → Tr → Env → St → Prop := fun H T e σ => ESim K H T e σ
/-- what is wanted of an exception while a target is stored: none is met -/
abbrev EF : EK := fun _ _ _ => False
def GG (K : PySem.W.Frag) (mg : Str → Option Value) (W : WX) (g : Gv) : TG := fun x σ H Q => ∃ T μ env v, HSim K T μ H ∧ ESim K H T env σ ∧ RepV K H T v x ∧ Post K (RE K) T H (g v env μ) Q (EX K mg W σ)
def GGs (K : PySem.W.Frag) (mg : Str → Option Value) (W : WX) (g : List Val → Env → Hh → R Env) : TGs := fun xs σ H Q => ∃ T μ env vs, HSim K T μ H ∧ ESim K H T env σ ∧ RepL K H T vs xs ∧ Post K (RE K) T H (g vs env μ) Q EF
theorem SPost.step {T T1 : Tr} {H H1 : Hp} {D : Ends} {r : SR} (h : SPost K mg W T H D r) (s : Step T H T1 H1) : SPost K mg W T1 H1 D r := by
  cases r with
  | nx e m => exact fun T' H' σ' s' => h T' H' σ' (s.trans s')
  | rt v m => exact fun T' H' x s' => h T' H' x (s.trans s')
  | bk e m => exact fun T' H' σ' s' => h T' H' σ' (s.trans s')
  | ct e m => exact fun T' H' σ' s' => h T' H' σ' (s.trans s')
  | exc x e m => exact fun T' H' σ' cls d s' => h T' H' σ' cls d (s.trans s')
  | bad => exact h
/-- an expression's answer, then the statement's end -/
theorem SPost.lift {α β : Type} {Rel : Hp → Tr → α → β → Prop} {T : Tr} {H : Hp} {μ : Hh} {env : Env} {σ : St} {D : Ends} {r : R α} {f : α → Hh → SR} {Q : β → Hp → Prop} (es : ESim K H T env σ) (h : SPost K mg W T H D (lift r env f))
    (k : ∀ a μ1 T1 H1 b, Step T H T1 H1 → HSim K T1 μ1 H1 → Rel H1 T1 a b → SPost K mg W T1 H1 D (f a μ1) → Q b H1) : Post K Rel T H r Q (EX K mg W σ) := by
  cases r with
  | ok a μ => exact fun T' H' b s hs rl => k a μ T' H' b s hs rl (SPost.step h s)
  | exc e μ => exact fun T' H' s hs cls d x => h T' H' σ cls d s hs (es.step s) x
  | bad => exact h
omit [Tb] in
theorem ESim.set {T : Tr} {H : Hp} {env : Env} {σ : St} {v : Val} {x : V} (es : ESim K H T env σ) (r : RepV K H T v x) (i : Nat) : ESim K H T (env.set i (some v)) (σ.set i (some x)) := by
  refine ⟨by simp [es.len], fun j w e => ?_⟩
  by_cases hj : i = j
  · subst hj
    by_cases hi : i < env.length
    · rw [List.getElem?_set_self hi] at e
      cases e
      exact ⟨x, List.getElem?_set_self (by rw [← es.len]; exact hi), r⟩
    · rw [List.getElem?_eq_none (by simpa using hi)] at e; cases e
  · rw [List.getElem?_set_ne hj] at e
    obtain ⟨y, e', r'⟩ := es.at' j w e
    exact ⟨y, by rw [List.getElem?_set_ne hj]; exact e', r'⟩
end
omit [Tb] in
theorem PS.imp {X : Cx} {e : Stmt} {t t' : TS} (h : PS X e t) (k : ∀ D σ H, t' D σ H → t D σ H) : PS X e t' := ⟨fun pins s σ H D I q => h.run pins s σ H D I (k D σ H q)⟩
omit [Tb] in
theorem PSs.imp {X : Cx} {e : List Stmt} {t t' : TS} (h : PSs X e t) (k : ∀ D σ H, t' D σ H → t D σ H) : PSs X e t' := ⟨fun pins s σ H D I q => h.run pins s σ H D I (k D σ H q)⟩
omit [Tb] in
theorem PG.imp {X : Cx} {e : Expr} {t t' : TG} (h : PG X e t) (k : ∀ v σ H Q, t' v σ H Q → t v σ H Q) : PG X e t' := ⟨fun pins s σ H v u Q I r q => h.run pins s σ H v u Q I r (k v σ H Q q)⟩
omit [Tb] in
theorem PGs.imp {X : Cx} {e : List Expr} {t t' : TGs} (h : PGs X e t) (k : ∀ v σ H Q, t' v σ H Q → t v σ H Q) : PGs X e t' := ⟨fun pins s σ H v u Q I r q => h.run pins s σ H v u Q I r (k v σ H Q q)⟩
section
variable {X : Cx} {W : WX} {st : Stmt} {rest : List Stmt} {a b e : Expr} {es : List Expr} {pos : Pos} {ea eb : Ev} {av : Av} {tv : Tv} {s1 s2 : Sv} {gv : Gv}
theorem gs_nil : PSs X [] (GS X.K X.mg W sNext) := PSs.imp pss_nil fun D σ H ⟨T, μ, env, hs, es, q⟩ => q T H σ (Step.refl T H) hs es
theorem gs_cons (h1 : PS X st (GS X.K X.mg W s1)) (h2 : PSs X rest (GS X.K X.mg W s2)) : PSs X (st :: rest) (GS X.K X.mg W (sSeq s1 s2)) :=
  PSs.imp (pss_cons h1 h2) fun D σ H ⟨T, μ, env, hs, es, q⟩ => ⟨T, μ, env, hs, es, by
    unfold sSeq at q
    cases hr : s1 env μ with
    | nx e m => rw [hr] at q; exact fun T' H' σ' s' hs' es' => ⟨T', m, e, hs', es', SPost.step q s'⟩
    | _ => rw [hr] at q; exact q⟩
theorem gs_one (h1 : PS X st (GS X.K X.mg W s1)) : PSs X [st] (GS X.K X.mg W s1) := pss_one h1
theorem gs_set {i : Nat} {x : Str} {pos' : Pos} (hN : X.N.Nodup) (hi : X.N[i]? = some x) (hx : Loc X.env.scope x) (he : PE X e (GE X.K X.mg W ea)) (hs : swapsWith e (some (.Name x pos')) pos.line X.env = pure false := by rfl) (hf : X.fn x = true ∨ X.env.scope.names.lookup x = some .local := by first | exact .inl rfl | exact .inr rfl | assumption) :
    PS X (.Assign [.Name x pos'] e pos) (GS X.K X.mg W (sSet i ea)) :=
  PS.imp (ps_set hN hi hx he hs hf) fun D σ H ⟨T, μ, env, hs, es, q⟩ => ⟨T, μ, env, hs, es, SPost.lift (μ := μ) es q fun v μ1 T1 H1 x s1 hs1 r1 q1 => q1 T1 H1 _ (Step.refl _ _) hs1 ((es.step s1).set r1 i)⟩
theorem gs_expr (he : PE X e (GE X.K X.mg W ea)) (hs : swapsWith e none pos.line X.env = pure false := by rfl) : PS X (.Expr e pos) (GS X.K X.mg W (sExpr ea)) :=
  PS.imp (ps_expr he hs) fun D σ H ⟨T, μ, env, hs, es, q⟩ => ⟨T, μ, env, hs, es, SPost.lift (μ := μ) es q fun v μ1 T1 H1 x s1 hs1 r1 q1 => q1 T1 H1 _ (Step.refl _ _) hs1 (es.step s1)⟩
theorem gs_ret (he : PE X e (GE X.K X.mg W ea)) : PS X (.Return (some e) pos) (GS X.K X.mg W (sRet ea)) :=
  PS.imp (ps_ret he) fun D σ H ⟨T, μ, env, hs, es, q⟩ => ⟨T, μ, env, hs, es, SPost.lift (μ := μ) es q fun v μ1 T1 H1 x s1 hs1 r1 q1 => q1 T1 H1 x (Step.refl _ _) hs1 r1⟩
theorem gs_if {c : Expr} {p r : List Stmt} (hc : PT X c (GT X.K X.mg W tv)) (ha : PSs X p (GS X.K X.mg W s1)) (hb : PSs X r (GS X.K X.mg W s2)) : PS X (.If c p r pos) (GS X.K X.mg W (sIf tv s1 s2)) :=
  PS.imp (ps_if hc ha hb) fun D σ H ⟨T, μ, env, hs, es, q⟩ => ⟨T, μ, env, hs, es, SPost.lift (μ := μ) es q fun v μ1 T1 H1 x s1 hs1 r1 q1 => by
    cases r1
    cases v with
    | true => rw [if_pos rfl] at q1 ⊢; exact ⟨T1, μ1, env, hs1, es.step s1, q1⟩
    | false => rw [if_neg (by decide)] at q1 ⊢; exact ⟨T1, μ1, env, hs1, es.step s1, q1⟩⟩
theorem gs_par {i j : Nat} {x y : Str} {px py pt : Pos} {kt k2 pt2} (hc : X.calm = true) (hN : X.N.Nodup) (hi : X.N[i]? = some x) (hj : X.N[j]? = some y) (hij : i ≠ j)
    (hx : X.env.scope.names.lookup x = some .local) (hy : X.env.scope.names.lookup y = some .local) (ha : PE X a (GE X.K X.mg W ea)) (hb : PE X b (GE X.K X.mg W eb))
    (hw : swappedStores [.Tuple [.Name x px, .Name y py] kt pt] (.Tuple [a, b] k2 pt2) X.env = pure (some [x, y]))
    (hs1 : starEach [a, b] X.env = (false, eval a X.env) :: starEach [b] X.env := by rfl) (hs2 : starEach [b] X.env = (false, eval b X.env) :: starEach [] X.env := by rfl)
    (hs : swapsWithSole [.Tuple [.Name x px, .Name y py] kt pt] (.Tuple [a, b] k2 pt2) pos.line X.env = pure false := by rfl) :
    PS X (.Assign [.Tuple [.Name x px, .Name y py] kt pt] (.Tuple [a, b] k2 pt2) pos) (GS X.K X.mg W (sPar i j ea eb)) :=
  PS.imp (ps_par hc hN hi hj hij hx hy (pa_cons ha (pa_cons hb pa_nil hs2) hs1) hw hs) fun D σ H ⟨T, μ, env, hs, es, q⟩ => ⟨T, μ, env, hs, es, SPost.lift (μ := μ) es q fun v μ1 T1 H1 x s1 hs1 r1 q1 =>
    ⟨T1, μ1, env, hs1, es.step s1, SPost.lift (μ := μ1) (es.step s1) q1 fun w μ2 T2 H2 y s2 hs2 r2 q2 => ⟨x, y, rfl, q2 T2 H2 _ (Step.refl _ _) hs2 ((((es.step s1).step s2).set (r1.step s2) i).set r2 j)⟩⟩⟩
/-! targets -/
theorem gg_name {i : Nat} {x : Str} (hN : X.N.Nodup) (hi : X.N[i]? = some x) (hx : Loc X.env.scope x) (hf : X.fn x = true ∨ X.env.scope.names.lookup x = some .local := by first | exact .inl rfl | exact .inr rfl | assumption) : PG X (.Name x pos) (GG X.K X.mg W (gName i)) :=
  PG.imp (pg_name hN hi hx hf) fun v σ H Q ⟨T, μ, env, u, hs, es, r, q⟩ => Post.now q hs (es.set r i)
theorem ggs_nil : PGs X [] (GGs X.K X.mg W gNil) := PGs.imp pgs_nil fun xs σ H Q ⟨T, μ, env, vs, hs, es, r, q⟩ => by
  cases r with
  | nil => exact ⟨rfl, Post.now q hs es⟩
  | cons _ _ => exact q.elim
/-- a target whose storing raises nothing -/
def GQ (K : PySem.W.Frag) (g : Gv) : TG := fun x σ H Q => ∃ T μ env v, HSim K T μ H ∧ ESim K H T env σ ∧ RepV K H T v x ∧ Post K (RE K) T H (g v env μ) Q EF
theorem gq_name {i : Nat} {x : Str} (hN : X.N.Nodup) (hi : X.N[i]? = some x) (hx : Loc X.env.scope x) (hf : X.fn x = true ∨ X.env.scope.names.lookup x = some .local := by first | exact .inl rfl | exact .inr rfl | assumption) : PG X (.Name x pos) (GQ X.K (gName i)) :=
  PG.imp (pg_name hN hi hx hf) fun v σ H Q ⟨T, μ, env, u, hs, es, r, q⟩ => Post.now q hs (es.set r i)
theorem ggs_cons {gr : List Val → Env → Hh → R Env} (h1 : PG X e (GQ X.K gv)) (h2 : PGs X es (GGs X.K X.mg W gr)) (hs : (assignEach (e :: es) X.env).map (·.2) = assign e X.env :: (assignEach es X.env).map (·.2) := by rfl) : PGs X (e :: es) (GGs X.K X.mg W (gCons gv gr)) :=
  PGs.imp (pgs_cons h1 h2 hs) fun xs σ H Q ⟨T, μ, env, vs, hs, es, r, q⟩ => by
    cases r with
    | nil => exact q.elim
    | @cons v x vs xs r1 r2 =>
      refine ⟨x, xs, rfl, T, μ, env, v, hs, es, r1, Post.seq q fun env1 μ1 T1 H1 σ1 s1 hs1 es1 q1 => ⟨T1, μ1, env1, vs, hs1, es1, r2.step s1, q1⟩⟩
theorem gTup_ok {n : Nat} {gr : List Val → Env → Hh → R Env} {x : V} {v : Val} {T : Tr} {μ : Hh} {env : Env} {σ : St} {H : Hp} {Q : St → Hp → Prop} (hn : GLen gr n) (hx : NXs gr) (hs : HSim X.K T μ H) (es : ESim X.K H T env σ) (r : RepV X.K H T v x)
    (q : Post X.K (RE X.K) T H (gTup gr v env μ) Q EF) : ∃ a xs vs, x = .ref a ∧ SqT X.K H a xs ∧ xs.length = n ∧ RepL X.K H T vs xs ∧ Post X.K (RE X.K) T H (gr vs env μ) Q EF := by
  unfold gTup at q
  cases r with
  | @tup a xs vs h r =>
    dsimp only at q
    refine ⟨a, xs, vs, rfl, ?_, ?_, r, q⟩
    · rcases h with ⟨_, h⟩ | h
      · exact SqT.of h
      · exact .inr h.1
    · rw [r.length]
      cases hq : gr vs env μ with
      | ok e m => exact hn _ _ _ _ _ hq
      | exc y m => exact absurd hq (hx _ _ _ _ _)
      | bad => rw [hq] at q; exact q.elim
  | _ => exact q.elim
theorem gq_tup {k : Nat} {n : Nat} {gr : List Val → Env → Hh → R Env} (hg : GLen gr n) (hx : NXs gr) (hc : X.calm = true) (h : PGs X es (GGs X.K X.mg W gr)) (hn : (assignEach es X.env).length = n := by rfl) (hst : (assignEach es X.env).findIdx? (·.1) = none := by rfl) :
    PG X (.Tuple es k pos) (GQ X.K (gTup gr)) :=
  PG.imp (pg_tup hc h hn hst) fun v σ H Q ⟨T, μ, env, u, hs, es, r, q⟩ => by
    obtain ⟨a, xs, vs, rfl, h1, h2, r2, q2⟩ := gTup_ok (X := X) hg hx hs es r q
    exact ⟨a, xs, rfl, h1, h2, T, μ, env, vs, hs, es, r2, q2⟩
/-- a target that raises nothing, where exceptions may be taken -/
theorem GQ.gg {g : Gv} (h : PG X e (GQ X.K g)) (hx : NX g) : PG X e (GG X.K X.mg W g) :=
  PG.imp h fun v σ H Q ⟨T, μ, env, u, hs, es, r, q⟩ => ⟨T, μ, env, u, hs, es, r, by
    cases hr : g u env μ with
    | ok a m => rw [hr] at q; exact q
    | exc x m => exact absurd hr (hx _ _ _ _ _)
    | bad => rw [hr] at q; exact q⟩
theorem gs_asg {tg : Expr} (he : PE X e (GE X.K X.mg W ea)) (hg : PG X tg (GG X.K X.mg W gv)) (hs : swapsWithSole [tg] e pos.line X.env = pure false := by rfl) (hw : swappedStores [tg] e X.env = pure none := by rfl)
    (h1 : (assignEach [tg] X.env).map (·.2) = [assign tg X.env] := by rfl) : PS X (.Assign [tg] e pos) (GS X.K X.mg W (sAsg gv ea)) :=
  PS.imp (ps_asg he hg hs hw h1) fun D σ H ⟨T, μ, env, hs, es, q⟩ => ⟨T, μ, env, hs, es, SPost.lift (μ := μ) es q fun v μ1 T1 H1 x s1 hs1 r1 q1 => ⟨T1, μ1, env, v, hs1, es.step s1, r1, SPost.lift (μ := μ1) (es.step s1) q1 fun env2 μ2 T2 H2 σ2 s2 hs2 es2 q2 => q2 T2 H2 σ2 (Step.refl _ _) hs2 es2⟩⟩
end
end Mp

set_option Elab.async false
set_option linter.all false
set_option maxRecDepth 100000
set_option maxHeartbeats 1000000
namespace Mp
open PySem PySem.Spec PyProof.Rows L2
variable [Tb]
open AutoSeq1 (wpAny_loadPart')
/-! ### enumerate of a tuple -/
omit [Tb] in
theorem enT_new (tu : Addr) (its : Array Value) (k : Nat) (dd : Option Addr) (sl : Array (Option Value)) :
    Meets (Builtin.«enumerate.__new__» ⟨[.type "enumerate", .ref tu], []⟩) (fun _ R s => s.heap.get? tu = some ⟨.type "tuple", dd, .seq its k, sl⟩ ∧
      R (.ok (.ret (.ref (s.heap.push { cls := .type "tuple_iterator", data := .fields #[.ref tu, .int 0 0] }).objs.size)))
        { s with heap := (s.heap.push { cls := .type "tuple_iterator", data := .fields #[.ref tu, .int 0 0] }).push { cls := .type "enumerate", data := .fields #[.none, .bool false, .ref s.heap.objs.size, rawInt 0, .none, .none] } }) := by
  refine .of_wp fun prog w A R s hh => ?_
  obtain ⟨hp, gg, dr, tk, os⟩ := s; obtain ⟨ht, hR⟩ := hh
  have hsub := sub_enumerate
  have hT : Heap.IsTuple (Shared.heap ⟨hp, gg, dr, tk, os⟩) tu its := ⟨_, ht, rfl, k, rfl⟩
  wp_walk using wpAny_loadPart' ht
  refine wpAny_stack_any fun _ => wpAny_pure ?_
  split
  · rename_i cc _ _ _ _ _
    cases (cc == Value.type "enumerate")
    all_goals (wp_walk using wpAny_loadPart' ht, wpAny_pyIter_tuple hT; exact ⟨_, rfl, hR⟩)
  · wp_walk using wpAny_loadPart' ht, wpAny_pyIter_tuple hT; exact ⟨_, rfl, hR⟩

section
variable {prog : Program} {w : World} {A : Around} {E : Value → Shared → Prop} {s : Shared}
theorem enT_call {tu : Addr} {its : Array Value} {Q : Value → Shared → Prop} (hT : s.heap.IsTuple tu its)
    (fin : ∀ h', IsEnum h' (s.heap.objs.size + 1) s.heap.objs.size 0 .none → h'.IsTupleIter s.heap.objs.size tu 0 → (∀ b o, s.heap.get? b = some o → h'.get? b = some o) → Q (.ref (s.heap.objs.size + 1)) { s with heap := h' }) :
    wpAny (model prog w) A (call (.type "enumerate") [.ref tu]) Q E s := by
  obtain ⟨⟨oc, od, dt, sl⟩, ho, rfl, n, hd⟩ := hT
  cases (show dt = .seq its n from hd)
  have e1 : (s.heap.push { cls := .type "tuple_iterator", data := .fields #[.ref tu, .int 0 0] }).objs.size = s.heap.objs.size + 1 := Heap.size_push ..
  refine callType_new F.called_enumerate (by decide) (F.typeCall_enumerate_1 _) (F.newCall_enumerate_1 _) (fun x => F.args_object_init_2 x _) F.entry_enumerate_new (enT_new tu its n od sl) ⟨ho, ?_⟩
  have e2 := Heap.get?_push_size (s.heap.push { cls := .type "tuple_iterator", data := .fields #[.ref tu, .int 0 0] }) (o := { cls := .type "enumerate", data := .fields #[.none, .bool false, .ref s.heap.objs.size, rawInt 0, .none, .none] }) rfl
  rw [e1] at e2
  show _ ∧ _
  rw [e1]
  exact ⟨⟨_, e2, rfl⟩, fin _ e2 ⟨_, Heap.get?_push_of_some _ (Heap.get?_push_size _ rfl), rfl, rfl⟩ fun b o q => Heap.get?_push_of_some _ (Heap.get?_push_of_some _ q)⟩
omit [Tb] in
theorem enT_draws (hh : A.handled = none) (it tu : Addr) (ne : tu ≠ it) (its : Array Value) :
    Draws prog w A it [it, tu] its.size (fun i v => its[i]? = some v) (fun i h => h.IsTupleIter it tu i ∧ h.IsTuple tu its) := by
  refine ⟨fun _ _ st => st.1.imp fun _ q => q.1, fun _ _ h' st hk => ⟨st.1.at fun o e => hk it (by simp) o e, ?_⟩, fun i s Q E hi st hQ => ?_, fun s Q E st hE => RZ.nextOf_tuple_end hh st.1 st.2 (by simp) hE⟩
  · obtain ⟨o, e, q⟩ := st.2
    exact ⟨o, hk tu (by simp) o e, q⟩
  · refine RZ.nextOf_tuple_item st.1 st.2 (x := its[i]) (by simp [hi]) fun h' i' sb => hQ _ h' s.toks (by simp [hi]) ⟨i', ?_⟩ sb
    obtain ⟨o, e, q⟩ := st.2
    exact ⟨o, (sb.2 tu ne).trans e, q⟩
end
/-- the tuple at a, each item in a new pair -/
def IteT (K : PySem.W.Frag) (a : Addr) : It where
  go i H := ∃ (xs : List V) (x : V), SqT K H a xs ∧ xs[i]? = some x
  yld i H v H' := ∃ P x, v = .ref P ∧ H P = none ∧ H' = upd H P (.tup [.int (i : Nat), x]) ∧ ∀ xs, SqT K H a xs → xs[i]? = some x
  stop i H := ∃ xs : List V, SqT K H a xs ∧ xs.length ≤ i
omit [Tb] in
theorem enT_turn {P : Program} {w : World} {K : PySem.W.Frag} {elts : List Expr} {kk : Nat} {tpos : Pos} (a en it : Addr) (nai : a ≠ it) :
    Turn P w K (.Tuple elts kk tpos) (IteT K a) [en, it] en (fun i h => (∃ old, IsEnum h en it ((i : Nat) : Int) old) ∧ h.IsTupleIter it a i ∧ en ≠ it ∧ en ≠ a) := by
  refine ⟨by simp, ?_, ?_, ?_, ?_, fun A i s Q E st hq => st.1.elim fun _ q => wpAny_pyIter_enum q hq⟩
  · rintro i h ⟨⟨old, he⟩, ⟨o, ho, _, hd⟩, _⟩ b hb
    rcases (show b = en ∨ b = it by simpa using hb) with rfl | rfl
    · exact ⟨_, he, fun _ q => nomatch q⟩
    · exact ⟨o, ho, fun _ q => by rw [hd] at q; cases q⟩
  · rintro i h h' ⟨⟨old, he⟩, hi, hne⟩ k
    exact ⟨⟨old, k en (by simp) _ he⟩, hi.at fun o q => k it (by simp) o q, hne⟩
  · intro X hP hw hK hc i pins s σ H E I hf st hg
    subst hP hw hK
    obtain ⟨⟨old, he⟩, hit, hne, hna⟩ := st
    obtain ⟨xs, x, hq, hx⟩ := hg
    obtain ⟨its, rv, pt, _⟩ := I.tuple hq
    obtain ⟨u, hu, ru⟩ := rv.get hx
    have l1 : en < s.heap.objs.size := Heap.lt_size he
    have l2 : it < s.heap.objs.size := by obtain ⟨_, q, _⟩ := hit; exact Heap.lt_size q
    have hlt : i < its.toArray.size := by simpa using (List.getElem?_eq_some_iff.mp hu).1
    refine wpAny_pyNext_enum_itemD (enT_draws (prog := X.prog) (w := X.w) (A := X.A.in1) (I.ok.hd hc) it a nai its.toArray) he ⟨hit, pt⟩ hlt hne (by simp [hne, hna]) fun y h1 tk hy ho hst hTp _ hk => ?_
    have ey : y = u := by
      rw [List.getElem?_toArray, hu] at hy
      exact (Option.some.inj hy).symm
    subst ey
    refine ⟨_, rfl, wpAny_letOwnedTupleGo_enum (s := { s with heap := h1, toks := tk + 1 }) ho fun h2 he2 sb => ?_⟩
    have hP2 := (sb.2 _ (Nat.ne_of_gt l1)).trans hTp
    have ob : ObjOk X.prog X.w (upd H s.heap.objs.size (.tup [.int (i : Nat), x])) h2 s.heap.objs.size (.tup [.int (i : Nat), x]) :=
      ⟨(by decide : 2 ≤ sizeLine), [.int i tk, y], .cons ⟨_, rfl⟩ (.cons ru .nil), ⟨_, hP2, rfl, _, rfl⟩⟩
    have J := I.turnedNew (t' := tk + 1) (ch := [en, it]) (fun b o hb q => (sb.2 b (fun z => hb (by simp [z]))).trans (hk b o (fun z => hb (by simp [z])) (fun z => hb (by simp [z])) q)) hf (Nat.le_refl _) ob
    refine ⟨.ref s.heap.objs.size, _, J, rfl, ⟨_, x, rfl, I.hok.fresh (Nat.le_refl _), rfl, fun ys hy => by rw [I.tuple_inj hy hq]; exact hx⟩, ⟨⟨y, ?_⟩, hst.1.at fun o q => (sb.2 it (Ne.symm hne)).trans q, hne, hna⟩, fun b hb => ?_⟩
    · rw [show ((i + 1 : Nat) : Int) = (i : Int) + 1 by omega]; exact he2
    · have hlb : b < s.heap.objs.size := by
        rcases (show b = en ∨ b = it by simpa using hb) with rfl | rfl
        · exact l1
        · exact l2
      rw [upd_ne (Nat.ne_of_lt hlb)]; exact (hf b hb).1
  · intro X hP hw hK hc i pins s σ H E I hf st hg
    subst hP hw hK
    obtain ⟨⟨old, he⟩, hit, hne, hna⟩ := st
    obtain ⟨xs, hq, hx⟩ := hg
    obtain ⟨its, rv, pt, _⟩ := I.tuple hq
    obtain ⟨g0, g1, g2, g3, g4, g5⟩ := hf it (by simp)
    have hl := rv.length
    have D : Draws X.prog X.w X.A.in1 it [it, a] i (fun _ _ => False) (fun j h => j = i ∧ h.IsTupleIter it a i ∧ h.IsTuple a its.toArray) := by
      refine ⟨fun _ _ st => st.2.1.imp fun _ q => q.1, fun _ _ h' st hk => ⟨st.1, st.2.1.at fun o e => hk it (by simp) o e, ?_⟩, fun j s Q E hj st _ => absurd st.1 (Nat.ne_of_lt hj), fun s Q E st hE => RZ.nextOf_tuple_end (I.ok.hd hc) st.2.1 st.2.2 (by simp; omega) hE⟩
      obtain ⟨o, e, q⟩ := st.2.2
      exact ⟨o, hk a (by simp) o e, q⟩
    exact wpAny_pyNext_enum_endD D he ⟨rfl, hit, pt⟩ fun h' eb => ⟨rfl, I.turned (t' := s.toks) (fun b o hb q => eb b o hb q) g0 g1 g3 g4 g5⟩
/-- enumerate(e), e a list or a tuple -/
theorem pi_enT {X : Cx} {e : Expr} {ta : TA} {p pos tpos : Pos} {elts : List Expr} {kk : Nat} (hg : Gl X "enumerate") (hm : X.mg "enumerate" = none) (ha : PA X [e] ta) (hs : starEach [e] X.env = [(false, eval e X.env)] := by rfl) :
    PI X (.Tuple elts kk tpos) (.Call (.Name "enumerate" p) [e] [] pos) (fun σ H R => ta σ H fun vs H1 => ∃ a xs, vs = [.ref a] ∧ SqT X.K H1 a xs ∧ R (IteT X.K a) H1) := by
  refine ⟨fun pins s σ H R I hw => Call_ (ld_blt I hg hm boot_enumerate (PyProof.Rows.callWith_type1 (thn (ha.run pos pins s σ H _ I hw) fun us s1 ⟨vs, H1, I1, r1, a, xs, ev, hq, q⟩ => ?_) hs rfl))⟩
  subst ev
  obtain ⟨u, eu, ru⟩ := vals1 r1
  subst eu
  cases ru
  obtain ⟨its, rv, pt, _⟩ := I1.tuple hq
  have la : a < s1.heap.objs.size := pt.elim fun _ q => Heap.lt_size q.1
  refine enT_call (show s1.heap.IsTuple a its.toArray from pt) fun h' he hit hk => wpAny_pyIter_enum he ⟨s1.heap.objs.size + 1, [s1.heap.objs.size + 1, s1.heap.objs.size], _, _, H1, rfl, I1.kept (t' := s1.toks) hk, enT_turn a (s1.heap.objs.size + 1) s1.heap.objs.size (Nat.ne_of_lt la), ⟨⟨.none, he⟩, hit, Nat.succ_ne_self _, Nat.ne_of_gt (Nat.lt_succ_of_lt la)⟩, fun b hb => ?_, q⟩
  have hle : s1.heap.objs.size ≤ b := by
    rcases (show b = s1.heap.objs.size + 1 ∨ b = s1.heap.objs.size by simpa using hb) with rfl | rfl
    · exact Nat.le_succ _
    · exact Nat.le_refl _
  exact I1.fpOk hle (I1.hok.fresh hle)
end Mp

set_option Elab.async false
set_option linter.all false
set_option maxRecDepth 100000
namespace Mp
open PySem PySem.Spec PyProof.Rows L2
variable [Tb]
/-! ### what is walked: its items; the lists that must stand meanwhile -/
structure Iv where
  items : List Val
  chk : List (Nat × List Val)
abbrev Iev := Env → Hh → R Iv
def chkOk (c : List (Nat × List Val)) (h : Hh) : Prop := ∀ p ∈ c, h[p.1]? = some (.lst p.2)
omit [Tb] in
@[simp] theorem chkOk_nil (h : Hh) : chkOk [] h := fun _ q => nomatch q
def chkOf (v : Val) (h : Hh) : List (Nat × List Val) := match v with
  | .ref n => match h[n]? with
    | some (.lst l) => [(n, l)]
    | _ => []
  | _ => []
/-- J walks these items -/
def ItRep (K : PySem.W.Frag) (H0 : Hp) (T0 : Tr) (iv : Iv) (J : It) : Prop := ∀ T μ H, Step T0 H0 T H → HSim K T μ H → chkOk iv.chk μ →
  (∀ (i : Nat) v, iv.items[i]? = some v → J.go i H ∧ ∀ x H', J.yld i H x H' → Step T H T H' ∧ HSim K T μ H' ∧ RepV K H' T v x) ∧ J.stop iv.items.length H
abbrev RI (K : PySem.W.Frag) : Hp → Tr → Iv → It → Prop := fun H T iv J => ItRep K H T iv J
def GI (K : PySem.W.Frag) (mg : Str → Option Value) (W : WX) (f : Iev) : TI := Gn K mg W (RI K) f
omit [Tb] in
theorem PI.imp {X : Cx} {tg e : Expr} {t t' : TI} (h : PI X tg e t) (k : ∀ σ H Q, t' σ H Q → t σ H Q) : PI X tg e t' := ⟨fun pins s σ H Q I q => h.run pins s σ H Q I (k σ H Q q)⟩
section
variable {K : PySem.W.Frag} {T T' : Tr} {μ μ' : Hh} {H H' : Hp} {v : Val} {x : V} {l : List Val}
omit [Tb] in
theorem lsq_keep (e : lsq v μ = some l) (c : chkOk (chkOf v μ) μ') : lsq v μ' = some l := by
  cases v with
  | ref n =>
    unfold lsq chkOf at *
    dsimp only at *
    cases h : μ[n]? with
    | none => rw [h] at e; cases e
    | some o =>
      cases o with
      | dct ks vs => rw [h] at e; cases e
      | lst l' =>
        rw [h] at e c
        cases e
        have q : μ'[n]? = some (.lst l) := c (n, l) (by simp)
        rw [q]
  | _ => exact e
theorem it_lst {a : Addr} (ha : x = .ref a) (hs : HSim K T μ H) (r : RepV K H T v x) (e : lsq v μ = some l) : ItRep K H T ⟨l, chkOf v μ⟩ (Itl K a) := by
  intro T1 μ1 H1 st hs1 c
  obtain ⟨a', xs, ea, h1, l1⟩ := lsq_rep hs1 (r.step st) (lsq_keep e c)
  rw [ha] at ea; cases ea
  refine ⟨fun i u ei => ?_, xs, h1, by rw [l1.length]; exact Nat.le_refl _⟩
  obtain ⟨y, ey, ry⟩ := l1.get ei
  refine ⟨⟨xs, y, h1, ey⟩, fun z H2 ⟨e1, e2⟩ => ?_⟩
  subst e1
  have q := e2 xs h1
  rw [ey] at q; cases q
  exact ⟨Step.refl _ _, hs1, ry⟩
theorem it_tup {a : Addr} {xs : List V} (st0 : RepV K H T (.tup l) (.ref a)) : ItRep K H T ⟨l, []⟩ (Itt K a) := by
  intro T1 μ1 H1 st hs1 c
  obtain ⟨a', xs, ea, h1, l1⟩ := tup_rep (st0.step st)
  cases ea
  refine ⟨fun i u ei => ?_, xs, h1, by rw [l1.length]; exact Nat.le_refl _⟩
  obtain ⟨y, ey, ry⟩ := l1.get ei
  refine ⟨⟨xs, y, h1, ey⟩, fun z H2 ⟨e1, e2⟩ => ?_⟩
  subst e1
  have q := e2 xs h1
  rw [ey] at q; cases q
  exact ⟨Step.refl _ _, hs1, ry⟩
end
def seqI (v : Val) (h : Hh) : R Iv := match v with
  | .tup l => .ok ⟨l, []⟩ h
  | v => match lsq v h with
    | some l => .ok ⟨l, chkOf v h⟩ h
    | none => .bad
def iSeq (e : Ev) : Iev := fun env h => (e env h).bnd fun v h1 => seqI v h1
def rangeV (lo hi : Int) : List Val := (List.range (hi - lo).toNat).map fun (i : Nat) => Val.int (lo + (i : Int))
def rng1I (vs : List Val) (h : Hh) : R Iv := match vs with
  | [.int j] => if -(2 ^ 62) ≤ j ∧ j < 2 ^ 62 then .ok ⟨rangeV 0 j, []⟩ h else .bad
  | _ => .bad
def rng2I (vs : List Val) (h : Hh) : R Iv := match vs with
  | [.int i, .int j] => if -(2 ^ 62) ≤ i ∧ i < 2 ^ 62 ∧ -(2 ^ 62) ≤ j ∧ j < 2 ^ 62 then .ok ⟨rangeV i j, []⟩ h else .bad
  | _ => .bad
def iRng1 (a : Av) : Iev := fun env h => (a env h).bnd fun vs h1 => rng1I vs h1
def iRng2 (a : Av) : Iev := fun env h => (a env h).bnd fun vs h1 => rng2I vs h1
def enumV (i : Nat) : List Val → List Val
  | [] => []
  | v :: l => .tup [.int (i : Int), v] :: enumV (i + 1) l
omit [Tb] in
theorem enumV_length : ∀ (l : List Val) (i : Nat), (enumV i l).length = l.length
  | [], _ => rfl
  | _ :: l, i => by simp [enumV, enumV_length l (i + 1)]
omit [Tb] in
theorem enumV_get : ∀ (l : List Val) (i j : Nat), (enumV i l)[j]? = (l[j]?).map fun v => .tup [.int ((i + j : Nat) : Int), v]
  | [], _, _ => by simp [enumV]
  | v :: l, i, 0 => by simp [enumV]
  | v :: l, i, j + 1 => by
    simp only [enumV, List.getElem?_cons_succ]
    rw [enumV_get l (i + 1) j, show i + 1 + j = i + (j + 1) by omega]
def enI (vs : List Val) (h : Hh) : R Iv := match vs with
  | [.tup l] => .ok ⟨enumV 0 l, []⟩ h
  | [v] => match lsq v h with
    | some l => .ok ⟨enumV 0 l, chkOf v h⟩ h
    | none => .bad
  | _ => .bad
def iEn (a : Av) : Iev := fun env h => (a env h).bnd fun vs h1 => enI vs h1
def zipV : List Val → List Val → List Val
  | v :: l, w :: r => .tup [v, w] :: zipV l r
  | _, _ => []
def zipI (vs : List Val) (h : Hh) : R Iv := match vs with
  | [.tup l, .tup r] => .ok ⟨zipV l r, []⟩ h
  | [v, w] => match lsq v h, lsq w h with
    | some l, some r => .ok ⟨zipV l r, chkOf v h ++ chkOf w h⟩ h
    | _, _ => .bad
  | _ => .bad
def iZp (a : Av) : Iev := fun env h => (a env h).bnd fun vs h1 => zipI vs h1
section
variable {X : Cx} {W : WX} {tg a b e : Expr} {es : List Expr} {pos : Pos} {ea : Ev} {av : Av}
/-- a list or a tuple is walked -/
theorem gi_seq (h : PE X e (GE X.K X.mg W ea)) : PI X tg e (GI X.K X.mg W (iSeq ea)) := by
  refine ⟨fun pins s σ H R' I ⟨T, μ, env, hs, es, q⟩ => ?_⟩
  unfold iSeq at q
  have tupCase : ∀ l μ1, ea env μ = .ok (.tup l) μ1 → wpAny (model X.prog X.w) X.A (eval e X.env) (fun v s1 => wpAny (model X.prog X.w) X.A (pyIter v) (PIE X pins σ tg R') X.xe s1) X.xe s := fun l μ1 er => by
    refine (pi_tup h).run pins s σ H R' I ⟨T, μ, env, hs, es, ?_⟩
    rw [er] at q ⊢
    intro T1 H1 x st hs1 r1
    obtain ⟨p, xs, rfl, h1, _⟩ := tup_rep r1
    exact ⟨p, rfl, ⟨xs, h1⟩, q T1 H1 _ st hs1 (it_tup (xs := xs) r1)⟩
  have lstCase : ∀ v μ1, ea env μ = .ok v μ1 → (∀ l, v ≠ .tup l) → wpAny (model X.prog X.w) X.A (eval e X.env) (fun v s1 => wpAny (model X.prog X.w) X.A (pyIter v) (PIE X pins σ tg R') X.xe s1) X.xe s := fun v μ1 er nt => by
    refine (pi_list h).run pins s σ H R' I ⟨T, μ, env, hs, es, ?_⟩
    rw [er] at q ⊢
    intro T1 H1 x st hs1 r1
    have q1 : Post X.K (RI X.K) T H (seqI v μ1) R' (EX X.K X.mg W σ) := q
    unfold seqI at q1
    split at q1
    · exact absurd rfl (nt _)
    · split at q1
      · rename_i l el
        obtain ⟨p, xs, ea', h1, _⟩ := lsq_rep hs1 r1 el
        exact ⟨p, ea', ⟨xs, h1⟩, q1 T1 H1 _ st hs1 (it_lst ea' hs1 r1 el)⟩
      · exact q1.elim
  cases hr : ea env μ with
  | ok v μ1 =>
    cases v with
    | tup l => exact tupCase l μ1 hr
    | _ => exact lstCase _ μ1 hr fun _ z => nomatch z
  | exc x m =>
    refine (pi_tup h).run pins s σ H R' I ⟨T, μ, env, hs, es, ?_⟩
    rw [hr] at q ⊢; exact q
  | bad => rw [hr] at q; exact q.elim
theorem it_rng {K : PySem.W.Frag} {H : Hp} {T : Tr} (lo hi : Int) (n : Nat) (hn : n = (hi - lo).toNat) : ItRep K H T ⟨rangeV lo hi, []⟩ (Itr lo n) := by
  intro T1 μ1 H1 st hs1 c
  subst hn
  have hl : (rangeV lo hi).length = (hi - lo).toNat := by simp [rangeV]
  refine ⟨fun i u ei => ?_, by show (hi - lo).toNat ≤ (rangeV lo hi).length; rw [hl]; exact Nat.le_refl _⟩
  have hi' : i < (hi - lo).toNat := by rw [← hl]; exact (List.getElem?_eq_some_iff.mp ei).1
  have eu : u = .int (lo + (i : Int)) := by
    unfold rangeV at ei
    rw [List.getElem?_map, List.getElem?_range hi'] at ei
    exact (Option.some.inj ei).symm
  refine ⟨hi', fun z H2 ⟨e1, e2⟩ => ?_⟩
  subst e1 e2 eu
  exact ⟨Step.refl _ _, hs1, .int _⟩
theorem gi_range1 {p pos : Pos} (hg : Gl X "range") (hm : X.mg "range" = none) (ha : PA X [a] (GA X.K X.mg W av)) (hs : starEach [a] X.env = [(false, eval a X.env)] := by rfl) : PI X tg (.Call (.Name "range" p) [a] [] pos) (GI X.K X.mg W (iRng1 av)) :=
  PI.imp (pi_range1 hg hm ha hs) fun σ H Q ⟨T, μ, env, hs, es, q⟩ => ⟨T, μ, env, hs, es, Post.seq q fun v μ1 T1 H1 x s1 hs1 r1 q1 => by
    unfold rng1I at q1
    split at q1
    · rename_i j
      obtain ⟨y, rfl, r2⟩ := r1.one
      cases r2
      split at q1
      · rename_i hk
        exact ⟨j, rfl, hk.1, hk.2, Post.now q1 hs1 (it_rng 0 j j.toNat (by simp))⟩
      · exact q1.elim
    · exact q1.elim⟩
theorem pair_rep {K : PySem.W.Frag} {T : Tr} {μ : Hh} {H : Hp} {v w : Val} {x y : V} {P : Addr} (hs : HSim K T μ H) (r1 : RepV K H T v x) (r2 : RepV K H T w y) (hP : H P = none) :
    Step T H T (upd H P (.tup [x, y])) ∧ HSim K T μ (upd H P (.tup [x, y])) ∧ RepV K (upd H P (.tup [x, y])) T (.tup [v, w]) (.ref P) :=
  ⟨Step.new hP, hs.new hP, .tup (.inl ⟨hs.notban hP, upd_same⟩) (.cons (r1.step (Step.new hP)) (.cons (r2.step (Step.new hP)) .nil))⟩
theorem it_en {K : PySem.W.Frag} {T : Tr} {μ : Hh} {H : Hp} {v : Val} {x : V} {l : List Val} {a : Addr} (ha : x = .ref a) (r : RepV K H T v x) (e : lsq v μ = some l) : ItRep K H T ⟨enumV 0 l, chkOf v μ⟩ (Ite K a) := by
  intro T1 μ1 H1 st hs1 c
  obtain ⟨a', xs, ea, h1, l1⟩ := lsq_rep hs1 (r.step st) (lsq_keep e c)
  rw [ha] at ea; cases ea
  refine ⟨fun i u ei => ?_, xs, h1, by rw [l1.length, enumV_length]; exact Nat.le_refl _⟩
  rw [enumV_get] at ei
  obtain ⟨w, ew, eu⟩ := Option.map_eq_some_iff.mp ei
  obtain ⟨y, ey, ry⟩ := l1.get ew
  refine ⟨⟨xs, y, h1, ey⟩, fun z H2 ⟨P, y', e1, e2, e3, e4⟩ => ?_⟩
  have q := e4 xs h1
  rw [ey] at q; cases q
  subst e1 e3 eu
  rw [Nat.zero_add]
  exact pair_rep hs1 (.int _) ry e2
theorem it_enT {K : PySem.W.Frag} {T : Tr} {H : Hp} {l : List Val} {a : Addr} (r : RepV K H T (.tup l) (.ref a)) : ItRep K H T ⟨enumV 0 l, []⟩ (IteT K a) := by
  intro T1 μ1 H1 st hs1 c
  obtain ⟨a', xs, ea, h1, l1⟩ := tup_rep (r.step st)
  cases ea
  refine ⟨fun i u ei => ?_, xs, h1, by rw [l1.length, enumV_length]; exact Nat.le_refl _⟩
  rw [enumV_get] at ei
  obtain ⟨w, ew, eu⟩ := Option.map_eq_some_iff.mp ei
  obtain ⟨y, ey, ry⟩ := l1.get ew
  refine ⟨⟨xs, y, h1, ey⟩, fun z H2 ⟨P, y', e1, e2, e3, e4⟩ => ?_⟩
  have q := e4 xs h1
  rw [ey] at q; cases q
  subst e1 e3 eu
  rw [Nat.zero_add]
  exact pair_rep hs1 (.int _) ry e2
theorem gi_en {p pos tpos : Pos} {elts : List Expr} {kk : Nat} (hg : Gl X "enumerate") (hm : X.mg "enumerate" = none) (ha : PA X [a] (GA X.K X.mg W av)) (hst : starEach [a] X.env = [(false, eval a X.env)] := by rfl) :
    PI X (.Tuple elts kk tpos) (.Call (.Name "enumerate" p) [a] [] pos) (GI X.K X.mg W (iEn av)) := by
  refine ⟨fun pins s σ H R' I ⟨T, μ, env, hs, es, q⟩ => ?_⟩
  unfold iEn at q
  cases hr : av env μ with
  | ok vs μ1 =>
    rw [hr] at q
    have q1 : Post X.K (RI X.K) T H (enI vs μ1) R' (EX X.K X.mg W σ) := q
    unfold enI at q1
    split at q1
    · refine (pi_enT hg hm ha hst).run pins s σ H R' I ⟨T, μ, env, hs, es, ?_⟩
      rw [hr]
      intro T1 H1 x st hs1 r1
      obtain ⟨y, rfl, r2⟩ := r1.one
      obtain ⟨p, xs, rfl, h1, _⟩ := tup_rep r2
      exact ⟨p, xs, rfl, h1, q1 T1 H1 _ st hs1 (it_enT r2)⟩
    · refine (pi_enum hg hm ha hst).run pins s σ H R' I ⟨T, μ, env, hs, es, ?_⟩
      rw [hr]
      intro T1 H1 x st hs1 r1
      obtain ⟨y, rfl, r2⟩ := r1.one
      split at q1
      · rename_i l el
        obtain ⟨p, xs, ea', h1, _⟩ := lsq_rep hs1 r2 el
        exact ⟨p, xs, by rw [ea'], h1, q1 T1 H1 _ st hs1 (it_en ea' r2 el)⟩
      · exact q1.elim
    · exact q1.elim
  | exc x m =>
    refine (pi_enum hg hm ha hst).run pins s σ H R' I ⟨T, μ, env, hs, es, ?_⟩
    rw [hr] at q ⊢; exact q
  | bad => rw [hr] at q; exact q.elim
end

/-! ### for -/
open Classical in
noncomputable def forL (tg : Gv) (b : Sv) (c : List (Nat × List Val)) : List Val → Env → Hh → SR
  | [], env, h => if chkOk c h then .nx env h else .bad
  | v :: r, env, h => if chkOk c h then lift (tg v env h) env fun env1 h1 => match b env1 h1 with
      | .nx e2 h2 => forL tg b c r e2 h2
      | .ct e2 h2 => forL tg b c r e2 h2
      | .bk e2 h2 => .nx e2 h2
      | .rt v h2 => .rt v h2
      | .exc x e2 h2 => .exc x e2 h2
      | .bad => .bad
    else .bad
noncomputable def sFor (it : Iev) (tg : Gv) (b : Sv) : Sv := fun env h => lift (it env h) env fun iv h1 => forL tg b iv.chk iv.items env h1
/-! ### while -/
section
variable {X : Cx} {W : WX} {tg iter c : Expr} {body : List Stmt} {pos : Pos} {iv : Iev} {gv : Gv} {sv : Sv} {tv : Tv}
theorem gs_for (hp : PassesOwn (model X.prog X.w) X.A X.env X.xe) (hc : X.calm = true) (hi : PI X tg iter (GI X.K X.mg W iv)) (hg : PG X tg (GG X.K X.mg W gv)) (hb : PSs X body (GS X.K X.mg W sv))
    (hs : ∀ x, foldedSetIterable iter X.env x = pure x := by intro _; rfl) : PS X (.For tg iter body [] pos) (GS X.K X.mg W (sFor iv gv sv)) := by
  refine PS.imp (ps_for hp hc hi hg hb hs) fun D σ H ⟨T, μ, env, hs, es, q⟩ => ⟨T, μ, env, hs, es, SPost.lift (μ := μ) es q fun it μ1 T1 H1 J s1 hs1 r1 q1 => ?_⟩
  refine ⟨fun i m σ H => ∃ T μ env, m = it.items.length - i ∧ i ≤ it.items.length ∧ Step T1 H1 T H ∧ HSim X.K T μ H ∧ ESim X.K H T env σ ∧ SPost X.K X.mg W T H D (forL gv sv it.chk (it.items.drop i) env μ),
    ⟨_, T1, μ1, env, rfl, Nat.zero_le _, Step.refl _ _, hs1, es.step s1, by rw [List.drop_zero]; exact q1⟩, ?_⟩
  rintro i m σ2 H2 ⟨T2, μ2, env2, rfl, hi, st2, hs2, es2, q2⟩
  by_cases hlt : i < it.items.length
  · have ed : it.items.drop i = it.items[i] :: it.items.drop (i + 1) := List.drop_eq_getElem_cons hlt
    rw [ed] at q2
    unfold forL at q2
    split at q2
    · rename_i ck
      obtain ⟨go, _⟩ := r1 T2 μ2 H2 st2 hs2 ck
      obtain ⟨g1, g2⟩ := go i it.items[i] (List.getElem?_eq_getElem hlt)
      refine .inr ⟨g1, _, fun σ' H' n => n, fun x H' hy => ?_⟩
      obtain ⟨st3, hs3, r3⟩ := g2 x H' hy
      refine ⟨T2, μ2, env2, it.items[i], hs3, es2.step st3, r3, SPost.lift (μ := μ2) (es2.step st3) (SPost.step q2 st3) fun env4 μ4 T4 H4 σ4 s4 hs4 es4 q4 => ⟨T4, μ4, env4, hs4, es4, ?_⟩⟩
      have st4 : Step T1 H1 T4 H4 := (st2.trans st3).trans s4
      have nxt : ∀ e5 h5, SPost X.K X.mg W T4 H4 D (forL gv sv it.chk (it.items.drop (i + 1)) e5 h5) → ∀ T' H' σ', Step T4 H4 T' H' → HSim X.K T' h5 H' → ESim X.K H' T' e5 σ' → ∃ m', m' < it.items.length - i ∧ ∃ T μ env, m' = it.items.length - (i + 1) ∧ i + 1 ≤ it.items.length ∧ Step T1 H1 T H' ∧ HSim X.K T μ H' ∧ ESim X.K H' T env σ' ∧ SPost X.K X.mg W T H' D (forL gv sv it.chk (it.items.drop (i + 1)) env μ) :=
        fun e5 h5 q5 T' H' σ' s5 hs5 es5 => ⟨_, by omega, T', h5, e5, rfl, hlt, st4.trans s5, hs5, es5, SPost.step q5 s5⟩
      cases hr : sv env4 μ4 with
      | nx e5 h5 => rw [hr] at q4; exact nxt e5 h5 q4
      | ct e5 h5 => rw [hr] at q4; exact nxt e5 h5 q4
      | bk e5 h5 => rw [hr] at q4; exact q4
      | rt e5 h5 => rw [hr] at q4; exact q4
      | exc x e5 h5 => rw [hr] at q4; exact q4
      | bad => rw [hr] at q4; exact q4
    · exact q2.elim
  · have ei : i = it.items.length := by omega
    subst ei
    rw [List.drop_length] at q2
    unfold forL at q2
    split at q2
    · rename_i ck
      exact .inl ⟨(r1 T2 μ2 H2 st2 hs2 ck).2, q2 T2 H2 σ2 (Step.refl _ _) hs2 es2⟩
    · exact q2.elim
end
end Mp

set_option Elab.async false
set_option linter.all false
set_option maxRecDepth 100000
namespace Mp
open PySem PySem.Spec PyProof.Rows L2
variable [Tb]
/-! ### comprehensions -/
def wipeE (env : Env) : List Nat → Env
  | [] => env
  | v :: vs => (wipeE env vs).set v none
omit [Tb] in
theorem wipe_at (σ : St) : ∀ (vs : List Nat) (j : Nat), (wipe σ vs)[j]? = if j ∈ vs ∧ j < σ.length then some none else σ[j]?
  | [], j => by simp [wipe]
  | v :: vs, j => by
    unfold wipe
    by_cases h : v = j
    · subst h
      by_cases hl : v < σ.length
      · rw [List.getElem?_set_self (by rw [wipe_length]; exact hl), if_pos ⟨by simp, hl⟩]
      · rw [if_neg (fun q => hl q.2), List.getElem?_eq_none (by simpa [wipe_length] using hl), List.getElem?_eq_none (by simpa using hl)]
    · rw [List.getElem?_set_ne h, wipe_at σ vs j]
      simp [Ne.symm h]
omit [Tb] in
theorem wipe_set {σ : St} {vs : List Nat} {i : Nat} (hi : i ∈ vs) (x : Option V) : wipe (σ.set i x) vs = wipe σ vs := by
  apply List.ext_getElem?
  intro j
  rw [wipe_at, wipe_at, List.length_set]
  split
  · rfl
  · rename_i h
    by_cases e : i = j
    · subst e
      have hl : ¬ i < σ.length := fun q => h ⟨hi, q⟩
      rw [List.getElem?_eq_none (by simpa using hl), List.getElem?_eq_none (by simpa using hl)]
    · rw [List.getElem?_set_ne e]
section
variable {K : PySem.W.Frag} {T T' : Tr} {μ : Hh} {H H' : Hp} {env : Env} {σ : St}
omit [Tb] in
theorem ESim.wipe (es : ESim K H T env σ) : ∀ vs : List Nat, ESim K H T (wipeE env vs) (L2.wipe σ vs)
  | [] => es
  | v :: vs => by
    have ih := ESim.wipe es vs
    unfold wipeE L2.wipe
    refine ⟨by simp [ih.len], fun j w e => ?_⟩
    by_cases h : v = j
    · subst h
      by_cases hl : v < (wipeE env vs).length
      · rw [List.getElem?_set_self hl] at e; cases e
      · rw [List.getElem?_eq_none (by simpa using hl)] at e; cases e
    · rw [List.getElem?_set_ne h] at e
      obtain ⟨x, e', r⟩ := ih.at' j w e
      exact ⟨x, by rw [List.getElem?_set_ne h]; exact e', r⟩
omit [Tb] in
mutual
/-- fewer banned addresses, the same lists -/
theorem RepV.sub (hb : ∀ a, T'.ban a → T.ban a) (hr : ∀ (n : Nat) (a : Addr), T.ρ[n]? = some a → T'.ρ[n]? = some a) : ∀ {v : Val} {x : V}, RepV K H T v x → RepV K H T' v x
  | _, _, .non => .non
  | _, _, .bl b => .bl b
  | _, _, .int b => .int b
  | _, _, .str b => .str b
  | _, _, .ty b => .ty b
  | _, _, .tup (.inl ⟨n, h⟩) r => .tup (.inl ⟨fun q => n (hb _ q), h⟩) (r.sub hb hr)
  | _, _, .tup (.inr h) r => .tup (.inr h) (r.sub hb hr)
  | _, _, .lst n h r => .lst (fun q => n (hb _ q)) h (r.sub hb hr)
  | _, _, .fz (.inl ⟨n, h⟩) r => .fz (.inl ⟨fun q => n (hb _ q), h⟩) (r.sub hb hr)
  | _, _, .fz (.inr h) r => .fz (.inr h) (r.sub hb hr)
  | _, _, .ref h k => .ref (hr _ _ h) k
  | _, _, .dref h k => .dref (hr _ _ h) k
  | _, _, .fn h => .fn h
  | _, _, .dicK n h r => .dicK (fun q => n (hb _ q)) h (r.sub hb hr)
  | _, _, .dicT n h r => .dicT (fun q => n (hb _ q)) h (r.sub hb hr)
theorem RepL.sub (hb : ∀ a, T'.ban a → T.ban a) (hr : ∀ (n : Nat) (a : Addr), T.ρ[n]? = some a → T'.ρ[n]? = some a) : ∀ {vs : List Val} {xs : List V}, RepL K H T vs xs → RepL K H T' vs xs
  | _, _, .nil => .nil
  | _, _, .cons h r => .cons (h.sub hb hr) (r.sub hb hr)
end
omit [Tb] in
/-- the new list of a comprehension is fenced -/
theorem Step.fence {D : Addr} {o : HO} (hD : H D = none) : Step T H ⟨T.ρ, D :: T.β⟩ (upd H D o) :=
  ⟨⟨[], by simp, by simp⟩, ⟨[D], rfl, fun b hb => by rw [show b = D by simpa using hb, hD]; rfl⟩, (Step.new (T := T) hD).frm, (Step.new (T := T) hD).liv, (Step.new (T := T) hD).kd⟩
theorem HSim.fence {D : Addr} {o : HO} (hs : HSim K T μ H) (hD : H D = none) (ho : lv (some o) = true := by rfl) : HSim K ⟨T.ρ, D :: T.β⟩ μ (upd H D o) := by
  have st : Step T H ⟨T.ρ, D :: T.β⟩ (upd H D o) := Step.fence hD
  refine ⟨hs.len, hs.nd, fun n ob e => ?_, hs.old, fun b hb => ?_, tabs_new hs.tb hD⟩
  · obtain ⟨a, e', r⟩ := hs.obj n ob e
    exact ⟨a, e', r.step st (upd_ne fun z => by obtain ⟨u, y, _⟩ := r.tracked; rw [z, hD] at y; cases y)⟩
  · rcases List.mem_cons.mp hb with rfl | hb
    · rw [upd_same]; exact ho
    · exact st.liv b (hs.bt b hb)
omit [Tb] in
/-- .. and let go; D stays a list of the small heap (δ = [D]) or is frozen (δ = []) -/
theorem Step.unfence {T1 : Tr} {H1 : Hp} {D : Addr} {δ : List Addr} (hδ : ∀ b ∈ δ, b = D) (hD : H1 D = none) (st : Step T1 H1 T H) : Step T1 H1 ⟨T.ρ ++ δ, T1.β⟩ H := by
  obtain ⟨δ1, e, f⟩ := st.ext
  refine ⟨⟨δ1 ++ δ, by rw [← List.append_assoc, ← e], fun b hb => ?_⟩, ⟨[], rfl, by simp⟩, st.frm, st.liv, st.kd⟩
  rcases List.mem_append.mp hb with hb | hb
  · exact f b hb
  · rw [hδ b hb, hD]; rfl
omit [Tb] in
theorem Step.notin {D : Addr} (st : Step T H T' H') (hD : lv (H D) = true) (h : D ∉ T.ρ) : D ∉ T'.ρ := by
  obtain ⟨δ, e, f⟩ := st.ext
  intro q
  rw [e] at q
  rcases List.mem_append.mp q with q | q
  · exact h q
  · have z := f D q; rw [hD] at z; cases z
omit [Tb] in
theorem Step.inβ {D : Addr} (st : Step T H T' H') (h : D ∈ T.β) : D ∈ T'.β := by
  obtain ⟨ε, e, _⟩ := st.same
  rw [e]; exact List.mem_append_right _ h
omit [Tb] in
theorem unban_sub {T1 : Tr} {D : Addr} {δ : List Addr} {H1 : Hp} (hδ : ∀ b ∈ δ, b = D) (hb : D ∈ T.β) (st : Step T1 H1 T H) : ∀ a, (Tr.mk (T.ρ ++ δ) T1.β).ban a → T.ban a := fun a q => by
  rcases q with q | q
  · rcases List.mem_append.mp q with q | q
    · exact .inl q
    · refine .inr ?_
      rw [hδ a q]; exact hb
  · exact .inr (st.inβ q)
omit [Tb] in
theorem app_get {l δ : List Addr} (n : Nat) (a : Addr) (h : l[n]? = some a) : (l ++ δ)[n]? = some a := by rw [List.getElem?_append_left (List.getElem?_eq_some_iff.mp h).1]; exact h
theorem HSim.unfence {T1 : Tr} {H1 : Hp} {D : Addr} (hs : HSim K T μ H) (st : Step T1 H1 T H) (hb : D ∈ T.β) (bt : ∀ b ∈ T1.β, lv (H b) = true) : HSim K ⟨T.ρ, T1.β⟩ μ H := by
  refine ⟨hs.len, hs.nd, fun n ob e => ?_, hs.old, bt, hs.tb⟩
  obtain ⟨a, e', r⟩ := hs.obj n ob e
  have hb := unban_sub (δ := []) (by simp) hb st
  rw [List.append_nil] at hb
  exact ⟨a, e', r.map (hs.old n ob e) rfl fun vs xs _ r => r.sub hb fun _ _ h => h⟩
theorem HSim.unfence' {T1 : Tr} {H1 : Hp} {D : Addr} {acc : List Val} {xs : List V} (hs : HSim K T μ H) (st : Step T1 H1 T H) (hb : D ∈ T.β) (bt : ∀ b ∈ T1.β, lv (H b) = true) (hn : D ∉ T.ρ) (eD : H D = some (.lst xs)) (r : RepL K H T acc xs) : HSim K ⟨T.ρ ++ [D], T1.β⟩ (μ ++ [.lst acc]) H := by
  have hb := unban_sub (δ := [D]) (by simp) hb st
  refine ⟨by simp [hs.len], ?_, fun n ob e => ?_, fun n ob e => ?_, bt, hs.tb⟩
  · refine List.nodup_append.mpr ⟨hs.nd, by simp, fun a ha b hb => ?_⟩
    have e : b = D := by simpa using hb
    rw [e]
    exact fun q => hn (q ▸ ha)
  · by_cases hl : n < μ.length
    · rw [List.getElem?_append_left hl] at e
      obtain ⟨a, e', r'⟩ := hs.obj n ob e
      exact ⟨a, app_get n a e', r'.map (hs.old n ob e) rfl fun vs xs _ r => r.sub hb app_get⟩
    · have hl' : n < (μ ++ [Ob.lst acc]).length := (List.getElem?_eq_some_iff.mp e).1
      have : n = μ.length := by simp at hl'; omega
      subst this
      simp at e
      subst e
      exact ⟨D, by rw [← hs.len]; simp, xs, eD, r.sub hb app_get⟩
  · by_cases hl : n < μ.length
    · rw [List.getElem?_append_left hl] at e
      exact hs.old n ob e
    · have hl' : n < (μ ++ [Ob.lst acc]).length := (List.getElem?_eq_some_iff.mp e).1
      have : n = μ.length := by simp at hl'; omega
      subst this
      simp at e
      subst e
      have z := r.belOf
      rw [hs.len] at z
      exact z
omit [Tb] in
mutual
/-- what does not lean on D is kept where D alone is changed -/
theorem RepV.write {D : Addr} {o : HO} (hb : T.ban D) (hn : D ∉ T.ρ) : ∀ {v : Val} {x : V}, RepV K H T v x → RepV K (upd H D o) T v x
  | _, _, .non => .non
  | _, _, .bl b => .bl b
  | _, _, .int b => .int b
  | _, _, .str b => .str b
  | _, _, .ty b => .ty b
  | _, _, .tup (.inl ⟨n, h⟩) r => .tup (.inl ⟨n, (upd_ne fun q => n (by rw [q]; exact hb)).trans h⟩) (r.write hb hn)
  | _, _, .tup (.inr h) r => .tup (.inr h) (r.write hb hn)
  | _, _, .lst n h r => .lst n ((upd_ne fun q => n (by rw [q]; exact hb)).trans h) (r.write hb hn)
  | _, _, .fz (.inl ⟨n, o, h⟩) r => .fz (.inl ⟨n, o, (upd_ne fun q => n (by rw [q]; exact hb)).trans h⟩) (r.write hb hn)
  | _, _, .fz (.inr h) r => .fz (.inr h) (r.write hb hn)
  | _, _, .ref h k => .ref h (by rw [upd_ne fun q => hn (by rw [← q]; exact List.mem_of_getElem? h)]; exact k)
  | _, _, .dref h k => .dref h (by rw [upd_ne fun q => hn (by rw [← q]; exact List.mem_of_getElem? h)]; exact k)
  | _, _, .fn h => .fn h
  | _, _, .dicK n h r => .dicK n ((upd_ne fun q => n (by rw [q]; exact hb)).trans h) (r.write hb hn)
  | _, _, .dicT n h r => .dicT n ((upd_ne fun q => n (by rw [q]; exact hb)).trans h) (r.write hb hn)
theorem RepL.write {D : Addr} {o : HO} (hb : T.ban D) (hn : D ∉ T.ρ) : ∀ {vs : List Val} {xs : List V}, RepL K H T vs xs → RepL K (upd H D o) T vs xs
  | _, _, .nil => .nil
  | _, _, .cons h r => .cons (h.write hb hn) (r.write hb hn)
end
theorem HSim.write {D : Addr} {o : HO} (hs : HSim K T μ H) (hb : T.ban D) (hn : D ∉ T.ρ) (hk : ∃ l, H D = some (.lst l)) (ho : lv (some o) = true := by rfl) : HSim K T μ (upd H D o) := by
  refine ⟨hs.len, hs.nd, fun n ob e => ?_, hs.old, fun b h => ?_, tabs_upd hs.tb fun u e => by obtain ⟨l, z⟩ := hk; rw [z] at e; cases e; exact ⟨nofun, nofun⟩⟩
  · obtain ⟨a, e', r⟩ := hs.obj n ob e
    exact ⟨a, e', r.map (hs.old n ob e) (upd_ne fun z => hn (by rw [← z]; exact List.mem_of_getElem? e')) fun vs xs _ r => r.write hb hn⟩
  · by_cases q : b = D
    · rw [q, upd_same]; exact ho
    · rw [upd_ne q]; exact hs.bt b h
omit [Tb] in
theorem Step.write {T1 : Tr} {H1 : Hp} {D : Addr} {o : HO} (st : Step T1 H1 T H) (hD : H1 D = none) (ho : lv (some o) = true := by rfl) : Step T1 H1 T (upd H D o) :=
  ⟨st.ext, st.same, fun b u h n nt => by rw [upd_ne (ne_of_none h hD)]; exact st.frm b u h n nt, fun b h => by
    by_cases q : b = D
    · rw [q, upd_same]; exact ho
    · rw [upd_ne q]; exact st.liv b h, fun b hb k => by rw [upd_ne fun q => k (by rw [q, hD]; rfl)]; exact st.kd b hb k⟩
end
omit [Tb] in
theorem wipe_idem (σ : St) (vs : List Nat) : wipe (wipe σ vs) vs = wipe σ vs := by
  apply List.ext_getElem?
  intro j
  rw [wipe_at (wipe σ vs), wipe_length, wipe_at σ]
  split <;> rfl
/-! targets of a comprehension: its own slots alone are stored -/
abbrev REo (K : PySem.W.Frag) (own : List Nat) (σ0 : St) : Hp → Tr → Env → St → Prop := fun H T e σ => ESim K H T e σ ∧ wipe σ own = wipe σ0 own
def GQo (K : PySem.W.Frag) (own : List Nat) (g : Gv) : TG := fun x σ H Q => ∃ T μ env v, HSim K T μ H ∧ ESim K H T env σ ∧ RepV K H T v x ∧ Post K (REo K own σ) T H (g v env μ) Q EF
def GGo (K : PySem.W.Frag) (own : List Nat) (g : List Val → Env → Hh → R Env) : TGs := fun xs σ H Q => ∃ T μ env vs, HSim K T μ H ∧ ESim K H T env σ ∧ RepL K H T vs xs ∧ Post K (REo K own σ) T H (g vs env μ) Q EF
open Classical in
noncomputable def compL (tg : Gv) (tt : Tv) (el : Ev) (c : List (Nat × List Val)) : List Val → List Val → Env → Hh → R (List Val)
  | [], acc, _, h => if chkOk c h then .ok acc h else .bad
  | v :: r, acc, env, h => if chkOk c h then match tg v env h with
      | .ok env1 h1 => match tt env1 h1 with
        | .ok true h2 => match el env1 h2 with
          | .ok u h3 => if acc.length < sizeLine then compL tg tt el c r (acc ++ [u]) env h3 else .bad
          | _ => .bad
        | .ok false h2 => compL tg tt el c r acc env h2
        | _ => .bad
      | _ => .bad
    else .bad
noncomputable def eComp (m : Bool) (own : List Nat) (it : Iev) (tg : Gv) (tt : Tv) (el : Ev) : Ev := fun env h => (it env h).bnd fun iv h1 => match compL tg tt el iv.chk iv.items [] (wipeE env own) h1 with
  | .ok acc h2 => mk m acc h2
  | _ => .bad
def tTrue : Tv := fun _ h => .ok true h
abbrev W0 : WX := fun _ _ _ _ => False
section
variable {X : Cx} {W : WX} {tg e iter : Expr} {es ifs : List Expr} {pos : Pos} {own : List Nat} {gv : Gv} {gr : List Val → Env → Hh → R Env} {tv : Tv} {ea : Ev} {iv : Iev}
theorem go_name {i : Nat} {x : Str} (hown : i ∈ own) (hN : X.N.Nodup) (hi : X.N[i]? = some x) (hx : Loc X.env.scope x) (hf : X.fn x = true ∨ X.env.scope.names.lookup x = some .local := by first | exact .inl rfl | exact .inr rfl | assumption) : PG X (.Name x pos) (GQo X.K own (gName i)) :=
  PG.imp (pg_name hN hi hx hf) fun v σ H Q ⟨T, μ, env, u, hs, es, r, q⟩ => Post.now q hs ⟨es.set r i, wipe_set hown _⟩
theorem gos_nil : PGs X [] (GGo X.K own gNil) := PGs.imp pgs_nil fun xs σ H Q ⟨T, μ, env, vs, hs, es, r, q⟩ => by
  cases r with
  | nil => exact ⟨rfl, Post.now q hs ⟨es, rfl⟩⟩
  | cons _ _ => exact q.elim
theorem gos_cons (h1 : PG X e (GQo X.K own gv)) (h2 : PGs X es (GGo X.K own gr)) (hs : (assignEach (e :: es) X.env).map (·.2) = assign e X.env :: (assignEach es X.env).map (·.2) := by rfl) : PGs X (e :: es) (GGo X.K own (gCons gv gr)) :=
  PGs.imp (pgs_cons h1 h2 hs) fun xs σ H Q ⟨T, μ, env, vs, hs, es, r, q⟩ => by
    cases r with
    | nil => exact q.elim
    | @cons v x vs xs r1 r2 =>
      refine ⟨x, xs, rfl, T, μ, env, v, hs, es, r1, Post.seq q fun env1 μ1 T1 H1 σ1 s1 hs1 es1 q1 => ⟨T1, μ1, env1, vs, hs1, es1.1, r2.step s1, ?_⟩⟩
      cases hr : gr vs env1 μ1 with
      | ok e2 m => rw [hr] at q1; exact fun T2 H2 σ2 s2 hs2 es2 => q1 T2 H2 σ2 s2 hs2 ⟨es2.1, es2.2.trans es1.2⟩
      | exc x m => rw [hr] at q1; exact q1
      | bad => rw [hr] at q1; exact q1
theorem go_tup {k n : Nat} (hg : GLen gr n) (hx : NXs gr) (hc : X.calm = true) (h : PGs X es (GGo X.K own gr)) (hn : (assignEach es X.env).length = n := by rfl) (hst : (assignEach es X.env).findIdx? (·.1) = none := by rfl) :
    PG X (.Tuple es k pos) (GQo X.K own (gTup gr)) :=
  PG.imp (pg_tup hc h hn hst) fun v σ H Q ⟨T, μ, env, u, hs, es, r, q⟩ => by
    unfold gTup at q
    cases r with
    | @tup a xs vs h r =>
      dsimp only at q
      refine ⟨a, xs, rfl, ?_, ?_, T, μ, env, vs, hs, es, r, q⟩
      · rcases h with ⟨_, h⟩ | h
        · exact SqT.of h
        · exact .inr h.1
      · rw [r.length]
        cases hq : gr vs env μ with
        | ok e m => exact hg _ _ _ _ _ hq
        | exc y m => exact absurd hq (hx _ _ _ _ _)
        | bad => rw [hq] at q; exact q.elim
    | _ => exact q.elim
theorem gts_nil : PTs X [] (GT X.K X.mg W0 tTrue) := ⟨fun pins s σ H Q I ⟨T, μ, env, hs, es, q⟩ => pts_nil.run pins s σ H Q I (Post.now q hs rfl)⟩
theorem gts_one {c : Expr} (h : PT X c (GT X.K X.mg W0 tv)) : PTs X [c] (GT X.K X.mg W0 tv) := pts_one h
theorem lc_read {m : Bool} {σ : St} {H : Hp} {Q : VK} (h : GE X.K X.mg W (eComp m own iv gv tv ea) σ H Q) : tLc (GI X.K X.mg W iv) (GQo X.K own gv) (GT X.K X.mg W0 tv) (GE X.K X.mg W0 ea) own σ H Q := by
  obtain ⟨T, μ, env, hs, es, q⟩ := h
  refine ⟨T, μ, env, hs, es, Post.seq q fun it μ1 T1 H1 J s1 hs1 r1 q1 D hD => ?_⟩
  have es1 := (es.step s1).wipe own
  have idem := wipe_idem σ own
  generalize wipeE env own = env0 at es1 q1
  generalize wipe σ own = σ0 at es1 idem
  obtain ⟨accF, μF, eF, qF⟩ : ∃ accF μF, compL gv tv ea it.chk it.items [] env0 μ1 = .ok accF μF ∧ Post X.K (RV X.K) T1 H1 (mk m accF μF) Q (EX X.K X.mg W σ) := by
    cases hr : compL gv tv ea it.chk it.items [] env0 μ1 with
    | ok a b => rw [hr] at q1; exact ⟨a, b, rfl, q1⟩
    | exc x b => rw [hr] at q1; exact q1.elim
    | bad => rw [hr] at q1; exact q1.elim
  have st0 : Step T1 H1 ⟨T1.ρ, D :: T1.β⟩ (upd H1 D (.lst [])) := Step.fence hD
  refine ⟨fun i n H => ∃ T μ acc xs, n = it.items.length - i ∧ i ≤ it.items.length ∧ Step T1 H1 T H ∧ D ∈ T.β ∧ D ∉ T.ρ ∧ HSim X.K T μ H ∧ H D = some (.lst xs) ∧ RepL X.K H T acc xs ∧
    compL gv tv ea it.chk (it.items.drop i) acc env0 μ = .ok accF μF, ⟨_, ⟨T1.ρ, D :: T1.β⟩, μ1, [], [], rfl, Nat.zero_le _, st0, List.mem_cons_self, hs1.notmem hD, hs1.fence hD, upd_same, .nil, by rw [List.drop_zero]; exact eF⟩, ?_⟩
  rintro i n H2 ⟨T2, μ2, acc, xs, rfl, hi, st12, bD, nD, hs2, eD, rl, e2⟩
  have es2 := es1.step st12
  by_cases hlt : i < it.items.length
  · have ed : it.items.drop i = it.items[i] :: it.items.drop (i + 1) := List.drop_eq_getElem_cons hlt
    rw [ed] at e2
    unfold compL at e2
    split at e2
    · rename_i ck
      obtain ⟨go, _⟩ := r1 T2 μ2 H2 st12 hs2 ck
      obtain ⟨g1, g2⟩ := go i it.items[i] (List.getElem?_eq_getElem hlt)
      refine .inr ⟨g1, _, fun H' n => n, fun x H' hy => ?_⟩
      obtain ⟨st3, hs3, r3⟩ := g2 x H' hy
      refine ⟨T2, μ2, env0, it.items[i], hs3, es2.step st3, r3, ?_⟩
      cases hg : gv it.items[i] env0 μ2 with
      | exc x b => rw [hg] at e2; cases e2
      | bad => rw [hg] at e2; cases e2
      | ok env4 μ4 =>
        rw [hg] at e2
        intro T4 H4 σ4 st4 hs4 es4
        refine ⟨es4.2.trans idem, T4, μ4, env4, hs4, es4.1, ?_⟩
        dsimp only at e2
        cases ht : tv env4 μ4 with
        | exc x b => rw [ht] at e2; cases e2
        | bad => rw [ht] at e2; cases e2
        | ok b μ5 =>
          rw [ht] at e2
          intro T5 H5 b' st5 hs5 eb
          cases eb
          have st25 : Step T2 H2 T5 H5 := (st3.trans st4).trans st5
          have eD5 : H5 D = some (.lst xs) := st25.frm D _ eD nD nofun
          cases b with
          | false =>
            rw [if_neg (by decide)]
            exact ⟨_, by omega, T5, μ5, acc, xs, rfl, hlt, st12.trans st25, st25.inβ bD, st25.notin (by rw [eD]; rfl) nD, hs5, eD5, rl.step st25, e2⟩
          | true =>
            rw [if_pos rfl]
            refine ⟨T5, μ5, env4, hs5, es4.1.step st5, ?_⟩
            dsimp only at e2
            cases he : ea env4 μ5 with
            | exc x b => rw [he] at e2; cases e2
            | bad => rw [he] at e2; cases e2
            | ok u μ6 =>
              rw [he] at e2
              intro T6 H6 y st6 hs6 r6
              dsimp only at e2
              split at e2
              · rename_i hl
                have st26 : Step T2 H2 T6 H6 := st25.trans st6
                have eD6 : H6 D = some (.lst xs) := st26.frm D _ eD nD nofun
                have rl6 := rl.step st26
                have bD6 := st26.inβ bD
                have nD6 := st26.notin (by rw [eD]; rfl) nD
                exact ⟨xs, eD6, by rw [rl.length]; exact hl, _, by omega, T6, μ6, acc ++ [u], xs ++ [y], rfl, hlt, (st12.trans st26).write hD, bD6, nD6, hs6.write (.inr bD6) nD6 ⟨_, eD6⟩, upd_same, (rl6.append (.cons r6 .nil)).write (.inr bD6) nD6, e2⟩
              · cases e2
    · cases e2
  · have ei : i = it.items.length := by omega
    subst ei
    rw [List.drop_length] at e2
    unfold compL at e2
    split at e2
    · rename_i ck
      cases e2
      refine .inl ⟨(r1 T2 _ H2 st12 hs2 ck).2, ?_⟩
      have bt : ∀ b ∈ T1.β, lv (H2 b) = true := fun b hb => st12.liv b (hs1.bt b hb)
      unfold mk at qF
      cases m with
      | true =>
        rw [if_pos rfl] at qF
        exact qF ⟨T2.ρ ++ [D], T1.β⟩ H2 _ (Step.unfence (by simp) hD st12) (hs2.unfence' st12 bD bt nD eD rl) (.ref (by rw [← hs2.len]; simp) (by rw [eD]; rfl))
      | false =>
        rw [if_neg (by decide)] at qF
        have hb := unban_sub (δ := []) (by simp) bD st12
        have st := Step.unfence (δ := []) (by simp) hD st12
        rw [List.append_nil] at hb st
        refine qF ⟨T2.ρ, T1.β⟩ H2 _ st (hs2.unfence st12 bD bt) (.lst ?_ eD (rl.sub hb fun _ _ h => h))
        rintro (z | z)
        · exact nD z
        · have y := hs1.bt D z; rw [hD] at y; cases y
    · cases e2
/-- [elt for tg in iter if ..] -/
theorem ge_lc {m : Bool} {elt : Expr} {scope : Scope} {own : List (Str × Nat)} (hc : X.calm = true) (hN : X.N.Nodup) (hi : PI X tg iter (GI X.K X.mg W iv)) (ok : BlkOk X.N X.env.scope scope own)
    (hg : ∀ (s : Shared) (H : Hp) (C : Addr) (cl : List (Str × Addr)) (fp : List Addr), PG (X.blk s H scope (compEnvC scope cl C X.env) fp) tg (GQo X.K (own.map (·.2)) gv)) (ht : ∀ (s : Shared) (H : Hp) (C : Addr) (cl : List (Str × Addr)) (fp : List Addr), PTs (X.blk s H scope (compEnvC scope cl C X.env) fp) ifs (GT X.K X.mg W0 tv))
    (he : ∀ (s : Shared) (H : Hp) (C : Addr) (cl : List (Str × Addr)) (fp : List Addr), PE (X.blk s H scope (compEnvC scope cl C X.env) fp) elt (GE X.K X.mg W0 ea)) (hs : ∀ x, foldedSetIterable iter X.env x = pure x := by intro _; rfl) :
    PE X (.ListComp elt [⟨tg, iter, ifs, 0⟩] scope pos) (GE X.K X.mg W (eComp m (own.map (·.2)) iv gv tv ea)) :=
  PE.imp (pe_lc hc hN hi ok hg ht he hs) fun σ H Q q => lc_read q
/-- name = [..] -/
theorem gs_setLc {m : Bool} {i : Nat} {y : Str} {py : Pos} {elt : Expr} {scope : Scope} {own : List (Str × Nat)} {spos : Pos} (hc : X.calm = true) (hN : X.N.Nodup) (hy : X.N[i]? = some y) (hyl : X.env.scope.names.lookup y = some .local)
    (hsw : swapsWith (.ListComp elt [⟨tg, iter, ifs, 0⟩] scope pos) (some (.Name y py)) spos.line X.env = pure true) (hi : PI X tg iter (GI X.K X.mg W iv)) (ok : BlkOk X.N X.env.scope scope own)
    (hg : ∀ (s : Shared) (H : Hp) (C : Addr) (cl : List (Str × Addr)) (fp : List Addr), PG (X.blk s H scope (compEnvC scope cl C X.env) fp) tg (GQo X.K (own.map (·.2)) gv)) (ht : ∀ (s : Shared) (H : Hp) (C : Addr) (cl : List (Str × Addr)) (fp : List Addr), PTs (X.blk s H scope (compEnvC scope cl C X.env) fp) ifs (GT X.K X.mg W0 tv))
    (he : ∀ (s : Shared) (H : Hp) (C : Addr) (cl : List (Str × Addr)) (fp : List Addr), PE (X.blk s H scope (compEnvC scope cl C X.env) fp) elt (GE X.K X.mg W0 ea)) (hs : ∀ x, foldedSetIterable iter X.env x = pure x := by intro _; rfl) :
    PS X (.Assign [.Name y py] (.ListComp elt [⟨tg, iter, ifs, 0⟩] scope pos) spos) (GS X.K X.mg W (sSet i (eComp m (own.map (·.2)) iv gv tv ea))) :=
  PS.imp (ps_setLc hc hN hy hyl hsw hi ok hg ht he hs) fun D σ H ⟨T, μ, env, hs, es, q⟩ => lc_read (m := m) (W := W) ⟨T, μ, env, hs, es, SPost.lift (μ := μ) es q fun v μ1 T1 H1 x s1 hs1 r1 q1 => q1 T1 H1 _ (Step.refl _ _) hs1 ((es.step s1).set r1 i)⟩
end
end Mp

set_option Elab.async false
set_option linter.all false
set_option maxRecDepth 100000
open PySem PySem.Spec PyProof.Rows L2
namespace Mp
/-! ### room for calls, and no repr under way -/
structure RoomG (k : Nat) (A : Around) : Prop where
  room : Room k A
  free : A.guards = some []
theorem RoomG.mono {j k : Nat} {A : Around} (r : RoomG k A) (h : j ≤ k) : RoomG j A := ⟨r.room.mono h, r.free⟩
theorem RoomG.deeper {k : Nat} {A : Around} (r : RoomG (k + 1) A) (e : PySem.Env) : RoomG k (A.deeper e) := ⟨r.room.deeper e, by have := r.free; simpa [Around.deeper, pushGuards] using this⟩
theorem RoomG.in1 {k : Nat} {A : Around} (r : RoomG (k + 1) A) : RoomG k A.in1 := ⟨r.room.in1, by have := r.free; simpa [Around.in1] using this⟩
theorem RoomG.units {k : Nat} {A : Around} (r : RoomG k A) : A.units + 64 < cLine := r.room.units
theorem RoomG.hd {k : Nat} {A : Around} (r : RoomG k A) : A.handled = none := r.room.hd
/-- a def's promise where no repr is under way -/
structure FnOkG (P : Program) (w : World) (K : PySem.W.Frag) (mg : Str → Option Value) (base : Heap) (k : Nat) (f : Addr) (fd : FuncData) (ps : List Str) (sp : Sp) : Prop where
  len : ∀ vs H Q E, sp vs H Q E → vs.length = ps.length
  run : ∀ {A : Around} {outer : List PySem.Env} {s : Shared} {H : Hp} {args : Args} {us : List Value} {vs : List V} {Q : VK} {E : XK}, RoomG k A → Env0 P w K mg base A outer s H → BindsTo s fd args (ps.zip us) → Vals vs us →
    sp vs H Q E → codeAny (model P w) A (.call (.ref f) args) (CR (L2.CX P w) outer P w H s Q E) s
theorem FnOkG.mono {P : Program} {w : World} {K : PySem.W.Frag} {mg : Str → Option Value} {base : Heap} {j k : Nat} {f : Addr} {fd : FuncData} {ps : List Str} {sp : Sp} (F : FnOkG P w K mg base j f fd ps sp) (h : j ≤ k) : FnOkG P w K mg base k f fd ps sp :=
  ⟨F.len, fun hr => F.run (hr.mono h)⟩
section
variable {X : Cx} {k : Nat} {f : Addr} {fd : FuncData} {ps : List Str} {sp : Sp} {E : St → XK}
theorem run_g {P' : List (Addr × Obj)} {σ : St} {H : Hp} {s : Shared} {Q : VK} {us : List Value} {vs : List V} (F : FnOkG X.prog X.w X.K X.mg X.base k f fd ps sp) (hr : RoomG k X.A) (hb : Binds X.K fd ps []) (hx : PassesAt (L2.CX X.prog X.w) X σ (E σ))
    (I : Inv X P' σ H s) (r : Vals vs us) (q : sp vs H Q (E σ)) : wpAny (model X.prog X.w) X.A (call (.ref f) us) (EP X P' σ Q) X.xe s := by
  have n : us.length = ps.length := r.length.symm.trans (F.len _ _ _ _ q)
  have b : BindsTo s fd ⟨us, []⟩ (ps.zip us) := by simpa using hb s us I.kIn (by simpa using n)
  refine wpAny_call (codeAny_mono (F.run (args := ⟨us, []⟩) hr I.env0 b r q) ?_)
  rintro (e | fl) s2 c
  · exact hx P' H s e s2 I c
  · cases fl with
    | ret u => exact I.after c
    | next => exact c.elim
    | brk => exact c.elim
    | cont => exact c.elim
theorem pe_callG {x : Str} {p pos : Pos} {e : Expr} {es : List Expr} {t : TA} (F : FnOkG X.prog X.w X.K X.mg X.base k f fd ps sp) (hr : RoomG k X.A) (hg : Gl X x) (hm : X.mg x = some (.ref f)) (hk : PySem.W.keepIn X.K (.ref f) = true) (hb : Binds X.K fd ps [])
    (hx : ∀ σ, PassesAt (L2.CX X.prog X.w) X σ (E σ)) (ha : PA X (e :: es) t) (hdb : (x == ("__debug__" : Str)) = false) (he : starEach (e :: es) X.env = (false, eval e X.env) :: starEach es X.env) (hpl : (backTo pos (starEach es X.env)).any (·.1) = false) : PE X (.Call (.Name x p) (e :: es) [] pos) (tCallS sp E t) :=
  ⟨fun P' s σ H Q I q => wpAny_Call_Name_kw (ld_glob I hg hm (PySem.W.callWith_K (h₀ := X.base) I.ok.mod.kin hk (thn (ha.run pos P' s σ H _ I q) fun us s1 z => by
    obtain ⟨vs, H1, I1, r, q1⟩ := z
    exact ⟨I1.kIn, run_g F hr hb (hx σ) I1 r q1⟩) he hpl) hdb)⟩
end
theorem fn_mk {P : Program} {w : World} {K : PySem.W.Frag} {mg : Str → Option Value} {base : Heap} {k : Nat} {f : Addr} {x qual : Str} {st : Stmt} {fd : FuncData} {N ps : List Str} {sp : Sp} (F : Fun K x qual st f fd) (S : FnScope N ps (defScope st))
    (len : ∀ vs H Q E, sp vs H Q E → vs.length = ps.length)
    (hbody : ∀ (cdv : Value), fd.code = cdv → ∀ (A : Around) (outer : List PySem.Env) (s : Shared) (H : Hp) (vs : List V) (Q : VK) (E : XK), RoomG k (A.deeper (envOfC qual (defScope st) s.heap.objs.size f cdv)) → sp vs H Q E →
      ∃ t, PSs (cxOf (L2.CX P w) P w K mg base N qual (defScope st) f cdv A outer s H E) (defBody st) t ∧ t { nx := fun _ H' => Q .non H', rt := Q } (L2.start N vs) H) : FnOkG P w K mg base (k + 1) f fd ps sp := by
  obtain ⟨oc, od, kV, doc, pm, an, cdv, ct, osl, efd, lk, hcd⟩ := F.ex
  subst efd
  refine ⟨len, ?_⟩
  intro A outer s H args us vs Q E hr e0 hb r hsp
  have inK : K.In s.heap := e0.mod.kin.keeps fun b o e => (e0.bs b o e).1
  have kinds : ∀ y ∈ ps.zip us, (defScope st).names.lookup y.1 = some .local ∨ ((defScope st).names.lookup y.1 = some .cell ∧ ((cellsFrom (s.heap.objs.size + 1) (defScope st).names []).lookup y.1).isSome = true) := by
    rintro ⟨n, v⟩ hy
    exact (S.par n (List.of_mem_zip hy).1).imp id fun q => ⟨q, PySem.W.cellsFrom_some _ _ _ (.inl q)⟩
  refine codeAny_call_function hr.room.depth (inK _ _ lk) rfl S.co S.gen rfl (PySem.W.codeRec_of inK hcd) (hb _ _ _ _ (wpAny_newFunctionEnv_cells S.kind kinds ?_))
  rintro env rfl s1 x
  have lim : s.heap.NoLimit := e0.mod.nolimit.keeps fun b o e => (e0.bs b o e).1
  obtain ⟨t, ht, hq⟩ := hbody _ rfl A outer s H vs Q E (hr.deeper _) hsp
  refine ⟨lim.keeps x.toInCall.keep, codeAny_func (wpAny_mono (ht.run [] s1 _ H _ (inv_start S hr.room.hd e0 (len _ _ _ _ hsp) r x) hq) ?_ fun e s' hs => hs)⟩
  rintro fl s' hs
  cases fl with
  | ret u =>
    obtain ⟨v, σ', H', J, rv, q⟩ := hs
    exact ⟨v, H', J.os, J.bare, J.base, J.hok, rv, q⟩
  | next =>
    obtain ⟨σ', H', J, q⟩ := hs
    exact ⟨V.non, H', J.os, J.bare, J.base, J.hok, rfl, q⟩
  | brk => obtain ⟨_, _, _, q⟩ := hs; exact q.elim
  | cont => obtain ⟨_, _, _, q⟩ := hs; exact q.elim
end Mp

set_option Elab.async false
set_option linter.all false
set_option maxRecDepth 100000
namespace Mp
open PySem PySem.Spec PyProof.Rows L2
variable [Tb]
/-! ### the end of a def: what it made is frozen, the small heap is as long as ahead -/
/-- lists of the small heap from n on, frozen -/
def Val.frz (h : Hh) (n : Nat) : Nat → Val → Option Val
  | 0, _ => none
  | d + 1, v => if v.bel n = true then some v else match v with
    | .ref k => match h[k]? with
      | some (.lst l) => (l.mapM (Val.frz h n d)).map .lst
      | _ => none
    | .tup l => (l.mapM (Val.frz h n d)).map .tup
    | .lst l => (l.mapM (Val.frz h n d)).map .lst
    | .dref k => match h[k]? with
      | some (.dct ks vs) => (vs.mapM (Val.frz h n d)).map (.dic ks)
      | _ => none
    | .dic ks vs => (vs.mapM (Val.frz h n d)).map (.dic ks)
    | _ => none
def finV (h0 : Hh) (v : Val) (h : Hh) : R Val := match v.frz h h0.length 8 with
  | some u => .ok u (h.take h0.length)
  | none => .bad
def finX (h0 : Hh) (x : Ex) (h : Hh) : R Val := if x.fs.all (fun p => p.2.bel h0.length) = true then .exc x (h.take h0.length) else .bad
def runFn (N : Nat) (b : Sv) (args : List Val) (h : Hh) : R Val := match b (args.map some ++ List.replicate (N - args.length) none) h with
  | .nx _ h1 => finV h .non h1
  | .rt v h1 => finV h v h1
  | .exc x _ h1 => finX h x h1
  | _ => .bad
/-- a def that hands back a list that may change -/
def finM (h0 : Hh) (v : Val) (h : Hh) : R Val := match v with
  | .ref k => if h0.length ≤ k then match h[k]? with
      | some (.lst l) => if belL h0.length l = true then .ok (.ref h0.length) (h.take h0.length ++ [.lst l]) else .bad
      | _ => .bad
    else .bad
  | _ => .bad
def runFnM (N : Nat) (b : Sv) (args : List Val) (h : Hh) : R Val := match b (args.map some ++ List.replicate (N - args.length) none) h with
  | .rt v h1 => finM h v h1
  | .exc x _ h1 => finX h x h1
  | _ => .bad
section
variable {K : PySem.W.Frag} {mg : Str → Option Value} {T T' : Tr} {μ μ' : Hh} {H H' : Hp}
omit [Tb] in
mutual
/-- values that lean on the first n lists alone -/
theorem RepV.keep {n : Nat} (hb : ∀ a, T.ban a → T'.ban a) (hr : ∀ k a, k < n → T'.ρ[k]? = some a → T.ρ[k]? = some a) : ∀ {v : Val} {x : V}, RepV K H T' v x → v.bel n = true → RepV K H T v x
  | _, _, .non, _ => .non
  | _, _, .bl b, _ => .bl b
  | _, _, .int b, _ => .int b
  | _, _, .str b, _ => .str b
  | _, _, .ty b, _ => .ty b
  | _, _, .tup (.inl ⟨m, h⟩) r, e => .tup (.inl ⟨fun q => m (hb _ q), h⟩) (r.keep hb hr (by unfold Val.bel at e; exact e))
  | _, _, .tup (.inr h) r, e => .tup (.inr h) (r.keep hb hr (by unfold Val.bel at e; exact e))
  | _, _, .lst m h r, e => .lst (fun q => m (hb _ q)) h (r.keep hb hr (by unfold Val.bel at e; exact e))
  | _, _, .fz (.inl ⟨m, h⟩) r, e => .fz (.inl ⟨fun q => m (hb _ q), h⟩) (r.keep hb hr (by unfold Val.bel at e; exact e))
  | _, _, .fz (.inr h) r, e => .fz (.inr h) (r.keep hb hr (by unfold Val.bel at e; exact e))
  | _, _, .ref h k, e => .ref (hr _ _ (by unfold Val.bel at e; exact of_decide_eq_true e) h) k
  | _, _, .dref h k, e => .dref (hr _ _ (by unfold Val.bel at e; exact of_decide_eq_true e) h) k
  | _, _, .fn h, _ => .fn h
  | _, _, .dicK m h r, e => .dicK (fun q => m (hb _ q)) h (r.keep hb hr (by unfold Val.bel at e; exact e))
  | _, _, .dicT m h r, e => .dicT (fun q => m (hb _ q)) h (r.keep hb hr (by unfold Val.bel at e; exact e))
theorem RepL.keep {n : Nat} (hb : ∀ a, T.ban a → T'.ban a) (hr : ∀ k a, k < n → T'.ρ[k]? = some a → T.ρ[k]? = some a) : ∀ {vs : List Val} {xs : List V}, RepL K H T' vs xs → belL n vs = true → RepL K H T vs xs
  | _, _, .nil, _ => .nil
  | _, _, .cons h r, e => by
    unfold belL at e
    rw [Bool.and_eq_true] at e
    exact .cons (h.keep hb hr e.1) (r.keep hb hr e.2)
end
/-- the relation ahead of the def's own lists -/
structure Back (T T' : Tr) (n : Nat) : Prop where
  ban : ∀ a, T.ban a → T'.ban a
  low : ∀ k a, k < n → T'.ρ[k]? = some a → T.ρ[k]? = some a
  high : ∀ k a, n ≤ k → T'.ρ[k]? = some a → ¬ T.ban a
theorem Step.back {n : Nat} (s : Step T H T' H') (hn : T.ρ.length = n) (hs : HSim K T μ H) : Back T T' n := by
  obtain ⟨δ, e, f⟩ := s.ext
  refine ⟨fun a q => q.elim (fun z => .inl (by rw [e]; exact List.mem_append_left _ z)) fun z => .inr (s.inβ z), fun k a hk h => ?_, fun k a hk h q => ?_⟩
  · rw [e, List.getElem?_append_left (by omega)] at h; exact h
  · rw [e, List.getElem?_append_right (by omega)] at h
    have hm := List.mem_of_getElem? h
    rcases q with q | q
    · have z := hs.tracked q; rw [f a hm] at z; cases z
    · have z := hs.bt a q; rw [f a hm] at z; cases z
omit [Tb] in
theorem mapM_rep {f : Val → Option Val} (hf : ∀ v u x, f v = some u → RepV K H' T' v x → RepV K H' T u x) : ∀ {l us : List Val} {xs : List V}, l.mapM f = some us → RepL K H' T' l xs → RepL K H' T us xs
  | [], us, _, e, r => by
    cases r
    simp at e
    subst e; exact .nil
  | v :: l, us, _, e, r => by
    cases r with
    | cons h r =>
      rw [List.mapM_cons] at e
      cases hv : f v with
      | none => rw [hv] at e; cases e
      | some u =>
        rw [hv] at e
        cases hl : l.mapM f with
        | none => rw [hl] at e; cases e
        | some ws =>
          rw [hl] at e
          cases e
          exact .cons (hf v u _ hv h) (mapM_rep hf hl r)
omit [Tb] in
theorem frz_int {h : Hh} {n d : Nat} {v u : Val} (e : v.frz h n d = some u) (i : Int) : v = .int i ↔ u = .int i := by
  cases d with
  | zero => unfold Val.frz at e; cases e
  | succ d =>
    unfold Val.frz at e
    split at e
    · cases e; exact Iff.rfl
    · rename_i hb
      constructor
      · intro q; rw [q] at hb; exact absurd rfl hb
      · intro q
        rw [q] at e
        split at e
        · split at e
          · obtain ⟨us, _, e2⟩ := Option.map_eq_some_iff.mp e; cases e2
          · cases e
        · obtain ⟨us, _, e2⟩ := Option.map_eq_some_iff.mp e; cases e2
        · obtain ⟨us, _, e2⟩ := Option.map_eq_some_iff.mp e; cases e2
        · split at e
          · obtain ⟨us, _, e2⟩ := Option.map_eq_some_iff.mp e; cases e2
          · cases e
        · obtain ⟨us, _, e2⟩ := Option.map_eq_some_iff.mp e; cases e2
        · cases e
omit [Tb] in
theorem mapM_len {f : Val → Option Val} : ∀ {l us : List Val}, l.mapM f = some us → us.length = l.length ∧ ∀ (i : Nat) v u, l[i]? = some v → us[i]? = some u → f v = some u
  | [], us, e => by simp at e; subst e; exact ⟨rfl, fun i v u a => by simp at a⟩
  | v :: l, us, e => by
    rw [List.mapM_cons] at e
    cases hv : f v with
    | none => rw [hv] at e; cases e
    | some u =>
      rw [hv] at e
      cases hl : l.mapM f with
      | none => rw [hl] at e; cases e
      | some ws =>
        rw [hl] at e
        cases e
        obtain ⟨a, b⟩ := mapM_len hl
        refine ⟨by simp [a], fun i x y h1 h2 => ?_⟩
        cases i with
        | zero => simp at h1 h2; rw [← h1, ← h2]; exact hv
        | succ i => exact b i x y (by simpa using h1) (by simpa using h2)
omit [Tb] in
theorem frz_noKey {h : Hh} {n d : Nat} {l us : List Val} (e : l.mapM (Val.frz h n d) = some us) : noKey l = noKey us := by
  obtain ⟨a, b⟩ := mapM_len e
  have key : ∀ {x y : List Val}, x.length = y.length → (∀ v u, x[0]? = some v → y[0]? = some u → ∀ i, v = .int i → u = .int i) → noKey x = false → noKey y = false := by
    intro x y hl hv hx
    unfold noKey at hx
    split at hx
    · rename_i i v r
      match y, hl with
      | u :: w :: s, _ =>
        rw [hv _ u rfl rfl i rfl]; rfl
    · cases hx
  cases h1 : noKey l with
  | false => exact (key a.symm (fun v u hv hu i q => (frz_int (b 0 v u hv hu) i).mp q) h1).symm
  | true =>
    cases h2 : noKey us with
    | true => rfl
    | false =>
      have z := key a (fun v u hv hu i q => (frz_int (b 0 u v hu hv) i).mpr q) h2
      rw [h1] at z; cases z
theorem HSim.getD {n : Nat} {ks : List DK} {vs : List Val} {a : Addr} (h : HSim K T μ H) (e : μ[n]? = some (.dct ks vs)) (ha : T.ρ[n]? = some a) : DRep K H T ks vs a := by
  obtain ⟨a', e', r⟩ := h.obj n _ e
  rw [ha] at e'; cases e'
  exact r
theorem frz_rep {n : Nat} (B : Back T T' n) (hs' : HSim K T' μ' H') : ∀ (d : Nat) (v u : Val) (x : V), v.frz μ' n d = some u → RepV K H' T' v x → RepV K H' T u x
  | 0, _, _, _, e, _ => by unfold Val.frz at e; cases e
  | d + 1, v, u, x, e, r => by
    unfold Val.frz at e
    split at e
    · rename_i hb
      cases e
      exact r.keep B.ban B.low hb
    · rename_i hnb
      cases r with
      | @ref k a h kd =>
        dsimp only at e
        split at e
        · rename_i l el
          obtain ⟨us, e1, e2⟩ := Option.map_eq_some_iff.mp e
          subst e2
          obtain ⟨a', xs, ea, _, q, rl⟩ := hs'.get el (.ref h kd)
          cases ea
          have hk : n ≤ k := by
            by_cases z : k < n
            · exact absurd (by unfold Val.bel; exact decide_eq_true z) hnb
            · omega
          exact .lst (B.high k a hk h) q (mapM_rep (fun v u x => frz_rep B hs' d v u x) e1 rl)
        · cases e
      | @tup a xs vs h rl =>
        dsimp only at e
        obtain ⟨us, e1, e2⟩ := Option.map_eq_some_iff.mp e
        subst e2
        refine .tup ?_ (mapM_rep (fun v u x => frz_rep B hs' d v u x) e1 rl)
        rcases h with ⟨m, h⟩ | h
        · exact .inl ⟨fun q => m (B.ban _ q), h⟩
        · exact .inr ⟨h.1, by rw [← frz_noKey e1]; exact h.2⟩
      | @dref k a h kd =>
        dsimp only at e
        split at e
        · rename_i ks vs el
          obtain ⟨us, e1, e2⟩ := Option.map_eq_some_iff.mp e
          subst e2
          have hk : n ≤ k := by
            by_cases z : k < n
            · exact absurd (by unfold Val.bel; exact decide_eq_true z) hnb
            · omega
          rcases hs'.getD el h with ⟨l, q, rfl, rl⟩ | ⟨l, q, rfl, rl⟩
          · exact .dicK (B.high k a hk h) q (mapM_rep (fun v u x => frz_rep B hs' d v u x) e1 rl)
          · exact .dicT (B.high k a hk h) q (mapM_rep (fun v u x => frz_rep B hs' d v u x) e1 rl)
        · cases e
      | @dicK a l vs m h rl =>
        dsimp only at e
        obtain ⟨us, e1, e2⟩ := Option.map_eq_some_iff.mp e
        subst e2
        exact .dicK (fun q => m (B.ban _ q)) h (mapM_rep (fun v u x => frz_rep B hs' d v u x) e1 rl)
      | @dicT a l vs m h rl =>
        dsimp only at e
        obtain ⟨us, e1, e2⟩ := Option.map_eq_some_iff.mp e
        subst e2
        exact .dicT (fun q => m (B.ban _ q)) h (mapM_rep (fun v u x => frz_rep B hs' d v u x) e1 rl)
      | @lst a xs vs m h rl =>
        dsimp only at e
        obtain ⟨us, e1, e2⟩ := Option.map_eq_some_iff.mp e
        subst e2
        exact .lst (fun q => m (B.ban _ q)) h (mapM_rep (fun v u x => frz_rep B hs' d v u x) e1 rl)
      | _ => cases e
omit [Tb] in
theorem ORep.back {n : Nat} (B : Back T T' n) {o : Ob} {a : Addr} (h : ORep K H' T' o a) (hb : o.bel n = true) : ORep K H' T o a := by
  exact h.map hb rfl fun vs xs hv r => r.keep B.ban B.low hv
omit [Tb] in
mutual
theorem bel_mono {n m : Nat} (h : n ≤ m) : ∀ v : Val, v.bel n = true → v.bel m = true
  | .non, _ => rfl
  | .bl _, _ => rfl
  | .int _, _ => rfl
  | .str _, _ => rfl
  | .ty _, _ => rfl
  | .fn _, _ => rfl
  | .dic _ l, e => by unfold Val.bel at e ⊢; exact belL_mono h l e
  | .dref k, e => by unfold Val.bel at e ⊢; exact decide_eq_true (Nat.lt_of_lt_of_le (of_decide_eq_true e) h)
  | .tup l, e => by unfold Val.bel at e ⊢; exact belL_mono h l e
  | .lst l, e => by unfold Val.bel at e ⊢; exact belL_mono h l e
  | .fz l, e => by unfold Val.bel at e ⊢; exact belL_mono h l e
  | .ref k, e => by unfold Val.bel at e ⊢; exact decide_eq_true (Nat.lt_of_lt_of_le (of_decide_eq_true e) h)
theorem belL_mono {n m : Nat} (h : n ≤ m) : ∀ l : List Val, belL n l = true → belL m l = true
  | [], _ => rfl
  | v :: l, e => by
    unfold belL at e ⊢
    rw [Bool.and_eq_true] at e ⊢
    exact ⟨bel_mono h v e.1, belL_mono h l e.2⟩
end
omit [Tb] in
theorem obel_mono {n m : Nat} (h : n ≤ m) {o : Ob} (e : o.bel n = true) : o.bel m = true := by
  cases o with
  | lst l => exact belL_get.mpr fun v hv => bel_mono h v (belL_get.mp e v hv)
  | dct ks l => exact belL_get.mpr fun v hv => bel_mono h v (belL_get.mp e v hv)
/-- back ahead of the def -/
theorem HSim.back (hs : HSim K T μ H) (s : Step T H T' H') (hs' : HSim K T' μ' H') : HSim K T (μ'.take μ.length) H' ∧ Step T H T H' := by
  have B := s.back hs.len hs
  obtain ⟨δ, e, f⟩ := s.ext
  have hl : μ.length ≤ μ'.length := by rw [← hs'.len, e, List.length_append, hs.len]; omega
  refine ⟨⟨?_, hs.nd, fun n ob eo => ?_, fun n ob eo => ?_, fun b hb => s.liv b (hs.bt b hb), hs'.tb⟩, ⟨⟨[], by simp, by simp⟩, ⟨[], rfl, by simp⟩, s.frm, s.liv, s.kd⟩⟩
  · rw [List.length_take, hs.len]; omega
  · have hn : n < μ.length := by
      have := (List.getElem?_eq_some_iff.mp eo).1
      rw [List.length_take] at this; omega
    rw [List.getElem?_take_of_lt hn] at eo
    obtain ⟨a, ea, r⟩ := hs'.obj n ob eo
    exact ⟨a, B.low n a hn ea, r.back B (obel_mono (Nat.le_of_lt hn) (hs'.old n ob eo))⟩
  · have hn : n < μ.length := by
      have := (List.getElem?_eq_some_iff.mp eo).1
      rw [List.length_take] at this; omega
    rw [List.getElem?_take_of_lt hn] at eo
    exact hs'.old n ob eo
/-- .. with one list that the def made kept -/
theorem HSim.backM {k : Nat} {a : Addr} {us : List Val} {xs : List V} (hs : HSim K T μ H) (s : Step T H T' H') (hs' : HSim K T' μ' H') (hk : μ.length ≤ k) (ha : T'.ρ[k]? = some a) (eH : H' a = some (.lst xs)) (r : RepL K H' T' us xs) (hb : belL μ.length us = true) :
    HSim K ⟨T.ρ ++ [a], T.β⟩ (μ'.take μ.length ++ [.lst us]) H' ∧ Step T H ⟨T.ρ ++ [a], T.β⟩ H' := by
  obtain ⟨h1, s1⟩ := hs.back s hs'
  have B := s.back hs.len hs
  obtain ⟨δ, e, f⟩ := s.ext
  have hl : μ.length ≤ μ'.length := by rw [← hs'.len, e, List.length_append, hs.len]; omega
  have hlen : (μ'.take μ.length).length = μ.length := by rw [List.length_take]; omega
  have fr : lv (H a) = false := by
    rw [e, List.getElem?_append_right (by rw [hs.len]; exact hk)] at ha
    exact f a (List.mem_of_getElem? ha)
  have nb : ¬ T.ban a := fun q => q.elim (fun z => by have y := hs.tracked z; rw [fr] at y; cases y) fun z => by have y := hs.bt a z; rw [fr] at y; cases y
  have b2 : ∀ c, (Tr.mk (T.ρ ++ [a]) T.β).ban c → T'.ban c := fun c q => q.elim (fun z => (List.mem_append.mp z).elim (fun z => B.ban c (.inl z)) fun z => .inl (by rw [show c = a by simpa using z]; exact List.mem_of_getElem? ha)) fun z => B.ban c (.inr z)
  have l2 : ∀ (j : Nat) (c : Addr), j < μ.length → T'.ρ[j]? = some c → (T.ρ ++ [a])[j]? = some c := fun j c hj h => app_get j c (B.low j c hj h)
  have ab : ∀ (n : Nat) (ob : Ob), (μ'.take μ.length ++ [Ob.lst us])[n]? = some ob → (n < μ.length ∧ μ'[n]? = some ob) ∨ (n = μ.length ∧ ob = .lst us) := fun n ob eo => by
    by_cases hn : n < μ.length
    · rw [List.getElem?_append_left (by rw [hlen]; exact hn), List.getElem?_take_of_lt hn] at eo
      exact .inl ⟨hn, eo⟩
    · have hm : n = μ.length := by
        have := (List.getElem?_eq_some_iff.mp eo).1
        rw [List.length_append, hlen] at this
        simp at this; omega
      rw [hm, List.getElem?_append_right (by rw [hlen]; exact Nat.le_refl _), hlen, Nat.sub_self] at eo
      exact .inr ⟨hm, (Option.some.inj eo).symm⟩
  refine ⟨⟨by rw [List.length_append, List.length_append, hlen, hs.len]; rfl, ?_, fun n ob eo => ?_, fun n ob eo => ?_, h1.bt, h1.tb⟩, ⟨⟨[a], rfl, fun b hb => by rw [show b = a by simpa using hb]; exact fr⟩, ⟨[], rfl, by simp⟩, s1.frm, s1.liv, s1.kd⟩⟩
  · refine List.nodup_append.mpr ⟨hs.nd, by simp, fun b hb c hc => ?_⟩
    rw [show c = a by simpa using hc]
    exact fun q => nb (.inl (q ▸ hb))
  · rcases ab n ob eo with ⟨hn, e1⟩ | ⟨rfl, rfl⟩
    · obtain ⟨b, eb, r'⟩ := hs'.obj n ob e1
      refine ⟨b, l2 n b hn eb, ?_⟩
      have hbl := obel_mono (Nat.le_of_lt hn) (hs'.old n ob e1)
      exact r'.map hbl rfl fun vs xs hv r => r.keep b2 l2 hv
    · exact ⟨a, by rw [← hs.len]; simp, xs, eH, r.keep b2 l2 hb⟩
  · rcases ab n ob eo with ⟨hn, e1⟩ | ⟨rfl, rfl⟩
    · exact hs'.old n ob e1
    · exact hb
end
/-! ### what a def promises -/
/-- called with as many values: what its plain function says -/
def spG (K : PySem.W.Frag) (mg : Str → Option Value) (n : Nat) (g : List Val → Hh → R Val) : Sp := fun vs H Q E => ∃ T μ args, HSim K T μ H ∧ RepL K H T args vs ∧ args.length = n ∧ Post K (RV K) T H (g args μ) Q (fun e T' H' => ∀ cls d, XRep K mg H' T' e cls d → E cls d H')
structure FnG (P : Program) (w : World) (K : PySem.W.Frag) (mg : Str → Option Value) (base : Heap) (k : Nat) (x : Str) (ps : List Str) (n : Nat) (g : List Val → Hh → R Val) : Prop where
  ex : ∃ f fd, mg x = some (.ref f) ∧ PySem.W.keepIn K (.ref f) = true ∧ Binds K fd ps [] ∧ FnOkG P w K mg base k f fd ps (spG K mg n g) ∧ ∃ oc od osl, K.lookup f = some ⟨oc, od, .func fd, osl⟩
theorem FnG.mono {P : Program} {w : World} {K : PySem.W.Frag} {mg : Str → Option Value} {base : Heap} {j k : Nat} {x : Str} {ps : List Str} {n : Nat} {g : List Val → Hh → R Val} (F : FnG P w K mg base j x ps n g) (h : j ≤ k) : FnG P w K mg base k x ps n g :=
  let ⟨f, fd, a, b, c, d, e⟩ := F.ex; ⟨f, fd, a, b, c, d.mono h, e⟩
/-- the facts of a def of the text behind the top -/
structure DefG (K : PySem.W.Frag) (mg : Str → Option Value) (x : Str) (st : Stmt) (ps : List Str) : Prop where
  ex : ∃ f fd, mg x = some (.ref f) ∧ Fun K x x st f fd ∧ Binds K fd ps []
def eFn (g : List Val → Hh → R Val) (a : Av) : Ev := fun env h => (a env h).bnd fun xs h1 => g xs h1
omit [Tb] in
theorem start_sim {K : PySem.W.Frag} {T : Tr} {H : Hp} {N : List Str} {args : List Val} {vs : List V} (r : RepL K H T args vs) (hl : args.length ≤ N.length) : ESim K H T (args.map some ++ List.replicate (N.length - args.length) none) (L2.start N vs) := by
  refine ⟨by simp [L2.start, r.length], fun i v e => ?_⟩
  by_cases hi : i < args.length
  · rw [List.getElem?_append_left (by simpa using hi), List.getElem?_map] at e
    cases hq : args[i]? with
    | none => rw [hq] at e; cases e
    | some u =>
      rw [hq] at e
      cases e
      obtain ⟨x, ex, rx⟩ := r.get hq
      exact ⟨x, by unfold L2.start; rw [List.getElem?_append_left (by simp [r.length]; exact hi), List.getElem?_map, ex]; rfl, rx⟩
  · rw [List.getElem?_append_right (by simpa using hi), List.getElem?_replicate] at e
    split at e <;> cases e
section
variable {P : Program} {w : World} {K : PySem.W.Frag} {mg : Str → Option Value} {base : Heap}
theorem fn_post {T : Tr} {μ : Hh} {H : Hp} {sv : Sv} {N : Nat} {args : List Val} {Q : VK} {E : XK} (hs : HSim K T μ H) (q : Post K (RV K) T H (runFn N sv args μ) Q (fun e T' H' => ∀ cls d, XRep K mg H' T' e cls d → E cls d H')) :
    SPost K mg (fun cls d _ H => E cls d H) T H { nx := fun _ H' => Q .non H', rt := Q } (sv (args.map some ++ List.replicate (N - args.length) none) μ) := by
  unfold runFn at q
  have val : ∀ v h1, Post K (RV K) T H (finV μ v h1) Q (fun e T' H' => ∀ cls d, XRep K mg H' T' e cls d → E cls d H') → ∀ T' H' x, Step T H T' H' → HSim K T' h1 H' → RepV K H' T' v x → Q x H' := fun v h1 q T' H' x st hs' r => by
    unfold finV at q
    split at q
    · rename_i u eu
      obtain ⟨a, b⟩ := hs.back st hs'
      exact q T H' x b a (frz_rep (st.back hs.len hs) hs' 8 v u x eu r)
    · exact q.elim
  cases hr : sv (args.map some ++ List.replicate (N - args.length) none) μ with
  | nx e h1 =>
    rw [hr] at q
    exact fun T' H' σ' st hs' _ => val .non h1 q T' H' .non st hs' .non
  | rt v h1 =>
    rw [hr] at q
    exact fun T' H' x st hs' r => val v h1 q T' H' x st hs' r
  | exc x e h1 =>
    rw [hr] at q
    dsimp only at q
    intro T' H' σ' cls d st hs' _ xr
    unfold finX at q
    split at q
    · rename_i hf
      obtain ⟨a, b⟩ := hs.back st hs'
      have B := st.back hs.len hs
      refine q T H' b a cls d ⟨xr.1, fun f v hm => ?_⟩
      obtain ⟨dx, fs, y, e1, n1, e2, e3, r⟩ := xr.2 f v hm
      exact ⟨dx, fs, y, e1, fun z => n1 (B.ban _ z), e2, e3, r.keep B.ban B.low (List.all_eq_true.mp hf _ hm)⟩
    · exact q.elim
  | bk e h1 => rw [hr] at q; exact q.elim
  | ct e h1 => rw [hr] at q; exact q.elim
  | bad => rw [hr] at q; exact q.elim
theorem fn_postM {T : Tr} {μ : Hh} {H : Hp} {sv : Sv} {N : Nat} {args : List Val} {Q : VK} {E : XK} (hs : HSim K T μ H) (q : Post K (RV K) T H (runFnM N sv args μ) Q (fun e T' H' => ∀ cls d, XRep K mg H' T' e cls d → E cls d H')) :
    SPost K mg (fun cls d _ H => E cls d H) T H { nx := fun _ H' => Q .non H', rt := Q } (sv (args.map some ++ List.replicate (N - args.length) none) μ) := by
  unfold runFnM at q
  cases hr : sv (args.map some ++ List.replicate (N - args.length) none) μ with
  | rt v h1 =>
    rw [hr] at q
    dsimp only at q
    intro T' H' x st hs' r
    unfold finM at q
    split at q
    · rename_i k
      split at q
      · rename_i hk
        split at q
        · rename_i l el
          split at q
          · rename_i hb
            obtain ⟨a, xs, rfl, ha, eH, rl⟩ := hs'.get el r
            obtain ⟨m1, m2⟩ := hs.backM st hs' hk ha eH rl hb
            exact q _ H' _ m2 m1 (.ref (by rw [← hs.len]; simp) (by rw [eH]; rfl))
          · exact q.elim
        · exact q.elim
      · exact q.elim
    · exact q.elim
  | exc x e h1 =>
    rw [hr] at q
    dsimp only at q
    intro T' H' σ' cls d st hs' _ xr
    unfold finX at q
    split at q
    · rename_i hf
      obtain ⟨a, b⟩ := hs.back st hs'
      have B := st.back hs.len hs
      refine q T H' b a cls d ⟨xr.1, fun f v hm => ?_⟩
      obtain ⟨dx, fs, y, e1, n1, e2, e3, r⟩ := xr.2 f v hm
      exact ⟨dx, fs, y, e1, fun z => n1 (B.ban _ z), e2, e3, r.keep B.ban B.low (List.all_eq_true.mp hf _ hm)⟩
    · exact q.elim
  | nx e h1 => rw [hr] at q; exact q.elim
  | bk e h1 => rw [hr] at q; exact q.elim
  | ct e h1 => rw [hr] at q; exact q.elim
  | bad => rw [hr] at q; exact q.elim
/-- THE RULE for a def -/
theorem fn_g {x : Str} {st : Stmt} {N ps : List Str} {k n : Nat} {sv : Sv} (D : DefG K mg x st ps) (S : FnScope N ps (defScope st)) (hn : ps.length = n)
    (hbody : ∀ (f : Addr) (cdv : Value) (A : Around) (outer : List PySem.Env) (s : Shared) (H : Hp) (E : XK), RoomG k (A.deeper (envOfC x (defScope st) s.heap.objs.size f cdv)) →
      Takes (cxOf (L2.CX P w) P w K mg base N x (defScope st) f cdv A outer s H E) (fun cls d _ H => E cls d H) → PassesOwn (model P w) (A.deeper (envOfC x (defScope st) s.heap.objs.size f cdv)) (envOfC x (defScope st) s.heap.objs.size f cdv) (cxOf (L2.CX P w) P w K mg base N x (defScope st) f cdv A outer s H E).xe →
      PSs (cxOf (L2.CX P w) P w K mg base N x (defScope st) f cdv A outer s H E) (defBody st) (GS K mg (fun cls d _ H => E cls d H) sv)) : FnG P w K mg base (k + 1) x ps n (runFn N.length sv) := by
  obtain ⟨f, fd, hm, F, hb⟩ := D.ex
  have hpl : ps.length ≤ N.length := by have := congrArg List.length S.pre; rw [List.length_take] at this; omega
  obtain ⟨oc, od, kV, doc, pm, an, cdv2, ct, osl, efd, lk, hcd⟩ := F.ex
  refine ⟨f, fd, hm, F.kp, hb, fn_mk F S (fun vs H Q E ⟨T, μ, args, _, r, hl, _⟩ => by rw [r.length, hl, hn]) fun cdv _ A outer s H vs Q E hr ⟨T, μ, args, hs, r, hl, q⟩ => ⟨_, hbody f cdv A outer s H E hr (takes_of rfl rfl rfl rfl) (passes_of rfl), T, μ, _, hs, start_sim r (by rw [hl, ← hn]; exact hpl), fn_post hs q⟩, oc, od, osl, lk⟩
theorem fn_gM {x : Str} {st : Stmt} {N ps : List Str} {k n : Nat} {sv : Sv} (D : DefG K mg x st ps) (S : FnScope N ps (defScope st)) (hn : ps.length = n)
    (hbody : ∀ (f : Addr) (cdv : Value) (A : Around) (outer : List PySem.Env) (s : Shared) (H : Hp) (E : XK), RoomG k (A.deeper (envOfC x (defScope st) s.heap.objs.size f cdv)) →
      Takes (cxOf (L2.CX P w) P w K mg base N x (defScope st) f cdv A outer s H E) (fun cls d _ H => E cls d H) → PassesOwn (model P w) (A.deeper (envOfC x (defScope st) s.heap.objs.size f cdv)) (envOfC x (defScope st) s.heap.objs.size f cdv) (cxOf (L2.CX P w) P w K mg base N x (defScope st) f cdv A outer s H E).xe →
      PSs (cxOf (L2.CX P w) P w K mg base N x (defScope st) f cdv A outer s H E) (defBody st) (GS K mg (fun cls d _ H => E cls d H) sv)) : FnG P w K mg base (k + 1) x ps n (runFnM N.length sv) := by
  obtain ⟨f, fd, hm, F, hb⟩ := D.ex
  have hpl : ps.length ≤ N.length := by have := congrArg List.length S.pre; rw [List.length_take] at this; omega
  obtain ⟨oc, od, kV, doc, pm, an, cdv2, ct, osl, efd, lk, hcd⟩ := F.ex
  refine ⟨f, fd, hm, F.kp, hb, fn_mk F S (fun vs H Q E ⟨T, μ, args, _, r, hl, _⟩ => by rw [r.length, hl, hn]) fun cdv _ A outer s H vs Q E hr ⟨T, μ, args, hs, r, hl, q⟩ => ⟨_, hbody f cdv A outer s H E hr (takes_of rfl rfl rfl rfl) (passes_of rfl), T, μ, _, hs, start_sim r (by rw [hl, ← hn]; exact hpl), fn_postM hs q⟩, oc, od, osl, lk⟩
end
/-! ### calls, raise, try -/
section
variable {X : Cx} {W : WX} {a : Expr} {es : List Expr} {pos : Pos} {av : Av}
theorem ge_fn {x : Str} {p : Pos} {ps : List Str} {n k : Nat} {g : List Val → Hh → R Val} (F : FnG X.prog X.w X.K X.mg X.base k x ps n g) (hr : RoomG k X.A) (tk : Takes X W) (hg : Gl X x) (ha : PA X (a :: es) (GA X.K X.mg W av)) (hn : ALen av n)
    (hdb : (x == ("__debug__" : Str)) = false := by decide) (he : starEach (a :: es) X.env = (false, eval a X.env) :: starEach es X.env := by rfl) (hpl : (backTo pos (starEach es X.env)).any (·.1) = false := by rfl) : PE X (.Call (.Name x p) (a :: es) [] pos) (GE X.K X.mg W (eFn g av)) := by
  obtain ⟨f, fd, hm, hk, hb, F, _⟩ := F.ex
  refine PE.imp (pe_callG F hr hg hm hk hb (fun σ => passAt tk σ) ha hdb he hpl) fun σ H Q ⟨T, μ, env, hs, es, q⟩ => ⟨T, μ, env, hs, es, ?_⟩
  unfold eFn at q
  cases hq : av env μ with
  | ok vs μ1 =>
    rw [hq] at q
    exact fun T1 H1 xs s1 hs1 r1 => ⟨T1, μ1, vs, hs1, r1, hn _ _ _ _ hq, Post.step q s1⟩
  | exc x m => rw [hq] at q; exact q
  | bad => rw [hq] at q; exact q
/-- a class of errors of the program -/
structure XC (K : PySem.W.Frag) (mg : Str → Option Value) (n : Nat) : Prop where
  ex : ∃ C, mg (xNm n) = some (.ref C) ∧ PySem.W.excIn K C [.type "ValueError", .type "Exception", .type "BaseException", .type "object"] "ValueError.__new__" = true ∧ PySem.W.keepIn K (.ref C) = true ∧
    PySem.W.subIn K (.ref C) (.type "BaseException") = some true ∧ PySem.W.typeIn K (.ref C) = some (.type "type")
omit [Tb] in
theorem XC.cls {K : PySem.W.Frag} {mg : Str → Option Value} {n : Nat} (h : XC K mg n) : ∃ C, mg (xNm n) = some (.ref C) := let ⟨C, e, _⟩ := h.ex; ⟨C, e⟩
omit [Tb] in
theorem mk_own0 {C : Addr} {bmB : List Value} {B newId initId : String} {x : Str} {p : Pos} (F : ExcBaseFacts B newId initId bmB) (q : PySem.W.excIn X.K C bmB newId = true) (gC : X.mg x = some (.ref C)) (kC : PySem.W.keepIn X.K (.ref C) = true) (r : Raises X (.ref C)) (hg : Gl X x)
    (hdb : (x == ("__debug__" : Str)) = false := by decide) : PMk X (.Call (.Name x p) [] [] pos) (fun _ H Q => Q (.ref C) none H) := by
  intro pins s σ H Q I h
  refine wpAny_Call_Name_kw (ld_glob I hg gC (PySem.W.callWith_K0 I.kIn kC ?_) hdb)
  obtain ⟨bm, N, nm, qn, bs, hdct, sn, sub, ab, col, dd, k0, k1, k2, k3, k5, mN, hC, hN, hni, T⟩ := exc_obj I.kIn q
  exact wpAny_call_exc_subT F T hC hN hni (fun h' e hm => mk_of I hm r h (I.hok.gone hm.new)) (Nat.zero_le _)
theorem gs_raise (n : Nat) {x : Str} {p p2 : Pos} (c : XC X.K X.mg n) (hx : xNm n = x) (hc : X.calm = true) (tk : Takes X W) (hg : Gl X x) (hdb : (x == ("__debug__" : Str)) = false := by decide) : PS X (.Raise (some (.Call (.Name x p) [] [] p2)) none pos) (GS X.K X.mg W (sRaise n)) := by
  obtain ⟨C, gC, xC, kC, sC, tC⟩ := c.ex
  subst hx
  exact PS.imp (ps_raise hc tk (mk_own0 PySem.F.excBase_ValueError xC gC kC (raises_own sC tC) hg hdb)) fun D σ H ⟨T, μ, env, hs, es, q⟩ => q T H σ (.ref C) none (Step.refl _ _) hs es ⟨⟨C, rfl, gC⟩, fun f v hm => nomatch hm⟩
/-- which of the named classes are subclasses of which -/
def XT (K : PySem.W.Frag) (mg : Str → Option Value) (L : List Nat) : Prop := ∀ a ∈ L, ∀ c ∈ L, ∀ A C, mg (xNm a) = some (.ref A) → mg (xNm c) = some (.ref C) → PySem.W.exmOne K (.ref A) (.ref C) = some (xSub a c)
def catchL (L : List Nat) : List (Nat × Sv) → Ex → Env → Hh → SR
  | [], x, e, h => .exc x e h
  | (c, s) :: r, x, e, h => if x.cls ∈ L ∧ c ∈ L then (if xSub x.cls c = true then s e h else catchL L r x e h) else .bad
def sTry (L : List Nat) (b : Sv) (hs : List (Nat × Sv)) : Sv := fun env h => match b env h with
  | .exc x e h1 => catchL L hs x e h1
  | .nx e h1 => .nx e h1
  | .rt v h1 => .rt v h1
  | .bk e h1 => .bk e h1
  | .ct e h1 => .ct e h1
  | .bad => .bad
/-- a suite that raises nothing -/
def SNX (s : Sv) : Prop := ∀ e m y e2 m2, s e m ≠ .exc y e2 m2
def ENX (s : Ev) : Prop := ∀ e m y m2, s e m ≠ .exc y m2
omit [Tb] in
theorem snx_ret {e : Ev} (h : ENX e) : SNX (sRet e) := fun e1 m y e2 m2 q => by
  unfold sRet at q
  cases hr : e e1 m with
  | ok a b => rw [hr] at q; cases q
  | exc x b => exact h _ _ _ _ hr
  | bad => rw [hr] at q; cases q
omit [Tb] in
theorem enx_c {v : Val} : ENX (eC v) := fun _ _ _ _ q => nomatch q
/-- the clauses -/
inductive HdG (X : Cx) (L : List Nat) : List ExceptHandler → List (Nat × Sv) → Prop
  | nil : HdG X L [] []
  | cons {x : Str} {c : Nat} {sv : Sv} {b₀ : Stmt} {suite : List Stmt} {np pos' : Pos} {hds : List ExceptHandler} {l : List (Nat × Sv)} (hx : xNm c = x) (hm : ∃ C, X.mg x = some (.ref C)) (hg : Gl X x) (hd : (x == ("__debug__" : Str)) = false)
      (hsu : ∀ (a : Addr) (oe : Obj) (pn : List (Addr × Obj)), PSs (X.suite a ((a, oe) :: pn)) (b₀ :: suite) (GS X.K X.mg W0 sv)) (r : HdG X L hds l) :
      HdG X L (.ExceptHandler (some (.Name x np)) none (b₀ :: suite) pos' :: hds) ((c, sv) :: l)
theorem SPost.imp {K : PySem.W.Frag} {mg : Str → Option Value} {W W' : WX} {T : Tr} {H : Hp} {D : Ends} {r : SR} (h : SPost K mg W T H D r) (hn : ∀ x e m, r ≠ .exc x e m) : SPost K mg W' T H D r := by
  cases r with
  | exc x e m => exact absurd rfl (hn x e m)
  | _ => exact h
/-- .. as TryMany has them, with what they wish of an exception -/
theorem HdG.many {L : List Nat} (xt : XT X.K X.mg L) {D : Ends} : ∀ {hds : List ExceptHandler} {l : List (Nat × Sv)}, HdG X L hds l →
    ∃ l2 : List (Value × (Addr → Value → Option Addr → TS)), HdsOk X hds l2 ∧ ∀ (D : Ends) (x : Ex) (e : Env) (m : Hh) (T : Tr) (H : Hp) (σ : St) (cls : Value) (d : Option Addr), (∀ (p : Nat × Sv), p ∈ l → ∀ e m y e2 m2, p.2 e m ≠ .exc y e2 m2) → SPost X.K X.mg W T H D (catchL L l x e m) → HSim X.K T m H → ESim X.K H T e σ → XRep X.K X.mg H T x cls d →
      wMany X.K W D l2 cls d σ H
  | _, _, .nil => ⟨[], .nil, fun D x e m T H σ cls d _ q hs es xr => q T H σ cls d (Step.refl _ _) hs es xr⟩
  | _, _, .cons (c := c) (sv := sv) hx hm hg hd hsu r => by
    obtain ⟨C, hm⟩ := hm
    obtain ⟨l2, h2, q2⟩ := HdG.many xt (D := D) r
    refine ⟨(.ref C, fun _ _ _ => GS X.K X.mg W0 sv) :: l2, .cons ⟨hg, hd, .inl hm⟩ (fun a oe cls d pn _ _ => hsu a oe pn) h2, fun D x e m T H σ cls d hnx q hs es xr => ?_⟩
    unfold catchL at q
    split at q
    · rename_i hL
      obtain ⟨A, eA, mA⟩ := xr.1
      subst hx
      refine ⟨xSub x.cls c, by rw [eA]; exact xt _ hL.1 _ hL.2 A C mA hm, fun hb a _ => ?_, fun hb => ?_⟩
      · rw [if_pos hb] at q
        exact ⟨T, m, e, hs, es, SPost.imp q fun y e2 m2 => hnx (c, sv) List.mem_cons_self _ _ _ _ _⟩
      · rw [if_neg (by rw [hb]; decide)] at q
        exact q2 D x e m T H σ cls d (fun p hp => hnx p (List.mem_cons_of_mem _ hp)) q hs es xr
    · exact q.elim
end
end Mp

set_option Elab.async false
set_option linter.all false
set_option maxRecDepth 100000
namespace Mp
open PySem PySem.Spec PyProof.Rows L2
/-! ### the built-ins' names -/
theorem bb_len : bootBuiltins "len" = some (.builtin "len") := by decide +kernel
theorem bb_isinstance : bootBuiltins "isinstance" = some (.builtin "isinstance") := by decide +kernel
theorem bb_all : bootBuiltins "all" = some (.builtin "all") := by decide +kernel
theorem bb_sum : bootBuiltins "sum" = some (.builtin "sum") := by decide +kernel
theorem bb_abs : bootBuiltins "abs" = some (.builtin "abs") := by decide +kernel
theorem bb_int : bootBuiltins "int" = some (.type "int") := by decide +kernel
theorem bb_bool : bootBuiltins "bool" = some (.type "bool") := by decide +kernel
theorem bb_tuple : bootBuiltins "tuple" = some (.type "tuple") := by decide +kernel
theorem bb_list : bootBuiltins "list" = some (.type "list") := by decide +kernel
end Mp

set_option Elab.async false
set_option linter.all false
set_option maxRecDepth 100000
namespace Mp
open PySem PySem.Spec PyProof.Rows L2 LamX
/-! ### the end: the law called at the top, no repr under way, tables of code objects known -/
section
variable {P : Program} {w : World} {K : PySem.W.Frag} {mg mb : Str → Option Value} {sh : Shared} {scr : Addr} {zs : List Value} {ns : List Int} {ts : List Addr}
/-- what is tracked at first: the tables, and the script where it is no part of what was written -/
def bootH (K : PySem.W.Frag) (ts : List Addr) (scr : Addr) (zs : List Value) (ns : List Int) : Hp := fun b =>
  if b ∈ ts then some (.tbl #[]) else if b = scr ∧ (K.lookup scr).isNone = true then some (.frz { cls := .type "list", data := .seq zs.toArray } (.lst (ns.map V.int))) else none
/-- what is known of the heap ahead of the law -/
structure Ahead (K : PySem.W.Frag) (mg mb : Str → Option Value) (sh : Shared) (ts : List Addr) (scr : Addr) (zs : List Value) (ns : List Int) : Prop where
  kin : K.In sh.heap
  gns : sh.heap.Ns mainGlobals mg
  bns : sh.heap.Ns builtinsNs mb
  bok : ∀ x : Str, x ≠ "__name__" → mb x = bootBuiltins x
  lim : sh.heap.NoLimit
  tab : ∀ t ∈ ts, sh.heap.get? t = some { cls := .none, data := .fields #[] } ∧ K.lookup t = none
  lst : sh.heap.get? scr = some { cls := .type "list", data := .seq zs.toArray }
  its : IntsAre zs ns
  fits : ns.length ≤ sizeLine
theorem Ahead.scr_no (D : Ahead K mg mb sh ts scr zs ns) : scr ∉ ts := fun z => by
  have h := (D.tab _ z).1
  rw [D.lst] at h
  injection h with h
  have h2 := congrArg Obj.data h
  cases h2
theorem bootH_cases (K : PySem.W.Frag) (ts : List Addr) (scr : Addr) (zs : List Value) (ns : List Int) (b : Addr) : bootH K ts scr zs ns b = none ∨ (b ∈ ts ∧ bootH K ts scr zs ns b = some (.tbl #[])) ∨
    (b = scr ∧ K.lookup scr = none ∧ bootH K ts scr zs ns b = some (.frz { cls := .type "list", data := .seq zs.toArray } (.lst (ns.map V.int)))) := by
  by_cases h1 : b ∈ ts
  · exact .inr (.inl ⟨h1, if_pos h1⟩)
  · by_cases h2 : b = scr ∧ (K.lookup scr).isNone = true
    · exact .inr (.inr ⟨h2.1, Option.isNone_iff_eq_none.mp h2.2, (if_neg h1).trans (if_pos h2)⟩)
    · exact .inl ((if_neg h1).trans (if_neg h2))
theorem Ahead.ok (D : Ahead K mg mb sh ts scr zs ns) : HOk P w (bootH K ts scr zs ns) sh.heap := fun b u e => by
  rcases bootH_cases K ts scr zs ns b with z | ⟨hb, z⟩ | ⟨rfl, _, z⟩
  · rw [z] at e; cases e
  · rw [z] at e; cases e; exact (D.tab b hb).1
  · rw [z] at e; cases e
    exact ⟨D.lst, by rw [List.length_map]; exact D.fits, zs, _, vals_ints D.its, D.lst⟩
/-- an object that is neither a list nor a bare record is not tracked -/
theorem Ahead.free (D : Ahead K mg mb sh ts scr zs ns) {b : Addr} {u : Obj} (e : sh.heap.get? b = some u) (n1 : ∀ q n, u.data ≠ .seq q n) (n2 : u.data ≠ .fields #[]) : bootH K ts scr zs ns b = none := by
  rcases bootH_cases K ts scr zs ns b with z | ⟨hb, z⟩ | ⟨rfl, _, z⟩
  · exact z
  · rw [(D.tab b hb).1] at e; cases e; exact absurd rfl n2
  · rw [D.lst] at e; cases e; exact absurd rfl (n1 _ _)
abbrev Ahead.base (_ : Ahead K mg mb sh ts scr zs ns) : Heap := hidT sh.heap (bootH K ts scr zs ns)
theorem Ahead.nsb (D : Ahead K mg mb sh ts scr zs ns) {b : Addr} {f : Str → Option Value} (h : sh.heap.Ns b f) : D.base.Ns b f := by
  obtain ⟨u, es, ep, e, hd, r⟩ := h
  exact ⟨u, es, ep, hidT_get e (D.free e (fun q n z => by rw [hd] at z; cases z) fun z => by rw [hd] at z; cases z), hd, r⟩
theorem Ahead.kinb (D : Ahead K mg mb sh ts scr zs ns) : K.In D.base := fun b u e => by
  refine hidT_get (D.kin b u e) ?_
  rcases bootH_cases K ts scr zs ns b with z | ⟨hb, _⟩ | ⟨rfl, h, _⟩
  · exact z
  · rw [(D.tab b hb).2] at e; cases e
  · rw [h] at e; cases e
theorem Ahead.mod (D : Ahead K mg mb sh ts scr zs ns) : L2.Mod K mg D.base := by
  obtain ⟨mc, l1, l2⟩ := D.lim
  exact ⟨D.kinb, D.nsb D.gns, ⟨mb, D.nsb D.bns, D.bok⟩, mc, D.nsb l1, l2⟩
theorem Ahead.tabB (D : Ahead K mg mb sh ts scr zs ns) (hbm : ∃ (bm : Addr) (ob : Obj), mg "__builtins__" = some (.ref bm) ∧ bm ≠ builtinsNs ∧ sh.heap.get? bm = some ob ∧ ob.cls = .type "module" ∧ ob.dict = some builtinsNs ∧ ob.data = .plain)
    {c t : Addr} (ht : t ∈ ts) (C : PySem.W.CodeHd sh.heap c t) : TabB D.base mg c t := by
  have hT := (D.tab t ht).1
  obtain ⟨gu, gs, gp, ge, gd, _⟩ := D.gns
  refine ⟨?_, ?_, fun z => ?_⟩
  · obtain ⟨u, us, file, tf, flags, tg, inF, text, tt, e1, r1, r2, rest⟩ := C
    refine ⟨u, us, file, tf, flags, tg, inF, text, tt, hidT_get e1 (D.free e1 (fun q n z => by rw [r2] at z; cases z) fun z => ?_), r1, r2, rest⟩
    rw [r2] at z
    cases z
    have := rest.1
    simp at this
  · obtain ⟨bm, ob, b1, b2, b3, b4, b5, b6⟩ := hbm
    refine ⟨bm, ob, b1, b2, fun q => ?_, fun q => ?_, hidT_get b3 (D.free b3 (fun q n z => by rw [b6] at z; cases z) fun z => by rw [b6] at z; cases z), b4, b5, b6⟩
    · rw [q, ge] at b3; cases b3; rw [gd] at b6; cases b6
    · rw [q, hT] at b3; cases b3; cases b6
  · rw [z, hT] at ge; cases ge; cases gd
theorem Ahead.sq (D : Ahead K mg mb sh ts scr zs ns) : SqL K (bootH K ts scr zs ns) scr (ns.map V.int) := by
  cases hk : K.lookup scr with
  | none =>
    refine .inl (.inr ⟨{ cls := .type "list", data := .seq zs.toArray }, (if_neg D.scr_no).trans (if_pos ⟨rfl, by rw [hk]; rfl⟩)⟩)
  | some u =>
    have e := D.kin _ _ hk
    rw [D.lst] at e
    cases e
    have hl := D.its.length
    exact .inr ⟨_, zs.toArray, _, hk, rfl, rfl, rfl, by rw [List.size_toArray, hl]; exact D.fits, by simpa using vals_ints D.its⟩
/-- THE CALL of the law -/
theorem law_callG {k : Nat} {fa : Addr} {fd : FuncData} {x : Str} {sp : Sp} {cs : List (Addr × Addr)} (D : Ahead K mg mb sh (cs.map (·.2)) scr zs ns) (hg : sh.gens = #[]) (C : ∀ p ∈ cs, PySem.W.CodeHd sh.heap p.1 p.2)
    (hbm : ∃ (bm : Addr) (ob : Obj), mg "__builtins__" = some (.ref bm) ∧ bm ≠ builtinsNs ∧ sh.heap.get? bm = some ob ∧ ob.cls = .type "module" ∧ ob.dict = some builtinsNs ∧ ob.data = .plain) (hr : RoomG k callerA)
    (F : ∀ base : Heap, K.In base → base.Ns mainGlobals mg → (∀ p ∈ cs, TabB base mg p.1 p.2) → FnOkG P w K mg base k fa fd [x] sp) (hbind : ∀ (s : Shared) (u : Value), BindsTo s fd ⟨[u], []⟩ [(x, u)])
    (hsp : sp [.ref scr] (bootH K (cs.map (·.2)) scr zs ns) (fun v _ => v = .bl true) fun _ _ _ => False) :
    codeAny (model P w) callerA (.call (.ref fa) ⟨[.ref scr], []⟩) (fun r s' => r = .ok (.ret (.bool true)) ∧ OldK sh.heap s'.heap ∧ s'.os = sh.os ∧ AllBare s'.gens) sh := by
  have TB : ∀ p ∈ cs, TabB D.base mg p.1 p.2 := fun p hp => D.tabB hbm (List.mem_map.mpr ⟨p, hp, rfl⟩) (C p hp)
  have ok : HOk P w (bootH K (cs.map (·.2)) scr zs ns) sh.heap := D.ok
  have e0 : Env0 P w K mg D.base callerA [] sh (bootH K (cs.map (·.2)) scr zs ns) := ⟨rfl, D.mod, fun b u e => of_hidT e, Nat.le_of_eq (hidT_size _ _), trivial, fun b hb => (nomatch hb), ok, .of_eq hg⟩
  refine codeAny_mono ((F _ D.kinb (D.nsb D.gns) TB).run (us := [.ref scr]) (vs := [.ref scr]) hr e0 (hbind sh (.ref scr)) (.cons (show L2.RelV (.ref scr) (Value.ref scr) from rfl) .nil) hsp) ?_
  rintro (ex | fl) s2 h
  · obtain ⟨_, _, _, _, _, _, _, _, _, _, _, _, z⟩ := h
    exact z.elim
  · cases fl with
    | next => exact h.elim
    | brk => exact h.elim
    | cont => exact h.elim
    | ret u =>
      obtain ⟨v, H2, os, bare, un, ok2, rv, qv⟩ := h
      subst qv
      cases (show u = Value.bool true from rv)
      have same : ∀ b o, b ∉ cs.map (·.2) → sh.heap.get? b = some o → s2.heap.get? b = some o := fun b o nb e => by
        rcases bootH_cases K (cs.map (·.2)) scr zs ns b with z | ⟨hb, _⟩ | ⟨_, _, z⟩
        · exact un.keep b o e z (fun q => nomatch q) (fun q => nomatch q)
        · exact absurd hb nb
        · have q1 := (ok b _ z).1
          have q2 := (ok2 b _ (un.frzs b _ _ z)).1
          rw [e] at q1; cases q1
          exact q2
      have grow : ∀ p ∈ cs, ∃ more : Array Value, s2.heap.get? p.2 = some { cls := .none, data := .fields more } := fun p hp => by
        have z : bootH K (cs.map (·.2)) scr zs ns p.2 = some (.tbl #[]) := if_pos (List.mem_map.mpr ⟨p, hp, rfl⟩)
        obtain ⟨more, y⟩ := un.tbls p.2 #[] z
        exact ⟨_, ok2 p.2 _ y⟩
      refine ⟨rfl, ⟨fun b o e => ?_, fun b o e => ?_⟩, os, bare⟩
      · by_cases hb : b ∈ cs.map (·.2)
        · have eT := (D.tab b hb).1
          obtain ⟨p, hp, rfl⟩ := List.mem_map.mp hb
          obtain ⟨more, hm⟩ := grow p hp
          rw [eT] at e
          cases e
          exact .inr (.inl ⟨((C p hp).tab eT).isCodeTable, rfl, #[], more, rfl, by rw [Array.empty_append]; exact hm⟩)
        · exact .inl (same b o hb e)
      · by_cases hb : b ∈ cs.map (·.2)
        · obtain ⟨p, hp, rfl⟩ := List.mem_map.mp hb
          obtain ⟨more, hm⟩ := grow p hp
          exact ⟨_, hm⟩
        · exact ⟨o, same b o hb e⟩
end
end Mp

set_option Elab.async false
set_option linter.all false
set_option maxRecDepth 100000
namespace Mp
open PySem PySem.Spec PyProof.Rows L2
open LamX (TabB)
/-! ### from what the top has written to the law -/
theorem defG_mk {K : PySem.W.Frag} {h : Heap} {mg : Str → Option Value} {x : Str} {st : Stmt} {ps : List Str} {f : Addr} {oc : Value} {od an : Option Addr} {osl : Array (Option Value)} {kV doc pm cdv ct : Value} (X : K.In h) (G : h.Ns mainGlobals mg)
    (hb : ∀ (kV doc pm : Value) (an : Option Addr) (cdv ct : Value) (us : List Value), us.length = ps.length → bindArgs (PySem.W.fnOf x x (defArgs st) (defBody st) (defScope st) .none kV doc pm an cdv ct) ⟨us, []⟩ = pure (ps.zip us))
    (a : PySem.W.nsIn K mainGlobals x = some (some (.ref f))) (l : K.lookup f = some ⟨oc, od, .func (PySem.W.fnOf x x (defArgs st) (defBody st) (defScope st) .none kV doc pm an cdv ct), osl⟩) (c : PySem.W.codeIn K cdv x = true) (k : PySem.W.keepIn K (.ref f) = true) : DefG K mg x st ps :=
  let F := fun_mk (st := st) l c k
  ⟨f, _, PySem.W.mg_of X G a, F, F.binds hb⟩
theorem xc_mk {K : PySem.W.Frag} {h : Heap} {mg : Str → Option Value} {n : Nat} {C : Addr} (X : K.In h) (G : h.Ns mainGlobals mg) (a : PySem.W.nsIn K mainGlobals (xNm n) = some (some (.ref C))) (e : PySem.W.excIn K C [.type "ValueError", .type "Exception", .type "BaseException", .type "object"] "ValueError.__new__" = true)
    (k : PySem.W.keepIn K (.ref C) = true) (s : PySem.W.subIn K (.ref C) (.type "BaseException") = some true) (t : PySem.W.typeIn K (.ref C) = some (.type "type")) : XC K mg n := ⟨C, PySem.W.mg_of X G a, e, k, s, t⟩
theorem exm_mk {K : PySem.W.Frag} {A C : Addr} {b : Bool} (h1 : PySem.W.subIn K (.ref C) (.type "BaseException") = some true) (h2 : PySem.W.isClsIn K C = true) (h3 : PySem.W.typeIn K (.ref C) = some (.type "type")) (h4 : PySem.W.subIn K (.ref A) (.ref C) = some b) : PySem.W.exmOne K (.ref A) (.ref C) = some b := by
  have e1 : (PySem.W.subIn K (.ref C) (.type "BaseException") == some true) = true := beq_iff_eq.mpr h1
  have e2 : ((PySem.W.clsIn K C).isSome && PySem.W.typeIn K (.ref C) == some (.type "type")) = true := by
    rw [show (PySem.W.clsIn K C).isSome = true from h2, h3]; rfl
  unfold PySem.W.exmOne
  rw [if_pos e1]
  show (if ((PySem.W.clsIn K C).isSome && PySem.W.typeIn K (.ref C) == some (.type "type")) = true then PySem.W.subIn K (.ref A) (.ref C) else none) = some b
  rw [if_pos e2]
  exact h4
theorem xt_mk {K : PySem.W.Frag} {mg : Str → Option Value} {L : List Nat} (E : List (Nat × Addr)) (hl : E.map (·.1) = L) (h1 : ∀ p ∈ E, mg (xNm p.1) = some (.ref p.2)) (h2 : ∀ p ∈ E, ∀ q ∈ E, PySem.W.exmOne K (.ref p.2) (.ref q.2) = some (xSub p.1 q.1)) : XT K mg L := by
  subst hl
  intro a ha c hc A C hA hC
  obtain ⟨p, hp, rfl⟩ := List.mem_map.mp ha
  obtain ⟨q, hq, rfl⟩ := List.mem_map.mp hc
  have e1 := hA.symm.trans (h1 p hp)
  have e2 := hC.symm.trans (h1 q hq)
  cases e1
  cases e2
  exact h2 p hp q hq
theorem bind_of {K : PySem.W.Frag} {mg : Str → Option Value} {x : Str} {st : Stmt} {ps : List Str} {f : Addr} (D : DefG K mg x st ps) (hf : mg x = some (.ref f)) (hb : ∀ (kV doc pm : Value) (an : Option Addr) (cdv ct : Value) (us : List Value), us.length = ps.length → bindArgs (PySem.W.fnOf x x (defArgs st) (defBody st) (defScope st) .none kV doc pm an cdv ct) ⟨us, []⟩ = pure (ps.zip us)) :
    ∃ fd, (∃ oc od osl, K.lookup f = some ⟨oc, od, .func fd, osl⟩) ∧ ∀ (s : Shared) (us : List Value), us.length = ps.length → BindsTo s fd ⟨us, []⟩ (ps.zip us) := by
  obtain ⟨f', fd, hm, F, _⟩ := D.ex
  cases hm.symm.trans hf
  obtain ⟨oc, od, kV, doc, pm, an, cdv, ct, osl, rfl, lk, hcd⟩ := F.ex
  exact ⟨_, ⟨oc, od, osl, lk⟩, fun s us hl => .of_eq (hb kV doc pm an cdv ct us hl)⟩
theorem ints_rep {K : PySem.W.Frag} {H : Hp} {T : Tr} : ∀ ns : List Int, RepL K H T (ns.map Val.int) (ns.map V.int)
  | [] => .nil
  | n :: ns => .cons (.int n) (ints_rep ns)
/-- .. whatever the module holds -/
def spA [Tb] (K : PySem.W.Frag) (g : List Val → Hh → R Val) : Sp := fun vs H Q E => ∀ mg, spG K mg 1 g vs H Q E
theorem law_end [Tb] {K : PySem.W.Frag} {mg : Str → Option Value} {P : Program} {w : World} {x a : Str} {fa : Addr} {k : Nat} {base : Heap} {g : List Val → Hh → R Val} {fd : FuncData} (hf : mg x = some (.ref fa)) (hfd : ∃ oc od osl, K.lookup fa = some ⟨oc, od, .func fd, osl⟩)
    (F : FnG P w K mg base k x [a] 1 g) : FnOkG P w K mg base k fa fd [a] (spA K g) := by
  obtain ⟨oc, od, osl, lk⟩ := hfd
  obtain ⟨f', fd', hm, _, _, F', oc', od', osl', lk'⟩ := F.ex
  cases hm.symm.trans hf
  rw [lk] at lk'
  cases lk'
  exact ⟨fun vs H Q E h => F'.1 vs H Q E (h mg), fun a1 a2 a3 a4 h => F'.2 a1 a2 a3 a4 (h mg)⟩
/-- at the script -/
theorem law_sp [Tb] {K : PySem.W.Frag} {mg mb : Str → Option Value} {sh : Shared} {scr : Addr} {zs : List Value} {ns : List Int} {g : List Val → Hh → R Val} (D : Ahead K mg mb sh (Tb.cs.map (·.2.1)) scr zs ns) (h : g [.fz (ns.map .int)] [] = .ok (.bl true) []) :
    spA K g [.ref scr] (bootH K (Tb.cs.map (·.2.1)) scr zs ns) (fun v _ => v = .bl true) fun _ _ _ => False := by
  intro mg'
  have r : RepV K (bootH K (Tb.cs.map (·.2.1)) scr zs ns) ⟨[], []⟩ (.fz (ns.map .int)) (.ref scr) := by
    refine .fz ?_ (ints_rep ns)
    rcases D.sq with q | q
    · refine .inl ⟨fun z => (by rcases z with z | z <;> cases z), ?_⟩
      rcases bootH_cases K (Tb.cs.map (·.2.1)) scr zs ns scr with z | ⟨z, _⟩ | ⟨_, _, z⟩
      · rcases q with q | ⟨_, q⟩
        · rw [z] at q; cases q
        · rw [z] at q; cases q
      · exact absurd z D.scr_no
      · exact ⟨_, z⟩
    · exact .inr q
  have tabs : Tabs (bootH K (Tb.cs.map (·.2.1)) scr zs ns) := fun p hp => by
    obtain ⟨c, hc, rfl⟩ := List.mem_map.mp hp
    exact LamX.TabS.nil (if_pos (List.mem_map.mpr ⟨c, hc, rfl⟩))
  refine ⟨⟨[], []⟩, [], [.fz (ns.map .int)], ⟨rfl, List.nodup_nil, fun n ob e => (by cases e), fun n ob e => (by cases e), fun b hb => (by cases hb), tabs⟩, .cons r .nil, rfl, ?_⟩
  rw [h]
  intro T' H' x _ _ r
  cases r
  rfl
/-- what is known of the law's def at the head's heap -/
structure LawAt (l : PySem.W.OpenLaw) (w : World) (K : PySem.W.Frag) (k n : Nat) (x : Str) (mg : Str → Option Value) (fa : Addr) (h : Heap) : Prop where
  ex : ∃ (fd : FuncData) (cs : List (Addr × Addr × Str)) (g : List Val → Hh → R Val), (∀ c ∈ cs, h.get? c.2.1 = some { cls := .none, data := .fields #[] } ∧ K.lookup c.2.1 = none ∧ PySem.W.CodeHd h c.1 c.2.1) ∧ (∀ (s : Shared) (u : Value), BindsTo s fd ⟨[u], []⟩ [(x, u)]) ∧
    (∀ ns : List Int, ns.length ≤ n → (∀ z ∈ ns, Builtin.Int.intBits z ≤ 1048576) → g [.fz (ns.map .int)] [] = .ok (.bl true) []) ∧
    ∀ base : Heap, K.In base → base.Ns mainGlobals mg → (∀ c ∈ cs, TabB base mg c.1 c.2.1) → FnOkG l.prog w K mg base k fa fd [x] (@spA ⟨cs⟩ K g)
/-- THE WALK -/
theorem walk_ofG {l : PySem.W.OpenLaw} {n k : Nat} {q : Program} {loose : List Str} {XP : (Str → Option Value) → Heap → Prop} {YP : World → Heap → Prop} {d : DefRec} {K : Params → PySem.W.Frag} {x : Str}
    (hn : l.most = some n) (hn2 : n ≤ sizeLine) (hdf : d.params.defaults = []) (hr : RoomG k callerA) (hY : ∀ (w : World) (h : Heap), YP w h → (K w.params).In h)
    (F : ∀ (w : World) (lo : List Str) (mean : ExcName → Option Value) (mg mb : Str → Option Value) (fa : Addr) (h : Heap), (K w.params).In h → h.Ns mainGlobals mg → Top q lo mean mg mb h → mg d.name = some (.ref fa) → LawAt l w (K w.params) k n x mg fa h) :
    PySem.W.WalkO q loose XP YP l.row.toRowW d [] (fun f vs => PySem.call f vs) := by
  refine Att.attach_callB hn hdf fun w s₀ s₁ mg mb fa o pm cd doc a vs ns G Y ho hd hcd hmg hobj hints hlen hbits hg => ?_
  have KX := hY w _ Y
  obtain ⟨fd, cs, g, hC, hb, hsp, hF⟩ := (F w _ _ mg mb fa _ KX G.T.g G.T hmg).ex
  letI : Tb := ⟨cs⟩
  have em : (cs.map fun c => (c.1, c.2.1)).map (·.2) = Tb.cs.map (·.2.1) := by rw [List.map_map]; rfl
  have D : Ahead (K w.params) mg mb s₁ ((cs.map fun c => (c.1, c.2.1)).map (·.2)) a vs ns := ⟨KX, G.T.g, G.T.b, G.T.builtins, G.T.nolimit, fun t ht => by
    rw [em] at ht
    obtain ⟨c, hc, rfl⟩ := List.mem_map.mp ht
    exact ⟨(hC c hc).1, (hC c hc).2.1⟩, hobj, hints, Nat.le_trans hlen hn2⟩
  refine law_callG D hg (fun p hp => ?_) G.T.bmain hr (fun base h1 h2 h3 => hF base h1 h2 fun c hc => h3 (c.1, c.2.1) (List.mem_map.mpr ⟨c, hc, rfl⟩)) hb ?_
  · obtain ⟨c, hc, rfl⟩ := List.mem_map.mp hp
    exact (hC c hc).2.2
  · rw [em] at D ⊢
    exact law_sp D (hsp ns hlen hbits)
end Mp

set_option Elab.async false
set_option linter.all false
set_option maxRecDepth 100000
namespace Mp
open PySem PySem.Spec PyProof.Rows L2
variable [Tb]
omit [Tb] in
theorem room65 {k : Nat} {A : Around} (r : RoomG k A) : A.units + 65 < cLine := by have := r.room.un; omega
/-! ### errors of the program that keep one field: class X(..): def __init__(self, f): self.f = f -/
def sRaiseA (n : Nat) (f : Str) (e : Ev) : Sv := fun env h => lift (e env h) env fun v h1 => .exc ⟨n, [(f, v)]⟩ env h1
def clsDef : Stmt → Stmt
  | .ClassDef _ _ _ (s :: _) _ _ _ _ _ _ _ => s
  | s => s
structure XA (K : PySem.W.Frag) (mg : Str → Option Value) (n : Nat) (f qual : Str) (st : Stmt) : Prop where
  ex : ∃ C fI fd, mg (xNm n) = some (.ref C) ∧ OexC K C ∧ PySem.W.findIn K (.ref C) "__init__" = some (some (.ref fI)) ∧ PySem.W.typeIn K (.ref fI) = some (.type "function") ∧ PySem.W.findIn K (.ref C) f = some none ∧ Fun K "__init__" qual st fI fd ∧ Binds K fd ["self", f] []
def spInit (K : PySem.W.Frag) (f : Str) : Sp := fun vs H Q E => ∃ (a C : Addr) (x : V), vs = [.ref a, x] ∧ OexC K C ∧ PySem.W.findIn K (.ref C) f = some none ∧ H a = some (exo a C none) ∧ ∀ dx, H dx = none → dx ≠ a → Q .non (upd (upd H dx (exd dx [(f, x)])) a (exo a C (some dx)))
omit [Tb] in
theorem init_ok {P : Program} {w : World} {K : PySem.W.Frag} {mg : Str → Option Value} {base : Heap} {k : Nat} {f qual : Str} {st : Stmt} {fI : Addr} {fd : FuncData} (F : Fun K "__init__" qual st fI fd) (S : FnScope ["self", f] ["self", f] (defScope st))
    (hb : ∀ (A : Around) (outer : List PySem.Env) (s : Shared) (H : Hp) (E : XK) (cdv : Value), PSs (cxOf (L2.CX P w) P w K mg base ["self", f] qual (defScope st) fI cdv A outer s H E) (defBody st) (tOst K f (tVar 0) (tVar 1))) : FnOk P w K mg base (L2.CX P w) (k + 1) fI fd ["self", f] (spInit K f) := by
  refine F.okX S (fun vs H Q E ⟨a, C, x, e, _⟩ => by rw [e]; rfl) fun cdv A outer s H vs Q E hr ⟨a, C, x, e, hC, hf, ha, q⟩ => ⟨_, hb A outer s H E cdv, ?_⟩
  subst e
  exact ⟨x, rfl, .ref a, rfl, a, C, rfl, hC, hf, .inl ⟨ha, fun dx h1 h2 => q dx h1 h2⟩⟩
section
variable {X : Cx} {W : WX} {a : Expr} {ea : Ev}
theorem gs_raiseA (n : Nat) {x f qual : Str} {st : Stmt} {k : Nat} {p p2 pos : Pos} (c : XA X.K X.mg n f qual st) (S : FnScope ["self", f] ["self", f] (defScope st))
    (hb : ∀ (fI : Addr) (A : Around) (outer : List PySem.Env) (s : Shared) (H : Hp) (E : XK) (cdv : Value), PSs (cxOf (L2.CX X.prog X.w) X.prog X.w X.K X.mg X.base ["self", f] qual (defScope st) fI cdv A outer s H E) (defBody st) (tOst X.K f (tVar 0) (tVar 1)))
    (hx : xNm n = x) (hc : X.calm = true) (tk : Takes X W) (hr : RoomG (k + 1 + 1) X.A) (hg : Gl X x) (ha : PE X a (GE X.K X.mg W ea)) (hdb : (x == ("__debug__" : Str)) = false := by decide) (he : starEach [a] X.env = (false, eval a X.env) :: starEach [] X.env := by rfl) :
    PS X (.Raise (some (.Call (.Name x p) [a] [] p2)) none pos) (GS X.K X.mg W (sRaiseA n f ea)) := by
  obtain ⟨C, fI, fd, hm, hC, iC, tI, nf, F, hbd⟩ := c.ex
  subst hx
  have mkp := pmk_oex (p := p) (pos := p2) hC iC tI (init_ok (k := k) F S fun A outer s H E cdv => hb fI A outer s H E cdv) hr.room hbd .nil (fun pins σ H s e s' I cx => by
    obtain ⟨_, _, _, _, _, _, _, _, _, _, _, _, z⟩ := cx
    exact z.elim) hg hm (ga_cons ha ga_nil he) hdb he (by rfl)
  refine PS.imp (ps_raise hc tk mkp) fun D σ H ⟨T, μ, env, hs, es, q⟩ => ⟨T, μ, env, hs, es, ?_⟩
  unfold sRaiseA at q
  unfold aCons
  cases hr : ea env μ with
  | ok v μ1 =>
    rw [hr] at q
    intro T1 H1 xs s1 hs1 r1
    obtain ⟨y, rfl, ry⟩ := RepL.one r1
    refine ⟨by simp, fun b hb => ⟨b, C, y, rfl, hC, nf, upd_same, fun dx h1 hne => ?_⟩⟩
    rw [upd_ne hne] at h1
    refine ⟨rfl, dx, [(f, y)], upd_same, by rw [upd_ne hne, upd_same], h1, ?_⟩
    have e : upd (del (upd (upd (upd H1 b (exo b C none)) dx (exd dx [(f, y)])) b (exo b C (some dx))) b) dx (.xd [(f, y)]) = upd H1 dx (.xd [(f, y)]) := by
      funext z
      by_cases z1 : z = dx
      · subst z1; rw [upd_same, upd_same]
      · rw [upd_ne z1, upd_ne z1]
        by_cases z2 : z = b
        · subst z2; rw [del_same, hb]
        · rw [del_ne z2, upd_ne z2, upd_ne z1, upd_ne z2]
    dsimp only
    rw [e]
    refine q T1 _ σ (.ref C) (some dx) (s1.trans (Step.new h1)) (hs1.new h1) ((es.step s1).step (Step.new h1)) ⟨⟨C, rfl, hm⟩, fun g u hgu => ?_⟩
    have eg := List.mem_singleton.mp hgu
    cases eg
    exact ⟨dx, [(f, y)], y, rfl, hs1.notban h1, upd_same, by simp, ry.step (Step.new h1)⟩
  | exc x m =>
    rw [hr] at q
    exact fun T' H' s1 hs1 cls d xr => q T' H' σ cls d s1 hs1 (es.step s1) xr
  | bad => rw [hr] at q; exact q
end
omit [Tb] in
theorem xa_mk {K : PySem.W.Frag} {h : Heap} {mg : Str → Option Value} {n : Nat} {f qual : Str} {st : Stmt} {C CL fI : Addr} (X : K.In h) (G : h.Ns mainGlobals mg)
    {nm q : Str} {N : Addr} {bs : List Value} {sn : List Str} {sub : List Value} {ab : Bool} {col : Option Bool} {dd : Option Addr} {m0 m1 m2 m3 m5 : Option Value} {oc : Value} {od an : Option Addr} {osl : Array (Option Value)} {kV doc pm cdv ct : Value}
    (hb : ∀ (kV doc pm : Value) (an : Option Addr) (cdv ct : Value) (us : List Value), us.length = (["self", f] : List Str).length → bindArgs (PySem.W.fnOf "__init__" qual (defArgs st) (defBody st) (defScope st) .none kV doc pm an cdv ct) ⟨us, []⟩ = pure ((["self", f] : List Str).zip us))
    (a : PySem.W.nsIn K mainGlobals (xNm n) = some (some (.ref C))) (xL : K.lookup C = some (excClassObj nm q C N bs [.ref CL, .type "ValueError", .type "Exception", .type "BaseException", .type "object"] true sn sub ab col dd m0 m1 m2 m3 m5 "ValueError.__new__"))
    (sa : PySem.W.findIn K (.ref C) "__setattr__" = some (some (.builtin "object.__setattr__"))) (eC : PySem.W.subIn K (.ref C) (.type "BaseException") = some true) (tC : PySem.W.typeIn K (.ref C) = some (.type "type")) (kC : PySem.W.keepIn K (.ref C) = true)
    (iC : PySem.W.findIn K (.ref C) "__init__" = some (some (.ref fI))) (tI : PySem.W.typeIn K (.ref fI) = some (.type "function")) (nf : PySem.W.findIn K (.ref C) f = some none)
    (l : K.lookup fI = some ⟨oc, od, .func (PySem.W.fnOf "__init__" qual (defArgs st) (defBody st) (defScope st) .none kV doc pm an cdv ct), osl⟩) (c : PySem.W.codeIn K cdv qual = true) (k : PySem.W.keepIn K (.ref fI) = true) : XA K mg n f qual st :=
  let F := fun_mk (x := "__init__") (qual := qual) (st := st) l c k
  ⟨C, fI, _, PySem.W.mg_of X G a, ⟨⟨nm, q, N, bs, _, sn, sub, ab, col, dd, m0, m1, m2, m3, m5, xL, rfl⟩, sa, eC, tC, kC⟩, iC, tI, nf, F, F.binds hb⟩
end Mp

set_option Elab.async false
set_option linter.all false
set_option maxRecDepth 100000
namespace Mp
open PySem PySem.Spec PyProof.Rows L2
variable [Tb]
/-! ### try with several clauses, some of which name the error: own rule, clause by clause -/
/-- an exception a of the class cls that has come to a try statement of the frame at hand -/
structure Come (Y : Cx) (Wo : WX) (pz : List (Addr × Obj)) (τ : St) (G : Hp) (cls : Value) (xd : Option Addr) (a : Addr) (Bd : Heap) (w1 w2 : Shared) : Prop where
  ok : Y.Ok
  tk : Takes Y Wo
  stk : Y.stack = Y.env :: Y.outer
  frm : Y.env.frame = some Y.env.locals
  inv : Inv Y pz τ G w1
  kept : ∀ (c : Addr) (o : Obj), w1.heap.get? c = some o → c ∉ frs Y.stack → Bd.get? c = some o
  fly : HandSPX.FlyingZ Bd (Y.env :: Y.outer) a (Zc cls xd) w2.heap
  slots : w1.heap.UpToSlots w2.heap
  os : w2.os = w1.os
  gens : AllBare w2.gens
  new : G a = none
section
variable {Y : Cx} {Wo : WX} {pz : List (Addr × Obj)} {τ : St} {G : Hp} {cls : Value} {xd : Option Addr} {a : Addr} {Bd : Heap} {w1 w2 : Shared} {Z : Ends}
omit [Tb] in
/-- the heap grows in slots alone: it is still so -/
theorem Come.up {h2 : Heap} (C : Come Y Wo pz τ G cls xd a Bd w1 w2) (fl : HandSPX.FlyingZ Bd (Y.env :: Y.outer) a (Zc cls xd) h2) (u : w2.heap.UpToSlots h2) : Come Y Wo pz τ G cls xd a Bd w1 { w2 with heap := h2 } :=
  ⟨C.ok, C.tk, C.stk, C.frm, C.inv, C.kept, fl, C.slots.trans u, C.os, C.gens, C.new⟩
omit [Tb] in
theorem Come.here (C : Come Y Wo pz τ G cls xd a Bd w1 w2) : Inv Y pz τ G w2 := C.inv.landed C.kept C.fly.1 C.slots C.os C.gens
omit [Tb] in
/-- the error's object; the suite's state -/
theorem Come.suite (C : Come Y Wo pz τ G cls xd a Bd w1 w2) : ∃ ob vs, w2.heap.get? a = some ob ∧ Zc cls xd ob ∧ ob.data = .fields vs ∧ Inv (Y.suite a ((a, ob) :: (Y.pn ++ pz))) [] τ G w2 := by
  obtain ⟨ob, vs, e, z, dt⟩ := C.fly.there
  have away : a ∉ frs (Y.env :: Y.outer) := fun hm => by
    obtain ⟨_, o2, e2, nf⟩ := C.fly.2.2.1.mem hm
    rw [e] at e2
    cases e2
    exact nf _ dt
  have l1 : a ≠ Y.env.locals := fun q => away (List.mem_filterMap.mpr ⟨Y.env, List.mem_cons_self, by rw [C.frm, q]⟩)
  have l2 : a ∉ Y.fs := fun hm => by
    obtain ⟨en, hen, q⟩ := List.mem_filterMap.mp hm
    exact away (List.mem_filterMap.mpr ⟨en, List.mem_cons_of_mem _ hen, q⟩)
  exact ⟨ob, vs, e, z, dt, C.here.suite e dt C.new l1 l2⟩
omit [Tb] in
/-- no clause is left: it flies on -/
theorem Come.fliesOn (C : Come Y Wo pz τ G cls xd a Bd w1 w2) (wish : Wo cls xd τ G) : wpAny (model Y.prog Y.w) Y.A (handleBy (.ref a) Y.env []) (SP Y pz Z) Y.xe w2 := by
  refine wpAny_handleBy_nil ?_
  have go : wpAny (model Y.prog Y.w) Y.A (setFlight (.ref a) Y.env.frame) (fun _ v => wpAny (model Y.prog Y.w) Y.A (throw (.ref a) : Sem Flow) (SP Y pz Z) Y.xe v) Y.xe w2 := by
    rw [C.frm]
    refine HandSPX.setFlight_upZ C.fly fun h2 held u => wpAny_throw (C.tk _ _ ?_)
    exact ⟨a, Bd, w1, pz, τ, G, cls, xd, rfl, C.inv, C.kept, C.slots.trans u, .inr (.inr (by rw [C.stk]; exact held)), C.new, C.os, C.gens, wish⟩
  obtain ⟨_, _, _, ob, vs, T, _, _, e, _, dt, v1, _⟩ := id C.fly
  unfold PySem.passOn
  refine wpAny_bind (wpAny_field e dt v1 ?_)
  have nn : ¬ ((Value.ref T == Value.none) = true) := by simp
  rw [if_neg nn]
  first
    | exact wpAny_bind (wpAny_pure (wpAny_bind go))
    | exact wpAny_bind go
omit [Tb] in
/-- the class that a clause names -/
theorem Come.named (C : Come Y Wo pz τ G cls xd a Bd w1 w2) {x : Str} {np : Pos} {c : Value} (hx : Names Y x c) {Q E : Value → Shared → Prop} (q : Q c w2) : wpAny (model Y.prog Y.w) (Y.A.mark (some (.ref a))) (eval (.Name x np) Y.env) Q E w2 := by
  obtain ⟨ob, vs, e, z, dt, S⟩ := C.suite
  obtain ⟨gl, dbg, h | ⟨h, bt, nn⟩⟩ := hx
  · exact ld_glob (X := Y.suite a ((a, ob) :: (Y.pn ++ pz))) S gl h q dbg
  · exact ld_blt (X := Y.suite a ((a, ob) :: (Y.pn ++ pz))) S gl h bt q nn dbg
omit [Tb] in
theorem Come.looks (C : Come Y Wo pz τ G cls xd a Bd w1 w2) : PySem.W.Looks (model Y.prog Y.w) w2.heap (typeOf (.ref a)) cls := by
  obtain ⟨ob, vs, e, z, _⟩ := C.suite
  exact fun A Q E s k q => wpAny_typeOf_ref (k _ _ e) (by rw [z.1]; exact q)
omit [Tb] in
/-- what comes of the statement, of what comes of a suite -/
theorem ends_of {pn : List (Addr × Obj)} {q0 : Addr × Obj} {f : Flow} {s : Shared} {D : Ends} (gut : Y.Ok) (h : SP (Y.suite a (q0 :: (Y.pn ++ pz))) [] D f s) : SP Y pz D f s := by
  cases f with
  | ret u =>
    obtain ⟨v, τ2, G2, S, r, q⟩ := h
    exact ⟨v, τ2, G2, S.unsuite gut, r, q⟩
  | next =>
    obtain ⟨τ2, G2, S, q⟩ := h
    exact ⟨τ2, G2, S.unsuite gut, q⟩
  | brk =>
    obtain ⟨τ2, G2, S, q⟩ := h
    exact ⟨τ2, G2, S.unsuite gut, q⟩
  | cont =>
    obtain ⟨τ2, G2, S, q⟩ := h
    exact ⟨τ2, G2, S.unsuite gut, q⟩
omit [Tb] in
/-- a clause without a name -/
theorem Come.plain (C : Come Y Wo pz τ G cls xd a Bd w1 w2) {x : Str} {np p : Pos} {c : Value} {b : Bool} {st : Stmt} {su : List Stmt} {rows : List ExceptHandler} {tt : TS} (hx : Names Y x c) (m : PySem.W.exmOne Y.K cls c = some b)
    (hs : ∀ (ob : Obj) (pn : List (Addr × Obj)), Zc cls xd ob → (∃ vs, ob.data = .fields vs) → PSs (Y.suite a ((a, ob) :: pn)) (st :: su) tt) (yes : b = true → tt Z τ G)
    (no : b = false → wpAny (model Y.prog Y.w) Y.A (handleBy (.ref a) Y.env rows) (SP Y pz Z) Y.xe w2) :
    wpAny (model Y.prog Y.w) Y.A (handleBy (.ref a) Y.env (.ExceptHandler (some (.Name x np)) none (st :: su) p :: rows)) (SP Y pz Z) Y.xe w2 := by
  refine wpAny_handleBy_cons (codeAny_handlers_test ?_) (fun q => nomatch q)
  refine C.named hx ((PySem.W.exm_one (M := model Y.prog Y.w) C.here.kIn C.looks m).here ?_)
  cases b with
  | false => exact no rfl
  | true =>
    refine codeAny_handlers_suite (HandSPX.lands_againZ C.fly fun h2 fl u => ?_)
    obtain ⟨ob, vs, e, z, dt, S⟩ := (C.up fl u).suite
    exact wpAny_mono ((hs ob (Y.pn ++ pz) z ⟨vs, dt⟩).run [] _ _ _ _ S (yes rfl)) (fun f v q => ends_of (pn := []) C.ok q) fun _ _ q => False.elim q
omit [Tb] in
/-- a clause that names the error: slot i, which goes behind the suite -/
theorem Come.bound (C : Come Y Wo pz τ G cls xd a Bd w1 w2) {x n : Str} {i : Nat} {np p : Pos} {c : Value} {b : Bool} {st : Stmt} {su : List Stmt} {rows : List ExceptHandler} {tt : TS} (hN : Y.N.Nodup) (hi : Y.N[i]? = some n) (hl : Y.env.kindOf n = some .local)
    (hx : Names Y x c) (m : PySem.W.exmOne Y.K cls c = some b)
    (hs : ∀ (ob : Obj) (pn : List (Addr × Obj)), Zc cls xd ob → (∃ vs, ob.data = .fields vs) → PSs (Y.suite a ((a, ob) :: pn)) (st :: su) tt)
    (yes : b = true → tt { nx := fun τ' G' => Z.nx (τ'.set i none) G', rt := Z.rt, bk := fun τ' G' => Z.bk (τ'.set i none) G', ct := fun τ' G' => Z.ct (τ'.set i none) G' } (τ.set i (some (.ref a))) G)
    (no : b = false → wpAny (model Y.prog Y.w) Y.A (handleBy (.ref a) Y.env rows) (SP Y pz Z) Y.xe w2) :
    wpAny (model Y.prog Y.w) Y.A (handleBy (.ref a) Y.env (.ExceptHandler (some (.Name x np)) (some n) (st :: su) p :: rows)) (SP Y pz Z) Y.xe w2 := by
  refine wpAny_handleBy_cons (codeAny_handlers_test ?_) (fun q => nomatch q)
  refine C.named hx ((PySem.W.exm_one (M := model Y.prog Y.w) C.here.kIn C.looks m).here ?_)
  cases b with
  | false => exact no rfl
  | true =>
    refine codeAny_handlers_suite_as (HandSPX.lands_againZ C.fly fun h2 fl u => ?_)
    obtain ⟨ob, vs, e, z, dt, S⟩ := (C.up fl u).suite
    refine store_ok (X := Y.suite a ((a, ob) :: (Y.pn ++ pz))) (v := .ref a) S hN hi (.inl hl) rfl (fun v S2 => ?_) (.inr hl)
    refine wpAny_mono ((hs ob (Y.pn ++ pz) z ⟨vs, dt⟩).run [] v _ _ _ S2 (yes rfl)) (fun f v2 q => ?_) fun _ _ q => False.elim q
    cases f with
    | ret r =>
      obtain ⟨v3, τ2, G2, S3, r3, q3⟩ := q
      exact gone_ok (S3.unsuite C.ok) hN hi hl fun v4 J => ⟨v3, _, _, J, r3, q3⟩
    | next =>
      obtain ⟨τ2, G2, S3, q3⟩ := q
      exact gone_ok (S3.unsuite C.ok) hN hi hl fun v4 J => ⟨_, _, J, q3⟩
    | brk =>
      obtain ⟨τ2, G2, S3, q3⟩ := q
      exact gone_ok (S3.unsuite C.ok) hN hi hl fun v4 J => ⟨_, _, J, q3⟩
    | cont =>
      obtain ⟨τ2, G2, S3, q3⟩ := q
      exact gone_ok (S3.unsuite C.ok) hN hi hl fun v4 J => ⟨_, _, J, q3⟩
omit [Tb] in
/-- the statement: hw is what the clauses wish of an error -/
theorem ps_tries {bd : List Stmt} {c0 : ExceptHandler} {rows : List ExceptHandler} {p : Pos} {tb : WX → TS} {Wh : Ends → WX} (stk : Y.stack = Y.env :: Y.outer) (frm : Y.env.frame = some Y.env.locals) (tk : Takes Y Wo)
    (hb : ∀ (W : WX) (pn : List (Addr × Obj)) (xe : Value → Shared → Prop), Takes (Y.tr pn xe) W → PassesOwn (model Y.prog Y.w) Y.A Y.env xe → PSs (Y.tr pn xe) bd (tb W))
    (hw : ∀ (pz : List (Addr × Obj)) (τ : St) (G : Hp) (cls : Value) (xd : Option Addr) (a : Addr) (Bd : Heap) (w1 w2 : Shared) (Z : Ends), Come Y Wo pz τ G cls xd a Bd w1 w2 → Wh Z cls xd τ G → wpAny (model Y.prog Y.w) Y.A (handleBy (.ref a) Y.env (c0 :: rows)) (SP Y pz Z) Y.xe w2) :
    PS Y (.Try bd (c0 :: rows) [] [] p) (fun D σ H => tb (Wh D) D σ H) := by
  refine ⟨fun pins s σ H D I q => wpAny_Try_except ?_⟩
  have gut := I.ok
  have fr : Y.A.frames = some (Y.env :: Y.outer) := by rw [gut.frames, stk]
  refine wpAny_mono ((hb (Wh D) (Y.pn ++ pins) (fun e v1 => wpAny (model Y.prog Y.w) Y.A (noteFrame e Y.env) (fun _ v2 => wpAny (model Y.prog Y.w) Y.A (setFlight e none) (fun _ v3 =>
    wpAny (model Y.prog Y.w) Y.A (handleBy e Y.env (c0 :: rows)) (SP Y pins D) Y.xe v3) Y.xe v2) Y.xe v1) (fun u v xx => ?_) PassesOwn.looking).run [] s σ H D (I.toTry _) q) (fun f v h => ?_) fun e v h => h
  · obtain ⟨a, Bd, w1, pz, τ, G, cls, xd, rfl, J, kp, up, sky, na, os, ag, wish⟩ := xx
    show wpAny (model Y.prog Y.w) Y.A (noteFrame (.ref a) Y.env) _ _ _
    exact Sky.land Zc.steady fr frm (show Sky Bd (Y.env :: Y.outer) a (Zc cls xd) Y.env.locals v.heap by rw [← stk]; exact sky) fun h3 fl u =>
      hw pins τ G cls xd a Bd w1 { v with heap := h3 } D ⟨gut, tk, stk, frm, J.ofTry gut, kp, fl, up.trans u, os, ag, na⟩ wish
  · cases f with
    | ret r =>
      obtain ⟨x, τ, G, J, r, q⟩ := h
      exact ⟨x, τ, G, J.ofTry gut, r, q⟩
    | next =>
      obtain ⟨τ, G, J, q⟩ := h
      exact wpAny_execs_nil ⟨τ, G, J.ofTry gut, q⟩
    | brk =>
      obtain ⟨τ, G, J, q⟩ := h
      exact ⟨τ, G, J.ofTry gut, q⟩
    | cont =>
      obtain ⟨τ, G, J, q⟩ := h
      exact ⟨τ, G, J.ofTry gut, q⟩
end
/-! ### .. in plain terms -/
def unA (o : Option Nat) (r : SR) : SR := match o with
  | none => r
  | some i => match r with
    | .nx e h => .nx (e.set i none) h
    | .rt v h => .rt v h
    | .bk e h => .bk (e.set i none) h
    | .ct e h => .ct (e.set i none) h
    | .exc x e h => .exc x e h
    | .bad => .bad
def inA (o : Option Nat) (e : Env) : Env := match o with
  | none => e
  | some i => e.set i none
def catchA (L : List Nat) : List (Nat × Option Nat × (Ex → Sv)) → Ex → Env → Hh → SR
  | [], x, e, h => .exc x e h
  | (c, o, s) :: r, x, e, h => if x.cls ∈ L ∧ c ∈ L then (if xSub x.cls c = true then unA o (s x (inA o e) h) else catchA L r x e h) else .bad
def sTryA (L : List Nat) (b : Sv) (hs : List (Nat × Option Nat × (Ex → Sv))) : Sv := fun env h => match b env h with
  | .exc x e h1 => catchA L hs x e h1
  | .nx e h1 => .nx e h1
  | .rt v h1 => .rt v h1
  | .bk e h1 => .bk e h1
  | .ct e h1 => .ct e h1
  | .bad => .bad
/-- the reading of a suite with the error a at slot i -/
def TAs (K : PySem.W.Frag) (mg : Str → Option Value) (a : Addr) (cls : Value) (d : Option Addr) (i c : Nat) (sv : Ex → Sv) : TS := fun D σ H =>
  ∃ T μ env x, HSim K T μ H ∧ ESim K H T env σ ∧ σ[i]? = some (some (.ref a)) ∧ xSub x.cls c = true ∧ XRep K mg H T x cls d ∧ SPost K mg W0 T H D (sv x env μ)
inductive HdA (X : Cx) (L : List Nat) : List ExceptHandler → List (Nat × Option Nat × (Ex → Sv)) → Prop
  | nil : HdA X L [] []
  | plain {x : Str} {c : Nat} {sv : Sv} {b0 : Stmt} {su : List Stmt} {np p : Pos} {rows : List ExceptHandler} {l : List (Nat × Option Nat × (Ex → Sv))} (hx : xNm c = x) (hm : ∃ C, X.mg x = some (.ref C)) (hg : Gl X x) (hd : (x == ("__debug__" : Str)) = false)
      (hnx : SNX sv) (hsu : ∀ (a : Addr) (oe : Obj) (pn : List (Addr × Obj)), PSs (X.suite a ((a, oe) :: pn)) (b0 :: su) (GS X.K X.mg W0 sv)) (r : HdA X L rows l) :
      HdA X L (.ExceptHandler (some (.Name x np)) none (b0 :: su) p :: rows) ((c, none, fun _ => sv) :: l)
  | bound {x n : Str} {c i : Nat} {sv : Ex → Sv} {b0 : Stmt} {su : List Stmt} {np p : Pos} {rows : List ExceptHandler} {l : List (Nat × Option Nat × (Ex → Sv))} (hx : xNm c = x) (hm : ∃ C, X.mg x = some (.ref C)) (hg : Gl X x) (hd : (x == ("__debug__" : Str)) = false)
      (hN : X.N.Nodup) (hi : X.N[i]? = some n) (hl : X.env.kindOf n = some .local) (hnx : ∀ x, SNX (sv x))
      (hsu : ∀ (a : Addr) (oe : Obj) (cls : Value) (d : Option Addr) (pn : List (Addr × Obj)), Zc cls d oe → (∃ vs, oe.data = .fields vs) → PSs (X.suite a ((a, oe) :: pn)) (b0 :: su) (TAs X.K X.mg a cls d i c sv)) (r : HdA X L rows l) :
      HdA X L (.ExceptHandler (some (.Name x np)) (some n) (b0 :: su) p :: rows) ((c, some i, sv) :: l)
omit [Tb] in
theorem ESim.unset {K : PySem.W.Frag} {T : Tr} {H : Hp} {env : Env} {σ : St} (es : ESim K H T env σ) (i : Nat) (o : Option V) : ESim K H T (env.set i none) (σ.set i o) := by
  refine ⟨by simp [es.len], fun j w e => ?_⟩
  by_cases h : i = j
  · subst h
    by_cases hl : i < env.length
    · rw [List.getElem?_set_self hl] at e; cases e
    · rw [List.getElem?_eq_none (by simpa using hl)] at e; cases e
  · rw [List.getElem?_set_ne h] at e
    obtain ⟨x, e', r⟩ := es.at' j w e
    exact ⟨x, by rw [List.getElem?_set_ne h]; exact e', r⟩
section
variable {X : Cx} {W : WX}
theorem HdA.serves {L : List Nat} (xt : XT X.K X.mg L) : ∀ {rows : List ExceptHandler} {l : List (Nat × Option Nat × (Ex → Sv))}, HdA X L rows l → ∀ {pz : List (Addr × Obj)} {σ : St} {H : Hp} {cls : Value} {d : Option Addr} {a : Addr} {Bd : Heap} {w1 w2 : Shared} {D : Ends},
    Come X W pz σ H cls d a Bd w1 w2 → (∃ T μ env x, HSim X.K T μ H ∧ ESim X.K H T env σ ∧ XRep X.K X.mg H T x cls d ∧ SPost X.K X.mg W T H D (catchA L l x env μ)) → wpAny (model X.prog X.w) X.A (handleBy (.ref a) X.env rows) (SP X pz D) X.xe w2
  | _, _, .nil, _, _, _, _, _, _, _, _, _, _, C, ⟨T, μ, env, x, hs, es, xr, q⟩ => C.fliesOn (q T _ _ _ _ (Step.refl _ _) hs es xr)
  | _, _, .plain (c := c) (sv := sv) hx hm hg hd hnx hsu r, _, _, H, cls, d, a, _, _, _, D, C, ⟨T, μ, env, x, hs, es, xr, q⟩ => by
    obtain ⟨C1, hm⟩ := hm
    subst hx
    obtain ⟨A, eA, mA⟩ := xr.1
    unfold catchA at q
    split at q
    · rename_i hL
      refine C.plain (c := .ref C1) (b := xSub x.cls c) (tt := GS X.K X.mg W0 sv) ⟨hg, hd, .inl hm⟩ (by rw [eA]; exact xt _ hL.1 _ hL.2 A C1 mA hm) (fun ob pn _ _ => hsu a ob pn) (fun hb => ?_) (fun hb => ?_)
      · rw [if_pos hb] at q
        exact ⟨T, μ, env, hs, es, SPost.imp q fun y e2 m2 => hnx _ _ _ _ _⟩
      · rw [if_neg (by rw [hb]; decide)] at q
        exact HdA.serves xt r C ⟨T, μ, env, x, hs, es, xr, q⟩
    · exact q.elim
  | _, _, .bound (c := c) (i := i) (sv := sv) hx hm hg hd hN hi hl hnx hsu r, _, σ, H, cls, d, a, _, _, _, D, C, ⟨T, μ, env, x, hs, es, xr, q⟩ => by
    obtain ⟨C1, hm⟩ := hm
    subst hx
    obtain ⟨A, eA, mA⟩ := xr.1
    unfold catchA at q
    split at q
    · rename_i hL
      refine C.bound (c := .ref C1) (b := xSub x.cls c) (tt := TAs X.K X.mg a cls d i c sv) hN hi hl ⟨hg, hd, .inl hm⟩ (by rw [eA]; exact xt _ hL.1 _ hL.2 A C1 mA hm) (fun ob pn z dt => hsu a ob cls d pn z dt) (fun hb => ?_) (fun hb => ?_)
      · rw [if_pos hb] at q
        have hil : i < σ.length := by rw [C.inv.len]; exact (List.getElem?_eq_some_iff.mp hi).1
        refine ⟨T, μ, env.set i none, x, hs, es.unset i _, List.getElem?_set_self hil, hb, xr, ?_⟩
        have q2 : SPost X.K X.mg W T H D (unA (some i) (sv x (env.set i none) μ)) := q
        have nx := hnx x (env.set i none) μ
        cases hr : sv x (env.set i none) μ with
        | exc y e m => exact absurd hr (nx y e m)
        | nx e m => rw [hr] at q2; exact fun T' H' σ' s hs' es' => q2 T' H' _ s hs' (es'.unset i none)
        | bk e m => rw [hr] at q2; exact fun T' H' σ' s hs' es' => q2 T' H' _ s hs' (es'.unset i none)
        | ct e m => rw [hr] at q2; exact fun T' H' σ' s hs' es' => q2 T' H' _ s hs' (es'.unset i none)
        | rt v m => rw [hr] at q2; exact q2
        | bad => rw [hr] at q2; exact q2
      · rw [if_neg (by rw [hb]; decide)] at q
        exact HdA.serves xt r C ⟨T, μ, env, x, hs, es, xr, q⟩
    · exact q.elim
end
/-! ### suites that read a field of the error -/
structure XF (K : PySem.W.Frag) (mg : Str → Option Value) (n : Nat) (f : Str) : Prop where
  ex : ∃ C, mg (xNm n) = some (.ref C) ∧ XfC K C ∧ PySem.W.findIn K (.ref C) f = some none
omit [Tb] in
theorem xf_mk {K : PySem.W.Frag} {h : Heap} {mg : Str → Option Value} {n : Nat} {f : Str} {C : Addr} (X : K.In h) (G : h.Ns mainGlobals mg) (a : PySem.W.nsIn K mainGlobals (xNm n) = some (some (.ref C))) (g : PySem.W.findIn K (.ref C) "__getattribute__" = some (some (.builtin "BaseException.__getattribute__")))
    (g2 : PySem.W.findIn K (.ref C) "__getattr__" = some none) (s : PySem.W.subIn K (.ref C) (.type "BaseException") = some true) (d : PySem.W.hasDictIn K C = true) (o : PySem.W.findIn K (.ref C) f = some none) : XF K mg n f := ⟨C, PySem.W.mg_of X G a, ⟨g, g2, s, d⟩, o⟩
/-- the field read -/
def xfl (x : Ex) (f : Str) : Option Val := x.fs.lookup f
section
variable {X : Cx}
/-- the reading of e.f -/
theorem pe_fieldOf {a : Addr} {oe : Obj} {cls : Value} {d : Option Addr} {pn : List (Addr × Obj)} {i c : Nat} {n f : Str} {p pos : Pos} (hc : c ≠ 0) (F : XF X.K X.mg c f) (hz : Zc cls d oe) (hd : ∃ vs, oe.data = .fields vs)
    (hN : X.N[i]? = some n) (hv : Vis X.env.scope n) (hdb : (n == ("__debug__" : Str)) = false := by decide) (hcd : (n == ("__classdict__" : Str)) = false := by decide) (hb : attributeBase (.Name n p) f X.env (eval (.Name n p) X.env) = eval (.Name n p) X.env := by rfl) :
    PE (X.suite a ((a, oe) :: pn)) (.Attribute (.Name n p) f pos) (fun σ H Q => ∃ T μ env x v, HSim X.K T μ H ∧ ESim X.K H T env σ ∧ σ[i]? = some (some (.ref a)) ∧ xSub x.cls c = true ∧ XRep X.K X.mg H T x cls d ∧ xfl x f = some v ∧ ∀ y, RepV X.K H T v y → Q y H) := by
  obtain ⟨C, hm, T, ho⟩ := F.ex
  refine PE.imp (pe_xf (C := C) T ho hz hd (pe_var (pos := p) (i := i) hN hv hdb hcd) hb) fun σ H Q ⟨Tr, μ, env, x, v, hs, es, hsl, hxs, xr, hv, q⟩ => ?_
  have ec : x.cls = c := by
    unfold xSub at hxs
    rcases Bool.or_eq_true_iff.mp hxs with z | z
    · exact of_decide_eq_true z
    · exact absurd (of_decide_eq_true z) hc
  obtain ⟨⟨C2, e2, m2⟩, fl⟩ := xr
  rw [ec, hm] at m2
  cases m2
  obtain ⟨dx, fs, y, h1, _, h3, h4, r⟩ := fl f v (PySem.mem_of_lookup hv)
  exact ⟨.ref a, hsl, rfl, e2, dx, fs, y, h1, h3, h4, q y r⟩
end
end Mp
namespace Mp
open PySem PySem.Spec PyProof.Rows L2
theorem XT.sub {K : PySem.W.Frag} {mg : Str → Option Value} {L L' : List Nat} (h : XT K mg L') (s : L.all (fun a => decide (a ∈ L')) = true) : XT K mg L := fun a ha c hc A C e1 e2 => h a (of_decide_eq_true (List.all_eq_true.mp s a ha)) c (of_decide_eq_true (List.all_eq_true.mp s c hc)) A C e1 e2
theorem XA.cls {K : PySem.W.Frag} {mg : Str → Option Value} {n : Nat} {f qual : Str} {st : Stmt} (h : XA K mg n f qual st) : ∃ C, mg (xNm n) = some (.ref C) := let ⟨C, _, _, e, _⟩ := h.ex; ⟨C, e⟩
end Mp

set_option Elab.async false
set_option linter.all false
set_option maxRecDepth 100000
namespace Mp
open PySem PySem.Spec PyProof.Rows L2
variable [Tb]
/-! ### the suites that stand in the laws, behind `except X as e` -/
def aRet2 (c : Val) (f : Str) : Ex → Sv := fun x _ h => match xfl x f with
  | some v => .rt (.tup [c, v]) h
  | none => .bad
omit [Tb] in
theorem aRet2_nx (c : Val) (f : Str) : ∀ x, SNX (aRet2 c f x) := fun x e m y e2 m2 q => by
  unfold aRet2 at q
  split at q <;> cases q
section
variable {X : Cx} {a : Addr} {oe : Obj} {cls : Value} {d : Option Addr} {pn : List (Addr × Obj)} {i c : Nat} {n f : Str} {p pos : Pos}
theorem as_ret2 {p1 p2 : Pos} {k2 : Nat} {ce : Expr} {cv : Val} {cx : V} (hce : PE (X.suite a ((a, oe) :: pn)) ce (tC cx)) (hrep : ∀ H T, RepV X.K H T cv cx) (hc : c ≠ 0) (F : XF X.K X.mg c f) (hz : Zc cls d oe) (hd : ∃ vs, oe.data = .fields vs) (hN : X.N[i]? = some n) (hv : Vis X.env.scope n)
    (he : starEach [ce, .Attribute (.Name n p) f pos] X.env = (false, eval ce X.env) :: starEach [.Attribute (.Name n p) f pos] X.env := by rfl) (he2 : starEach [.Attribute (.Name n p) f pos] X.env = (false, eval (.Attribute (.Name n p) f pos) X.env) :: starEach [] X.env := by rfl) (hdb : (n == ("__debug__" : Str)) = false := by decide) (hcd : (n == ("__classdict__" : Str)) = false := by decide) :
    PSs (X.suite a ((a, oe) :: pn)) [.Return (some (.Tuple [ce, .Attribute (.Name n p) f pos] k2 p1)) p2] (TAs X.K X.mg a cls d i c (aRet2 cv f)) :=
  pss_one (PS.imp (ps_ret (pe_tup (pa_cons hce (pa_cons (pe_fieldOf (i := i) (c := c) hc F hz hd hN hv hdb hcd) pa_nil he2) he))) fun D σ H ⟨T, μ, env, x, hs, es, h1, h2, xr, q⟩ => by
    unfold aRet2 at q
    split at q
    · rename_i v ev
      refine ⟨T, μ, env, x, v, hs, es, h1, h2, xr, ev, fun y r => ⟨sz2, fun A hA => ?_⟩⟩
      exact q T _ (.ref A) (Step.new hA) (hs.new hA) (.tup (.inl ⟨hs.notban hA, upd_same⟩) ((RepL.cons (hrep H T) (.cons r .nil)).step (Step.new hA)))
    · exact q.elim)
where sz2 : 2 ≤ sizeLine := by rw [sizeLine_eq]; decide
end
end Mp

set_option Elab.async false
set_option linter.all false
set_option maxRecDepth 100000
namespace Mp
variable [Tb]
open PySem PySem.Spec PyProof.Rows L2
/-! ### a block tidied behind it: dead names forgotten, lists that nothing leans on dropped -/
def oBel (n : Nat) : Option Val → Bool
  | some v => v.bel n
  | none => true
def cutH (n : Nat) (e : Env) (h : Hh) : Hh := if e.all (oBel n) = true ∧ (h.take n).all (Ob.bel n) = true then h.take n else h
def tidyR (n : Nat) (d : List Nat) : SR → SR
  | .nx e h => .nx (wipeE e d) (cutH n (wipeE e d) h)
  | .bk e h => .bk (wipeE e d) (cutH n (wipeE e d) h)
  | .ct e h => .ct (wipeE e d) (cutH n (wipeE e d) h)
  | r => r
def sTidy (d : List Nat) (s : Sv) : Sv := fun env h => tidyR h.length d (s env h)
section
variable {K : PySem.W.Frag} {T T' : Tr} {μ μ' : Hh} {H H' : Hp} {env : Env} {σ : St}
omit [Tb] in
theorem ESim.forget (es : ESim K H T env σ) : ∀ d : List Nat, ESim K H T (wipeE env d) σ
  | [] => es
  | v :: vs => by
    have ih := ESim.forget es vs
    unfold wipeE
    refine ⟨by simp [ih.len], fun j w e => ?_⟩
    by_cases h : v = j
    · subst h
      by_cases hl : v < (wipeE env vs).length
      · rw [List.getElem?_set_self hl] at e; cases e
      · rw [List.getElem?_eq_none (by simpa using hl)] at e; cases e
    · rw [List.getElem?_set_ne h] at e
      exact ih.at' j w e
omit [Tb] in
theorem ESim.keep {n : Nat} (es : ESim K H' T' env σ) (B : Back T T' n) (hb : env.all (oBel n) = true) : ESim K H' T env σ := by
  refine ⟨es.len, fun j w e => ?_⟩
  obtain ⟨x, ex, r⟩ := es.at' j w e
  exact ⟨x, ex, r.keep B.ban B.low (List.all_eq_true.mp hb (some w) (List.mem_of_getElem? e))⟩
theorem tidy_at {P : Tr → Hp → Prop} {e : Env} {h : Hh} (d : List Nat) (hs : HSim K T μ H) (st : Step T H T' H') (hs' : HSim K T' h H') (es' : ESim K H' T' e σ)
    (k : ∀ T2, Step T H T2 H' → HSim K T2 (cutH μ.length (wipeE e d) h) H' → ESim K H' T2 (wipeE e d) σ → P T2 H') : ∃ T2, P T2 H' := by
  unfold cutH at k
  by_cases q : (wipeE e d).all (oBel μ.length) = true ∧ (h.take μ.length).all (Ob.bel μ.length) = true
  · rw [if_pos q] at k
    obtain ⟨a, b⟩ := hs.back st hs'
    exact ⟨_, k T b a ((es'.forget d).keep (st.back hs.len hs) q.1)⟩
  · rw [if_neg q] at k
    exact ⟨_, k T' st hs' (es'.forget d)⟩
end
section
variable {X : Cx} {W : WX} {sv : Sv}
theorem gs_tidy {b : List Stmt} (d : List Nat) (h : PSs X b (GS X.K X.mg W sv)) : PSs X b (GS X.K X.mg W (sTidy d sv)) :=
  PSs.imp h fun D σ H ⟨T, μ, env, hs, es, q⟩ => ⟨T, μ, env, hs, es, by
    unfold sTidy at q
    have go : ∀ {P : St → Hp → Prop} {e : Env} {m : Hh}, (∀ T' H' σ', Step T H T' H' → HSim X.K T' (cutH μ.length (wipeE e d) m) H' → ESim X.K H' T' (wipeE e d) σ' → P σ' H') → ∀ T' H' σ', Step T H T' H' → HSim X.K T' m H' → ESim X.K H' T' e σ' → P σ' H' := fun {P e m} k T' H' σ' st hs' es' => by
      obtain ⟨_, z⟩ := tidy_at (P := fun _ H' => P σ' H') d hs st hs' es' fun T2 s2 h2 e2 => k T2 H' σ' s2 h2 e2
      exact z
    cases hr : sv env μ with
    | nx e m => rw [hr] at q; exact go q
    | bk e m => rw [hr] at q; exact go q
    | ct e m => rw [hr] at q; exact go q
    | rt v m => rw [hr] at q; exact q
    | exc x e m => rw [hr] at q; exact q
    | bad => rw [hr] at q; exact q⟩
end
/-! running it -/
omit [Tb] in
@[simp] theorem cutH_le {n : Nat} {e : Env} {h : Hh} (q : h.length ≤ n) : cutH n e h = h := by
  unfold cutH
  split
  · exact List.take_of_length_le q
  · rfl
omit [Tb] in
@[simp] theorem x_tidy (d : List Nat) (s : Sv) {env : Env} {h : Hh} : sTidy d s env h = tidyR h.length d (s env h) := rfl
omit [Tb] in
@[simp] theorem tidy_nx {n : Nat} {d : List Nat} {e : Env} {h : Hh} : tidyR n d (.nx e h) = .nx (wipeE e d) (cutH n (wipeE e d) h) := rfl
omit [Tb] in
@[simp] theorem tidy_ct {n : Nat} {d : List Nat} {e : Env} {h : Hh} : tidyR n d (.ct e h) = .ct (wipeE e d) (cutH n (wipeE e d) h) := rfl
omit [Tb] in
@[simp] theorem tidy_bk {n : Nat} {d : List Nat} {e : Env} {h : Hh} : tidyR n d (.bk e h) = .bk (wipeE e d) (cutH n (wipeE e d) h) := rfl
omit [Tb] in
@[simp] theorem tidy_rt {n : Nat} {d : List Nat} {v : Val} {h : Hh} : tidyR n d (.rt v h) = .rt v h := rfl
omit [Tb] in
@[simp] theorem tidy_exc {n : Nat} {d : List Nat} {x : Ex} {e : Env} {h : Hh} : tidyR n d (.exc x e h) = .exc x e h := rfl
omit [Tb] in
@[simp] theorem wipe_nil (e : Env) : wipeE e [] = e := rfl
omit [Tb] in
@[simp] theorem wipe_cons (e : Env) (v : Nat) (vs : List Nat) : wipeE e (v :: vs) = (wipeE e vs).set v none := rfl
end Mp

set_option Elab.async false
set_option linter.all false
set_option maxRecDepth 100000
namespace Mp
variable [Tb]
open PySem PySem.Spec PyProof.Rows L2
/-! ### list(range(..)), tuple(range(..)) -/
def rgOk (lo hi : Int) : Prop := -(2 ^ 62) ≤ lo ∧ lo < 2 ^ 62 ∧ -(2 ^ 62) ≤ hi ∧ hi < 2 ^ 62 ∧ (hi - lo).toNat ≤ 2 ^ 24
instance (lo hi : Int) : Decidable (rgOk lo hi) := by unfold rgOk; infer_instance
def rgLst (m : Bool) (vs : List Val) (h : Hh) : R Val := match vs with
  | [.int j] => if rgOk 0 j then mk m (rangeV 0 j) h else .bad
  | [.int i, .int j] => if rgOk i j then mk m (rangeV i j) h else .bad
  | _ => .bad
def rgTup (vs : List Val) (h : Hh) : R Val := match vs with
  | [.int j] => if rgOk 0 j then .ok (.tup (rangeV 0 j)) h else .bad
  | [.int i, .int j] => if rgOk i j then .ok (.tup (rangeV i j)) h else .bad
  | _ => .bad
def eRgL (m : Bool) (a : Av) : Ev := fun env h => (a env h).bnd fun vs h1 => rgLst m vs h1
def eRgT (a : Av) : Ev := fun env h => (a env h).bnd fun vs h1 => rgTup vs h1
section
variable {X : Cx} {W : WX} {a b : Expr} {av : Av} {ea eb : Ev} {p pos p2 q2 : Pos}
end
omit [Tb] in
@[simp] theorem x_rgL (m : Bool) (a : Av) {env : Env} {h : Hh} : eRgL m a env h = (a env h).bnd fun vs h1 => rgLst m vs h1 := rfl
omit [Tb] in
@[simp] theorem x_rgT (a : Av) {env : Env} {h : Hh} : eRgT a env h = (a env h).bnd fun vs h1 => rgTup vs h1 := rfl
/-! ### constants of the module that are tuples -/
section
variable {X : Cx} {W : WX}
end
end Mp

set_option Elab.async false
set_option linter.all false
set_option maxRecDepth 100000
namespace Mp
open PySem PySem.Spec PyProof.Rows L2
/-! ### running the terms by simp -/
variable {env : Env} {h : Hh} {a b : Ev} {av : Av} {t t2 : Tv}
@[simp] theorem x_var {i : Nat} {v : Val} (e : env[i]? = some (some v)) : eVar i env h = .ok v h := by unfold eVar; rw [e]
@[simp] theorem x_c (v : Val) : eC v env h = .ok v h := rfl
@[simp] theorem x_op (p : Val → Val → Hh → R Val) : eOp p a b env h = (a env h).bnd fun x h1 => (b env h1).bnd fun y h2 => p x y h2 := rfl
@[simp] theorem x_un (p : Val → Hh → R Val) : eUn p a env h = (a env h).bnd fun x h1 => p x h1 := rfl
@[simp] theorem x_call (p : List Val → Hh → R Val) : eCall p av env h = (av env h).bnd fun xs h1 => p xs h1 := rfl
@[simp] theorem x_fn (p : List Val → Hh → R Val) : eFn p av env h = (av env h).bnd fun xs h1 => p xs h1 := rfl
@[simp] theorem x_nil : aNil env h = .ok [] h := rfl
@[simp] theorem x_cons : aCons a av env h = (a env h).bnd fun x h1 => (av env h1).bnd fun xs h2 => .ok (x :: xs) h2 := rfl
@[simp] theorem x_tB : tB a env h = (a env h).bnd fun x h1 => match x with | .bl b => .ok b h1 | _ => .bad := rfl
@[simp] theorem x_and : eAnd a b env h = (a env h).bnd fun x h1 => match x with | .bl true => b env h1 | .bl false => .ok (.bl false) h1 | _ => .bad := rfl
@[simp] theorem x_or : eOr a b env h = (a env h).bnd fun x h1 => match x with | .bl false => b env h1 | .bl true => .ok (.bl true) h1 | _ => .bad := rfl
@[simp] theorem x_not : eNot a env h = (a env h).bnd fun x h1 => match x with | .bl b => .ok (.bl (!b)) h1 | _ => .bad := rfl
@[simp] theorem x_if : eIf t a b env h = (t env h).bnd fun x h1 => if x = true then a env h1 else b env h1 := rfl
@[simp] theorem x_tAnd : Mp.tAnd t t2 env h = (t env h).bnd fun x h1 => if x = true then t2 env h1 else .ok false h1 := rfl
@[simp] theorem x_tOr : Mp.tOr t t2 env h = (t env h).bnd fun x h1 => if x = true then .ok true h1 else t2 env h1 := rfl
@[simp] theorem x_tNot : Mp.tNot t env h = (t env h).bnd fun x h1 => .ok (!x) h1 := rfl
@[simp] theorem x_tTrue : tTrue env h = .ok true h := rfl
@[simp] theorem x_tup : eTup av env h = (av env h).bnd fun xs h1 => if xs.length ≤ sizeLine then .ok (.tup xs) h1 else .bad := rfl
@[simp] theorem x_lst (m : Bool) : eLst m av env h = (av env h).bnd fun xs h1 => if xs.length ≤ sizeLine then mk m xs h1 else .bad := rfl
@[simp] theorem x_chain (p q : Val → Val → Hh → R Val) (c : Ev) : eChain p q a b c env h = (a env h).bnd fun x h1 => (b env h1).bnd fun y h2 => (p x y h2).bnd fun z h3 => match z with
  | .bl true => (c env h3).bnd fun w h4 => q y w h4
  | .bl false => .ok (.bl false) h3
  | _ => .bad := rfl
@[simp] theorem x_meth (c : Val → Bool) (p : Val → List Val → Hh → R Val) : eMeth c p a av env h = (a env h).bnd fun x h1 => if c x = true then (av env h1).bnd fun xs h2 => p x xs h2 else .bad := rfl
@[simp] theorem x_meth0 (c : Val → Bool) (p : Val → List Val → Hh → R Val) : eMeth0 c p a env h = (a env h).bnd fun x h1 => if c x = true then p x [] h1 else .bad := rfl
@[simp] theorem x_sl (m : Bool) (l u : Pv) : eSl m a l u env h = (a env h).bnd fun x h1 => (l env h1).bnd fun i h2 => (u env h2).bnd fun j h3 => slP m x i j h3 := rfl
@[simp] theorem x_oN : oNone env h = .ok none h := rfl
@[simp] theorem x_oS : oSome a env h = (a env h).bnd fun x h1 => match x with | .int i => .ok (some i) h1 | _ => .bad := rfl
variable {s1 s2 : Sv} {g : Gv} {gr : List Val → Env → Hh → R Env}
@[simp] theorem x_next : sNext env h = .nx env h := rfl
@[simp] theorem x_seq : sSeq s1 s2 env h = (s1 env h).bnd s2 := rfl
@[simp] theorem x_set (i : Nat) : sSet i a env h = lift (a env h) env fun v h1 => .nx (env.set i (some v)) h1 := rfl
@[simp] theorem x_asg : sAsg g a env h = lift (a env h) env fun v h1 => lift (g v env h1) env fun env2 h2 => .nx env2 h2 := rfl
@[simp] theorem x_par (i j : Nat) : sPar i j a b env h = lift (a env h) env fun v h1 => lift (b env h1) env fun w h2 => .nx ((env.set i (some v)).set j (some w)) h2 := rfl
@[simp] theorem x_expr : sExpr a env h = lift (a env h) env fun _ h1 => .nx env h1 := rfl
@[simp] theorem x_ret : sRet a env h = lift (a env h) env fun v h1 => .rt v h1 := rfl
@[simp] theorem x_retN : sRetN env h = .rt .non h := rfl
@[simp] theorem x_brk : sBrk env h = .bk env h := rfl
@[simp] theorem x_cnt : sCnt env h = .ct env h := rfl
@[simp] theorem x_sif : sIf t s1 s2 env h = lift (t env h) env fun x h1 => if x = true then s1 env h1 else s2 env h1 := rfl
@[simp] theorem x_raise (c : Nat) : sRaise c env h = .exc ⟨c, []⟩ env h := rfl
@[simp] theorem x_gN (i : Nat) (v : Val) : gName i v env h = .ok (env.set i (some v)) h := rfl
@[simp] theorem x_gn0 : gNil [] env h = .ok env h := rfl
@[simp] theorem x_gc (v : Val) (vs : List Val) : gCons g gr (v :: vs) env h = (g v env h).bnd fun env1 h1 => gr vs env1 h1 := rfl
@[simp] theorem x_gt (l : List Val) : gTup gr (.tup l) env h = gr l env h := rfl
@[simp] theorem x_gs (o i : Ev) (v : Val) : gSub o i v env h = (o env h).bnd fun x h1 => (i env h1).bnd fun y h2 => (setP x y v h2).bnd fun _ h3 => .ok env h3 := rfl
theorem x_for (it : Iev) : sFor it g s1 env h = lift (it env h) env fun iv h1 => forL g s1 iv.chk iv.items env h1 := rfl
@[simp] theorem x_iSeq : iSeq a env h = (a env h).bnd fun v h1 => seqI v h1 := rfl
@[simp] theorem x_iR1 : iRng1 av env h = (av env h).bnd fun vs h1 => rng1I vs h1 := rfl
@[simp] theorem x_iR2 : iRng2 av env h = (av env h).bnd fun vs h1 => rng2I vs h1 := rfl
@[simp] theorem x_iEn : iEn av env h = (av env h).bnd fun vs h1 => enI vs h1 := rfl
@[simp] theorem x_iZp : iZp av env h = (av env h).bnd fun vs h1 => zipI vs h1 := rfl
@[simp] theorem x_try (L : List Nat) (hs : List (Nat × Sv)) : sTry L s1 hs env h = match s1 env h with
  | .exc x e h1 => catchL L hs x e h1
  | .nx e h1 => .nx e h1
  | .rt v h1 => .rt v h1
  | .bk e h1 => .bk e h1
  | .ct e h1 => .ct e h1
  | .bad => .bad := rfl
/-! ### a def run to its end -/
theorem run_rt {N : Nat} {b : Sv} {args : List Val} {v : Val} {h h1 : Hh} (e : b (args.map some ++ List.replicate (N - args.length) none) h = .rt v h1) (hv : v.bel h.length = true) (hh : h1.take h.length = h) : runFn N b args h = .ok v h := by
  unfold runFn
  rw [e]
  show finV h v h1 = _
  unfold finV Val.frz
  rw [if_pos hv, hh]
theorem run_rtH {N : Nat} {b : Sv} {args : List Val} {v : Val} {h h1 h2 : Hh} (e : b (args.map some ++ List.replicate (N - args.length) none) h = .rt v h1) (hv : v.bel h.length = true) (hh : h1.take h.length = h2) : runFn N b args h = .ok v h2 := by
  unfold runFn
  rw [e]
  show finV h v h1 = _
  unfold finV Val.frz
  rw [if_pos hv, hh]
theorem run_nx {N : Nat} {b : Sv} {args : List Val} {en : Env} {h h1 : Hh} (e : b (args.map some ++ List.replicate (N - args.length) none) h = .nx en h1) (hh : h1.take h.length = h) : runFn N b args h = .ok .non h := by
  unfold runFn
  rw [e]
  show finV h .non h1 = _
  unfold finV Val.frz
  rw [if_pos (by rfl), hh]
theorem run_exc {N : Nat} {b : Sv} {args : List Val} {x : Nat} {en : Env} {h h1 : Hh} (e : b (args.map some ++ List.replicate (N - args.length) none) h = .exc ⟨x, []⟩ en h1) (hh : h1.take h.length = h) : runFn N b args h = .exc ⟨x, []⟩ h := by
  unfold runFn
  rw [e]
  show finX h ⟨x, []⟩ h1 = _
  unfold finX
  rw [if_pos (by rfl), hh]
/-- values that lean on no list that may change -/
abbrev Val.pl (v : Val) : Prop := v.bel 0 = true
theorem Val.pl.bel {v : Val} (p : v.pl) (n : Nat) : v.bel n = true := bel_mono (Nat.zero_le n) v p
/-! ### loops without lists that change -/
theorem chk0 (h : Hh) : chkOk [] h := fun p q => nomatch q
theorem forL_nil (g : Gv) (b : Sv) (env : Env) (h : Hh) : forL g b [] [] env h = .nx env h := by
  unfold forL
  rw [if_pos (chk0 h)]
theorem forL_cons (g : Gv) (b : Sv) (v : Val) (r : List Val) (env : Env) (h : Hh) : forL g b [] (v :: r) env h = lift (g v env h) env fun env1 h1 => match b env1 h1 with
      | .nx e2 h2 => forL g b [] r e2 h2
      | .ct e2 h2 => forL g b [] r e2 h2
      | .bk e2 h2 => .nx e2 h2
      | .rt v h2 => .rt v h2
      | .exc x e2 h2 => .exc x e2 h2
      | .bad => .bad := by
  rw [forL, if_pos (chk0 h)]
  all_goals rfl
theorem compL_nil (tg : Gv) (tt : Tv) (el : Ev) (acc : List Val) (env : Env) (h : Hh) : compL tg tt el [] [] acc env h = .ok acc h := by
  unfold compL
  rw [if_pos (chk0 h)]
theorem compL_cons (tg : Gv) (tt : Tv) (el : Ev) (v : Val) (r acc : List Val) (env : Env) (h : Hh) : compL tg tt el [] (v :: r) acc env h = match tg v env h with
      | .ok env1 h1 => match tt env1 h1 with
        | .ok true h2 => match el env1 h2 with
          | .ok u h3 => if acc.length < sizeLine then compL tg tt el [] r (acc ++ [u]) env h3 else .bad
          | _ => .bad
        | .ok false h2 => compL tg tt el [] r acc env h2
        | _ => .bad
      | _ => .bad := by
  rw [compL, if_pos (chk0 h)]
  all_goals rfl
/-- every element by a plain function, no test -/
theorem comp_map {tg : Gv} {el : Ev} {env : Env} {h : Hh} {f : Val → Val} : ∀ (l acc : List Val), (∀ v ∈ l, ∃ e1, tg v env h = .ok e1 h ∧ el e1 h = .ok (f v) h) → acc.length + l.length ≤ sizeLine → compL tg tTrue el [] l acc env h = .ok (acc ++ l.map f) h
  | [], acc, _, _ => by rw [compL_nil, List.map_nil, List.append_nil]
  | v :: l, acc, hp, hz => by
    obtain ⟨e1, a, b⟩ := hp v List.mem_cons_self
    rw [List.length_cons] at hz
    rw [compL_cons, a]
    show (match el e1 h with
          | .ok u h3 => if acc.length < sizeLine then compL tg tTrue el [] l (acc ++ [u]) env h3 else .bad
          | _ => .bad) = _
    rw [b]
    show (if acc.length < sizeLine then compL tg tTrue el [] l (acc ++ [f v]) env h else .bad) = _
    rw [if_pos (by omega), comp_map l (acc ++ [f v]) (fun w hw => hp w (List.mem_cons_of_mem _ hw)) (by rw [List.length_append, List.length_singleton]; omega), List.append_assoc]
    rfl
theorem x_comp {own : List Nat} {it : Iev} {tg : Gv} {tt : Tv} {el : Ev} {env : Env} {h h1 h2 : Hh} {iv : Iv} {r : List Val} (e1 : it env h = .ok iv h1) (e2 : compL tg tt el iv.chk iv.items [] (wipeE env own) h1 = .ok r h2) : eComp false own it tg tt el env h = .ok (.lst r) h2 := by
  unfold eComp
  rw [e1]
  show (match compL tg tt el iv.chk iv.items [] (wipeE env own) h1 with | .ok acc h2 => mk false acc h2 | _ => .bad) = _
  rw [e2]
  rfl
end Mp

set_option Elab.async false
set_option linter.all false
set_option maxRecDepth 100000
namespace Mp
open PySem
def Val.isInt : Val → Bool
  | .int _ => true
  | .non => false
  | .bl _ => false
  | .str _ => false
  | .tup _ => false
  | .lst _ => false
  | .fz _ => false
  | .ref _ => false
  | .ty _ => false
  | .fn _ => false
  | .dic _ _ => false
  | .dref _ => false
@[simp] theorem isInt_non : Val.non.isInt = false := by unfold Val.isInt; exact rfl
@[simp] theorem isInt_bl (b : Bool) : (Val.bl b).isInt = false := by unfold Val.isInt; exact rfl
@[simp] theorem isInt_int (b : Int) : (Val.int b).isInt = true := by unfold Val.isInt; exact rfl
@[simp] theorem isInt_str (b : Str) : (Val.str b).isInt = false := by unfold Val.isInt; exact rfl
@[simp] theorem isInt_tup (b : List Val) : (Val.tup b).isInt = false := by unfold Val.isInt; exact rfl
@[simp] theorem isInt_lst (b : List Val) : (Val.lst b).isInt = false := by unfold Val.isInt; exact rfl
@[simp] theorem isInt_fz (b : List Val) : (Val.fz b).isInt = false := by unfold Val.isInt; exact rfl
@[simp] theorem isInt_ref (b : Nat) : (Val.ref b).isInt = false := by unfold Val.isInt; exact rfl
@[simp] theorem isInt_ty (b : Mp.Ty) : (Val.ty b).isInt = false := by unfold Val.isInt; exact rfl
@[simp] theorem isInt_fn (b : Str) : Val.isInt (Val.fn b) = false := by unfold Val.isInt; exact rfl
@[simp] theorem isInt_dic (k : List DK) (b : List Val) : Val.isInt (Val.dic k b) = false := by unfold Val.isInt; exact rfl
@[simp] theorem isInt_dref (b : Nat) : Val.isInt (Val.dref b) = false := by unfold Val.isInt; exact rfl
def Val.isNum : Val → Bool
  | .int i => decide (0 ≤ i)
  | .non => false
  | .bl _ => false
  | .str _ => false
  | .tup _ => false
  | .lst _ => false
  | .fz _ => false
  | .ref _ => false
  | .ty _ => false
  | .fn _ => false
  | .dic _ _ => false
  | .dref _ => false
@[simp] theorem isNum_non : Val.non.isNum = false := by unfold Val.isNum; exact rfl
@[simp] theorem isNum_bl (b : Bool) : (Val.bl b).isNum = false := by unfold Val.isNum; exact rfl
@[simp] theorem isNum_int (b : Int) : (Val.int b).isNum = decide (0 ≤ b) := by unfold Val.isNum; exact rfl
@[simp] theorem isNum_str (b : Str) : (Val.str b).isNum = false := by unfold Val.isNum; exact rfl
@[simp] theorem isNum_tup (b : List Val) : (Val.tup b).isNum = false := by unfold Val.isNum; exact rfl
@[simp] theorem isNum_lst (b : List Val) : (Val.lst b).isNum = false := by unfold Val.isNum; exact rfl
@[simp] theorem isNum_fz (b : List Val) : (Val.fz b).isNum = false := by unfold Val.isNum; exact rfl
@[simp] theorem isNum_ref (b : Nat) : (Val.ref b).isNum = false := by unfold Val.isNum; exact rfl
@[simp] theorem isNum_ty (b : Mp.Ty) : (Val.ty b).isNum = false := by unfold Val.isNum; exact rfl
@[simp] theorem isNum_fn (b : Str) : Val.isNum (Val.fn b) = false := by unfold Val.isNum; exact rfl
@[simp] theorem isNum_dic (k : List DK) (b : List Val) : Val.isNum (Val.dic k b) = false := by unfold Val.isNum; exact rfl
@[simp] theorem isNum_dref (b : Nat) : Val.isNum (Val.dref b) = false := by unfold Val.isNum; exact rfl
def Val.isIn (lo hi : Int) : Val → Bool
  | .int i => decide (lo ≤ i) && decide (i ≤ hi)
  | .non => false
  | .bl _ => false
  | .str _ => false
  | .tup _ => false
  | .lst _ => false
  | .fz _ => false
  | .ref _ => false
  | .ty _ => false
  | .fn _ => false
  | .dic _ _ => false
  | .dref _ => false
@[simp] theorem isIn_non (lo hi : Int) : Val.isIn lo hi Val.non = false := by unfold Val.isIn; exact rfl
@[simp] theorem isIn_bl (lo hi : Int) (b : Bool) : Val.isIn lo hi (Val.bl b) = false := by unfold Val.isIn; exact rfl
@[simp] theorem isIn_int (lo hi : Int) (b : Int) : Val.isIn lo hi (Val.int b) = (decide (lo ≤ b) && decide (b ≤ hi)) := by unfold Val.isIn; exact rfl
@[simp] theorem isIn_str (lo hi : Int) (b : Str) : Val.isIn lo hi (Val.str b) = false := by unfold Val.isIn; exact rfl
@[simp] theorem isIn_tup (lo hi : Int) (b : List Val) : Val.isIn lo hi (Val.tup b) = false := by unfold Val.isIn; exact rfl
@[simp] theorem isIn_lst (lo hi : Int) (b : List Val) : Val.isIn lo hi (Val.lst b) = false := by unfold Val.isIn; exact rfl
@[simp] theorem isIn_fz (lo hi : Int) (b : List Val) : Val.isIn lo hi (Val.fz b) = false := by unfold Val.isIn; exact rfl
@[simp] theorem isIn_ref (lo hi : Int) (b : Nat) : Val.isIn lo hi (Val.ref b) = false := by unfold Val.isIn; exact rfl
@[simp] theorem isIn_ty (lo hi : Int) (b : Mp.Ty) : Val.isIn lo hi (Val.ty b) = false := by unfold Val.isIn; exact rfl
@[simp] theorem isIn_fn (lo hi : Int) (b : Str) : Val.isIn lo hi (Val.fn b) = false := by unfold Val.isIn; exact rfl
@[simp] theorem isIn_dic (lo hi : Int) (k : List DK) (b : List Val) : Val.isIn lo hi (Val.dic k b) = false := by unfold Val.isIn; exact rfl
@[simp] theorem isIn_dref (lo hi : Int) (b : Nat) : Val.isIn lo hi (Val.dref b) = false := by unfold Val.isIn; exact rfl
def Val.sized (lo hi : Int) : Val → Bool
  | .tup l => decide (lo ≤ (l.length : Int)) && decide ((l.length : Int) ≤ hi)
  | .non => false
  | .bl _ => false
  | .int _ => false
  | .str _ => false
  | .lst _ => false
  | .fz _ => false
  | .ref _ => false
  | .ty _ => false
  | .fn _ => false
  | .dic _ _ => false
  | .dref _ => false
@[simp] theorem sized_non (lo hi : Int) : Val.sized lo hi Val.non = false := by unfold Val.sized; exact rfl
@[simp] theorem sized_bl (lo hi : Int) (b : Bool) : Val.sized lo hi (Val.bl b) = false := by unfold Val.sized; exact rfl
@[simp] theorem sized_int (lo hi : Int) (b : Int) : Val.sized lo hi (Val.int b) = false := by unfold Val.sized; exact rfl
@[simp] theorem sized_str (lo hi : Int) (b : Str) : Val.sized lo hi (Val.str b) = false := by unfold Val.sized; exact rfl
@[simp] theorem sized_tup (lo hi : Int) (b : List Val) : Val.sized lo hi (Val.tup b) = (decide (lo ≤ (b.length : Int)) && decide ((b.length : Int) ≤ hi)) := by unfold Val.sized; exact rfl
@[simp] theorem sized_lst (lo hi : Int) (b : List Val) : Val.sized lo hi (Val.lst b) = false := by unfold Val.sized; exact rfl
@[simp] theorem sized_fz (lo hi : Int) (b : List Val) : Val.sized lo hi (Val.fz b) = false := by unfold Val.sized; exact rfl
@[simp] theorem sized_ref (lo hi : Int) (b : Nat) : Val.sized lo hi (Val.ref b) = false := by unfold Val.sized; exact rfl
@[simp] theorem sized_ty (lo hi : Int) (b : Mp.Ty) : Val.sized lo hi (Val.ty b) = false := by unfold Val.sized; exact rfl
@[simp] theorem sized_fn (lo hi : Int) (b : Str) : Val.sized lo hi (Val.fn b) = false := by unfold Val.sized; exact rfl
@[simp] theorem sized_dic (lo hi : Int) (k : List DK) (b : List Val) : Val.sized lo hi (Val.dic k b) = false := by unfold Val.sized; exact rfl
@[simp] theorem sized_dref (lo hi : Int) (b : Nat) : Val.sized lo hi (Val.dref b) = false := by unfold Val.sized; exact rfl
/-- no type -/
def Val.thing : Val → Bool
  | .ty _ => false
  | .non => true
  | .bl _ => true
  | .int _ => true
  | .str _ => true
  | .tup _ => true
  | .lst _ => true
  | .fz _ => true
  | .ref _ => true
  | .fn _ => false
  | .dic _ _ => true
  | .dref _ => true
@[simp] theorem thing_fn (b : Str) : (Val.fn b).thing = false := by unfold Val.thing; exact rfl
@[simp] theorem thing_dic (k : List DK) (b : List Val) : (Val.dic k b).thing = true := by unfold Val.thing; exact rfl
@[simp] theorem thing_dref (b : Nat) : (Val.dref b).thing = true := by unfold Val.thing; exact rfl
@[simp] theorem thing_non : Val.non.thing = true := by unfold Val.thing; exact rfl
@[simp] theorem thing_bl (b : Bool) : (Val.bl b).thing = true := by unfold Val.thing; exact rfl
@[simp] theorem thing_int (b : Int) : (Val.int b).thing = true := by unfold Val.thing; exact rfl
@[simp] theorem thing_str (b : Str) : (Val.str b).thing = true := by unfold Val.thing; exact rfl
@[simp] theorem thing_tup (b : List Val) : (Val.tup b).thing = true := by unfold Val.thing; exact rfl
@[simp] theorem thing_lst (b : List Val) : (Val.lst b).thing = true := by unfold Val.thing; exact rfl
@[simp] theorem thing_fz (b : List Val) : (Val.fz b).thing = true := by unfold Val.thing; exact rfl
@[simp] theorem thing_ref (b : Nat) : (Val.ref b).thing = true := by unfold Val.thing; exact rfl
@[simp] theorem thing_ty (b : Mp.Ty) : (Val.ty b).thing = false := by unfold Val.thing; exact rfl
def Val.isAmt : Val → Bool
  | .non => true
  | .int i => decide (0 ≤ i)
  | .bl _ => false
  | .str _ => false
  | .tup _ => false
  | .lst _ => false
  | .fz _ => false
  | .ref _ => false
  | .ty _ => false
  | .fn _ => false
  | .dic _ _ => false
  | .dref _ => false
@[simp] theorem isAmt_non : Val.non.isAmt = true := by unfold Val.isAmt; exact rfl
@[simp] theorem isAmt_bl (b : Bool) : (Val.bl b).isAmt = false := by unfold Val.isAmt; exact rfl
@[simp] theorem isAmt_int (b : Int) : (Val.int b).isAmt = decide (0 ≤ b) := by unfold Val.isAmt; exact rfl
@[simp] theorem isAmt_str (b : Str) : (Val.str b).isAmt = false := by unfold Val.isAmt; exact rfl
@[simp] theorem isAmt_tup (b : List Val) : (Val.tup b).isAmt = false := by unfold Val.isAmt; exact rfl
@[simp] theorem isAmt_lst (b : List Val) : (Val.lst b).isAmt = false := by unfold Val.isAmt; exact rfl
@[simp] theorem isAmt_fz (b : List Val) : (Val.fz b).isAmt = false := by unfold Val.isAmt; exact rfl
@[simp] theorem isAmt_ref (b : Nat) : (Val.ref b).isAmt = false := by unfold Val.isAmt; exact rfl
@[simp] theorem isAmt_ty (b : Mp.Ty) : (Val.ty b).isAmt = false := by unfold Val.isAmt; exact rfl
@[simp] theorem isAmt_fn (b : Str) : Val.isAmt (Val.fn b) = false := by unfold Val.isAmt; exact rfl
@[simp] theorem isAmt_dic (k : List DK) (b : List Val) : Val.isAmt (Val.dic k b) = false := by unfold Val.isAmt; exact rfl
@[simp] theorem isAmt_dref (b : Nat) : Val.isAmt (Val.dref b) = false := by unfold Val.isAmt; exact rfl
@[simp] def plcL : List Val → Bool
  | [a, b] => a.isAmt && (b.isNum && (match a with | .non => (match b with | .int j => decide (j = 0) | _ => false) | _ => true))
  | _ => false
def Val.isPlc : Val → Bool
  | .tup l => plcL l
  | .non => false
  | .bl _ => false
  | .int _ => false
  | .str _ => false
  | .lst _ => false
  | .fz _ => false
  | .ref _ => false
  | .ty _ => false
  | .fn _ => false
  | .dic _ _ => false
  | .dref _ => false
@[simp] theorem isPlc_non : Val.non.isPlc = false := by unfold Val.isPlc; exact rfl
@[simp] theorem isPlc_bl (b : Bool) : (Val.bl b).isPlc = false := by unfold Val.isPlc; exact rfl
@[simp] theorem isPlc_int (b : Int) : (Val.int b).isPlc = false := by unfold Val.isPlc; exact rfl
@[simp] theorem isPlc_str (b : Str) : (Val.str b).isPlc = false := by unfold Val.isPlc; exact rfl
@[simp] theorem isPlc_tup (b : List Val) : (Val.tup b).isPlc = plcL b := by unfold Val.isPlc; exact rfl
@[simp] theorem isPlc_lst (b : List Val) : (Val.lst b).isPlc = false := by unfold Val.isPlc; exact rfl
@[simp] theorem isPlc_fz (b : List Val) : (Val.fz b).isPlc = false := by unfold Val.isPlc; exact rfl
@[simp] theorem isPlc_ref (b : Nat) : (Val.ref b).isPlc = false := by unfold Val.isPlc; exact rfl
@[simp] theorem isPlc_ty (b : Mp.Ty) : (Val.ty b).isPlc = false := by unfold Val.isPlc; exact rfl
@[simp] theorem isPlc_fn (b : Str) : Val.isPlc (Val.fn b) = false := by unfold Val.isPlc; exact rfl
@[simp] theorem isPlc_dic (k : List DK) (b : List Val) : Val.isPlc (Val.dic k b) = false := by unfold Val.isPlc; exact rfl
@[simp] theorem isPlc_dref (b : Nat) : Val.isPlc (Val.dref b) = false := by unfold Val.isPlc; exact rfl
mutual
/-- no type anywhere -/
def Val.data : Val → Bool
  | .tup l => dataL l
  | .lst l => dataL l
  | .fz l => dataL l
  | .ty _ => false
  | .non => true
  | .bl _ => true
  | .int _ => true
  | .str _ => true
  | .ref _ => true
  | .fn _ => false
  | .dic _ l => dataL l
  | .dref _ => true
def dataL : List Val → Bool
  | [] => true
  | v :: l => v.data && dataL l
end
theorem dataL_all : ∀ {l : List Val}, dataL l = true ↔ ∀ v ∈ l, v.data = true
  | [] => by simp [dataL]
  | v :: l => by rw [dataL, Bool.and_eq_true, dataL_all]; simp
theorem data_thing {v : Val} (h : v.data = true) : v.thing = true := by
  cases v with
  | ty t => unfold Val.data at h; cases h
  | fn t => unfold Val.data at h; cases h
  | _ => unfold Val.thing; exact rfl
theorem data_tup {l : List Val} (h : (Val.tup l).data = true) : ∀ v ∈ l, v.data = true := by unfold Val.data at h; exact dataL_all.mp h
section
open PyProof.Rows
variable {h : Hh}
theorem shp_int (i : Int) : SeqAt.shaped (.int i) = true := by simp [SeqAt.shaped, PyData.canLay0, PyData.depth]
theorem shp_bool (i : Bool) : SeqAt.shaped (.bool i) = true := by simp [SeqAt.shaped, PyData.canLay0, PyData.depth]
theorem shp_none : SeqAt.shaped .none = true := by simp [SeqAt.shaped, PyData.canLay0, PyData.depth]
@[simp] theorem eq_int (a b : Int) : eqP (.int a) (.int b) h = .ok (.bl (decide (a = b))) h := by
  simp [eqP, pdOf, Val.pd, shp_int, PyData.eqv]
  exact Bool.eq_iff_iff.mpr (by simp)
@[simp] theorem ne_int (a b : Int) : neP (.int a) (.int b) h = .ok (.bl (!decide (a = b))) h := by
  simp [neP, pdOf, Val.pd, shp_int, PyData.eqv]
  exact Bool.eq_iff_iff.mpr (by simp)
@[simp] theorem eq_bl (a b : Bool) : eqP (.bl a) (.bl b) h = .ok (.bl (decide (a = b))) h := by
  simp [eqP, pdOf, Val.pd, shp_bool, PyData.eqv]
  cases a <;> cases b <;> rfl
@[simp] theorem ne_bl (a b : Bool) : neP (.bl a) (.bl b) h = .ok (.bl (!decide (a = b))) h := by
  simp [neP, pdOf, Val.pd, shp_bool, PyData.eqv]
  cases a <;> cases b <;> rfl
@[simp] theorem eq_nn : eqP .non .non h = .ok (.bl true) h := by
  simp [eqP, pdOf, Val.pd, shp_none, PyData.eqv]
@[simp] theorem ne_nn : neP .non .non h = .ok (.bl false) h := by
  simp [neP, pdOf, Val.pd, shp_none, PyData.eqv]
@[simp] theorem eq_ni (a : Int) : eqP .non (.int a) h = .ok (.bl false) h := by
  simp [eqP, pdOf, Val.pd, shp_none, shp_int, PyData.eqv]
@[simp] theorem ne_ni (a : Int) : neP .non (.int a) h = .ok (.bl true) h := by
  simp [neP, pdOf, Val.pd, shp_none, shp_int, PyData.eqv]
@[simp] theorem eq_in (a : Int) : eqP (.int a) .non h = .ok (.bl false) h := by
  simp [eqP, pdOf, Val.pd, shp_none, shp_int, PyData.eqv]
@[simp] theorem ne_in (a : Int) : neP (.int a) .non h = .ok (.bl true) h := by
  simp [neP, pdOf, Val.pd, shp_none, shp_int, PyData.eqv]
/-- arithmetic -/
@[simp] theorem add_int (m : Bool) (a b : Int) : addP m (.int a) (.int b) h = .ok (.int (a + b)) h := rfl
@[simp] theorem sub_int (a b : Int) : subP (.int a) (.int b) h = .ok (.int (a - b)) h := rfl
theorem mul_sm {m : Bool} {a b : Int} (q : -(2 ^ 64) < b ∧ b < 2 ^ 64) : mulP m (.int a) (.int b) h = .ok (.int (a * b)) h := if_pos (.inr (.inl q))
theorem mul_sm' {m : Bool} {a b : Int} (q : -(2 ^ 64) < a ∧ a < 2 ^ 64) : mulP m (.int a) (.int b) h = .ok (.int (a * b)) h := if_pos (.inl q)
theorem log_sm {b : Int} (q : b < 2 ^ 64) (q0 : 0 < b) : b.natAbs.log2 < 9000 := by
  have : b.natAbs < 2 ^ 64 := by omega
  exact Nat.lt_trans ((Nat.log2_lt (by omega)).mpr this) (by decide)
theorem div_sm {a b : Int} (q0 : 0 < b) (q : b < 2 ^ 64) : divP (.int a) (.int b) h = .ok (.int (a / b)) h := if_pos ⟨q0, log_sm q q0⟩
theorem mod_sm {a b : Int} (q0 : 0 < b) : modP (.int a) (.int b) h = .ok (.int (a % b)) h := if_pos q0
@[simp] theorem lt_int (a b : Int) : ltP (.int a) (.int b) h = .ok (.bl (decide (a < b))) h := rfl
@[simp] theorem le_int (a b : Int) : leP (.int a) (.int b) h = .ok (.bl (decide (a ≤ b))) h := rfl
@[simp] theorem gt_int (a b : Int) : gtP (.int a) (.int b) h = .ok (.bl (decide (b < a))) h := rfl
@[simp] theorem ge_int' (a b : Int) : geP (.int a) (.int b) h = .ok (.bl (decide (b ≤ a))) h := rfl
@[simp] theorem len_tup (l : List Val) : lenP [.tup l] h = .ok (.int l.length) h := rfl
@[simp] theorem len_lst (l : List Val) : lenP [.lst l] h = .ok (.int l.length) h := rfl
@[simp] theorem isN_non : isNP .non .non h = .ok (.bl true) h := rfl
@[simp] theorem isN_int (i : Int) : isNP (.int i) .non h = .ok (.bl false) h := rfl
@[simp] theorem notN_non : notNP .non .non h = .ok (.bl false) h := rfl
@[simp] theorem notN_int (i : Int) : notNP (.int i) .non h = .ok (.bl true) h := rfl
theorem ix_tup {l : List Val} {i : Nat} {v : Val} (q : l[i]? = some v) : ixP (.tup l) (.int i) h = .ok v h := by
  unfold ixP
  dsimp only
  rw [L2.atI_nat q]
theorem ix_lst {l : List Val} {i : Nat} {v : Val} (q : l[i]? = some v) : ixP (.lst l) (.int i) h = .ok v h := by
  unfold ixP
  dsimp only [lsq]
  rw [L2.atI_nat q]
@[simp] theorem ix_t0 (a : Val) (l : List Val) : ixP (.tup (a :: l)) (.int 0) h = .ok a h := ix_tup (i := 0) rfl
@[simp] theorem ix_t1 (a b : Val) (l : List Val) : ixP (.tup (a :: b :: l)) (.int 1) h = .ok b h := ix_tup (i := 1) rfl
end
theorem sz_le {n : Nat} (h : n ≤ 1000000) : n ≤ sizeLine := Nat.le_trans h (by rw [sizeLine_eq]; decide)
theorem rng1 {b : Int} {h : Hh} (h3 : -1000000 ≤ b) (h4 : b ≤ 2 ^ 61) : rng1I [.int b] h = .ok ⟨rangeV 0 b, []⟩ h := if_pos ⟨by omega, by omega⟩
end Mp

set_option Elab.async false
set_option linter.all false
set_option maxRecDepth 100000
/-! ### least forms, in plain Lean -/
namespace Frm
abbrev P := Option Int × Int
def get (t : List P) (i : Nat) : P := t.getD i (none, 0)
/-- the amount at k of a round, walked on and on -/
def at' (t : List P) (k : Nat) : Option Int := (get t (k % t.length)).1.map fun a => a + ((k / t.length : Nat) : Int) * (get t (k % t.length)).2
def ris (t : List P) (k : Nat) : Int := (get t (k % t.length)).2
/-- a pair that stands at i ahead of one that stands at j, in a round of L -/
def tie (L m : Nat) (i : Nat) (p q : P) : Bool := decide (p.2 = q.2) && match p.1, q.1 with
  | none, none => true
  | some a, some b => decide ((b - a) * (L : Int) = p.2 * ((i : Int) - ((i % m : Nat) : Int)))
  | _, _ => false
def isRound (t : List P) (m : Nat) : Bool := ((List.range' m (t.length - m)).all fun i => tie t.length m i (get t (i % m)) (get t i))
/-- Nones rise by 0 -/
def Zr (t : List P) : Prop := ∀ p ∈ t, p.1 = none → p.2 = 0
def rel (L : Nat) (m : Int) (x y : Option Int) (r : Int) : Prop := match x, y with
  | none, none => True
  | some a, some b => (b - a) * (L : Int) = r * m
  | _, _ => False
/-- comes again after m -/
def Per (t : List P) (m : Nat) : Prop := ∀ k, ris t (k + m) = ris t k ∧ rel t.length m (at' t k) (at' t (k + m)) (ris t k)
end Frm

set_option Elab.async false
set_option linter.all false
set_option maxRecDepth 100000
namespace Frm
/-! ### the least round -/
def thin (t : List P) (m : Nat) : List P := (t.take m).map fun p => (p.1, p.2 * (m : Int) / (t.length : Int))
def good (t : List P) (m : Nat) : Bool := decide (t.length % m = 0) && isRound t m
def leastM (t : List P) : Nat := ((List.range' 1 t.length).find? (good t)).getD t.length
def leastRound (t : List P) : List P := thin t (leastM t)
/-- a round of which no part is one -/
def Least (t : List P) : Prop := ∀ m, 1 ≤ m → m < t.length → t.length % m = 0 → ¬ Per t m
/-! ### the head led back -/
def ahead (p : P) : Option Int := p.1.map fun a => a - p.2
def last (t : List P) : P := t.getLastD (none, 0)
def rot (t : List P) : List P := (ahead (last t), (last t).2) :: t.dropLast
def strip : List (Option Int) → List P → List (Option Int) × List P
  | [], t => ([], t)
  | a :: r, t => if a = ahead (last t) then strip r (rot t) else (a :: r, t)
end Frm

set_option Elab.async false
set_option linter.all false
set_option maxRecDepth 100000
namespace Mp
open PySem PyProof.Rows
/-! ### tables, as Lean has them -/
def encA : Option Int → Val
  | none => .non
  | some i => .int i
@[simp] theorem encA_none : encA none = .non := rfl
@[simp] theorem encA_some (i : Int) : encA (some i) = .int i := rfl
structure Tab where
  head : List (Option Int)
  turn : List (Option Int × Int)
def okA : Option Int → Prop
  | none => True
  | some i => 0 ≤ i
def okP (p : Option Int × Int) : Prop := 0 ≤ p.2 ∧ p.2 < 2 ^ 60 ∧ match p.1 with
  | none => p.2 = 0
  | some i => 0 ≤ i
structure Tab.Ok (T : Tab) : Prop where
  h1 : T.head.length ≤ 1000
  l1 : 1 ≤ T.turn.length
  l2 : T.turn.length ≤ 120
  ha : ∀ a ∈ T.head, okA a
  hp : ∀ p ∈ T.turn, okP p
def Tab.val (T : Tab) (n : Nat) : Option Int := if n < T.head.length then T.head.getD n none else Frm.at' T.turn (n - T.head.length)
theorem belL_map {α : Type} {f : α → Val} {l : List α} {n : Nat} (h : ∀ x ∈ l, (f x).bel n = true) : belL n (l.map f) = true := belL_get.mpr fun v hv => by
  obtain ⟨x, hx, rfl⟩ := List.mem_map.mp hv
  exact h x hx
/-! ### the least form of a table -/
def Tab.least (T : Tab) : Tab := ⟨(Frm.strip T.head.reverse (Frm.leastRound T.turn)).1.reverse, (Frm.strip T.head.reverse (Frm.leastRound T.turn)).2⟩
end Mp

set_option Elab.async false
set_option linter.all false
set_option maxRecDepth 100000
namespace Mp
open PySem PyProof.Rows
/-! ### == of what Lean types hold -/
structure PD {α : Type} [DecidableEq α] (f : α → Val) (d : Nat) : Prop where
  ex : ∃ g : α → PyData, ∀ a, (f a).pd = some (g a) ∧ (g a).canLay0 = true ∧ (g a).depth ≤ d ∧ ∀ b, PyData.eqv (g a) (g b) = decide (a = b)
theorem pd_not_ref {v : Val} {d : PyData} (h : v.pd = some d) (H : Hh) : pdOf v H = some d := by
  cases v with
  | ref n => unfold Val.pd at h; cases h
  | _ => exact h
section
variable {α β : Type} [DecidableEq α] [DecidableEq β] {f : α → Val} {f' : β → Val} {d e : Nat} {h : Hh}
theorem eq_pd (p : PD f d) (hd : d ≤ 64) (a b : α) : eqP (f a) (f b) h = .ok (.bl (decide (a = b))) h := by
  obtain ⟨g, hg⟩ := p.ex
  obtain ⟨a1, a2, a3, a4⟩ := hg a
  obtain ⟨b1, b2, b3, _⟩ := hg b
  unfold eqP
  rw [pd_not_ref a1, pd_not_ref b1]
  dsimp only
  have s1 : SeqAt.shaped (g a) = true := by unfold SeqAt.shaped; rw [a2, decide_eq_true (by omega)]; rfl
  have s2 : SeqAt.shaped (g b) = true := by unfold SeqAt.shaped; rw [b2, decide_eq_true (by omega)]; rfl
  rw [if_pos ⟨s1, s2⟩, a4]
theorem ne_pd (p : PD f d) (hd : d ≤ 64) (a b : α) : neP (f a) (f b) h = .ok (.bl (!decide (a = b))) h := by
  obtain ⟨g, hg⟩ := p.ex
  obtain ⟨a1, a2, a3, a4⟩ := hg a
  obtain ⟨b1, b2, b3, _⟩ := hg b
  unfold neP
  rw [pd_not_ref a1, pd_not_ref b1]
  dsimp only
  have s1 : SeqAt.shaped (g a) = true := by unfold SeqAt.shaped; rw [a2, decide_eq_true (by omega)]; rfl
  have s2 : SeqAt.shaped (g b) = true := by unfold SeqAt.shaped; rw [b2, decide_eq_true (by omega)]; rfl
  rw [if_pos ⟨s1, s2⟩, a4]
theorem pd_int : PD Val.int 0 := ⟨PyData.int, fun a => ⟨rfl, by simp [PyData.canLay0], by simp [PyData.depth], fun b => by simp [PyData.eqv]; exact Bool.eq_iff_iff.mpr (by simp)⟩⟩
theorem pd_optInt : PD (fun a : Option Int => (match a with | none => Val.non | some i => Val.int i)) 0 :=
  ⟨fun a => match a with | none => .none | some i => .int i, fun a => by
    cases a with
    | none => exact ⟨rfl, by simp [PyData.canLay0], by simp [PyData.depth], fun b => by cases b <;> simp [PyData.eqv]⟩
    | some i => exact ⟨rfl, by simp [PyData.canLay0], by simp [PyData.depth], fun b => by
        cases b with
        | none => simp [PyData.eqv]
        | some j => simp [PyData.eqv]; exact Bool.eq_iff_iff.mpr (by simp)⟩⟩
theorem pdL_map {g : α → PyData} (hg : ∀ a, (f a).pd = some (g a)) : ∀ l : List α, pdL (l.map f) = some (l.map g)
  | [] => rfl
  | a :: l => by
    rw [List.map_cons, pdL, hg a, pdL_map hg l]
    rfl
theorem lay_map {g : α → PyData} (hg : ∀ a, (g a).canLay0 = true ∧ (g a).depth ≤ d) : ∀ l : List α, PyData.canLayAll0 (l.map g) = true ∧ PyData.depthAll (l.map g) ≤ d
  | [] => by simp [PyData.canLayAll0, PyData.depthAll]
  | a :: l => by
    obtain ⟨h1, h2⟩ := lay_map hg l
    obtain ⟨h3, h4⟩ := hg a
    simp only [List.map_cons, PyData.canLayAll0, PyData.depthAll, h1, h3, Bool.and_self, true_and]
    omega
theorem eqvAll_map {g : α → PyData} (hg : ∀ a b, PyData.eqv (g a) (g b) = decide (a = b)) : ∀ l r : List α, PyData.eqvAll (l.map g) (r.map g) = decide (l = r)
  | [], [] => by simp [PyData.eqvAll]
  | [], _ :: _ => by simp [PyData.eqvAll]
  | _ :: _, [] => by simp [PyData.eqvAll]
  | a :: l, b :: r => by
    rw [List.map_cons, List.map_cons, PyData.eqvAll, hg a b, eqvAll_map hg l r]
    simp
theorem pd_list (p : PD f d) : PD (fun l : List α => Val.tup (l.map f)) (d + 1) := by
  obtain ⟨g, hg⟩ := p.ex
  refine ⟨fun l => .tuple (l.map g), fun l => ?_⟩
  obtain ⟨h1, h2⟩ := lay_map (d := d) (g := g) (fun a => ⟨(hg a).2.1, (hg a).2.2.1⟩) l
  refine ⟨?_, ?_, ?_, fun r => ?_⟩
  · unfold Val.pd
    rw [pdL_map (g := g) (fun a => (hg a).1)]
    rfl
  · simp only [PyData.canLay0, h1]
  · simp only [PyData.depth]; omega
  · simp only [PyData.eqv]
    exact eqvAll_map (fun a b => (hg a).2.2.2 b) l r
theorem pd_via {γ : Type} [DecidableEq γ] (p : PD f d) (k : γ → α) (hk : ∀ a b, k a = k b → a = b) : PD (fun c => f (k c)) d := by
  obtain ⟨g, hg⟩ := p.ex
  refine ⟨fun c => g (k c), fun c => ?_⟩
  obtain ⟨a1, a2, a3, a4⟩ := hg (k c)
  exact ⟨a1, a2, a3, fun b => by rw [a4]; exact decide_eq_decide.mpr ⟨hk _ _, fun e => by rw [e]⟩⟩
end
instance : DecidableEq Tab := fun a b => decidable_of_iff (a.head = b.head ∧ a.turn = b.turn) (by cases a; cases b; simp)
end Mp

set_option Elab.async false
set_option linter.all false
set_option maxRecDepth 100000
/-! ### the least round by second differences -/
namespace Frm
def goes (x y z : Option Int) : Bool := match x, y, z with
  | none, none, none => true
  | some a, some b, some c => decide (b - a = c - b)
  | _, _, _ => false
section
variable {v ρ : Nat → Int} {L s : Nat}
theorem per_many {α : Type} {f : Nat → α} {m : Nat} (h : ∀ k, f (k + m) = f k) : ∀ q k, f (k + q * m) = f k
  | 0, k => by rw [Nat.zero_mul, Nat.add_zero]
  | q + 1, k => by rw [Nat.add_mul, Nat.one_mul, ← Nat.add_assoc, h, per_many h q k]
theorem per_mod {α : Type} {f : Nat → α} {m : Nat} (h : ∀ k, f (k + m) = f k) (k : Nat) : f k = f (k % m) := by
  have := per_many h (k / m) (k % m)
  rw [Nat.mul_comm, Nat.mod_add_div] at this
  exact this
theorem arith {δ : Int} {f : Nat → Int} {k : Nat} (h : ∀ q, f (k + (q + 1) * s) = f (k + q * s) + δ) : ∀ q : Nat, f (k + q * s) = f k + (q : Int) * δ
  | 0 => by simp
  | q + 1 => by
    rw [h q, arith h q, Int.natCast_add, Int.add_mul]
    simp
    omega
theorem second (hL : 1 ≤ L) (hρ : ∀ k, ρ (k + L) = ρ k) (hv : ∀ k, v (k + L) = v k + ρ k) (hg : ∀ k, k < 2 * L → v (k + 2 * s) - v (k + s) = v (k + s) - v k) :
    (∀ k, ρ (k + s) = ρ k) ∧ ∀ k, v (k + 2 * s) - v (k + s) = v (k + s) - v k := by
  have g1 : ∀ k, ρ (k + 2 * s) - ρ (k + s) = ρ (k + s) - ρ k := by
    have lo : ∀ k, k < L → ρ (k + 2 * s) - ρ (k + s) = ρ (k + s) - ρ k := fun k hk => by
      have a1 := hg k (by omega)
      have a2 := hg (k + L) (by omega)
      rw [show k + L + 2 * s = (k + 2 * s) + L by omega, show k + L + s = (k + s) + L by omega, hv, hv, hv] at a2
      omega
    intro k
    have e : ∀ c, ρ (k + c) = ρ (k % L + c) := fun c => by
      have := per_mod hρ (k + c)
      have t := per_mod hρ (k % L + c)
      rw [this, t, Nat.mod_add_mod]
    have e0 := e 0
    simp only [Nat.add_zero] at e0
    rw [e (2 * s), e s, e0]
    exact lo _ (Nat.mod_lt _ (by omega))
  have g2 : ∀ k, ρ (k + s) = ρ k := fun k => by
    have st : ∀ q, ρ (k + (q + 1) * s) = ρ (k + q * s) + (ρ (k + s) - ρ k) := fun q => by
      induction q with
      | zero => simp; omega
      | succ q ih =>
        have := g1 (k + q * s)
        rw [show k + (q + 1 + 1) * s = k + q * s + 2 * s by rw [Nat.add_mul, Nat.add_mul]; omega, show k + (q + 1) * s = k + q * s + s by rw [Nat.add_mul]; omega] at *
        omega
    have a := arith st L
    have b := per_many hρ s k
    rw [Nat.mul_comm] at b
    rw [b] at a
    have c : (L : Int) * (ρ (k + s) - ρ k) = 0 := by omega
    rcases Int.mul_eq_zero.mp c with z | z
    · omega
    · omega
  refine ⟨g2, ?_⟩
  have step : ∀ k, v (k + L + 2 * s) - v (k + L + s) - (v (k + L + s) - v (k + L)) = v (k + 2 * s) - v (k + s) - (v (k + s) - v k) := fun k => by
    rw [show k + L + 2 * s = (k + 2 * s) + L by omega, show k + L + s = (k + s) + L by omega, hv, hv, hv]
    have := g1 k
    omega
  intro k
  have e := per_mod (f := fun k => v (k + 2 * s) - v (k + s) - (v (k + s) - v k)) (m := L) step k
  have z := hg (k % L) (by have := Nat.mod_lt k (show L > 0 by omega); omega)
  omega
end
end Frm

set_option Elab.async false
set_option linter.all false
set_option maxRecDepth 100000
namespace Frm
/-- a round begun one later -/
def rotL : List P → List P
  | [] => []
  | p :: t => t ++ [(p.1.map fun a => a + p.2, p.2)]
end Frm
namespace Mp
/-- told one length further in the head -/
def Tab.more (T : Tab) : Tab := ⟨T.head ++ [Frm.at' T.turn 0], Frm.rotL T.turn⟩
/-- the least form by hand -/
def Tab.strip (T : Tab) : Tab := ⟨(Frm.strip T.head.reverse T.turn).1.reverse, (Frm.strip T.head.reverse T.turn).2⟩
structure Tab.L (T : Tab) : Prop where
  l : 1 ≤ T.turn.length
  z : Frm.Zr T.turn
  le : Frm.Least T.turn
end Mp

set_option Elab.async false
set_option linter.all false
set_option maxRecDepth 100000
namespace Mp
/-! ### a law's own least form: second differences, led back -/
end Mp

set_option Elab.async false
set_option linter.all false
set_option maxRecDepth 100000
namespace Mp
/-! ### lines: the least number t with q * t at least p * n and lift together -/
def line (p : Int) (q : Nat) (lift : Int) (n : Nat) : Int := max 0 (-(-(p * (n : Int) + lift) / (q : Int)))
end Mp

set_option Elab.async false
set_option linter.all false
set_option maxRecDepth 100000
namespace Mp
open PySem PySem.Spec PyProof.Rows L2
/-! ### loops and comprehensions by typed items: rules to rewrite with -/
section
variable {α σ : Type} {g : Gv} {b : Sv}
/-- a loop that goes on, its state carried: E the names, M the lists -/
theorem for_fold (enc : α → Val) (E : σ → Env) (M : σ → Hh) (f : σ → α → σ) (P : σ → Prop) : ∀ (l : List α) (s : σ), P s →
    (∀ a ∈ l, ∀ s, P s → P (f s a) ∧ ∃ e1, g (enc a) (E s) (M s) = .ok e1 (M s) ∧ (b e1 (M s) = .nx (E (f s a)) (M (f s a)) ∨ b e1 (M s) = .ct (E (f s a)) (M (f s a)))) →
    forL g b [] (l.map enc) (E s) (M s) = .nx (E (l.foldl f s)) (M (l.foldl f s)) ∧ P (l.foldl f s)
  | [], s, hP, _ => by rw [List.map_nil, forL_nil]; exact ⟨rfl, hP⟩
  | a :: l, s, hP, hb => by
    obtain ⟨h1, e1, h2, h3⟩ := hb a List.mem_cons_self s hP
    have ih := for_fold enc E M f P l (f s a) h1 fun x hx => hb x (List.mem_cons_of_mem _ hx)
    rw [List.map_cons, forL_cons, h2, lift_ok]
    rcases h3 with h3 | h3 <;> rw [h3] <;> exact ih
/-- a loop by an invariant of names and lists -/
theorem for_inv {enc : α → Val} (I : Env → Hh → Prop) : ∀ {l : List α} {env : Env} {h : Hh}, I env h → (∀ a ∈ l, ∀ e m, I e m → ∃ e1, g (enc a) e m = .ok e1 m ∧ ∃ e2 m2, I e2 m2 ∧ (b e1 m = .nx e2 m2 ∨ b e1 m = .ct e2 m2)) →
    ∃ e m, I e m ∧ forL g b [] (l.map enc) env h = .nx e m
  | [], env, h, hI, _ => ⟨env, h, hI, by rw [List.map_nil, forL_nil]⟩
  | a :: l, env, h, hI, hb => by
    obtain ⟨e1, h2, e2, m2, hI2, h3⟩ := hb a List.mem_cons_self env h hI
    obtain ⟨e, m, hE, ih⟩ := for_inv I (l := l) hI2 fun x hx => hb x (List.mem_cons_of_mem _ hx)
    refine ⟨e, m, hE, ?_⟩
    rw [List.map_cons, forL_cons, h2, lift_ok]
    rcases h3 with h3 | h3 <;> rw [h3] <;> exact ih
end
section
variable {α : Type} {own : List Nat} {it : Iev} {tg : Gv} {tt : Tv} {el : Ev} {env : Env} {h : Hh}
theorem compE (enc F : α → Val) (l : List α) (e0 : it env h = .ok ⟨l.map enc, []⟩ h) (hz : l.length ≤ 1000000) (hb : ∀ a ∈ l, ∃ e1, tg (enc a) (wipeE env own) h = .ok e1 h ∧ el e1 h = .ok (F a) h) :
    eComp false own it tg tTrue el env h = .ok (.lst (l.map F)) h := by
  refine x_comp e0 ?_
  have go : ∀ (l : List α) (acc : List Val), (∀ a ∈ l, ∃ e1, tg (enc a) (wipeE env own) h = .ok e1 h ∧ el e1 h = .ok (F a) h) → acc.length + l.length ≤ sizeLine → compL tg tTrue el [] (l.map enc) acc (wipeE env own) h = .ok (acc ++ l.map F) h := by
    intro l
    induction l with
    | nil => intro acc _ _; rw [List.map_nil, compL_nil, List.map_nil, List.append_nil]
    | cons a l ih =>
      intro acc hb hz
      rw [List.length_cons] at hz
      obtain ⟨e1, h1, h2⟩ := hb a List.mem_cons_self
      rw [List.map_cons, compL_cons, h1]
      dsimp only
      rw [x_tTrue]
      dsimp only
      rw [h2]
      dsimp only
      rw [if_pos (by omega), ih _ (fun x hx => hb x (List.mem_cons_of_mem _ hx)) (by rw [List.length_append, List.length_singleton]; omega), List.append_assoc]
      rfl
  exact go l [] hb (Nat.le_trans (by simpa using hz) (by rw [sizeLine_eq]; decide))
theorem compF (enc F : α → Val) (p : α → Bool) (l : List α) (e0 : it env h = .ok ⟨l.map enc, []⟩ h) (hz : l.length ≤ 1000000) (hb : ∀ a ∈ l, ∃ e1, tg (enc a) (wipeE env own) h = .ok e1 h ∧ tt e1 h = .ok (p a) h ∧ (p a = true → el e1 h = .ok (F a) h)) :
    eComp false own it tg tt el env h = .ok (.lst ((l.filter p).map F)) h := by
  refine x_comp e0 ?_
  have go : ∀ (l : List α) (acc : List Val), (∀ a ∈ l, ∃ e1, tg (enc a) (wipeE env own) h = .ok e1 h ∧ tt e1 h = .ok (p a) h ∧ (p a = true → el e1 h = .ok (F a) h)) → acc.length + l.length ≤ sizeLine → compL tg tt el [] (l.map enc) acc (wipeE env own) h = .ok (acc ++ (l.filter p).map F) h := by
    intro l
    induction l with
    | nil => intro acc _ _; rw [List.map_nil, compL_nil, List.filter_nil, List.map_nil, List.append_nil]
    | cons a l ih =>
      intro acc hb hz
      rw [List.length_cons] at hz
      obtain ⟨e1, h1, h2, h3⟩ := hb a List.mem_cons_self
      rw [List.map_cons, compL_cons, h1]
      dsimp only
      rw [h2]
      cases q : p a with
      | false =>
        dsimp only
        rw [ih _ (fun x hx => hb x (List.mem_cons_of_mem _ hx)) (by omega), List.filter_cons_of_neg (by rw [q]; decide)]
      | true =>
        dsimp only
        rw [h3 q]
        dsimp only
        rw [if_pos (by omega), ih _ (fun x hx => hb x (List.mem_cons_of_mem _ hx)) (by rw [List.length_append, List.length_singleton]; omega), List.append_assoc, List.filter_cons_of_pos q]
        rfl
  exact go l [] hb (Nat.le_trans (by simpa using hz) (by rw [sizeLine_eq]; decide))
end
/-! ### ranges by naturals -/
theorem rangeV_nat (a n : Nat) : rangeV (a : Int) ((a : Int) + (n : Int)) = (List.range' a n).map fun (i : Nat) => Val.int (i : Int) := by
  unfold rangeV
  rw [List.range'_eq_map_range, List.map_map, show ((a : Int) + (n : Int) - (a : Int)).toNat = n by omega]
  refine List.map_congr_left fun i _ => ?_
  show Val.int ((a : Int) + (i : Int)) = Val.int ((a + i : Nat) : Int)
  rw [Int.natCast_add]
theorem rangeV_0 (n : Nat) : rangeV 0 (n : Int) = (List.range n).map fun (i : Nat) => Val.int (i : Int) := by
  have := rangeV_nat 0 n
  rw [← List.range_eq_range'] at this
  rw [← this]
  congr 1
  omega
/-- range over naturals, below a bound that the machine takes -/
theorem rg1 {n : Nat} {h : Hh} (hn : n ≤ 1000000000) : rng1I [.int (n : Int)] h = .ok ⟨(List.range n).map fun (i : Nat) => Val.int (i : Int), []⟩ h := by
  rw [← rangeV_0]; exact rng1 (by omega) (by omega)
/-! ### the lists made last -/
@[simp] theorem mk_f' (l : List Val) (h : Hh) : mk false l h = .ok (.lst l) h := rfl
@[simp] theorem mk_t (l : List Val) (h : Hh) : mk true l h = .ok (.ref h.length) (h ++ [.lst l]) := rfl
theorem app_end {l : List Val} {v : Val} {h : Hh} {n : Nat} (hn : n = h.length) (hl : l.length < 1000000) (hv : v.bel 0 = true) : appP (.ref n) [v] (h ++ [.lst l]) = .ok .non (h ++ [.lst (l ++ [v])]) := by
  subst hn
  unfold appP
  dsimp only
  have e : (h ++ [Ob.lst l])[h.length]? = some (.lst l) := by simp
  rw [e]
  dsimp only
  rw [if_pos ⟨Nat.lt_of_lt_of_le hl (by rw [sizeLine_eq]; decide), bel_mono (Nat.zero_le _) v hv⟩]
  simp
theorem lsq_end {l : List Val} {h : Hh} {n : Nat} (hn : n = h.length) : lsq (.ref n) (h ++ [.lst l]) = some l := by
  subst hn
  unfold lsq
  have e : (h ++ [Ob.lst l])[h.length]? = some (.lst l) := by simp
  dsimp only
  rw [e]
theorem tuple_end {l : List Val} {h : Hh} {n : Nat} (hn : n = h.length) : tupleP [.ref n] (h ++ [.lst l]) = .ok (.tup l) (h ++ [.lst l]) := by
  unfold tupleP
  dsimp only
  rw [lsq_end hn]
@[simp] theorem tuple_lst (l : List Val) (h : Hh) : tupleP [.lst l] h = .ok (.tup l) h := rfl
@[simp] theorem tuple_tup (l : List Val) (h : Hh) : tupleP [.tup l] h = .ok (.tup l) h := rfl
@[simp] theorem list_tup' (l : List Val) (h : Hh) : listP false [.tup l] h = .ok (.lst l) h := rfl
@[simp] theorem list_lst' (l : List Val) (h : Hh) : listP false [.lst l] h = .ok (.lst l) h := rfl
@[simp] theorem take_end (h t : Hh) : (h ++ t).take h.length = h := List.take_left
@[simp] theorem neg_int' (a : Int) (h : Hh) : negP (.int a) h = .ok (.int (-a)) h := rfl
@[simp] theorem x_raiseA (n : Nat) (f : Str) (a : Ev) {env : Env} {h : Hh} : sRaiseA n f a env h = lift (a env h) env fun v h1 => .exc ⟨n, [(f, v)]⟩ env h1 := rfl
@[simp] theorem x_tryA (L : List Nat) (s : Sv) (hs : List (Nat × Option Nat × (Ex → Sv))) {env : Env} {h : Hh} : sTryA L s hs env h = match s env h with
  | .exc x e h1 => catchA L hs x e h1
  | .nx e h1 => .nx e h1
  | .rt v h1 => .rt v h1
  | .bk e h1 => .bk e h1
  | .ct e h1 => .ct e h1
  | .bad => .bad := rfl
theorem run_excA {N : Nat} {b : Sv} {args : List Val} {x : Nat} {f : Str} {i : Int} {en : Env} {h h1 : Hh} (e : b (args.map some ++ List.replicate (N - args.length) none) h = .exc ⟨x, [(f, .int i)]⟩ en h1) (hh : h1.take h.length = h) : runFn N b args h = .exc ⟨x, [(f, .int i)]⟩ h := by
  unfold runFn
  rw [e]
  show finX h ⟨x, [(f, .int i)]⟩ h1 = _
  unfold finX
  rw [if_pos (by simp [Val.bel]), hh]
theorem szz {n : Nat} (h : n ≤ 1000000) : (n ≤ sizeLine) = True := eq_true (Nat.le_trans h (by rw [sizeLine_eq]; decide))
end Mp

set_option Elab.async false
set_option linter.all false
set_option maxRecDepth 100000
set_option maxHeartbeats 2000000
namespace Mp
variable [Tb]
open PySem PySem.Spec PyProof.Rows L2
/-! ### min(xs, key = f), f a def of the program: keys are ints or tuples of ints -/
def tlt : Val → Val → Option Bool
  | .int i, .int j => some (decide (i < j))
  | .tup a, .tup b => match intsOf a, intsOf b with
    | some x, some y => some (HT.lexLt x y)
    | _, _ => none
  | _, _ => none
open Classical in
noncomputable def minKL (g : List Val → Hh → R Val) (c : List (Nat × List Val)) : Val → Val → List Val → Hh → R Val
  | b, kb, [], h => if chkOk c h then .ok b h else .bad
  | b, kb, x :: r, h => if chkOk c h then match g [x] h with
      | .ok k h1 => match tlt k kb with
        | some true => minKL g c x k r h1
        | some false => minKL g c b kb r h1
        | none => .bad
      | _ => .bad
    else .bad
noncomputable def minK (g : List Val → Hh → R Val) (v : Val) (h : Hh) : R Val := match lsq v h with
  | some (x :: r) => match g [x] h with
    | .ok k h1 => minKL g (chkOf v h) x k r h1
    | _ => .bad
  | _ => .bad
noncomputable def eMinK (g : List Val → Hh → R Val) (a : Ev) : Ev := fun env h => (a env h).bnd fun v h1 => minK g v h1
section
variable {X : Cx} {pins : List (Addr × Obj)} {σ : St} {H : Hp} {s : Shared}
end
section
variable {X : Cx} {W : WX} {a : Expr} {ea : Ev} {p p2 kp pos : Pos}
end
/-! running it -/
@[simp] theorem x_minK (g : List Val → Hh → R Val) (a : Ev) {env : Env} {h : Hh} : eMinK g a env h = (a env h).bnd fun v h1 => minK g v h1 := rfl
end Mp


set_option Elab.async false
set_option linter.all false
set_option maxRecDepth 100000
open PySem PySem.Spec PyProof.Rows L2
namespace Mp
variable [Tb]
/-! ### tuple * number: none of it, one of it -/
omit [Tb] in
theorem tup_mul0 (l : Addr) (items : Array Value) (n : Nat) (dd : Option Addr) (sl : Array (Option Value)) (x : Int) (u : Tok) (c0 : (decide (x < -(2 ^ 63)) || decide (x ≥ 2 ^ 63)) = false) (c1 : (items.isEmpty || x == 1) = false) (c2 : (decide (x ≤ 0) || items.isEmpty) = true) :
    Meets (Builtin.«tuple.__mul__» ⟨[.ref l, .int x u], []⟩) (fun _ R s => s.heap.get? l = some { cls := .type "tuple", dict := dd, data := .seq items n, slots := sl } ∧
      R (.ok (.ret (Value.ref s.heap.objs.size))) { s with heap := s.heap.push { cls := Value.type "tuple", data := Data.seq #[] }, toks := s.toks }) :=
  .of_wp fun prog w A R s h => by
    obtain ⟨hp, g, d, tk, os⟩ := s
    obtain ⟨hl, h⟩ := h
    have f1 := AutoSeq1.idx_int
    wp_walk using wpAny_loadPart' hl
    repeat (first
      | (refine wpAny_ite_false (decide_eq_false (by rw [c0]; exact Bool.false_ne_true)) ?_; wp_walk using wpAny_loadPart' hl)
      | (refine wpAny_ite_false (decide_eq_false (by rw [c1]; exact Bool.false_ne_true)) ?_; wp_walk using wpAny_loadPart' hl)
      | (refine wpAny_ite_true (decide_eq_true c2) ?_; wp_walk using wpAny_loadPart' hl))
    exact ⟨_, rfl, h⟩
omit [Tb] in
theorem tup_mul1 (l : Addr) (items : Array Value) (n : Nat) (dd : Option Addr) (sl : Array (Option Value)) (x : Int) (u : Tok) (c0 : (decide (x < -(2 ^ 63)) || decide (x ≥ 2 ^ 63)) = false) (c1 : (items.isEmpty || x == 1) = true) :
    Meets (Builtin.«tuple.__mul__» ⟨[.ref l, .int x u], []⟩) (fun _ R s => s.heap.get? l = some { cls := .type "tuple", dict := dd, data := .seq items n, slots := sl } ∧
      R (.ok (.ret (Value.ref l))) s) :=
  .of_wp fun prog w A R s h => by
    obtain ⟨hp, g, d, tk, os⟩ := s
    obtain ⟨hl, h⟩ := h
    have f1 := AutoSeq1.idx_int
    wp_walk using wpAny_loadPart' hl
    repeat (first
      | (refine wpAny_ite_false (decide_eq_false (by rw [c0]; exact Bool.false_ne_true)) ?_; wp_walk using wpAny_loadPart' hl)
      | (refine wpAny_ite_true (decide_eq_true c1) ?_; wp_walk using wpAny_loadPart' hl))
    exact ⟨_, rfl, h⟩
/-- tuple * int, of no more than one -/
def rRep01 (K : PySem.W.Frag) : R2 := fun x y H Q => ∃ a n vs, x = .ref a ∧ y = .int n ∧ SqT K H a vs ∧ -(2 ^ 63) ≤ n ∧ n < 2 ^ 63 ∧ (((vs = [] ∨ n = 1) ∧ Q (.ref a) H) ∨ (vs ≠ [] ∧ n ≤ 0 ∧ ∀ q, H q = none → Q (.ref q) (upd H q (.tup []))))
theorem op_rep01 {X : Cx} : OpR X (binaryOp .Mult) (rRep01 X.K) := by
  intro pins s σ H x y v u Q I rx ry hq
  obtain ⟨a, n, vs, rfl, rfl, tT, low, high, fin⟩ := hq
  cases rx
  obtain ⟨tk, rfl⟩ := ry
  obtain ⟨ws, rv, ⟨⟨c0, d0, da, so⟩, lk, ec, m, ed⟩, hz⟩ := I.tuple tT
  simp only at ec ed
  subst ec ed
  have len : ws.length = vs.length := rv.length.symm
  have outer := int_rmul_tuple n tk a ws.toArray m d0 so
  refine wpAny_binaryOp_repeat_ref (T := "tuple") (U := "int") (by decide) ⟨_, lk, rfl⟩ (fun s' => typeIs_int s' n tk) noFill_tuple_mul F.fills_int_mul F.slot_int_rmul repeat_tuple F.slot_int_index.lookup ?_
  refine call_meets F.slot_int_rmul (typeIs_int s n tk) F.entry_int_rmul (F.args_int_rmul_2 _ _) outer ⟨lk, rfl, ⟨_, lk, rfl⟩, ?_⟩
  have e0 : (decide (n < -(2 ^ 63)) || decide (n ≥ 2 ^ 63)) = false := by
    rw [decide_eq_false (by omega), decide_eq_false (by omega)] <;> rfl
  rcases fin with ⟨e, fin⟩ | ⟨nE, e, fin⟩
  · have e1 : (ws.toArray.isEmpty || n == 1) = true := by
      rcases e with e | e
      · subst e
        cases ws with
        | nil => rfl
        | cons _ _ => cases len
      · subst e; simp
    have inner := tup_mul1 a ws.toArray m d0 so n tk e0 e1
    refine call_meets F.slot_tuple_mul ⟨_, lk, rfl⟩ F.entry_tuple_mul (F.args_tuple_mul_2 _ _) inner ⟨lk, ?_⟩
    exact ⟨.ref a, H, I, rfl, fin⟩
  · have nW : ws ≠ [] := fun z => nE (List.eq_nil_of_length_eq_zero (by rw [← len, z]; rfl))
    have em : ws.toArray.isEmpty = false := by
      cases ws with
      | nil => exact absurd rfl nW
      | cons _ _ => rfl
    have e1 : (ws.toArray.isEmpty || n == 1) = false := by
      rw [em, Bool.false_or]; exact beq_eq_false_iff_ne.mpr (by omega)
    have e2 : (decide (n ≤ 0) || ws.toArray.isEmpty) = true := by
      rw [decide_eq_true e]; rfl
    have inner := tup_mul0 a ws.toArray m d0 so n tk e0 e1 e2
    refine call_meets F.slot_tuple_mul ⟨_, lk, rfl⟩ F.entry_tuple_mul (F.args_tuple_mul_2 _ _) inner ⟨lk, ?_⟩
    refine ⟨.ref s.heap.objs.size, _, I.laid (t' := s.toks) (o := .tup []) (fun b ob z => Heap.get?_push_of_some _ z) (Nat.le_refl _) ⟨?_, _, .nil, IsTup.new _ _⟩, rfl, fin _ (I.hok.fresh (Nat.le_refl _))⟩
    exact Nat.zero_le _
/-- times, of a tuple too any number of times -/
def mulQ (m : Bool) (v w : Val) (h : Hh) : R Val := match v, w with
  | .tup a, .int k => if -(2 ^ 63) ≤ k ∧ ((a = [] ∧ k < 2 ^ 63) ∨ k ≤ 1) then .ok (.tup (List.replicate k.toNat a).flatten) h else mulP m (.tup a) (.int k) h
  | v, w => mulP m v w h
theorem opMulQ {X : Cx} : OpR X (binaryOp .Mult) (fun x y H Q => rRep01 X.K x y H Q ∨ (rI CMul (fun i j => .int (i * j)) x y H Q ∨ rI CMulW (fun i j => .int (i * j)) x y H Q ∨ rRepB X.K x y H Q ∨ rRep x y H Q)) := op_rep01.or opMul
theorem p2_mulQ {K : PySem.W.Frag} (m : Bool) : P2 K (fun x y H Q => rRep01 K x y H Q ∨ (rI CMul (fun i j => .int (i * j)) x y H Q ∨ rI CMulW (fun i j => .int (i * j)) x y H Q ∨ rRepB K x y H Q ∨ rRep x y H Q)) (mulQ m) := by
  intro T μ H v w x y Q E hs r1 r2 q
  unfold mulQ at q
  split at q
  · rename_i a k
    split at q
    · rename_i hk
      obtain ⟨p, xs, rfl, h1, l1⟩ := tup_rep r1
      cases r2
      refine .inl ⟨p, k, xs, rfl, rfl, h1, hk.1, by rcases hk.2 with z | z <;> omega, ?_⟩
      by_cases c : a = [] ∨ k = 1
      · refine .inl ⟨c.imp (fun e => by subst e; cases l1; rfl) id, ?_⟩
        have e : (List.replicate k.toNat a).flatten = a := by
          rcases c with c | c
          · subst c; simp
          · subst c; simp
        rw [e] at q
        exact Post.now q hs r1
      · have c1 : a ≠ [] := fun z => c (.inl z)
        have c2 : k ≤ 0 := by
          rcases hk.2 with z | z
          · exact absurd z.1 c1
          · have : ¬ k = 1 := fun z => c (.inr z)
            omega
        refine .inr ⟨fun e => c1 (by subst e; cases l1; rfl), c2, fun p hp => ?_⟩
        have e : (List.replicate k.toNat a).flatten = [] := by rw [show k.toNat = 0 by omega]; rfl
        rw [e] at q
        exact tup_post rfl hs .nil hp q
    · exact .inr (p2_mul m T μ H _ _ x y Q E hs r1 r2 q)
  · exact .inr (p2_mul m T μ H v w x y Q E hs r1 r2 q)
omit [Tb] in
@[simp] theorem mulQ_int (m : Bool) (a b : Int) (h : Hh) : mulQ m (.int a) (.int b) h = mulP m (.int a) (.int b) h := rfl
omit [Tb] in
@[simp] theorem mulQ_lst (m : Bool) (l : List Val) (w : Val) (h : Hh) : mulQ m (.lst l) w h = mulP m (.lst l) w h := rfl
omit [Tb] in
theorem mulQ_tup {m : Bool} {a : List Val} {k : Int} {h : Hh} (h0 : 0 ≤ k) (h1 : k ≤ 1000000) (h2 : a.length * k.toNat ≤ 1000000) : mulQ m (.tup a) (.int k) h = .ok (.tup (List.replicate k.toNat a).flatten) h := by
  unfold mulQ
  dsimp only
  by_cases c : a = [] ∨ k ≤ 1
  · rw [if_pos ⟨by omega, c.imp (fun e => ⟨e, by omega⟩) id⟩]
  · have c1 : a ≠ [] := fun z => c (.inl z)
    have c2 : ¬ k ≤ 1 := fun z => c (.inr z)
    rw [if_neg fun z => z.2.elim (fun y => c1 y.1) c2]
    unfold mulP
    dsimp only
    rw [if_pos ⟨c1, by omega, h2⟩]
end Mp

set_option Elab.async false
set_option linter.all false
set_option maxRecDepth 100000
open PySem PySem.Spec PyProof.Rows L2
namespace Mp
variable [Tb]
end Mp

set_option Elab.async false
set_option linter.all false
set_option maxRecDepth 100000
namespace Mp
open PySem PySem.Spec PyProof.Rows L2 LamX
variable [Tb]
/-! ### a lambda without parameters, handed to a def that calls it -/
abbrev lamNm (x : Str) : Str := (x ++ ".<locals>.") ++ "<lambda>"
/-- what the making of lambdas in a def asks: its code object, its table, the name -/
structure LamOK (base : Heap) (mg : Str → Option Value) (c P : Addr) (nm : Str) : Prop where
  tab : TabB base mg c P
  mem : (P, nm) ∈ Tb.τ
  uni : ∀ p ∈ Tb.τ, p.1 = P → p.2 = nm
section
variable {X : Cx} {pins : List (Addr × Obj)} {σ : St} {H : Hp} {s : Shared}
/-- the def's own context -/
abbrev zCx (X : Cx) (Ng : List Str) (qg : Str) (sg : Scope) (g : Addr) (cdg : Value) (s : Shared) (H : Hp) (Eg : XK) : Cx := cxOf (L2.CX X.prog X.w) X.prog X.w X.K X.mg X.base Ng qg sg g cdg X.A X.stack s H Eg
theorem pe_thk {Ng : List Str} {qg a : Str} {sg : Scope} {g f c' : Addr} {cdg pm ctv : Value} {ps : Arguments} {body : Expr} {scope : Scope} {k : Nat} {pn : List (Addr × Obj)} {xe : Value → Shared → Prop} {W : WX} {Eg : XK} {env : Env} {eb : Ev} {p1 p2 : Pos}
    (I : Inv X pins σ H s) (L : LamS X.env.scope scope) (hf : s.heap.get? f = some (PySem.W.kla_obj "<lambda>" (X.env.qual ++ "<lambda>") ps body scope (cloFrom X.env.cells scope.names []) pm c' ctv)) (hfn : H f = none) (hfr : f ∉ frs X.stack)
    (bnd : bindArgs (PySem.W.kla_fn "<lambda>" (X.env.qual ++ "<lambda>") ps body scope (cloFrom X.env.cells scope.names []) pm (.ref c') ctv) ⟨[], []⟩ = pure [])
    (tk : Takes ((zCx X Ng qg sg g cdg s H Eg).tr pn xe) W) (hr : RoomG (k + 1) (X.A.deeper (envOfC qg sg s.heap.objs.size g cdg)))
    (hb : ∀ (A : Around) (outer : List PySem.Env) (s : Shared) (H : Hp) (E : XK), RoomG k (A.deeper (lamEnv X scope s.heap.objs.size f c')) → Takes (lamCx X A outer s H E scope f c') (fun cls d _ H => E cls d H) → PE (lamCx X A outer s H E scope f c') body (GE X.K X.mg (fun cls d _ H => E cls d H) eb))
    (hN : Ng[0]? = some a) (hv : Vis sg a) (hd : (a == ("__debug__" : Str)) = false) (hcd : (a == ("__classdict__" : Str)) = false) :
    PE ((zCx X Ng qg sg g cdg s H Eg).tr pn xe) (.Call (.Name a p1) [] [] p2) (fun τ G Q => τ[0]? = some (some (.ref f)) ∧ G c' = some (CodeO c' (X.env.qual ++ "<lambda>")) ∧ ∃ T μ, HSim X.K T μ G ∧ ESim X.K G T env σ ∧ Post X.K (RV X.K) T G (eb env μ) Q (EX X.K X.mg W τ)) := by
  refine ⟨fun pz sz τ G Q J h => ?_⟩
  obtain ⟨at0, hc, T, μ, sim, es, post⟩ := h
  have nameEv := (pe_var (X := (zCx X Ng qg sg g cdg s H Eg).tr pn xe) (pos := p1) (i := 0) hN hv hd hcd).run pz sz τ G (fun v G1 => v = .ref f ∧ G1 = G) J ⟨.ref f, at0, rfl, rfl⟩
  refine wpAny_Call_Name_kw (thn nameEv ?_)
  rintro u s1 ⟨v, G1, J1, rv, rfl, rfl⟩
  cases (show u = Value.ref f from rv)
  have lf := J1.base.keep f _ hf hfn hfr (fun z => nomatch z)
  refine PySem.W.callWith_F0 ⟨_, _, _, _, lf⟩ ?_
  obtain ⟨⟨oc, vs, t, e1, e2, e3⟩, _, _⟩ := J1.hok c' _ hc
  have whole : codeAny (model X.prog X.w) (X.A.deeper (envOfC qg sg s.heap.objs.size g cdg)) (.call (.ref f) ⟨[], []⟩) (CR (L2.CX X.prog X.w) (envOfC qg sg s.heap.objs.size g cdg :: X.stack) X.prog X.w G1 s1 Q (WE W τ)) s1 := by
    refine PySem.W.kla_callFunE hr.room.depth lf rfl L.co L.gen rfl ⟨c', oc, vs, t, rfl, e1, e2, e3⟩ ?_
    rw [bnd]
    refine wpAny_pure (wpAny_newFunctionEnv (fun y hy => (L.own y hy).2) (fun y hy => nomatch hy) ?_ L.kind)
    intro h₁ ns sb
    refine ⟨J1.nolimit.fresh _ sb, ?_⟩
    have kept : ∀ b o, s1.heap.get? b = some o → h₁.get? b = some o := fun b o e => sb.extBut b o (Nat.ne_of_lt (Heap.lt_size e)) (Heap.get?_push_of_some _ e)
    have start := lam_start2 (A := X.A.deeper (envOfC qg sg s.heap.objs.size g cdg)) (outer := envOfC qg sg s.heap.objs.size g cdg :: X.stack) (E := WE W τ) (f := f) (c' := c') (tk := s1.toks) I L J1.env0 hr.room.hd J1.base ns kept
    have bodyPE := hb _ (envOfC qg sg s.heap.objs.size g cdg :: X.stack) s1 G1 (WE W τ) (hr.deeper _) (takes_of (E := WE W τ) rfl rfl rfl rfl)
    refine PySem.W.kla_codeExpr (wpAny_mono (bodyPE.run [] _ _ G1 Q start ⟨T, μ, env, sim, es, post⟩) ?_ fun _ _ q => q)
    rintro r s2 ⟨y, G2, J2, ry, qy⟩
    exact ⟨y, G2, J2.os, J2.bare, J2.base, J2.hok, ry, qy⟩
  · refine wpAny_call (codeAny_mono whole ?_)
    rintro (ex | fl) s2 out
    · exact passAt tk τ pz G1 s1 ex s2 J1 out
    · cases fl with
      | ret u => exact J1.after out
      | next => exact out.elim
      | brk => exact out.elim
      | cont => exact out.elim
end
end Mp

set_option Elab.async false
set_option linter.all false
set_option maxRecDepth 100000
namespace Mp
open PySem PySem.Spec PyProof.Rows L2 LamX
variable [Tb]
/-! ### the def that calls what it got -/
/-- statements, with something more known at their begin -/
def GSp (P : Tr → Hp → St → Prop) (K : PySem.W.Frag) (mg : Str → Option Value) (W : WX) (s : Sv) : TS := fun D σ H => ∃ T μ env, HSim K T μ H ∧ ESim K H T env σ ∧ P T H σ ∧ SPost K mg W T H D (s env μ)
section
variable {X : Cx} {W : WX} {P : Tr → Hp → St → Prop} {st : Stmt} {rest : List Stmt} {s1 s2 sv : Sv} {pos : Pos} {body : List Stmt} {h0 : ExceptHandler} {rows : List ExceptHandler}
theorem gsp_tryA {L : List Nat} {l : List (Nat × Option Nat × (Ex → Sv))} (xt : XT X.K X.mg L) (hs : X.stack = X.env :: X.outer) (hf : X.env.frame = some X.env.locals) (tk : Takes X W)
    (hb : ∀ (W : WX) (pn : List (Addr × Obj)) (xe : Value → Shared → Prop), Takes (X.tr pn xe) W → PassesOwn (model X.prog X.w) X.A X.env xe → PSs (X.tr pn xe) body (GSp P X.K X.mg W sv)) (hh : HdA X L (h0 :: rows) l) : PS X (.Try body (h0 :: rows) [] [] pos) (GSp P X.K X.mg W (sTryA L sv l)) := by
  refine PS.imp (ps_tries (Wh := fun D cls d σ H => ∃ T μ env x, HSim X.K T μ H ∧ ESim X.K H T env σ ∧ XRep X.K X.mg H T x cls d ∧ SPost X.K X.mg W T H D (catchA L l x env μ)) hs hf tk hb fun pz τ G cls xd a Bd w1 w2 Z C w => HdA.serves xt hh C w) fun D σ H ⟨T, μ, env, a1, a2, a3, q⟩ => ⟨T, μ, env, a1, a2, a3, ?_⟩
  unfold sTryA at q
  cases hr : sv env μ with
  | exc x e m =>
    rw [hr] at q
    exact fun T' H' σ' cls d t1 t2 t3 xr => ⟨T', m, e, x, t2, t3, xr, SPost.step q t1⟩
  | nx e m => rw [hr] at q; exact q
  | rt e m => rw [hr] at q; exact q
  | bk e m => rw [hr] at q; exact q
  | ct e m => rw [hr] at q; exact q
  | bad => rw [hr] at q; exact q
theorem gsp_one (h : PS X st (GSp P X.K X.mg W s1)) : PSs X [st] (GSp P X.K X.mg W s1) := pss_one h
end
/-! ### its promise -/
/-- what is known of the closure: its function object f, its code object c, its maker's slots -/
def PAct (K : PySem.W.Frag) (f c : Addr) (q : Str) (env : Env) (τ : St) : Tr → Hp → St → Prop := fun T H σ => σ[0]? = some (some (.ref f)) ∧ H c = some (CodeO c q) ∧ ESim K H T env τ
/-- x() of the parameter, in Z -/
def ActR (Z : Cx) (a : Str) (f c : Addr) (q : Str) (env : Env) (τ : St) (θ : Hh → R Val) : Prop := ∀ (W : WX) (pn : List (Addr × Obj)) (xe : Value → Shared → Prop) (p1 p2 : Pos), Takes (Z.tr pn xe) W →
  PE (Z.tr pn xe) (.Call (.Name a p1) [] [] p2) (fun σ H Q => σ[0]? = some (some (.ref f)) ∧ H c = some (CodeO c q) ∧ ∃ T μ, HSim Z.K T μ H ∧ ESim Z.K H T env τ ∧ Post Z.K (RV Z.K) T H (θ μ) Q (EX Z.K Z.mg W σ))
def eThk (θ : Hh → R Val) : Ev := fun _ h => θ h
section
variable {Z : Cx} {a q : Str} {f c : Addr} {env : Env} {τ : St} {θ : Hh → R Val} {W : WX} {pn : List (Addr × Obj)} {xe : Value → Shared → Prop} {p1 p2 p3 : Pos}
theorem act_ret (A : ActR Z a f c q env τ θ) (tk : Takes (Z.tr pn xe) W) : PS (Z.tr pn xe) (.Return (some (.Call (.Name a p1) [] [] p2)) p3) (GSp (PAct Z.K f c q env τ) Z.K Z.mg W (sRet (eThk θ))) :=
  PS.imp (ps_ret (A W pn xe p1 p2 tk)) fun D σ H ⟨T, μ, e, a1, a2, ⟨b1, b2, b3⟩, r⟩ => ⟨b1, b2, T, μ, a1, b3, SPost.lift (μ := μ) (f := fun v h1 => .rt v h1) a2 r fun v μ1 T1 H1 x s1 hs1 r1 q1 => q1 T1 H1 x (Step.refl _ _) hs1 r1⟩
end
/-- the def called x keeps: its closure's meaning θ, it does g θ -/
structure FnT (P : Program) (w : World) (K : PySem.W.Frag) (mg : Str → Option Value) (base : Heap) (k : Nat) (x : Str) (g : (Hh → R Val) → Hh → R Val) : Prop where
  ex : ∃ (G : Addr) (fd : FuncData) (st : Stmt) (N : List Str) (a : Str) (sv : (Hh → R Val) → Sv), g = (fun θ => runFn N.length (sv θ) []) ∧ mg x = some (.ref G) ∧ Fun K x x st G fd ∧ Binds K fd [a] [] ∧ FnScope N [a] (defScope st) ∧ N[0]? = some a ∧ Vis (defScope st) a ∧ (a == ("__debug__" : Str)) = false ∧ (a == ("__classdict__" : Str)) = false ∧
    ∀ (cdv : Value) (A : Around) (outer : List PySem.Env) (s : Shared) (H : Hp) (E : XK) (f c : Addr) (q : Str) (env : Env) (τ : St) (θ : Hh → R Val),
      RoomG k (A.deeper (envOfC x (defScope st) s.heap.objs.size G cdv)) → ActR (cxOf (L2.CX P w) P w K mg base N x (defScope st) G cdv A outer s H E) a f c q env τ θ → Takes (cxOf (L2.CX P w) P w K mg base N x (defScope st) G cdv A outer s H E) (fun cls d _ H => E cls d H) →
      PassesOwn (model P w) (A.deeper (envOfC x (defScope st) s.heap.objs.size G cdv)) (envOfC x (defScope st) s.heap.objs.size G cdv) (cxOf (L2.CX P w) P w K mg base N x (defScope st) G cdv A outer s H E).xe →
      PSs (cxOf (L2.CX P w) P w K mg base N x (defScope st) G cdv A outer s H E) (defBody st) (GSp (PAct K f c q env τ) K mg (fun cls d _ H => E cls d H) (sv θ))
/-- x(lambda: body) -/
def eLam (g : (Hh → R Val) → Hh → R Val) (eb : Ev) : Ev := fun env h => g (fun m => eb env m) h
theorem start_simE {K : PySem.W.Frag} {T : Tr} {H : Hp} {N : List Str} {vs : List V} (hl : vs.length ≤ N.length) : ESim K H T (List.replicate N.length none) (L2.start N vs) := by
  refine ⟨?_, fun i v e => ?_⟩
  · simp [L2.start]; omega
  · rw [List.getElem?_replicate] at e
    split at e <;> cases e
section
variable {X : Cx} {W : WX}
theorem ge_lam {k j : Nat} {x : Str} {g : (Hh → R Val) → Hh → R Val} {c P : Addr} {ps : Arguments} {body : Expr} {scope : Scope} {eb : Ev} {p lp pos : Pos} (F : FnT X.prog X.w X.K X.mg X.base j x g) (Λ : LamOK X.base X.mg c P (X.env.qual ++ "<lambda>")) (hcode : X.env.code = .ref c)
    (hr : RoomG (k + 2) X.A) (hj : j ≤ k + 1) (tk : Takes X W) (hg : Gl X x) (L : LamS X.env.scope scope) (hdef : defaultsOf ps X.env = ([], []))
    (hbind : ∀ (q : Str) (cl : List (Str × Addr)) (pm cv ctv : Value), bindArgs (PySem.W.kla_fn "<lambda>" q ps body scope cl pm cv ctv) ⟨[], []⟩ = pure [])
    (hb : ∀ (A : Around) (outer : List PySem.Env) (s : Shared) (H : Hp) (E : XK) (f c' : Addr), RoomG k (A.deeper (lamEnv X scope s.heap.objs.size f c')) → Takes (lamCx X A outer s H E scope f c') (fun cls d _ H => E cls d H) → PE (lamCx X A outer s H E scope f c') body (GE X.K X.mg (fun cls d _ H => E cls d H) eb))
    (hdb : (x == ("__debug__" : Str)) = false := by decide) : PE X (.Call (.Name x p) [.Lambda ps body scope lp] [] pos) (GE X.K X.mg W (eLam g eb)) := by
  obtain ⟨G, fd, st, N, a, sv, rfl, hm, Fn, hbd, S, hN0, hva, ha1, ha2, bodyT⟩ := F.ex
  obtain ⟨oc, od, kV, doc, pm, an, cdv, ct, osl, rfl, lk, hcg⟩ := Fn.ex
  refine ⟨fun pins s σ H Q I h => ?_⟩
  obtain ⟨T, μ, env, sim, es, q⟩ := h
  refine wpAny_Call_Name_kw (ld_glob I hg hm ?_ hdb)
  refine PySem.W.callWith_K (h₀ := X.base) I.ok.mod.kin Fn.kp ?_ (by rfl) (by rfl)
  show wpAny _ _ (spliced ((false, eval (.Lambda ps body scope lp) X.env) :: backTo pos (starEach [] X.env))) _ _ s
  refine Calls.spliced_cons (lam_make2 (T := Tb.τ) I Λ.tab hcode Λ.mem Λ.uni sim.tb hdef (L.has I.ok) fun f c' pmv ctv H1 s1 I1 eN tabs hf hfn hfr hco => ?_)
  refine Calls.spliced_nil ⟨I1.kIn, ?_⟩
  have keepO : ∀ b u, H b = some u → (∀ ps, u ≠ .tbl ps) → H1 b = some u := fun b u e n => eN b u e n
  have keepL : ∀ b, lv (H b) = true → H1 b = H b := fun b hl => by
    cases e : H b with
    | none => rw [e] at hl; cases hl
    | some u => exact keepO b u e fun ps z => by rw [e, z] at hl; cases hl
  have sp : Step T H T H1 := ⟨⟨[], by simp, by simp⟩, ⟨[], rfl, by simp⟩, fun b u e _ n => keepO b u e n, fun b hl => by rw [keepL b hl]; exact hl, fun b hb0 _ => by rw [keepL b (sim.tracked hb0)]⟩
  have sim1 : HSim X.K T μ H1 := ⟨sim.len, sim.nd, fun n ob e => by
    obtain ⟨b, e1, r⟩ := sim.obj n ob e
    exact ⟨b, e1, r.step sp (keepL b (sim.tracked (List.mem_of_getElem? e1)))⟩, sim.old, fun b hb0 => sp.liv b (sim.bt b hb0), tabs⟩
  have es1 : ESim X.K H1 T env σ := es.step sp
  have q1 : Post X.K (RV X.K) T H1 (runFn N.length (sv fun m => eb env m) [] μ) Q (EX X.K X.mg W σ) := Post.step q sp
  have fin : codeAny (model X.prog X.w) X.A (.call (.ref G) ⟨[.ref f], []⟩) (CR (L2.CX X.prog X.w) X.stack X.prog X.w H1 s1 Q (WE W σ)) s1 := by
    have bt : BindsTo s1 (PySem.W.fnOf x x (defArgs st) (defBody st) (defScope st) .none kV doc pm an cdv ct) ⟨[.ref f], []⟩ (([a] : List Str).zip [.ref f]) := by simpa using hbd s1 [.ref f] I1.kIn rfl
    refine run_ofS (N := N) (ps := [a]) (us := [.ref f]) (vs := [.ref f]) (k := k + 1) lk hcg S hr.room I1.env0 bt (.cons (show L2.RelV (.ref f) (Value.ref f) from rfl) .nil) rfl fun hr1 => ?_
    have hr2 : RoomG (k + 1) (X.A.deeper (envOfC x (defScope st) s1.heap.objs.size G cdv)) := hr.deeper _
    have act : ActR (zCx X N x (defScope st) G cdv s1 H1 (WE W σ)) a f c' (X.env.qual ++ "<lambda>") env σ (fun m => eb env m) := fun W2 pn xe p1 p2 tk2 =>
      pe_thk (env := env) (eb := eb) I1 L hf hfn hfr (hbind _ _ _ _ _) tk2 hr2 (fun A outer s H E r tk3 => hb A outer s H E f c' r tk3) hN0 hva ha1 ha2
    have der := bodyT cdv X.A X.stack s1 H1 (WE W σ) f c' (X.env.qual ++ "<lambda>") env σ (fun m => eb env m) (hr2.mono hj) act (takes_of rfl rfl rfl rfl) (passes_of rfl)
    refine ⟨_, der, T, μ, List.replicate N.length none, sim1, ?_, ⟨?_, hco, es1⟩, ?_⟩
    · exact start_simE (List.getElem?_eq_some_iff.mp hN0).1
    · have hl : (L2.start N [V.ref f])[0]? = some (some (V.ref f)) := rfl
      exact hl
    · have z := fn_post (K := X.K) (mg := X.mg) (N := N.length) (args := []) (E := WE W σ) sim1 q1
      simpa using z
  refine wpAny_call (codeAny_mono fin ?_)
  rintro (ex | fl) s2 out
  · exact passAt tk σ pins H1 s1 ex s2 I1 out
  · cases fl with
    | ret u => exact I1.after out
    | next => exact out.elim
    | brk => exact out.elim
    | cont => exact out.elim
end
/-! ### the rules for such defs -/
section
variable {P : Program} {w : World} {K : PySem.W.Frag} {mg : Str → Option Value} {base : Heap}
theorem fn_t {x a : Str} {st : Stmt} {N : List Str} {k : Nat} {sv : (Hh → R Val) → Sv} (D : DefG K mg x st [a]) (S : FnScope N [a] (defScope st)) (hN0 : N[0]? = some a) (hva : Vis (defScope st) a)
    (hbody : ∀ (G : Addr) (cdv : Value) (A : Around) (outer : List PySem.Env) (s : Shared) (H : Hp) (E : XK) (f c : Addr) (q : Str) (env : Env) (τ : St) (θ : Hh → R Val),
      RoomG k (A.deeper (envOfC x (defScope st) s.heap.objs.size G cdv)) → ActR (cxOf (L2.CX P w) P w K mg base N x (defScope st) G cdv A outer s H E) a f c q env τ θ → Takes (cxOf (L2.CX P w) P w K mg base N x (defScope st) G cdv A outer s H E) (fun cls d _ H => E cls d H) →
      PassesOwn (model P w) (A.deeper (envOfC x (defScope st) s.heap.objs.size G cdv)) (envOfC x (defScope st) s.heap.objs.size G cdv) (cxOf (L2.CX P w) P w K mg base N x (defScope st) G cdv A outer s H E).xe →
      PSs (cxOf (L2.CX P w) P w K mg base N x (defScope st) G cdv A outer s H E) (defBody st) (GSp (PAct K f c q env τ) K mg (fun cls d _ H => E cls d H) (sv θ)))
    (h1 : (a == ("__debug__" : Str)) = false := by decide) (h2 : (a == ("__classdict__" : Str)) = false := by decide) : FnT P w K mg base k x (fun θ => runFn N.length (sv θ) []) := by
  obtain ⟨G, fd, hm, F, hb⟩ := D.ex
  exact ⟨G, fd, st, N, a, sv, rfl, hm, F, hb, S, hN0, hva, h1, h2, fun cdv => hbody G cdv⟩
/-- a def that makes lambdas: its code object and its table -/
structure DefL (K : PySem.W.Frag) (mg : Str → Option Value) (x : Str) : Prop where
  ex : ∃ f c T oc od fd osl, mg x = some (.ref f) ∧ K.lookup f = some ⟨oc, od, .func fd, osl⟩ ∧ fd.code = .ref c ∧ (c, T, lamNm x) ∈ Tb.cs ∧ ∀ p ∈ Tb.cs, p.2.1 = T → p.2.2 = lamNm x
/-- all that the tables ask of the ground -/
def LamB (base : Heap) (mg : Str → Option Value) : Prop := ∀ p ∈ Tb.cs, TabB base mg p.1 p.2.1
theorem DefL.ok {x : Str} {f : Addr} {fd : FuncData} (D : DefL K mg x) (B : LamB base mg) (hm : mg x = some (.ref f)) (lk : ∃ oc od osl, K.lookup f = some ⟨oc, od, .func fd, osl⟩) : ∃ c T, fd.code = .ref c ∧ LamOK base mg c T (lamNm x) := by
  obtain ⟨f', c, T, oc, od, fd', osl, h1, h2, h3, h4, h5⟩ := D.ex
  cases h1.symm.trans hm
  obtain ⟨_, _, _, lk⟩ := lk
  rw [h2] at lk
  cases lk
  exact ⟨c, T, h3, B _ h4, List.mem_map.mpr ⟨_, h4, rfl⟩, fun p hp e => by
    obtain ⟨r, hr, rfl⟩ := List.mem_map.mp hp
    exact h5 r hr e⟩
theorem fn_gL {x : Str} {st : Stmt} {N ps : List Str} {k n : Nat} {sv : Sv} (D : DefG K mg x st ps) (DL : DefL K mg x) (B : LamB base mg) (S : FnScope N ps (defScope st)) (hn : ps.length = n)
    (hbody : ∀ (f : Addr) (cdv : Value) (A : Around) (outer : List PySem.Env) (s : Shared) (H : Hp) (E : XK) (c T : Addr), cdv = .ref c → LamOK base mg c T (lamNm x) → RoomG k (A.deeper (envOfC x (defScope st) s.heap.objs.size f cdv)) →
      Takes (cxOf (L2.CX P w) P w K mg base N x (defScope st) f cdv A outer s H E) (fun cls d _ H => E cls d H) → PassesOwn (model P w) (A.deeper (envOfC x (defScope st) s.heap.objs.size f cdv)) (envOfC x (defScope st) s.heap.objs.size f cdv) (cxOf (L2.CX P w) P w K mg base N x (defScope st) f cdv A outer s H E).xe →
      PSs (cxOf (L2.CX P w) P w K mg base N x (defScope st) f cdv A outer s H E) (defBody st) (GS K mg (fun cls d _ H => E cls d H) sv)) : FnG P w K mg base (k + 1) x ps n (runFn N.length sv) := by
  obtain ⟨f, fd, hm, F, hb⟩ := D.ex
  have hpl : ps.length ≤ N.length := by have := congrArg List.length S.pre; rw [List.length_take] at this; omega
  obtain ⟨oc, od, kV, doc, pm, an, cdv2, ct, osl, efd, lk, hcd⟩ := F.ex
  obtain ⟨c, T, hc, Λ⟩ := DL.ok B hm ⟨oc, od, osl, lk⟩
  refine ⟨f, fd, hm, F.kp, hb, fn_mk F S (fun vs H Q E ⟨_, _, args, _, r, hl, _⟩ => by rw [r.length, hl, hn]) fun cdv ecd A outer s H vs Q E hr ⟨T2, μ, args, hs, r, hl, q⟩ => ⟨_, hbody f cdv A outer s H E c T (by rw [← ecd, hc]) Λ hr (takes_of rfl rfl rfl rfl) (passes_of rfl), T2, μ, _, hs, start_sim r (by rw [hl, ← hn]; exact hpl), fn_post hs q⟩, oc, od, osl, lk⟩
end
/-! ### defs as values -/
structure NmF (K : PySem.W.Frag) (mg : Str → Option Value) (x : Str) : Prop where
  ex : ∃ f, PySem.W.nsIn K mainGlobals x = some (some (.ref f)) ∧ mg x = some (.ref f)
section
variable {X : Cx} {W : WX}
/-- a call of a name that holds a def: D tells the defs that may be meant -/
abbrev Dsp := List (Str × (List Val → Hh → R Val))
/-- .. each with its promise, for n arguments -/
inductive DspOk (X : Cx) (n k : Nat) : Dsp → Prop
  | nil : DspOk X n k []
  | cons {x : Str} {ps : List Str} {g : List Val → Hh → R Val} {D : Dsp} (N : NmF X.K X.mg x) (F : FnG X.prog X.w X.K X.mg X.base k x ps n g) (r : DspOk X n k D) : DspOk X n k ((x, g) :: D)
theorem DspOk.get {n k : Nat} : ∀ {D : Dsp} {x : Str} {g : List Val → Hh → R Val}, DspOk X n k D → D.lookup x = some g → ∃ ps, NmF X.K X.mg x ∧ FnG X.prog X.w X.K X.mg X.base k x ps n g
  | _, x, g, .nil, e => by cases e
  | _, x, g, .cons (x := y) N F r, e => by
    rw [List.lookup_cons] at e
    split at e
    · rename_i q
      cases e
      rw [beq_iff_eq.mp q]
      exact ⟨_, N, F⟩
    · exact r.get e
end
end Mp

set_option Elab.async false
set_option linter.all false
set_option maxRecDepth 100000
namespace Mp
open PySem PySem.Spec PyProof.Rows L2
/-! ### dicts: keys and values as two lists -/
def keyOf : Val → Option L2.Key
  | .int i => some (.inl i)
  | .str s => some (.inr s)
  | _ => none
def keysOf : List Val → Option (List L2.Key)
  | [] => some []
  | v :: l => match keyOf v, keysOf l with
    | some k, some ks => some (k :: ks)
    | _, _ => none
/-- what a value is as a key: tuples only with an int ahead and two items at least -/
def Val.dk : Val → Option DK
  | .int i => some (.int i)
  | .str s => some (.str s)
  | .tup l => if noKey l = true then none else (keysOf l).map .tup
  | _ => none
def dval : List DK → List Val → DK → Option Val
  | k :: ks, v :: vs, j => if k = j then some v else dval ks vs j
  | _, _, _ => none
def dputK (ks : List DK) (k : DK) : List DK := if k ∈ ks then ks else ks ++ [k]
def dputV (ks : List DK) (vs : List Val) (k : DK) (u : Val) : List Val := if k ∈ ks then List.zipWith (fun j v => if j = k then u else v) ks vs else vs ++ [u]
/-- the dict as it stands -/
def dOf (v : Val) (h : Hh) : Option (List DK × List Val) := match v with
  | .dic ks vs => some (ks, vs)
  | .dref n => match h[n]? with
    | some (.dct ks vs) => some (ks, vs)
    | _ => none
  | _ => none
theorem keyOf_kVal {v : Val} {k : L2.Key} (e : keyOf v = some k) : v = kVal k := by
  unfold keyOf at e
  split at e <;> cases e <;> rfl
theorem keysOf_kVal : ∀ {l : List Val} {ks : List L2.Key}, keysOf l = some ks → l = ks.map kVal
  | [], ks, e => by unfold keysOf at e; cases e; rfl
  | v :: l, ks, e => by
    unfold keysOf at e
    split at e
    · rename_i k ks' e1 e2
      cases e
      rw [keyOf_kVal e1, keysOf_kVal e2]; rfl
    · cases e
section
variable {K : PySem.W.Frag} {T : Tr} {H : Hp}
theorem kVal_rep : ∀ {k : L2.Key} {x : V}, RepV K H T (kVal k) x → x = kV k
  | .inl i, x, r => by unfold kVal at r; cases r; rfl
  | .inr s, x, r => by unfold kVal at r; cases r; rfl
theorem kVals_rep : ∀ {ks : List L2.Key} {xs : List V}, RepL K H T (ks.map kVal) xs → xs = ks.map kV
  | [], xs, r => by cases r; rfl
  | k :: ks, xs, r => by
    rw [List.map_cons] at r
    cases r with
    | cons h r => rw [kVal_rep h, kVals_rep r]; rfl
/-- a key by values: y stands for the key k of a dict -/
def IsK (H : Hp) (y : V) (k : DK) : Prop := (∃ j, k = DK.ofK j ∧ y = kV j) ∨ ∃ l b, k = .tup l ∧ y = .ref b ∧ H b = some (.tup (l.map kV))
theorem dk_rep {v : Val} {x : V} {k : DK} (r : RepV K H T v x) (e : v.dk = some k) : IsK H x k := by
  unfold Val.dk at e
  split at e
  · cases e; cases r; exact .inl ⟨.inl _, rfl, rfl⟩
  · cases e; cases r; exact .inl ⟨.inr _, rfl, rfl⟩
  · split at e
    · cases e
    · rename_i hn
      obtain ⟨ks, e1, e2⟩ := Option.map_eq_some_iff.mp e
      subst e2
      cases r with
      | @tup a xs _ h rl =>
        have el := keysOf_kVal e1
        rw [el] at rl
        have ex := kVals_rep rl
        rcases h with ⟨_, h⟩ | ⟨_, h⟩
        · exact .inr ⟨ks, a, rfl, rfl, by rw [← ex]; exact h⟩
        · exact absurd h hn
  · cases e
theorem ofK_inj {j k : L2.Key} (e : DK.ofK j = DK.ofK k) : j = k := by
  cases j <;> cases k <;> simp_all [DK.ofK]
/-- the values of a table whose keys are said by c -/
theorem dval_rep {κ : Type} [DecidableEq κ] {c : κ → DK} (hc : ∀ a b, c a = c b → a = b) {k : κ} : ∀ {l : List (κ × V)} {vs : List Val}, RepL K H T vs (l.map (·.2)) →
    (∀ v, dval (l.map fun p => c p.1) vs (c k) = some v → ∃ x, valV l k = some x ∧ RepV K H T v x) ∧ (dval (l.map fun p => c p.1) vs (c k) = none → valV l k = none)
  | [], vs, r => ⟨fun v e => by simp [dval] at e, fun _ => rfl⟩
  | p :: l, vs, r => by
    rw [List.map_cons] at r
    cases r with
    | cons h r =>
      obtain ⟨i1, i2⟩ := dval_rep hc (k := k) r
      rw [List.map_cons]
      unfold dval
      by_cases e : p.1 = k
      · rw [if_pos (by rw [e]), valV_pos e]
        exact ⟨fun v q => by cases q; exact ⟨_, rfl, h⟩, fun q => by cases q⟩
      · rw [if_neg (fun q => e (hc _ _ q)), valV_neg e]
        exact ⟨i1, i2⟩
theorem dput_rep {κ : Type} [DecidableEq κ] {c : κ → DK} (hc : ∀ a b, c a = c b → a = b) {k : κ} {u : Val} {x : V} (hu : RepV K H T u x) {l : List (κ × V)} {vs : List Val} (r : RepL K H T vs (l.map (·.2))) :
    dputK (l.map fun p => c p.1) (c k) = (putK l k x).map (fun p => c p.1) ∧ RepL K H T (dputV (l.map fun p => c p.1) vs (c k) u) ((putK l k x).map (·.2)) := by
  have mem : c k ∈ (l.map fun p => c p.1) ↔ (l.any fun kv => decide (kv.1 = k)) = true := by
    rw [List.mem_map, List.any_eq_true]
    exact ⟨fun ⟨p, hp, e⟩ => ⟨p, hp, decide_eq_true (hc _ _ e)⟩, fun ⟨p, hp, e⟩ => ⟨p, hp, by rw [of_decide_eq_true e]⟩⟩
  unfold dputK dputV putK
  by_cases hm : c k ∈ (l.map fun p => c p.1)
  · rw [if_pos hm, if_pos hm, if_pos (mem.mp hm)]
    refine ⟨by rw [List.map_map]; apply List.map_congr_left; intro p _; dsimp only [Function.comp]; split <;> rfl, ?_⟩
    have go : ∀ {l : List (κ × V)} {vs : List Val}, RepL K H T vs (l.map (·.2)) → RepL K H T (List.zipWith (fun j v => if j = c k then u else v) (l.map fun p => c p.1) vs) ((l.map fun kv => if kv.1 = k then (kv.1, x) else kv).map (·.2)) := by
      intro l
      induction l with
      | nil => intro vs r; cases r; exact .nil
      | cons p l ih =>
        intro vs r
        rw [List.map_cons] at r
        cases r with
        | cons h r =>
          simp only [List.map_cons, List.zipWith_cons_cons]
          refine .cons ?_ (ih r)
          by_cases e : p.1 = k
          · rw [if_pos (by rw [e]), if_pos e]; exact hu
          · rw [if_neg (fun q => e (hc _ _ q)), if_neg e]; exact h
    exact go r
  · rw [if_neg hm, if_neg hm, if_neg (fun q => hm (mem.mpr q))]
    exact ⟨by simp, by rw [List.map_append]; exact r.append (.cons hu .nil)⟩
end
end Mp

set_option Elab.async false
set_option linter.all false
set_option maxRecDepth 100000
namespace Mp
open PySem PySem.Spec PyProof.Rows L2
/-! ### an empty dict is of both kinds -/
section
variable {X : Cx} {pins : List (Addr × Obj)} {σ : L2.St} {H : Hp} {s : Shared} {a : Addr}
theorem retypeT (I : Inv X pins σ H s) (e : H a = some (.dK [])) : Inv X pins σ (upd H a (.dT [])) s := by
  obtain ⟨z, hd, vs, rel, ob, es, ep, e1, e2, e3, e4, e5, e6⟩ := dk_of I.hok e
  cases rel
  have n0 : es.toList = [] := by
    cases hq : es.toList with
    | nil => rfl
    | cons y ys => rw [hq] at e5; cases e5
  exact d_write (h' := s.heap) (t' := s.toks) I (by rw [e]; exact True.intro) (Heap.SameBut.refl _ _) ⟨_, e1⟩ ⟨z, hd, [], .nil, ob, es, ep, e1, e2, e3, n0, List.nodup_nil⟩
theorem retypeK (I : Inv X pins σ H s) (e : H a = some (.dT [])) : Inv X pins σ (upd H a (.dK [])) s := by
  obtain ⟨z, hd, xs, rel, ob, es, ep, e1, e2, e3, e4, e5⟩ := I.hok a _ e
  cases rel
  have k0 : KeysOf (mixKind X.prog X.w) es := fun y hy => by
    have : y ∈ es.toList := Array.mem_toList_iff.mpr hy
    rw [e4] at this
    cases this
  refine d_write (h' := s.heap) (t' := s.toks) I (by rw [e]; exact True.intro) (Heap.SameBut.refl _ _) ⟨_, e1⟩ ⟨z, hd, [], .nil, ob, es, ep, e1, e2, e3, k0, ?_, List.nodup_nil⟩
  rw [e4]; exact .nil
theorem upd_back {o u : HO} (e : H a = some u) : upd (upd H a o) a u = H := by
  rw [upd_upd]
  funext b
  unfold upd
  split
  · rename_i h; rw [h, e]
  · rfl
/-- what the dict at a holds at y, told of an empty one of either kind too -/
def DQ (H : Hp) (a : Addr) (y : V) (o : Option V) : Prop := DGet H a y o ∨ (o = none ∧ (H a = some (.dK []) ∨ H a = some (.dT [])) ∧ ∃ k, IsK H y k)
theorem dq_open {y : V} {o : Option V} (I : Inv X pins σ H s) (g : DQ H a y o) : ∃ H1, Inv X pins σ H1 s ∧ DGet H1 a y o ∧ ∀ s', Inv X pins σ H1 s' → Inv X pins σ H s' := by
  rcases g with g | ⟨rfl, he, k, hk⟩
  · exact ⟨H, I, g, fun _ h => h⟩
  · rcases hk with ⟨j, _, rfl⟩ | ⟨l, b, _, rfl, hb⟩
    · rcases he with he | he
      · exact ⟨H, I, .inl ⟨[], j, .inl he, rfl, rfl⟩, fun _ h => h⟩
      · exact ⟨_, retypeK I he, .inl ⟨[], j, .inl upd_same, rfl, rfl⟩, fun s' h => by
          have z := retypeT h upd_same
          rw [upd_back he] at z
          exact z⟩
    · rcases he with he | he
      · have nb : b ≠ a := fun q => by rw [q, he] at hb; cases hb
        exact ⟨_, retypeT I he, .inr ⟨[], l, b, .inl upd_same, rfl, by rw [upd_ne nb]; exact hb, rfl⟩, fun s' h => by
          have z := retypeK h upd_same
          rw [upd_back he] at z
          exact z⟩
      · exact ⟨H, I, .inr ⟨[], l, b, .inl he, rfl, hb, rfl⟩, fun _ h => h⟩
/-- the dict at a with y put: the heap behind -/
def DW (H : Hp) (a : Addr) (y v : V) (o : HO) : Prop := (∃ l k, H a = some (.dK l) ∧ y = kV k ∧ l.length < sizeLine ∧ o = .dK (putK l k v)) ∨
  (∃ l k b, H a = some (.dT l) ∧ y = .ref b ∧ H b = some (.tup (k.map kV)) ∧ l.length < sizeLine ∧ o = .dT (putK l k v)) ∨
  (∃ k, H a = some (.dT []) ∧ y = kV k ∧ o = .dK [(k, v)]) ∨ (∃ k b, H a = some (.dK []) ∧ y = .ref b ∧ H b = some (.tup (k.map kV)) ∧ o = .dT [(k, v)])
theorem dw_open {y v : V} {o : HO} (I : Inv X pins σ H s) (g : DW H a y v o) : ∃ H1, Inv X pins σ H1 s ∧ DPut H1 a y v (upd H a o) := by
  have l0 : 0 < sizeLine := by rw [sizeLine_eq]; decide
  rcases g with ⟨l, k, h1, rfl, h2, rfl⟩ | ⟨l, k, b, h1, rfl, hb, h2, rfl⟩ | ⟨k, h1, rfl, rfl⟩ | ⟨k, b, h1, rfl, hb, rfl⟩
  · exact ⟨H, I, .inl ⟨l, k, h1, rfl, h2, rfl⟩⟩
  · exact ⟨H, I, .inr ⟨l, k, b, h1, rfl, hb, h2, rfl⟩⟩
  · exact ⟨_, retypeK I h1, .inl ⟨[], k, upd_same, rfl, l0, by rw [upd_upd]; rfl⟩⟩
  · have nb : b ≠ a := fun q => by rw [q, h1] at hb; cases hb
    exact ⟨_, retypeT I h1, .inr ⟨[], k, b, upd_same, rfl, by rw [upd_ne nb]; exact hb, l0, by rw [upd_upd]; rfl⟩⟩
end
/-! ### the rules by values -/
section
variable {X : Cx}
def rDIn (neg : Bool) : R2 := fun x y H Q => ∃ a o, y = .ref a ∧ DQ H a x o ∧ Q (.bl (if neg = true then !o.isSome else o.isSome)) H
theorem op_dNotIn (hu : X.A.units + 65 < cLine) : OpR X (compareOp .NotIn) (rDIn true) := by
  intro P s σ H x y v u Q I rx ry h
  obtain ⟨a, o, rfl, g, q⟩ := h
  cases (show u = Value.ref a from ry)
  obtain ⟨H1, I1, g1, bk⟩ := dq_open I g
  exact d_notIn (by omega) I1 g1 rx fun s' I' => ⟨.bl _, H, bk s' I', rfl, q⟩
def rDIx : R2 := fun x y H Q => ∃ a v, x = .ref a ∧ DGet H a y (some v) ∧ Q v H
theorem ix_dct (hu : X.A.units + 1 < cLine) : IxR X rDIx := by
  intro value slice P s σ H x y v u Q I rx ry h hs
  obtain ⟨a, w, rfl, g, q⟩ := h
  cases (show v = Value.ref a from rx)
  exact tail_any (dict_typeIs I g) PySem.F.slot_dict_getitem.lookup (d_getItem hu I g ry fun w' s' I' r' => ⟨_, H, I', r', q⟩) hs
def rDPutS : TSet := fun o i v H Q => ∃ a ob, o = .ref a ∧ DW H a i v ob ∧ Q (upd H a ob)
theorem set_dct (hu : X.A.units + 1 < cLine) : PSet X rDPutS := by
  intro P s σ H o i v ov iv u Q I ro ri rv h
  obtain ⟨a, ob, rfl, g, q⟩ := h
  cases (show ov = Value.ref a from ro)
  obtain ⟨H1, I1, g1⟩ := dw_open I g
  exact d_setItem hu I1 g1 ri rv fun s' I' => ⟨_, I', q⟩
theorem call_lenDX : CallR X (.builtin "len") (fun xs H Q => ∃ a n, xs = [.ref a] ∧ ((∃ l, H a = some (.dK l) ∧ n = l.length) ∨ ∃ l, H a = some (.dT l) ∧ n = l.length) ∧ Q (.int (n : Nat)) H) := by
  intro P s σ H xs us Q I r h
  obtain ⟨a, n, rfl, h, q⟩ := h
  rcases h with ⟨l, h, rfl⟩ | ⟨l, h, rfl⟩
  · obtain ⟨u, rfl, ru⟩ := vals1 r
    cases (show u = Value.ref a from ru)
    exact d_len I (.inl h) fun t s' I' => ⟨.int _, H, I', ⟨t, rfl⟩, q⟩
  · exact call_len_dT P s σ H _ us Q I r ⟨a, l, rfl, h, q⟩
end
end Mp

set_option Elab.async false
set_option linter.all false
set_option maxRecDepth 100000
namespace Mp
open PySem PySem.Spec PyProof.Rows L2
variable [Tb]
/-! ### dicts in plain terms -/
def DK.isT : DK → Bool
  | .tup _ => true
  | _ => false
/-- all keys of one kind -/
def okK (ks : List DK) (k : DK) : Bool := ks.all fun j => j.isT == k.isT
section
variable {K : PySem.W.Frag} {T T' : Tr} {μ : Hh} {H H' : Hp} {ks : List DK} {vs : List Val} {a : Addr} {y x : V} {k : DK} {v : Val}
omit [Tb] in
theorem isT_ofK (j : L2.Key) : (DK.ofK j).isT = false := by cases j <;> rfl
omit [Tb] in
theorem tup_inj {a b : List L2.Key} (e : DK.tup a = DK.tup b) : a = b := by injection e
omit [Tb] in
theorem drep_get (r : DRep K H T ks vs a) (hk : IsK H y k) (ok : okK ks k = true) :
    (∀ v, dval ks vs k = some v → ∃ x, DGet H a y (some x) ∧ RepV K H T v x) ∧ (dval ks vs k = none → DQ H a y none) := by
  rcases r with ⟨l, h, rfl, rl⟩ | ⟨l, h, rfl, rl⟩
  · rcases hk with ⟨j, rfl, rfl⟩ | ⟨t, b, rfl, rfl, hb⟩
    · obtain ⟨i1, i2⟩ := dval_rep (c := DK.ofK) (fun _ _ => ofK_inj) (k := j) rl
      refine ⟨fun v e => ?_, fun e => .inl (.inl ⟨l, j, .inl h, rfl, (i2 e).symm⟩)⟩
      obtain ⟨z, e1, r1⟩ := i1 v e
      exact ⟨z, .inl ⟨l, j, .inl h, rfl, e1.symm⟩, r1⟩
    · cases l with
      | nil => exact ⟨fun v e => by simp [dval] at e, fun _ => .inr ⟨rfl, .inl h, .tup t, .inr ⟨t, b, rfl, rfl, hb⟩⟩⟩
      | cons p l =>
        unfold okK at ok
        rw [List.map_cons, List.all_cons, isT_ofK] at ok
        cases ok
  · rcases hk with ⟨j, rfl, rfl⟩ | ⟨t, b, rfl, rfl, hb⟩
    · cases l with
      | nil => exact ⟨fun v e => by simp [dval] at e, fun _ => .inr ⟨rfl, .inr h, DK.ofK j, .inl ⟨j, rfl, rfl⟩⟩⟩
      | cons p l =>
        unfold okK at ok
        rw [List.map_cons, List.all_cons, isT_ofK] at ok
        cases ok
    · obtain ⟨i1, i2⟩ := dval_rep (c := DK.tup) (fun _ _ => tup_inj) (k := t) rl
      refine ⟨fun v e => ?_, fun e => .inl (.inr ⟨l, t, b, .inl h, rfl, hb, (i2 e).symm⟩)⟩
      obtain ⟨z, e1, r1⟩ := i1 v e
      exact ⟨z, .inr ⟨l, t, b, .inl h, rfl, hb, e1.symm⟩, r1⟩
omit [Tb] in
theorem drep_len (r : DRep K H T ks vs a) : ∃ n, ((∃ l, H a = some (.dK l) ∧ n = l.length) ∨ ∃ l, H a = some (.dT l) ∧ n = l.length) ∧ n = ks.length ∧ n = vs.length := by
  rcases r with ⟨l, h, rfl, rl⟩ | ⟨l, h, rfl, rl⟩
  · exact ⟨_, .inl ⟨l, h, rfl⟩, by simp, by simpa using rl.length⟩
  · exact ⟨_, .inr ⟨l, h, rfl⟩, by simp, by simpa using rl.length⟩
omit [Tb] in
/-- a key put: the dict's new content ob -/
theorem drep_put (r : DRep K H T ks vs a) (hk : IsK H y k) (ok : okK ks k = true) (hl : ks.length < sizeLine) (ru : RepV K H T v x) :
    ∃ ob, DW H a y x ob ∧ knd (some ob) = 2 ∧ lv (some ob) = true ∧ ∀ H' T', H' a = some ob → (∀ vs xs, RepL K H T vs xs → RepL K H' T' vs xs) → DRep K H' T' (dputK ks k) (dputV ks vs k v) a := by
  rcases r with ⟨l, h, rfl, rl⟩ | ⟨l, h, rfl, rl⟩
  · rcases hk with ⟨j, rfl, rfl⟩ | ⟨t, b, rfl, rfl, hb⟩
    · obtain ⟨p1, p2⟩ := dput_rep (c := DK.ofK) (fun _ _ => ofK_inj) (k := j) ru rl
      refine ⟨.dK (putK l j x), .inl ⟨l, j, h, rfl, by simpa using hl, rfl⟩, rfl, rfl, fun H' T' e f => .inl ⟨_, e, p1, f _ _ p2⟩⟩
    · cases l with
      | nil =>
        cases rl
        exact ⟨.dT [(t, x)], .inr (.inr (.inr ⟨t, b, h, rfl, hb, rfl⟩)), rfl, rfl, fun H' T' e f => .inr ⟨_, e, rfl, f _ _ (.cons ru .nil)⟩⟩
      | cons p l =>
        unfold okK at ok
        rw [List.map_cons, List.all_cons, isT_ofK] at ok
        cases ok
  · rcases hk with ⟨j, rfl, rfl⟩ | ⟨t, b, rfl, rfl, hb⟩
    · cases l with
      | nil =>
        cases rl
        refine ⟨.dK [(j, x)], .inr (.inr (.inl ⟨j, h, rfl, rfl⟩)), rfl, rfl, fun H' T' e f => .inl ⟨_, e, ?_, ?_⟩⟩
        · rfl
        · exact f _ _ (.cons ru .nil)
      | cons p l =>
        unfold okK at ok
        rw [List.map_cons, List.all_cons, isT_ofK] at ok
        cases ok
    · obtain ⟨p1, p2⟩ := dput_rep (c := DK.tup) (fun _ _ => tup_inj) (k := t) ru rl
      exact ⟨.dT (putK l t x), .inr (.inl ⟨l, t, b, h, rfl, hb, by simpa using hl, rfl⟩), rfl, rfl, fun H' T' e f => .inr ⟨_, e, p1, f _ _ p2⟩⟩
theorem dOf_rep (hs : HSim K T μ H) (r : RepV K H T v x) (e : dOf v μ = some (ks, vs)) : ∃ a, x = .ref a ∧ DRep K H T ks vs a := by
  cases r with
  | @dicK a l vs' b h r => cases e; exact ⟨a, rfl, .inl ⟨l, h, rfl, r⟩⟩
  | @dicT a l vs' b h r => cases e; exact ⟨a, rfl, .inr ⟨l, h, rfl, r⟩⟩
  | @dref n a h k =>
    unfold dOf at e
    dsimp only at e
    split at e
    · rename_i el
      cases e
      obtain ⟨a', e', r⟩ := hs.obj n _ el
      rw [h] at e'; cases e'
      exact ⟨a, rfl, r⟩
    · cases e
  | _ => cases e
end
/-! ### x[i], x in y, len -/
def ixStr (s : Str) (i : Int) (h : Hh) : R Val := if s.length ≤ sizeLine then match atI s.cps.toList i with
  | some c => .ok (.str ⟨#[c]⟩) h
  | none => .bad
  else .bad
def ixD (v w : Val) (h : Hh) : R Val := match dOf v h with
  | some (ks, vs) => match w.dk with
    | some k => if okK ks k = true then match dval ks vs k with
      | some u => .ok u h
      | none => .bad
      else .bad
    | none => .bad
  | none => match v, w with
    | .str s, .int i => ixStr s i h
    | v, w => ixP v w h
theorem ix_all {X : Cx} (hu : X.A.units + 1 < cLine) : IxR X (fun x y H Q => rIx X.K x y H Q ∨ rDIx x y H Q) := ix_seq.or (ix_dct hu)
theorem p2_ixD {K : PySem.W.Frag} : P2 K (fun x y H Q => rIx K x y H Q ∨ rDIx x y H Q) ixD := by
  intro T μ H v w x y Q E hs r1 r2 q
  unfold ixD at q
  split at q
  · rename_i ks vs e
    obtain ⟨a, rfl, r⟩ := dOf_rep hs r1 e
    split at q
    · rename_i k ek
      split at q
      · rename_i ok
        obtain ⟨g, _⟩ := drep_get r (dk_rep r2 ek) ok
        split at q
        · rename_i u eu
          obtain ⟨z, dg, rz⟩ := g u eu
          exact .inr ⟨a, z, rfl, dg, Post.now q hs rz⟩
        · exact q.elim
      · exact q.elim
    · exact q.elim
  · split at q
    · cases r1; cases r2
      unfold ixStr at q
      split at q
      · rename_i hz
        split at q
        · rename_i c ec
          exact .inl (.inr (.inr ⟨_, _, c, rfl, rfl, hz, ec, Post.now q hs (.str _)⟩))
        · exact q.elim
      · exact q.elim
    · exact .inl (p2_ix T μ H _ _ x y Q E hs r1 r2 q)
/-- x in a tuple of data -/
def rInT (K : PySem.W.Frag) (neg : Bool) : R2 := fun x y H Q => ∃ d ds, Dp K H x d ∧ Dp K H y (.tuple ds) ∧ SeqAt.shaped d = true ∧ SeqAt.shaped (.tuple ds) = true ∧ Q (.bl (if neg = true then !ds.any fun z => PyData.eqv z d else ds.any fun z => PyData.eqv z d)) H
omit [Tb] in
theorem lay_tup {ds : List PyData} (h : SeqAt.shaped (.tuple ds) = true) : PyData.canLayAll0 ds = true ∧ PyData.depthAll ds ≤ 64 := by
  simp only [SeqAt.shaped, PyData.canLay0, PyData.depth, Bool.and_eq_true, decide_eq_true_eq] at h
  exact ⟨h.1, by simp at h ⊢; omega⟩
omit [Tb] in
theorem op_notInT {X : Cx} (hu : X.A.units + 65 < cLine) : OpR X (compareOp .NotIn) (rInT X.K true) := by
  intro P s σ H x y v u Q I rx ry h
  obtain ⟨d, ds, hd, he, sd, se, q⟩ := h
  obtain ⟨as, r1⟩ := Dp.reads I d x v hd rx
  obtain ⟨bs, r2⟩ := Dp.reads I (.tuple ds) y u he ry
  exact SeqAt.notIn_tuple_reads r2 r1 (lay_tup se).1 (SeqAt.canLay_of_shaped sd) (room_in_shaped sd hu) ⟨.bl _, H, I, rfl, q⟩
def inD (neg : Bool) (v w : Val) (h : Hh) : R Val := match dOf w h with
  | some (ks, vs) => match v.dk with
    | some k => if okK ks k = true then .ok (.bl (if neg = true then !(dval ks vs k).isSome else (dval ks vs k).isSome)) h else .bad
    | none => .bad
  | none => match pdOf v h, pdOf w h with
    | some d, some (.tuple ds) => if SeqAt.shaped d = true ∧ SeqAt.shaped (.tuple ds) = true then .ok (.bl (if neg = true then !ds.any fun z => PyData.eqv z d else ds.any fun z => PyData.eqv z d)) h else .bad
    | _, _ => inP neg v w h
theorem drep_in {K : PySem.W.Frag} {T : Tr} {H : Hp} {ks : List DK} {vs : List Val} {a : Addr} {y : V} {k : DK} (r : DRep K H T ks vs a) (hk : IsK H y k) (ok : okK ks k = true) : ∃ o, DQ H a y o ∧ o.isSome = (dval ks vs k).isSome := by
  obtain ⟨g1, g2⟩ := drep_get r hk ok
  cases e : dval ks vs k with
  | none => exact ⟨none, g2 e, rfl⟩
  | some v => obtain ⟨z, dg, _⟩ := g1 v e; exact ⟨some z, .inl dg, rfl⟩
theorem notIn_all {X : Cx} (hu : X.A.units + 65 < cLine) : OpR X (compareOp .NotIn) (fun x y H Q => rNotInD X.K x y H Q ∨ rInT X.K true x y H Q ∨ rDIn true x y H Q) := (op_notInD hu).or ((op_notInT hu).or (op_dNotIn hu))
theorem p2_notInD {K : PySem.W.Frag} : P2 K (fun x y H Q => rNotInD K x y H Q ∨ rInT K true x y H Q ∨ rDIn true x y H Q) (inD true) := by
  intro T μ H v w x y Q E hs r1 r2 q
  unfold inD at q
  split at q
  · rename_i ks vs e
    obtain ⟨a, rfl, r⟩ := dOf_rep hs r2 e
    split at q
    · rename_i k ek
      split at q
      · rename_i ok
        obtain ⟨o, dq, eo⟩ := drep_in r (dk_rep r1 ek) ok
        exact .inr (.inr ⟨a, o, rfl, dq, by rw [eo]; exact Post.now q hs (.bl _)⟩)
      · exact q.elim
    · exact q.elim
  · split at q
    · rename_i d ds e1 e2
      split at q
      · rename_i hk
        exact .inr (.inl ⟨d, ds, pdOf_rep hs r1 e1, pdOf_rep hs r2 e2, hk.1, hk.2, Post.now q hs (.bl _)⟩)
      · exact q.elim
    · exact .inl (p2_notIn T μ H v w x y Q E hs r1 r2 q)
def lenD (xs : List Val) (h : Hh) : R Val := match xs with
  | [v] => match dOf v h with
    | some (ks, _) => .ok (.int ks.length) h
    | none => lenP [v] h
  | _ => .bad
theorem cLenD {X : Cx} : CallR X (.builtin "len") (fun xs H Q => ((∃ p ys, xs = [.ref p] ∧ (SqL X.K H p ys ∨ SqT X.K H p ys) ∧ Q (.int ys.length) H) ∨ ∃ z, xs = [.str z] ∧ z.length ≤ sizeLine ∧ Q (.int z.length) H) ∨
    ∃ a n, xs = [.ref a] ∧ ((∃ l, H a = some (.dK l) ∧ n = l.length) ∨ ∃ l, H a = some (.dT l) ∧ n = l.length) ∧ Q (.int (n : Nat)) H) := by
  intro P s σ H xs us Q I r h
  rcases h with h | h
  · exact cLen P s σ H xs us Q I r h
  · exact call_lenDX P s σ H xs us Q I r h
theorem pl_lenD {K : PySem.W.Frag} : PL K (fun xs H Q => ((∃ p ys, xs = [.ref p] ∧ (SqL K H p ys ∨ SqT K H p ys) ∧ Q (.int ys.length) H) ∨ ∃ z, xs = [.str z] ∧ z.length ≤ sizeLine ∧ Q (.int z.length) H) ∨
    ∃ a n, xs = [.ref a] ∧ ((∃ l, H a = some (.dK l) ∧ n = l.length) ∨ ∃ l, H a = some (.dT l) ∧ n = l.length) ∧ Q (.int (n : Nat)) H) lenD := by
  intro T μ H vs xs Q E hs r q
  unfold lenD at q
  split at q
  · split at q
    · rename_i ks _ e
      obtain ⟨x, rfl, r1⟩ := r.one
      obtain ⟨a, rfl, dr⟩ := dOf_rep hs r1 e
      obtain ⟨n, h1, h2, _⟩ := drep_len dr
      exact .inr ⟨a, n, rfl, h1, by rw [h2]; exact Post.now q hs (.int _)⟩
    · exact .inl (pl_len T μ H _ xs Q E hs r q)
  · exact q.elim
/-! ### d[k] = v, d.get, d.setdefault, {} -/
def setD (o i v : Val) (h : Hh) : R Unit := match o with
  | .dref n => match i.dk, h[n]? with
    | some k, some (.dct ks vs) => if okK ks k = true ∧ ks.length < sizeLine ∧ v.bel n = true then .ok () (h.set n (.dct (dputK ks k) (dputV ks vs k v))) else .bad
    | _, _ => .bad
  | _ => setP o i v h
def gSubD (o i : Ev) : Gv := fun v env h => (o env h).bnd fun x h1 => (i env h1).bnd fun y h2 => (setD x y v h2).bnd fun _ h3 => .ok env h3
section
variable {K : PySem.W.Frag}
theorem belL_dputV {n : Nat} {ks : List DK} {k : DK} {u : Val} (hu : u.bel n = true) : ∀ {vs : List Val}, belL n vs = true → belL n (dputV ks vs k u) = true := by
  intro vs h
  unfold dputV
  split
  · refine belL_get.mpr fun w hw => ?_
    obtain ⟨i, hi⟩ := List.getElem?_of_mem hw
    rw [List.getElem?_zipWith] at hi
    split at hi
    · rename_i j v e1 e2
      cases hi
      split
      · exact hu
      · exact belL_get.mp h v (List.mem_of_getElem? e2)
    · cases hi
  · rw [belL_append, Bool.and_eq_true]
    exact ⟨h, by unfold belL belL; rw [hu]; rfl⟩
/-- the dict in the small heap with a key put -/
theorem put_sim {T : Tr} {μ : Hh} {H : Hp} {n : Nat} {ks : List DK} {vs : List Val} {a : Addr} {y x : V} {k : DK} {v : Val} (hs : HSim K T μ H) (ha : T.ρ[n]? = some a) (hk2 : knd (H a) = 2) (e : μ[n]? = some (.dct ks vs)) (hk : IsK H y k) (ok : okK ks k = true) (hl : ks.length < sizeLine) (ru : RepV K H T v x) (hb : v.bel n = true) :
    ∃ ob, DW H a y x ob ∧ Step T H T (upd H a ob) ∧ HSim K T (μ.set n (.dct (dputK ks k) (dputV ks vs k v))) (upd H a ob) := by
  obtain ⟨a', e', r⟩ := hs.obj n _ e
  rw [ha] at e'; cases e'
  obtain ⟨ob, dw, kn, lo, mk⟩ := drep_put r hk ok hl ru
  have ek : knd (some ob) = knd (H a) := by rw [kn, hk2]
  have st : Step T H T (upd H a ob) := Step.put (List.mem_of_getElem? ha) ek lo
  exact ⟨ob, dw, st, hs.putO ha (nb := .dct (dputK ks k) (dputV ks vs k v)) ek (mk _ T upd_same fun vs xs r => r.step st) (belL_dputV hb (hs.old n _ e)) lo⟩
end
section
variable {X : Cx} {W : WX} {pos : Pos}
theorem set_all (hu : X.A.units + 1 < cLine) : PSet X (fun o i v H Q => rSetL o i v H Q ∨ rDPutS o i v H Q) := by
  intro P s σ H o i v ov iv u Q I ro ri rv h
  rcases h with h | h
  · exact set_list P s σ H o i v ov iv u Q I ro ri rv h
  · exact set_dct hu P s σ H o i v ov iv u Q I ro ri rv h
theorem gg_subD {o i : Expr} {eo ei : Ev} (hu : X.A.units + 1 < cLine) (ho : PE X o (GE X.K X.mg W eo)) (hi : PE X i (GE X.K X.mg W ei)) (ha : ∀ v, assign (.Subscript o i pos) X.env v = (do
      let ov ← holding [v] (eval o X.env)
      let iv ← holding [v, ov] (eval i X.env)
      standAt pos
      holding [v, ov, iv] (setItem ov iv v)
      release [v, ov, iv] []) := by intro _; rfl) : PG X (.Subscript o i pos) (GG X.K X.mg W (gSubD eo ei)) :=
  PG.imp (pg_sub ho hi (set_all hu) ha) fun v σ H Q ⟨T, μ, env, u, hs, es, r, q⟩ => ⟨T, μ, env, hs, es, Post.seq q fun x μ1 T1 H1 xx s1 hs1 r1 q1 => ⟨T1, μ1, env, hs1, es.step s1, Post.seq q1 fun y μ2 T2 H2 yy s2 hs2 r2 q2 => by
    have r1' := r1.step s2
    have ru := (r.step s1).step s2
    unfold setD at q2
    split at q2
    · rename_i n
      split at q2
      · rename_i k ks us ek el
        split at q2
        · rename_i hk
          cases r1' with
          | @dref _ a ha kd =>
            obtain ⟨ob, dw, st, sim⟩ := put_sim hs2 ha kd el (dk_rep r2 ek) hk.1 hk.2.1 ru hk.2.2
            exact .inr ⟨a, ob, rfl, dw, Post.here q2 st sim (((es.step s1).step s2).step st)⟩
        · exact q2.elim
      · exact q2.elim
    · unfold setP at q2
      split at q2
      · cases r2
        split at q2
        · rename_i l el
          split at q2
          · rename_i j ej
            split at q2
            · rename_i hb
              obtain ⟨a, ys, rfl, ha, h1, l1⟩ := hs2.get el r1'
              refine .inl ⟨a, ys, _, j, rfl, rfl, h1, by rw [l1.length]; exact ej, ?_⟩
              have st : Step T2 H2 T2 (upd H2 a (.lst (ys.set j v))) := Step.put (List.mem_of_getElem? ha) (by rw [h1]; rfl)
              refine Post.here q2 st (hs2.put ha (by rw [h1]; rfl) (RepL.set ru j l1) ?_) (((es.step s1).step s2).step st)
              have z := hs2.old _ _ el
              exact belL_get.mpr fun w hw => by
                rcases List.mem_or_eq_of_mem_set hw with hw | hw
                · exact belL_get.mp z w hw
                · rw [hw]; exact hb
            · exact q2.elim
          · exact q2.elim
        · exact q2.elim
      · exact q2.elim⟩⟩
/-- a dict made: to be changed (m), or frozen -/
def mkD (m : Bool) (ks : List DK) (vs : List Val) (h : Hh) : R Val := if m = true then .ok (.dref h.length) (h ++ [.dct ks vs]) else .ok (.dic ks vs) h
end
/-! ### running it -/
section
variable {h : Hh}
omit [Tb]
@[simp] theorem ixD_tup (l : List Val) (w : Val) : ixD (.tup l) w h = ixP (.tup l) w h := rfl
@[simp] theorem ixD_lst (l : List Val) (w : Val) : ixD (.lst l) w h = ixP (.lst l) w h := rfl
@[simp] theorem ixD_fz (l : List Val) (w : Val) : ixD (.fz l) w h = ixP (.fz l) w h := rfl
@[simp] theorem ixD_ref (n : Nat) (w : Val) : ixD (.ref n) w h = ixP (.ref n) w h := rfl
@[simp] theorem inD_lst (m : Bool) (v : Val) (l : List Val) : inD m v (.lst l) h = inP m v (.lst l) h := by
  unfold inD
  have e : dOf (.lst l) h = none := rfl
  rw [e]
  dsimp only
  split
  · rename_i e1 e2
    unfold pdOf Val.pd at e2
    obtain ⟨_, _, z⟩ := Option.map_eq_some_iff.mp e2
    cases z
  · rfl
@[simp] theorem inD_ref (m : Bool) (v : Val) (n : Nat) : inD m v (.ref n) h = inP m v (.ref n) h := by
  unfold inD
  have e : dOf (.ref n) h = none := rfl
  rw [e]
  dsimp only
  split
  · rename_i e1 e2
    unfold pdOf at e2
    dsimp only at e2
    split at e2
    · obtain ⟨_, _, z⟩ := Option.map_eq_some_iff.mp e2
      cases z
    · cases e2
  · rfl
@[simp] theorem lenD_tup (l : List Val) : lenD [.tup l] h = .ok (.int l.length) h := rfl
@[simp] theorem lenD_lst (l : List Val) : lenD [.lst l] h = .ok (.int l.length) h := rfl
@[simp] theorem lenD_dic (ks : List DK) (l : List Val) : lenD [.dic ks l] h = .ok (.int ks.length) h := rfl
@[simp] theorem lenD_ref (n : Nat) : lenD [.ref n] h = lenP [.ref n] h := rfl
@[simp] theorem setD_ref (n : Nat) (i v : Val) : setD (.ref n) i v h = setP (.ref n) i v h := rfl
@[simp] theorem x_gSubD (o i : Ev) (v : Val) (env : Env) : gSubD o i v env h = (o env h).bnd fun x h1 => (i env h1).bnd fun y h2 => (setD x y v h2).bnd fun _ h3 => .ok env h3 := rfl
end
theorem room1 {k : Nat} {A : Around} (r : RoomG k A) : A.units + 1 < cLine := by have := r.room.un; omega
theorem room0 {k : Nat} {A : Around} (r : RoomG k A) : A.units < cLine := by have := r.room.un; omega
theorem room70 {k : Nat} {A : Around} (r : RoomG k A) : A.units + 70 < cLine := by have := r.room.un; omega
end Mp

set_option Elab.async false
set_option linter.all false
set_option maxRecDepth 100000
namespace Mp
open PySem PySem.Spec PyProof.Rows L2
/-! ### dict comprehensions, keys of either kind -/
section
variable {X : Cx} {pins : List (Addr × Obj)} {σ : L2.St} {H : Hp} {s : Shared}
/-- one pair put by a comprehension -/
theorem dset_any {E : Value → Shared → Prop} {d : Addr} {y z : V} {yk zv : Value} {ob : HO} {Q : Unit → Shared → Prop} (hu : X.A.units < cLine) (I : Inv X pins σ H s) (g : DW H d y z ob) (ry : RelV y yk) (rz : RelV z zv)
    (h : ∀ t, Inv X pins σ (upd H d ob) t → Q () t) : wpAny (model X.prog X.w) X.A (dictSet d yk zv) Q E s := by
  have l0 : 0 < sizeLine := by rw [sizeLine_eq]; decide
  have keyed : ∀ {G : Hp} {l : List (List L2.Key × V)} {k : List L2.Key} {b : Addr}, Inv X pins σ G s → G d = some (.dT l) → y = .ref b → G b = some (.tup (k.map kV)) → l.length < sizeLine → (∀ t, Inv X pins σ (upd G d (.dT (putK l k z))) t → Q () t) → wpAny (model X.prog X.w) X.A (dictSet d yk zv) Q E s := by
    intro G l k b J e ey eb lt fin
    subst ey
    cases (show yk = Value.ref b from ry)
    obtain ⟨hz, _, xs, rel, dd⟩ := dt_of J.hok e
    have hx : xs.length ≤ sizeLine := Paired.length rel ▸ hz
    have room : (tupleKind (mixKind X.prog X.w)).room X.A := by show X.A.units < cLine; exact hu
    refine wpAny_dictSet_heap (hsz := hx) room (key_of J.hok eb) dd fun h1 new sb => fin _ ?_
    obtain ⟨q, es, ep, g1, g2, g3, g4, _, g5⟩ := new
    have lp : (putK l k z).length ≤ sizeLine := by have := length_putK l k z; omega
    refine d_write J (by rw [e]; exact True.intro) sb ⟨q, g1⟩ ⟨lp, ?_, _, (rel.put k eb rz).keeps fun c ys ec => ?_, q, es, ep, g1, g2, g3, g4, g5⟩
    · exact (dt_of J.hok e).2.1
    · have nc : c ≠ d := fun w => by rw [w, e] at ec; cases ec
      rw [upd_ne nc]; exact ec
  rcases g with ⟨l, k, h1, rfl, h2, rfl⟩ | ⟨l, k, b, h1, ey, hb, h2, rfl⟩ | ⟨k, h1, rfl, rfl⟩ | ⟨k, b, h1, ey, hb, rfl⟩
  · exact d_dictSet I h1 h2 ry rz h
  · exact keyed I h1 ey hb h2 h
  · refine d_dictSet (retypeK I h1) (kvs := []) (k := k) upd_same l0 ry rz fun t J => h t ?_
    rw [upd_upd] at J; exact J
  · have nb : b ≠ d := fun w => by rw [w, h1] at hb; cases hb
    refine keyed (retypeT I h1) upd_same ey (by rw [upd_ne nb]; exact hb) l0 fun t J => h t ?_
    rw [upd_upd] at J; exact J
end
section
variable {X : Cx}
/-- {k: v for .. in .. if ..}: D the new dict -/
def tDcx (wi : TI) (g : TG) (tt : TT) (tk tv : TE) (vs : List Nat) : TE := fun σ H Q => wi σ H fun J H1 => ∀ D, H1 D = none → ∃ W : Nat → Nat → Hp → Prop, (∃ m, W 0 m (upd H1 D (.dK []))) ∧ ∀ i m G, W i m G → (J.stop i G ∧ Q (.ref D) G) ∨
  (J.go i G ∧ ∃ Nx : Hp → Prop, (∀ G', Nx G' → ∃ m', m' < m ∧ W (i + 1) m' G') ∧ ∀ x G', J.yld i G x G' → g x (wipe σ vs) G' fun τ G2 => wipe τ vs = wipe σ vs ∧ tt τ G2 fun b G3 =>
    if b = true then tk τ G3 fun y G4 => tv τ G4 fun z G5 => ∃ ob, DW G5 D y z ob ∧ Nx (upd G5 D ob) else Nx G3)
theorem dcx_run {pins : List (Addr × Obj)} {s : Shared} {σ : L2.St} {H : Hp} {Q : VK} {ke ve tg it : Expr} {ifs : List Expr} {sc : Scope} {own : List (Str × Nat)} {pos p2 : Pos} {wi : TI} {g : TG} {tt : TT} {tk tv : TE} {use : Option (Value → Sem Unit)} {Qf : Value → Shared → Prop}
    (hu : X.A.units < cLine) (hc : X.calm = true) (hN : X.N.Nodup) (I : Inv X pins σ H s) (hi : PI X tg it wi) (ok : BlkOk X.N X.env.scope sc own)
    (ag : ∀ (s : Shared) (H : Hp) (C : Addr) (cl : List (Str × Addr)) (fp : List Addr), PG (X.blk s H sc (compEnvC sc cl C X.env) fp) tg g) (at' : ∀ (s : Shared) (H : Hp) (C : Addr) (cl : List (Str × Addr)) (fp : List Addr), PTs (X.blk s H sc (compEnvC sc cl C X.env) fp) ifs tt)
    (ak : ∀ (s : Shared) (H : Hp) (C : Addr) (cl : List (Str × Addr)) (fp : List Addr), PE (X.blk s H sc (compEnvC sc cl C X.env) fp) ke tk) (av : ∀ (s : Shared) (H : Hp) (C : Addr) (cl : List (Str × Addr)) (fp : List Addr), PE (X.blk s H sc (compEnvC sc cl C X.env) fp) ve tv)
    (fold : ∀ x, foldedSetIterable it X.env x = pure x) (rd : tDcx wi g tt tk tv (own.map (·.2)) σ H Q)
    (leave : ∀ D C t m G, Inv X pins σ G t → Q (.ref D) G → t.heap.Ns C m → FpOk X pins G C → compPost (model X.prog X.w) X.A X.xe use Qf (.ref D) C (.ok .next) t) :
    wpAny (model X.prog X.w) X.A (comprehension (.DictComp ke ve [⟨tg, it, ifs, 0⟩] sc pos) sc X.env p2 newDict false (eval it X.env) use) Qf X.xe s := by
  have cells : ∀ y ∈ sc.names, y.2 = .free → ∃ c, X.env.cells.lookup y.1 = some c := fun y hy e => (ok.free y hy e).elim (fun k => I.ok.has _ (.inl k)) fun k => I.ok.has _ (.inr k)
  refine wpAny_comprehension_free (use := use) rfl fold (closure_ok cells) ok.kind (fun y hy e => by rw [ok.uniq y hy, e]) (thn (hi.run pins s σ H _ I rd) fun u1 s1 a1 => thn a1 fun u2 s2 a2 => ?_)
  obtain ⟨ia, fp, tn, J, H2, rfl, I2, T, t2, fr2, rest⟩ := a2
  refine wpAny_newObj_type (newEnv_comp ?_)
  obtain ⟨D, hD⟩ : ∃ D, s2.heap.objs.size = D := ⟨_, rfl⟩
  have dn : H2 D = none := I2.hok.fresh (Nat.le_of_eq hD)
  obtain ⟨W, ⟨m0, w0⟩, each⟩ := rest D dn
  rw [hD]
  -- the dict is laid
  obtain ⟨s3, e3⟩ : ∃ s3 : Shared, s3 = { s2 with heap := s2.heap.push { cls := .type "dict", data := .dict #[] } } := ⟨_, rfl⟩
  obtain ⟨H3, eH3⟩ : ∃ H3, H3 = upd H2 D (.dK []) := ⟨_, rfl⟩
  have h3 : s3.heap = s2.heap.push { cls := .type "dict", data := .dict #[] } := by rw [e3]
  have I3 : Inv X pins σ H3 s3 := by
    rw [e3, eH3]
    refine I2.laid (t' := s2.toks) (fun b u q => Heap.get?_push_of_some _ q) (Nat.le_of_eq hD) ?_
    rw [← hD]
    exact dk_empty s2.heap I2.big
  have small : ∀ b ∈ fp, b < s2.heap.objs.size := fun b hb => let ⟨u, q, _⟩ := T.obj _ _ t2 b hb; Heap.lt_size q
  have fr3 : ∀ b ∈ fp, FpOk X pins H3 b ∧ b < s3.heap.objs.size := fun b hb => by
    have lt := small b hb
    refine ⟨⟨?_, (fr2 b hb).2⟩, by rw [h3, Heap.size_push]; exact Nat.lt_succ_of_lt lt⟩
    rw [eH3, upd_ne (by rw [← hD]; exact Nat.ne_of_lt lt)]
    exact (fr2 b hb).1
  have t3 : tn 0 s3.heap := T.keep _ _ _ t2 fun b _ u q => by rw [h3]; exact Heap.get?_push_of_some _ q
  have I4 := block_start I3 ok hN fr3
  obtain ⟨ce, ece⟩ : ∃ ce, ce = compEnvC sc (cellsFrom (s3.heap.objs.size + 1) sc.names (cloFrom X.env.cells sc.names [])) s3.heap.objs.size X.env := ⟨_, rfl⟩
  have gP := ag s3 H3 s3.heap.objs.size (cellsFrom (s3.heap.objs.size + 1) sc.names (cloFrom X.env.cells sc.names [])) fp
  have tP := at' s3 H3 s3.heap.objs.size (cellsFrom (s3.heap.objs.size + 1) sc.names (cloFrom X.env.cells sc.names [])) fp
  have kP := ak s3 H3 s3.heap.objs.size (cellsFrom (s3.heap.objs.size + 1) sc.names (cloFrom X.env.cells sc.names [])) fp
  have vP := av s3 H3 s3.heap.objs.size (cellsFrom (s3.heap.objs.size + 1) sc.names (cloFrom X.env.cells sc.names [])) fp
  rw [← ece] at gP tP kP vP I4
  have loc : ce.locals = s3.heap.objs.size := by rw [ece]; rfl
  obtain ⟨s4, e4⟩ : ∃ s4 : Shared, s4 = { s3 with heap := pushCells (s3.heap.push { cls := .type "dict", data := .dict #[] }) sc.names } := ⟨_, rfl⟩
  rw [← e4] at I4
  have start : codeAny (model X.prog X.w) X.A (.compStart (.DictComp ke ve [⟨tg, it, ifs, 0⟩] sc pos) 0 (.ref ia) (.ref D) ce) (compPost (model X.prog X.w) X.A X.xe use Qf (.ref D) s3.heap.objs.size) s4 := by
    have t4 : tn 0 s4.heap := T.keep _ _ _ t3 fun b _ u q => by rw [e4]; exact pushCells_keeps _ _ _ _ (Heap.get?_push_of_some _ q)
    have clear : ∀ b ∈ fp, H3 b = none := fun b hb => (fr3 b hb).1.1
    rw [← eH3] at w0
    have still : ∀ {τ : L2.St} {G : Hp} {t : Shared}, Inv (X.blk s3 H3 sc ce fp) [] τ G t → (∀ b ∈ fp, G b = none) → ∀ b ∈ fp, FpOk (X.blk s3 H3 sc ce fp) [] G b := fun J hn b hb =>
      ⟨hn b hb, (J.ok.exf b hb).1, J.ok.exfs b hb, .inl hb, fun x c e => (J.ok.exf b hb).2 x c e, fun p hp => nomatch (show p ∈ ([] : List (Addr × Obj)) ++ [] from hp)⟩
    have walk : codeAny (model X.prog X.w) X.A (.compLoop (.DictComp ke ve [⟨tg, it, ifs, 0⟩] sc pos) 0 (.ref ia) (.ref D) ce) (compPost (model X.prog X.w) X.A X.xe use Qf (.ref D) s3.heap.objs.size) s4 := by
      refine compLoop_anyD (fun n t => ∃ i G, Inv (X.blk s3 H3 sc ce fp) [] (wipe σ (own.map (·.2))) G t ∧ tn i t.heap ∧ (∀ b ∈ fp, G b = none) ∧ W i n G) ?_ m0 ⟨0, H3, I4, t4, clear, w0⟩
      rintro n s5 ⟨i, G5, I5, t5, c5, w5⟩
      rcases each i n G5 w5 with ⟨stop, done⟩ | ⟨go, Nx, later, turn⟩
      · refine thnF (T.done (X.blk s3 H3 sc ce fp) rfl rfl rfl hc i [] s5 _ G5 (fun _ _ => False) I5 (still I5 c5) t5 stop) ?_
        rintro r s6 ⟨rfl, I6⟩
        have I7 : Inv X pins σ G5 s6 := I3.call' (ch := fp) I6.os I6.base I6.hok I6.bare fun b hb => let z := (fr3 b hb).1; ⟨z.2.2.2.1, z.2.1, z.2.2.2.2.1, z.2.2.2.2.2⟩
        have away : G5 s3.heap.objs.size = none := by rw [← loc]; exact I6.free
        obtain ⟨m, hm, _⟩ := I6.loc
        refine leave D s3.heap.objs.size s6 m G5 I7 done ?_ (I3.fpOk (Nat.le_refl _) away)
        rw [← loc]; exact hm
      · refine thnF (T.item (X.blk s3 H3 sc ce fp) rfl rfl rfl hc i [] s5 _ G5 (fun _ _ => False) I5 (still I5 c5) t5 go) ?_
        rintro r s6 ⟨u, rfl, a6⟩
        refine thnF a6 ?_
        rintro _ s7 ⟨x, G7, I7, r7, y7, t7, c7⟩
        refine thnF (gP.run _ s7 _ G7 x u _ (I7.pinned (still I7 c7) (T.obj _ _ t7)) r7 (turn x G7 y7)) ?_
        rintro _ s8 ⟨τ, G8, I8, same, q8⟩
        refine thnF (tP.run _ s8 τ G8 _ I8 q8) ?_
        rintro b s9 ⟨G9, I9, q9⟩
        have close : ∀ {t : Shared} {G : Hp}, Inv (X.blk s3 H3 sc ce fp) ([] ++ pinsAt fp s7.heap) τ G t → Nx G → ∃ m, m < n ∧ ∃ i G, Inv (X.blk s3 H3 sc ce fp) [] (wipe σ (own.map (·.2))) G t ∧ tn i t.heap ∧ (∀ b ∈ fp, G b = none) ∧ W i m G := fun {t G} Jt nx => by
          obtain ⟨m', lt, w'⟩ := later G nx
          have pinned : ∀ b ∈ fp, ∀ u, s7.heap.get? b = some u → t.heap.get? b = some u ∧ G b = none := fun b hb u q => by
            have z := Jt.pin (b, u) (List.mem_append_right _ (List.mem_append_right _ (mem_pinsAt hb q)))
            exact ⟨z.1, z.2.1⟩
          refine ⟨m', lt, i + 1, G, (Jt.unpinned (pins := [])).weak (by rw [← same, wipe_length]) (fun j v q => ?_), T.keep _ _ _ t7 fun b hb u q => (pinned b hb u q).1, fun b hb => ?_, w'⟩
          · rw [← same] at q
            exact (wipe_some q).1
          · obtain ⟨u, q, _⟩ := T.obj _ _ t7 b hb
            exact (pinned b hb u q).2
        cases b with
        | false =>
          rw [if_neg (by decide)] at q9 ⊢
          exact close I9 q9
        | true =>
          rw [if_pos rfl] at q9 ⊢
          refine thnF (kP.run _ s9 τ G9 _ I9 q9) ?_
          rintro kv s10 ⟨y, G10, I10, r10, q10⟩
          refine thnF (vP.run _ s10 τ G10 _ I10 q10) ?_
          rintro vv s11 ⟨z, G11, I11, r11, ob, dw, nx⟩
          exact dset_any (X := X.blk s3 H3 sc ce fp) hu I11 dw r10 r11 fun t Jt => close Jt nx
    exact codeAny_compStart_dict walk (T.self X.A 0 _ _ _ t4 walk)
  rw [e4, ece, e3] at start
  rw [e3] at *
  exact start
end
/-! ### .. in plain terms -/
open Classical in
noncomputable def compD (tg : Gv) (tt : Tv) (ek ev : Ev) (c : List (Nat × List Val)) : List Val → List DK → List Val → Env → Hh → R (List DK × List Val)
  | [], ks, vs, _, h => if chkOk c h then .ok (ks, vs) h else .bad
  | v :: r, ks, vs, env, h => if chkOk c h then match tg v env h with
      | .ok env1 h1 => match tt env1 h1 with
        | .ok true h2 => match ek env1 h2 with
          | .ok y h3 => match ev env1 h3 with
            | .ok z h4 => match y.dk with
              | some k => if okK ks k = true ∧ ks.length < sizeLine then compD tg tt ek ev c r (dputK ks k) (dputV ks vs k z) env h4 else .bad
              | none => .bad
            | _ => .bad
          | _ => .bad
        | .ok false h2 => compD tg tt ek ev c r ks vs env h2
        | _ => .bad
      | _ => .bad
    else .bad
noncomputable def eDComp (m : Bool) (own : List Nat) (it : Iev) (tg : Gv) (tt : Tv) (ek ev : Ev) : Ev := fun env h => (it env h).bnd fun iv h1 => match compD tg tt ek ev iv.chk iv.items [] [] (wipeE env own) h1 with
  | .ok acc h2 => mkD m acc.1 acc.2 h2
  | _ => .bad
section
variable [Tb] {K : PySem.W.Frag} {T T' : Tr} {μ : Hh} {H H' : Hp}
omit [Tb] in
theorem DRep.held {ks : List DK} {vs : List Val} {a : Addr} (r : DRep K H T ks vs a) : ∃ u, H a = some u ∧ (∀ ps, u ≠ .tbl ps) ∧ ∀ φ, u ≠ .ext φ := by
  rcases r with ⟨l, e, _⟩ | ⟨l, e, _⟩ <;> exact ⟨_, e, nofun, nofun⟩
omit [Tb] in
theorem DRep.move {ks : List DK} {vs : List Val} {a : Addr} (r : DRep K H T ks vs a) (e : H' a = H a) (f : ∀ vs xs, RepL K H T vs xs → RepL K H' T' vs xs) : DRep K H' T' ks vs a := by
  rcases r with ⟨l, h, c, rl⟩ | ⟨l, h, c, rl⟩
  · exact .inl ⟨l, e.trans h, c, f _ _ rl⟩
  · exact .inr ⟨l, e.trans h, c, f _ _ rl⟩
omit [Tb] in
theorem DRep.step {ks : List DK} {vs : List Val} {a : Addr} (r : DRep K H T ks vs a) (st : Step T H T' H') (n : a ∉ T.ρ) : DRep K H' T' ks vs a := by
  obtain ⟨u, e, nt, _⟩ := r.held
  exact r.move (by rw [e, st.frm a u e n nt]) fun vs xs q => q.step st
theorem HSim.writeO {D : Addr} {o : HO} (hs : HSim K T μ H) (hb : T.ban D) (hn : D ∉ T.ρ) (hk : ∀ u, H D = some u → (∀ ps, u ≠ .tbl ps) ∧ ∀ φ, u ≠ .ext φ) (ho : lv (some o) = true) : HSim K T μ (upd H D o) := by
  refine ⟨hs.len, hs.nd, fun n ob e => ?_, hs.old, fun b h => ?_, tabs_upd hs.tb hk⟩
  · obtain ⟨a, e', r⟩ := hs.obj n ob e
    refine ⟨a, e', r.map (hs.old n ob e) (upd_ne fun z => hn ?_) fun vs xs _ r => r.write hb hn⟩
    rw [← z]; exact List.mem_of_getElem? e'
  · by_cases q : b = D
    · rw [q, upd_same]; exact ho
    · rw [upd_ne q]; exact hs.bt b h
theorem HSim.unfenceO {T1 : Tr} {H1 : Hp} {D : Addr} {nb : Ob} (hs : HSim K T μ H) (st : Step T1 H1 T H) (hb : D ∈ T.β) (bt : ∀ b ∈ T1.β, lv (H b) = true) (hn : D ∉ T.ρ) (hbel : nb.bel μ.length = true) (r : ORep K H ⟨T.ρ ++ [D], T1.β⟩ nb D) :
    HSim K ⟨T.ρ ++ [D], T1.β⟩ (μ ++ [nb]) H := by
  have sub := unban_sub (δ := [D]) (by simp) hb st
  have ix : ∀ (n : Nat) (ob : Ob), (μ ++ [nb])[n]? = some ob → (n < μ.length ∧ μ[n]? = some ob) ∨ (n = μ.length ∧ ob = nb) := fun n ob e => by
    by_cases hl : n < μ.length
    · rw [List.getElem?_append_left hl] at e; exact .inl ⟨hl, e⟩
    · have := (List.getElem?_eq_some_iff.mp e).1
      have hm : n = μ.length := by simp at this; omega
      rw [hm] at e
      simp at e
      exact .inr ⟨hm, e.symm⟩
  refine ⟨by simp [hs.len], List.nodup_append.mpr ⟨hs.nd, by simp, fun a ha b hb => ?_⟩, fun n ob e => ?_, fun n ob e => ?_, bt, hs.tb⟩
  · rw [show b = D by simpa using hb]
    exact fun q => hn (q ▸ ha)
  · rcases ix n ob e with ⟨_, e⟩ | ⟨rfl, rfl⟩
    · obtain ⟨a, e', r'⟩ := hs.obj n ob e
      exact ⟨a, app_get n a e', r'.map (hs.old n ob e) rfl fun vs xs _ r => r.sub sub app_get⟩
    · exact ⟨D, by rw [← hs.len]; simp, r⟩
  · rcases ix n ob e with ⟨_, e⟩ | ⟨rfl, rfl⟩
    · exact hs.old n ob e
    · exact hbel
omit [Tb] in
theorem DRep.belOf {ks : List DK} {vs : List Val} {a : Addr} (r : DRep K H T ks vs a) : belL T.ρ.length vs = true := by
  rcases r with ⟨l, h, c, rl⟩ | ⟨l, h, c, rl⟩ <;> exact rl.belOf
end
section
variable [Tb] {X : Cx} {W : WX} {tg ke ve iter : Expr} {ifs : List Expr} {pos : Pos} {own : List Nat} {gv : Gv} {tv : Tv} {ek ev : Ev} {iv : Iev}
theorem dc_read {m : Bool} {σ : L2.St} {H : Hp} {Q : VK} (h : GE X.K X.mg W (eDComp m own iv gv tv ek ev) σ H Q) : tDcx (GI X.K X.mg W iv) (GQo X.K own gv) (GT X.K X.mg W0 tv) (GE X.K X.mg W0 ek) (GE X.K X.mg W0 ev) own σ H Q := by
  obtain ⟨T, μ, env, hs, es, q⟩ := h
  refine ⟨T, μ, env, hs, es, Post.seq q fun it μ1 T1 H1 J s1 hs1 r1 q1 D hD => ?_⟩
  have es1 := (es.step s1).wipe own
  have idem := wipe_idem σ own
  generalize wipeE env own = env0 at es1 q1
  generalize wipe σ own = σ0 at es1 idem
  obtain ⟨accF, μF, eF, qF⟩ : ∃ accF μF, compD gv tv ek ev it.chk it.items [] [] env0 μ1 = .ok accF μF ∧ Post X.K (RV X.K) T1 H1 (mkD m accF.1 accF.2 μF) Q (EX X.K X.mg W σ) := by
    cases hr : compD gv tv ek ev it.chk it.items [] [] env0 μ1 with
    | ok a b => rw [hr] at q1; exact ⟨a, b, rfl, q1⟩
    | exc x b => rw [hr] at q1; exact q1.elim
    | bad => rw [hr] at q1; exact q1.elim
  have st0 : Step T1 H1 ⟨T1.ρ, D :: T1.β⟩ (upd H1 D (.dK [])) := Step.fence hD
  refine ⟨fun i n G => ∃ T μ ks vs, n = it.items.length - i ∧ i ≤ it.items.length ∧ Step T1 H1 T G ∧ D ∈ T.β ∧ D ∉ T.ρ ∧ HSim X.K T μ G ∧ DRep X.K G T ks vs D ∧
    compD gv tv ek ev it.chk (it.items.drop i) ks vs env0 μ = .ok accF μF, ⟨_, ⟨T1.ρ, D :: T1.β⟩, μ1, [], [], rfl, Nat.zero_le _, st0, List.mem_cons_self, hs1.notmem hD, hs1.fence hD, .inl ⟨[], upd_same, rfl, .nil⟩, by rw [List.drop_zero]; exact eF⟩, ?_⟩
  rintro i n H2 ⟨T2, μ2, ks, vs, rfl, hi, st12, bD, nD, hs2, dr, e2⟩
  have es2 := es1.step st12
  have live2 : lv (H2 D) = true := by obtain ⟨u, e, nt, _⟩ := dr.held; rw [e]; exact lv_some nt
  by_cases hlt : i < it.items.length
  · have ed : it.items.drop i = it.items[i] :: it.items.drop (i + 1) := List.drop_eq_getElem_cons hlt
    rw [ed] at e2
    unfold compD at e2
    split at e2
    · rename_i ck
      obtain ⟨go, _⟩ := r1 T2 μ2 H2 st12 hs2 ck
      obtain ⟨g1, g2⟩ := go i it.items[i] (List.getElem?_eq_getElem hlt)
      refine .inr ⟨g1, _, fun H' n => n, fun x H' hy => ?_⟩
      obtain ⟨st3, hs3, r3⟩ := g2 x H' hy
      refine ⟨T2, μ2, env0, it.items[i], hs3, es2.step st3, r3, ?_⟩
      cases hg : gv it.items[i] env0 μ2 with
      | exc x b => rw [hg] at e2; cases e2
      | bad => rw [hg] at e2; cases e2
      | ok env4 μ4 =>
        rw [hg] at e2
        intro T4 H4 σ4 st4 hs4 es4
        refine ⟨es4.2.trans idem, T4, μ4, env4, hs4, es4.1, ?_⟩
        dsimp only at e2
        cases ht : tv env4 μ4 with
        | exc x b => rw [ht] at e2; cases e2
        | bad => rw [ht] at e2; cases e2
        | ok b μ5 =>
          rw [ht] at e2
          intro T5 H5 b' st5 hs5 eb
          cases eb
          have st25 : Step T2 H2 T5 H5 := (st3.trans st4).trans st5
          cases b with
          | false =>
            rw [if_neg (by decide)]
            exact ⟨_, by omega, T5, μ5, ks, vs, rfl, hlt, st12.trans st25, st25.inβ bD, st25.notin live2 nD, hs5, dr.step st25 nD, e2⟩
          | true =>
            rw [if_pos rfl]
            refine ⟨T5, μ5, env4, hs5, es4.1.step st5, ?_⟩
            dsimp only at e2
            cases hk : ek env4 μ5 with
            | exc x b => rw [hk] at e2; cases e2
            | bad => rw [hk] at e2; cases e2
            | ok y μ6 =>
              rw [hk] at e2
              dsimp only at e2
              intro T6 H6 xy st6 hs6 r6
              refine ⟨T6, μ6, env4, hs6, (es4.1.step st5).step st6, ?_⟩
              cases hv : ev env4 μ6 with
              | exc x b => rw [hv] at e2; cases e2
              | bad => rw [hv] at e2; cases e2
              | ok z μ7 =>
                rw [hv] at e2
                dsimp only at e2
                intro T7 H7 xz st7 hs7 r7
                split at e2
                · rename_i k ek'
                  split at e2
                  · rename_i hl
                    have st27 : Step T2 H2 T7 H7 := (st25.trans st6).trans st7
                    have b7 := st27.inβ bD
                    have n7 := st27.notin live2 nD
                    have d7 := dr.step st27 nD
                    obtain ⟨ob, dw, kn, lo, mk7⟩ := drep_put d7 (dk_rep (r6.step st7) ek') hl.1 hl.2 r7
                    exact ⟨ob, dw, _, by omega, T7, μ7, dputK ks k, dputV ks vs k z, rfl, hlt, (st12.trans st27).write hD lo, b7, n7, hs7.writeO (.inr b7) n7 (fun u e => by obtain ⟨u', e', p1, p2⟩ := d7.held; rw [e] at e'; cases e'; exact ⟨p1, p2⟩) lo, mk7 _ T7 upd_same fun vs xs q => q.write (.inr b7) n7, e2⟩
                  · cases e2
                · cases e2
    · cases e2
  · have ei : i = it.items.length := by omega
    subst ei
    rw [List.drop_length] at e2
    unfold compD at e2
    split at e2
    · rename_i ck
      cases e2
      refine .inl ⟨(r1 T2 _ H2 st12 hs2 ck).2, ?_⟩
      have bt : ∀ b ∈ T1.β, lv (H2 b) = true := fun b hb => st12.liv b (hs1.bt b hb)
      unfold mkD at qF
      cases m with
      | true =>
        rw [if_pos rfl] at qF
        have sub := unban_sub (δ := [D]) (by simp) bD st12
        have bel : (Ob.dct ks vs).bel μF.length = true := by rw [← hs2.len]; exact dr.belOf
        refine qF ⟨T2.ρ ++ [D], T1.β⟩ H2 _ (Step.unfence (by simp) hD st12) (hs2.unfenceO (nb := .dct ks vs) st12 bD bt nD bel (dr.move rfl fun vs xs q => q.sub sub app_get)) (.dref (by rw [← hs2.len]; simp) ?_)
        rcases dr with ⟨l, e, _⟩ | ⟨l, e, _⟩ <;> · rw [e]; rfl
      | false =>
        rw [if_neg (by decide)] at qF
        have hb := unban_sub (δ := []) (by simp) bD st12
        have st := Step.unfence (δ := []) (by simp) hD st12
        rw [List.append_nil] at hb st
        have nb : ¬ (Tr.mk T2.ρ T1.β).ban D := by
          rintro (z | z)
          · exact nD z
          · have y := hs1.bt D z; rw [hD] at y; cases y
        refine qF ⟨T2.ρ, T1.β⟩ H2 _ st (hs2.unfence st12 bD bt) ?_
        rcases dr with ⟨l, e, rfl, rl⟩ | ⟨l, e, rfl, rl⟩
        · exact .dicK nb e (rl.sub hb fun _ _ h => h)
        · exact .dicT nb e (rl.sub hb fun _ _ h => h)
    · cases e2
theorem ge_dc {m : Bool} {scope : Scope} {own : List (Str × Nat)} (hu : X.A.units < cLine) (hc : X.calm = true) (hN : X.N.Nodup) (hi : PI X tg iter (GI X.K X.mg W iv)) (ok : BlkOk X.N X.env.scope scope own)
    (hg : ∀ (s : Shared) (H : Hp) (C : Addr) (cl : List (Str × Addr)) (fp : List Addr), PG (X.blk s H scope (compEnvC scope cl C X.env) fp) tg (GQo X.K (own.map (·.2)) gv)) (ht : ∀ (s : Shared) (H : Hp) (C : Addr) (cl : List (Str × Addr)) (fp : List Addr), PTs (X.blk s H scope (compEnvC scope cl C X.env) fp) ifs (GT X.K X.mg W0 tv))
    (hk : ∀ (s : Shared) (H : Hp) (C : Addr) (cl : List (Str × Addr)) (fp : List Addr), PE (X.blk s H scope (compEnvC scope cl C X.env) fp) ke (GE X.K X.mg W0 ek)) (hv : ∀ (s : Shared) (H : Hp) (C : Addr) (cl : List (Str × Addr)) (fp : List Addr), PE (X.blk s H scope (compEnvC scope cl C X.env) fp) ve (GE X.K X.mg W0 ev))
    (hs : ∀ x, foldedSetIterable iter X.env x = pure x := by intro _; rfl) : PE X (.DictComp ke ve [⟨tg, iter, ifs, 0⟩] scope pos) (GE X.K X.mg W (eDComp m (own.map (·.2)) iv gv tv ek ev)) := by
  refine ⟨fun pins s σ H Q I h => ?_⟩
  rw [arm_eval_DictComp]
  refine dcx_run hu hc hN I hi ok hg ht hk hv hs (dc_read h) fun D C t m G J q hn f => ⟨m, hn, fun h2 sb => ?_⟩
  obtain ⟨f0, f1, f2, f3, f4, f5⟩ := f
  exact ⟨.ref D, G, J.turned (t' := t.toks) (fun b u hb e => (sb.2 b hb).trans e) f0 f1 f3 f4 f5, rfl, q⟩
end
end Mp

set_option Elab.async false
set_option linter.all false
set_option maxRecDepth 100000
open PySem PySem.Spec PyProof.Rows L2
namespace Mp
variable [Tb]
/-! ### repr of nested data -/
def rRepr (K : PySem.W.Frag) : List V → Hp → VK → Prop := fun xs H Q => ∃ x d, xs = [x] ∧ Dp K H x d ∧ d.showable = true ∧ d.hasDict = false ∧ d.depth ≤ 64 ∧ d.shown.length ≤ sizeLine ∧ Q (.str d.shown) H
omit [Tb] in
theorem call_repr {X : Cx} (hg : X.A.guards = some []) (hu : X.A.units + 70 < cLine) : CallR X (.builtin "repr") (rRepr X.K) := by
  intro pins s σ H xs us Q I r h
  obtain ⟨x, d, rfl, dp, hs, hd, hp, hz, q⟩ := h
  obtain ⟨u, rfl, rx⟩ := vals1 r
  obtain ⟨as, rd⟩ := Dp.reads I d x u dp rx
  have fin : ∀ h' t tk, (∀ b o, s.heap.get? b = some o → h'.get? b = some o) → EP X pins σ Q (.str d.shown t) { s with heap := h', toks := tk } := fun h' t tk k => ⟨.str d.shown, H, I.un (Un.kept k) (I.hok.kept k), ⟨t, rfl⟩, q⟩
  cases rd with
  | none => exact PySem.P.repr_of_none (fin _ _ _ fun _ _ e => e)
  | bool b => exact PySem.P.repr_of_bool (by have := fin s.heap s.toks (s.toks + 1) fun _ _ e => e; simpa [PyData.shown] using this)
  | int i t => exact PySem.P.repr_of_int (by simpa [PyData.showable] using hs) (by have := fin s.heap s.toks (s.toks + 1) fun _ _ e => e; simpa only [PyData.shown] using this)
  | str x t => exact PySem.P.repr_of_str (by have := fin s.heap s.toks (s.toks + 1) fun _ _ e => e; simpa only [PyData.shown] using this) (by simpa only [PyData.shown] using hz)
  | list a1 a2 a3 a4 => exact repr_of_reads' (.list a1 a2 a3 a4) hs (fun z => by rw [hd] at z; cases z) hg (by omega) (fun _ _ e => e) (fun h' u tk k => fin h' u tk k) hz
  | tuple a1 a2 a3 a4 => exact repr_of_reads' (.tuple a1 a2 a3 a4) hs (fun z => by rw [hd] at z; cases z) hg (by omega) (fun _ _ e => e) (fun h' u tk k => fin h' u tk k) hz
  | dict a1 a2 a3 a4 a5 => exact repr_of_reads' (.dict a1 a2 a3 a4 a5) hs (fun z => by rw [hd] at z; cases z) hg (by omega) (fun _ _ e => e) (fun h' u tk k => fin h' u tk k) hz
open Classical in
noncomputable def reprP (vs : List Val) (h : Hh) : R Val := match vs with
  | [v] => match pdOf v h with
    | some d => if d.showable = true ∧ d.hasDict = false ∧ d.depth ≤ 64 ∧ d.shown.length ≤ sizeLine then .ok (.str d.shown) h else .bad
    | none => .bad
  | _ => .bad
theorem pl_repr {K : PySem.W.Frag} : PL K (rRepr K) reprP := by
  intro T μ H vs xs Q E hs r q
  unfold reprP at q
  split at q
  · obtain ⟨x, rfl, r1⟩ := r.one
    split at q
    · rename_i d ed
      split at q
      · rename_i hk
        exact ⟨x, d, rfl, pdOf_rep hs r1 ed, hk.1, hk.2.1, hk.2.2.1, hk.2.2.2, Post.now q hs (.str _)⟩
      · exact q.elim
    · exact q.elim
  · exact q.elim
end Mp

set_option Elab.async false
set_option linter.all false
set_option maxRecDepth 100000
namespace Mp
open PySem PySem.Spec PyProof.Rows L2
/-! ### the code object and the table of a def of the text -/
theorem tab_at {p : Program} {lo : List Str} {mean : ExcName → Option Value} {mg mb : Str → Option Value} {h : Heap} {K : PySem.W.Frag} {x : Str} {f c t : Addr} {oc : Value} {od dd : Option Addr} {fd : FuncData} {osl sl : Array (Option Value)} {k : Value} {vs : Array Value}
    (T : Top p lo mean mg mb h) (X : K.In h) (hx : ((recsOf p).any fun d => d.name == x) = true) (a : mg x = some (.ref f)) (l : K.lookup f = some ⟨oc, od, .func fd, osl⟩) (hc : fd.code = .ref c) (lc : K.lookup c = some ⟨k, dd, .fields vs, sl⟩) (lv : vs[11]? = some (.ref t)) :
    PySem.W.CodeHd h c t ∧ h.get? t = some { cls := .none, data := .fields #[] } := by
  obtain ⟨d, hd, hn⟩ := List.any_eq_true.mp hx
  obtain ⟨f2, o2, fd2, c2, t2, a1, a2, a3, a4, a5, a6⟩ := T.tab d hd
  rw [beq_iff_eq.mp hn, a] at a1
  cases a1
  rw [X _ _ l] at a2
  cases a2
  cases a3
  rw [hc] at a4
  cases a4
  obtain ⟨⟨o3, vs3, b1, _, b3, b4⟩, b5⟩ := id a6
  rw [X _ _ lc] at b1
  cases b1
  cases b3
  rw [lv] at b4
  cases b4
  exact ⟨PySem.W.CodeHd.of a5 a6, b5⟩
theorem defL_mk [Tb] {K : PySem.W.Frag} {h : Heap} {mg : Str → Option Value} {x : Str} {f c t : Addr} {oc : Value} {od : Option Addr} {fd : FuncData} {osl : Array (Option Value)} (X : K.In h) (G : h.Ns mainGlobals mg) (a : PySem.W.nsIn K mainGlobals x = some (some (.ref f)))
    (l : K.lookup f = some ⟨oc, od, .func fd, osl⟩) (hc : fd.code = .ref c) (m : (c, t, lamNm x) ∈ Tb.cs) (u : ∀ p ∈ Tb.cs, p.2.1 = t → p.2.2 = lamNm x) : DefL K mg x := ⟨f, c, t, oc, od, fd, osl, PySem.W.mg_of X G a, l, hc, m, u⟩
theorem lam_uniq : ∀ {cs : List (Addr × Addr × Str)}, (cs.map (·.2.1)).Nodup → ∀ {c t : Addr} {q : Str}, (c, t, q) ∈ cs → ∀ p ∈ cs, p.2.1 = t → p.2.2 = q
  | [], _, _, _, _, m => nomatch m
  | r :: cs, nd, c, t, q, m => fun p hp e => by
    rw [List.map_cons, List.nodup_cons] at nd
    rcases List.mem_cons.mp hp with h1 | h1
    · rcases List.mem_cons.mp m with h2 | h2
      · rw [h1, ← h2]
      · exact absurd (List.mem_map.mpr ⟨_, h2, by rw [← h1, e]⟩) nd.1
    · rcases List.mem_cons.mp m with h2 | h2
      · exact absurd (List.mem_map.mpr ⟨p, h1, by rw [e, ← h2]⟩) nd.1
      · exact lam_uniq nd.2 h2 p h1 e
end Mp

set_option linter.all false
set_option Elab.async false
set_option maxRecDepth 100000
namespace Mp
open PySem PySem.Spec PyProof PyProof.Rows L2
def sPar3 (i j k : Nat) (a b c : Ev) : Sv := fun env h => lift (a env h) env fun v h1 => lift (b env h1) env fun w h2 => lift (c env h2) env fun u h3 => .nx (((env.set i (some v)).set j (some w)).set k (some u)) h3
variable [Tb] {X : Cx} {W : WX}
def tPar3 (i j k : Nat) (ta : TA) : TS := fun D σ H => ta σ H fun vs H1 => ∃ v w u, vs = [v, w, u] ∧ D.nx (((σ.set i (some v)).set j (some w)).set k (some u)) H1
theorem ps_par3 {i j k : Nat} {x y z : Str} {a b c : Expr} {ta : TA} {px py pz pt pos : Pos} {kt k2 pt2} (hc : X.calm = true) (hN : X.N.Nodup) (hi : X.N[i]? = some x) (hj : X.N[j]? = some y) (hk : X.N[k]? = some z) (hij : i ≠ j) (hik : i ≠ k) (hjk : j ≠ k)
    (hx : X.env.scope.names.lookup x = some .local) (hy : X.env.scope.names.lookup y = some .local) (hz : X.env.scope.names.lookup z = some .local) (ha : PA X [a, b, c] ta)
    (hw : swappedStores [.Tuple [.Name x px, .Name y py, .Name z pz] kt pt] (.Tuple [a, b, c] k2 pt2) X.env = pure (some [x, y, z]))
    (hs : swapsWithSole [.Tuple [.Name x px, .Name y py, .Name z pz] kt pt] (.Tuple [a, b, c] k2 pt2) pos.line X.env = pure false := by rfl) :
    PS X (.Assign [.Tuple [.Name x px, .Name y py, .Name z pz] kt pt] (.Tuple [a, b, c] k2 pt2) pos) (tPar3 i j k ta) := by
  refine ⟨fun pins s σ H D I h => ?_⟩
  rw [exec_Assign_arm]
  refine wpAny_bind (wpAny_standAt ?_)
  rw [hs]
  refine wpAny_bind (wpAny_pure ?_)
  rw [if_neg (by decide)]
  refine wpAny_bind (Tuple_ (thn (ha.run _ pins s σ H _ I h) fun us s1 ⟨vs, H1, I1, r1, q1⟩ => ?_))
  obtain ⟨v, w, u, e1, q1⟩ := q1
  subst e1
  obtain ⟨u1, u2, u3, rfl, rv, rw', ru⟩ : ∃ u1 u2 u3, us = [u1, u2, u3] ∧ RelV v u1 ∧ RelV w u2 ∧ RelV u u3 := by
    cases r1 with
    | cons p q =>
      cases q with
      | cons p' q' =>
        cases q' with
        | cons p2 q2 =>
          cases q2
          exact ⟨_, _, _, rfl, p, p', p2⟩
  refine wpAny_newObj_type ?_ (by show 3 ≤ sizeLine; decide)
  have I2 : Inv X pins σ H1 { s1 with heap := s1.heap.push { cls := .type "tuple", data := .seq [u1, u2, u3].toArray } } := I1.kept (t' := s1.toks) fun b o e => Heap.get?_push_of_some _ e
  rw [hw]
  refine wpAny_bind (wpAny_pure ?_)
  show wpAny (model X.prog X.w) X.A (do rule "assign.swapped-stores"; let items ← unpackItems (.ref s1.heap.objs.size) 3 none; assignInOrder [fun v => bindName X.env z v, fun v => bindName X.env y v, fun v => bindName X.env x v] items.reverse; pure Flow.next) _ _ _
  refine wpAny_bind (wpAny_rule (wpAny_bind (unpackItems_tuple (items := #[u1, u2, u3]) (I.ok.hd hc) (IsTup.new s1.heap _) fun h' hx' => ?_)))
  have I3 := I2.kept (h' := h') (t' := s1.toks) fun b o e => hx' b o (Nat.ne_of_lt (Heap.lt_size e)) e
  show wpAny _ _ (assignInOrder [fun v => bindName X.env z v, fun v => bindName X.env y v, fun v => bindName X.env x v] [u3, u2, u1] >>= fun _ => pure Flow.next) _ _ _
  refine wpAny_bind (assignInOrder_cons (wpAny_bindName (store_ok I3 hN hk (.inl hz) ru (fun s2 I4 => ?_) (.inr hz))))
  refine assignInOrder_cons (wpAny_bindName (store_ok I4 hN hj (.inl hy) rw' (fun s3 I5 => ?_) (.inr hy)))
  refine assignInOrder_cons (wpAny_bindName (store_ok I5 hN hi (.inl hx) rv (fun s4 I6 => assignInOrder_nil (wpAny_pure ?_)) (.inr hx)))
  have e : ((σ.set k (some u)).set j (some w)).set i (some v) = ((σ.set i (some v)).set j (some w)).set k (some u) := by
    rw [List.set_comm _ _ (Ne.symm hij), List.set_comm _ _ (Ne.symm hik), List.set_comm _ _ (Ne.symm hjk)]
  exact ⟨_, _, e ▸ I6, q1⟩
theorem gs_par3 {i j k : Nat} {x y z : Str} {a b c : Expr} {ea eb ec : Ev} {px py pz pt pos : Pos} {kt k2 pt2} (hc : X.calm = true) (hN : X.N.Nodup) (hi : X.N[i]? = some x) (hj : X.N[j]? = some y) (hk : X.N[k]? = some z) (hij : i ≠ j) (hik : i ≠ k) (hjk : j ≠ k)
    (hx : X.env.scope.names.lookup x = some .local) (hy : X.env.scope.names.lookup y = some .local) (hz : X.env.scope.names.lookup z = some .local) (ha : PE X a (GE X.K X.mg W ea)) (hb : PE X b (GE X.K X.mg W eb)) (hcc : PE X c (GE X.K X.mg W ec))
    (hw : swappedStores [.Tuple [.Name x px, .Name y py, .Name z pz] kt pt] (.Tuple [a, b, c] k2 pt2) X.env = pure (some [x, y, z]))
    (hs1 : starEach [a, b, c] X.env = (false, eval a X.env) :: starEach [b, c] X.env := by rfl) (hs2 : starEach [b, c] X.env = (false, eval b X.env) :: starEach [c] X.env := by rfl) (hs3 : starEach [c] X.env = (false, eval c X.env) :: starEach [] X.env := by rfl)
    (hs : swapsWithSole [.Tuple [.Name x px, .Name y py, .Name z pz] kt pt] (.Tuple [a, b, c] k2 pt2) pos.line X.env = pure false := by rfl) :
    PS X (.Assign [.Tuple [.Name x px, .Name y py, .Name z pz] kt pt] (.Tuple [a, b, c] k2 pt2) pos) (GS X.K X.mg W (sPar3 i j k ea eb ec)) :=
  PS.imp (ps_par3 hc hN hi hj hk hij hik hjk hx hy hz (pa_cons ha (pa_cons hb (pa_cons hcc pa_nil hs3) hs2) hs1) hw hs) fun D σ H ⟨T, μ, env, hs, es, q⟩ => ⟨T, μ, env, hs, es, SPost.lift (μ := μ) es q fun v μ1 T1 H1 x s1 hs1 r1 q1 =>
    ⟨T1, μ1, env, hs1, es.step s1, SPost.lift (μ := μ1) (es.step s1) q1 fun w μ2 T2 H2 y s2 hs2 r2 q2 => ⟨T2, μ2, env, hs2, (es.step s1).step s2, SPost.lift (μ := μ2) ((es.step s1).step s2) q2 fun u μ3 T3 H3 z s3 hs3 r3 q3 => ⟨x, y, z, rfl, q3 T3 H3 _ (Step.refl _ _) hs3 (((((((es.step s1).step s2).step s3).set ((r1.step s2).step s3) i).set (r2.step s3) j).set r3 k))⟩⟩⟩⟩
omit [Tb] in
@[simp] theorem x_par3 (i j k : Nat) (a b c : Ev) (env : Env) (h : Hh) : sPar3 i j k a b c env h = lift (a env h) env fun v h1 => lift (b env h1) env fun w h2 => lift (c env h2) env fun u h3 => .nx (((env.set i (some v)).set j (some w)).set k (some u)) h3 := rfl
omit [Tb] in
theorem bb_repr : bootBuiltins "repr" = some (.builtin "repr") := by decide +kernel
end Mp

set_option Elab.async false
set_option linter.all false
set_option maxRecDepth 100000
set_option maxHeartbeats 4000000
namespace Ev
open PySem PySem.Spec PyProof.Rows L2 Mp
/-! is_integer -/
noncomputable def S_is_integer : Sv :=
  (sRet (eAnd (eCall isiP (aCons (eVar 0) (aCons (eC (.ty .int)) aNil))) (eNot (eCall isiP (aCons (eVar 0) (aCons (eC (.ty .bl)) aNil))))))
noncomputable def F_is_integer : List Val → Hh → R Val := runFn 1 S_is_integer
/-! is_within -/
noncomputable def S_is_within : Sv :=
  (sRet (eAnd (eFn F_is_integer (aCons (eVar 0) aNil)) (eChain leP leP (eVar 1) (eVar 0) (eVar 2))))
noncomputable def F_is_within : List Val → Hh → R Val := runFn 3 S_is_within
/-! is_number -/
noncomputable def S_is_number : Sv :=
  (sRet (eAnd (eFn F_is_integer (aCons (eVar 0) aNil)) (eOp geP (eVar 0) (eC (.int 0)))))
noncomputable def F_is_number : List Val → Hh → R Val := runFn 1 S_is_number
/-! is_sized -/
noncomputable def S_is_sized : Sv :=
  (sRet (eAnd (eCall isiP (aCons (eVar 0) (aCons (eC (.ty .tup)) aNil))) (eChain leP leP (eVar 1) (eCall lenP (aCons (eVar 0) aNil)) (eVar 2))))
noncomputable def F_is_sized : List Val → Hh → R Val := runFn 3 S_is_sized
/-! is_amount -/
/-! is_place -/
/-! is_table -/
/-! check_table -/
/-! check_length -/
/-! raw_value -/
/-! value -/
/-! row_of -/
/-! is_round -/
/-! least_round -/
/-! raw_least -/
/-! least -/
/-! is_form -/
/-! check_form -/
/-! first_places -/
/-! first_walk -/
/-! next_amount -/
/-! _law_hand -/
/-! _law_draw -/
/-! _law_is -/
/-! _law_amount -/
/-! _law_table -/
/-! _law_at -/
/-! _law_told -/
/-! _law_great -/
/-! _law_wrong -/
/-! _law_rises -/
/-! _law_asked -/
/-! law -/
end Ev

set_option Elab.async false
set_option linter.all false
set_option maxRecDepth 100000
set_option maxHeartbeats 4000000
namespace Ev
open PySem PySem.Spec PyProof.Rows L2 Mp
/-! is_arc -/
noncomputable def S_is_arc : Sv :=
  (sSeq (sIf (Mp.tOr (Mp.tNot (tB (eFn F_is_sized (aCons (eVar 0) (aCons (eC (.int 4)) (aCons (eC (.int 4)) aNil)))))) (Mp.tOr (Mp.tNot (tB (eFn F_is_within (aCons (eOp ixD (eVar 0) (eC (.int 0))) (aCons (eC (.int 0)) (aCons (eOp subP (eVar 1) (eC (.int 1))) aNil)))))) (Mp.tNot (tB (eFn F_is_within (aCons (eOp ixD (eVar 0) (eC (.int 1))) (aCons (eC (.int 0)) (aCons (eOp subP (eVar 1) (eC (.int 1))) aNil)))))))) (sRet (eC (.bl false))) sNext)
  (sRet (eAnd (eFn F_is_within (aCons (eOp ixD (eVar 0) (eC (.int 2))) (aCons (eC (.int 1)) (aCons (eC (.int 6)) aNil)))) (eFn F_is_within (aCons (eOp ixD (eVar 0) (eC (.int 3))) (aCons (eC (.int 0)) (aCons (eC (.int 99)) aNil)))))))
noncomputable def F_is_arc : List Val → Hh → R Val := runFn 2 S_is_arc
/-! is_net -/
noncomputable def S_is_net : Sv :=
  (sSeq (sIf (Mp.tOr (Mp.tNot (tB (eFn F_is_sized (aCons (eVar 0) (aCons (eC (.int 2)) (aCons (eC (.int 2)) aNil)))))) (Mp.tOr (Mp.tNot (tB (eFn F_is_within (aCons (eOp ixD (eVar 0) (eC (.int 0))) (aCons (eC (.int 1)) (aCons (eC (.int 8)) aNil)))))) (Mp.tNot (tB (eFn F_is_sized (aCons (eOp ixD (eVar 0) (eC (.int 1))) (aCons (eC (.int 0)) (aCons (eC (.int 20)) aNil)))))))) (sRet (eC (.bl false))) sNext)
  (sSeq (sIf (Mp.tNot (tB (eCall allP (aCons (eComp false [1] (iSeq (eOp ixD (eVar 0) (eC (.int 1)))) (gName 1) tTrue (eFn F_is_arc (aCons (eVar 1) (aCons (eOp ixD (eVar 0) (eC (.int 0))) aNil)))) aNil)))) (sRet (eC (.bl false))) sNext)
  (sRet (eOp eqP (eCall lenD (aCons (eDComp false [1] (iSeq (eOp ixD (eVar 0) (eC (.int 1)))) (gName 1) tTrue (eVar 1) (eC (.bl true))) aNil)) (eCall lenD (aCons (eOp ixD (eVar 0) (eC (.int 1))) aNil))))))
noncomputable def F_is_net : List Val → Hh → R Val := runFn 2 S_is_net
/-! check_net -/
noncomputable def S_check_net : Sv :=
  (sIf (Mp.tNot (tB (eFn F_is_net (aCons (eVar 0) aNil)))) (sRaise 12) sNext)
noncomputable def F_check_net : List Val → Hh → R Val := runFn 1 S_check_net
/-! check_node -/
noncomputable def S_check_node : Sv :=
  (sSeq (sExpr (eFn F_check_net (aCons (eVar 0) aNil)))
  (sIf (Mp.tNot (tB (eFn F_is_within (aCons (eVar 1) (aCons (eC (.int 0)) (aCons (eOp subP (eOp ixD (eVar 0) (eC (.int 0))) (eC (.int 1))) aNil)))))) (sRaise 13) sNext))
noncomputable def F_check_node : List Val → Hh → R Val := runFn 2 S_check_node
/-! check_ends -/
noncomputable def S_check_ends : Sv :=
  (sSeq (sExpr (eFn F_check_node (aCons (eVar 0) (aCons (eVar 1) aNil))))
  (sExpr (eFn F_check_node (aCons (eVar 0) (aCons (eVar 2) aNil)))))
noncomputable def F_check_ends : List Val → Hh → R Val := runFn 3 S_check_ends
/-! raw_end -/
noncomputable def B_raw_end_0 : Sv :=
  (sTidy [5] (sSeq (sIf (Mp.tOr (Mp.tNot (tB (eFn F_is_within (aCons (eVar 5) (aCons (eC (.int 0)) (aCons (eVar 4) aNil)))))) (tB (eOp neP (eOp ixD (eOp ixD (eOp ixD (eVar 0) (eC (.int 1))) (eVar 5)) (eC (.int 0))) (eVar 3)))) (sRet (eC .non)) sNext)
  (sSet 3 (eOp ixD (eOp ixD (eOp ixD (eVar 0) (eC (.int 1))) (eVar 5)) (eC (.int 1))))))
noncomputable def S_raw_end : Sv :=
  (sSeq (sIf (Mp.tNot (tB (eCall isiP (aCons (eVar 2) (aCons (eC (.ty .tup)) aNil))))) (sRet (eC .non)) sNext)
  (sSeq (sPar 3 4 (eVar 1) (eOp subP (eCall lenD (aCons (eOp ixD (eVar 0) (eC (.int 1))) aNil)) (eC (.int 1))))
  (sSeq (sFor (iSeq (eVar 2)) (gName 5) B_raw_end_0)
  (sRet (eVar 3)))))
noncomputable def F_raw_end : List Val → Hh → R Val := runFn 6 S_raw_end
/-! is_walk -/
noncomputable def S_is_walk : Sv :=
  (sSeq (sExpr (eFn F_check_ends (aCons (eVar 0) (aCons (eVar 1) (aCons (eVar 2) aNil)))))
  (sRet (eOp eqP (eFn F_raw_end (aCons (eVar 0) (aCons (eVar 1) (aCons (eVar 3) aNil)))) (eVar 2))))
noncomputable def F_is_walk : List Val → Hh → R Val := runFn 4 S_is_walk
/-! check_walk -/
noncomputable def S_check_walk : Sv :=
  (sSeq (sExpr (eFn F_check_node (aCons (eVar 0) (aCons (eVar 1) aNil))))
  (sIf (tB (eOp isNP (eFn F_raw_end (aCons (eVar 0) (aCons (eVar 1) (aCons (eVar 2) aNil)))) (eC .non))) (sRaise 37) sNext))
noncomputable def F_check_walk : List Val → Hh → R Val := runFn 3 S_check_walk
/-! raw_length -/
noncomputable def S_raw_length : Sv :=
  (sRet (eCall sumP (aCons (eComp false [2] (iSeq (eVar 1)) (gName 2) tTrue (eOp ixD (eOp ixD (eOp ixD (eVar 0) (eC (.int 1))) (eVar 2)) (eC (.int 2)))) aNil)))
noncomputable def F_raw_length : List Val → Hh → R Val := runFn 3 S_raw_length
/-! raw_cost -/
noncomputable def S_raw_cost : Sv :=
  (sRet (eCall sumP (aCons (eComp false [2] (iSeq (eVar 1)) (gName 2) tTrue (eOp ixD (eOp ixD (eOp ixD (eVar 0) (eC (.int 1))) (eVar 2)) (eC (.int 3)))) aNil)))
noncomputable def F_raw_cost : List Val → Hh → R Val := runFn 3 S_raw_cost
/-! length_of -/
noncomputable def S_length_of : Sv :=
  (sSeq (sExpr (eFn F_check_walk (aCons (eVar 0) (aCons (eVar 1) (aCons (eVar 2) aNil)))))
  (sRet (eFn F_raw_length (aCons (eVar 0) (aCons (eVar 2) aNil)))))
noncomputable def F_length_of : List Val → Hh → R Val := runFn 3 S_length_of
/-! cost_of -/
noncomputable def S_cost_of : Sv :=
  (sSeq (sExpr (eFn F_check_walk (aCons (eVar 0) (aCons (eVar 1) (aCons (eVar 2) aNil)))))
  (sRet (eFn F_raw_cost (aCons (eVar 0) (aCons (eVar 2) aNil)))))
noncomputable def F_cost_of : List Val → Hh → R Val := runFn 3 S_cost_of
/-! winding_end -/
noncomputable def S_winding_end : Sv :=
  (sSeq (sIf (Mp.tOr (Mp.tNot (tB (eFn F_is_sized (aCons (eVar 2) (aCons (eC (.int 4)) (aCons (eC (.int 4)) aNil)))))) (Mp.tNot (tB (eFn F_is_number (aCons (eOp ixD (eVar 2) (eC (.int 2))) aNil))))) (sRet (eC .non)) sNext)
  (sSeq (sSet 3 (eFn F_raw_end (aCons (eVar 0) (aCons (eVar 1) (aCons (eOp ixD (eVar 2) (eC (.int 0))) aNil)))))
  (sSeq (sIf (Mp.tOr (tB (eOp isNP (eVar 3) (eC .non))) (tB (eOp neP (eFn F_raw_end (aCons (eVar 0) (aCons (eVar 3) (aCons (eOp ixD (eVar 2) (eC (.int 1))) aNil)))) (eVar 3)))) (sRet (eC .non)) sNext)
  (sSeq (sIf (Mp.tAnd (tB (eOp eqP (eOp ixD (eVar 2) (eC (.int 1))) (eTup aNil))) (tB (eOp gtP (eOp ixD (eVar 2) (eC (.int 2))) (eC (.int 0))))) (sRet (eC .non)) sNext)
  (sRet (eFn F_raw_end (aCons (eVar 0) (aCons (eVar 3) (aCons (eOp ixD (eVar 2) (eC (.int 3))) aNil)))))))))
noncomputable def F_winding_end : List Val → Hh → R Val := runFn 4 S_winding_end
/-! is_winding -/
noncomputable def S_is_winding : Sv :=
  (sSeq (sExpr (eFn F_check_ends (aCons (eVar 0) (aCons (eVar 1) (aCons (eVar 2) aNil)))))
  (sRet (eOp eqP (eFn F_winding_end (aCons (eVar 0) (aCons (eVar 1) (aCons (eVar 3) aNil)))) (eVar 2))))
noncomputable def F_is_winding : List Val → Hh → R Val := runFn 4 S_is_winding
/-! check_winding -/
noncomputable def S_check_winding : Sv :=
  (sSeq (sExpr (eFn F_check_node (aCons (eVar 0) (aCons (eVar 1) aNil))))
  (sIf (tB (eOp isNP (eFn F_winding_end (aCons (eVar 0) (aCons (eVar 1) (aCons (eVar 2) aNil)))) (eC .non))) (sRaise 38) sNext))
noncomputable def F_check_winding : List Val → Hh → R Val := runFn 3 S_check_winding
/-! wound_length -/
noncomputable def S_wound_length : Sv :=
  (sRet (eOp (addP false) (eFn F_raw_length (aCons (eVar 0) (aCons (eOp (addP false) (eOp ixD (eVar 1) (eC (.int 0))) (eOp ixD (eVar 1) (eC (.int 3)))) aNil))) (eOp (mulP false) (eOp ixD (eVar 1) (eC (.int 2))) (eFn F_raw_length (aCons (eVar 0) (aCons (eOp ixD (eVar 1) (eC (.int 1))) aNil))))))
noncomputable def F_wound_length : List Val → Hh → R Val := runFn 2 S_wound_length
/-! wound_cost -/
noncomputable def S_wound_cost : Sv :=
  (sRet (eOp (addP false) (eFn F_raw_cost (aCons (eVar 0) (aCons (eOp (addP false) (eOp ixD (eVar 1) (eC (.int 0))) (eOp ixD (eVar 1) (eC (.int 3)))) aNil))) (eOp (mulP false) (eOp ixD (eVar 1) (eC (.int 2))) (eFn F_raw_cost (aCons (eVar 0) (aCons (eOp ixD (eVar 1) (eC (.int 1))) aNil))))))
noncomputable def F_wound_cost : List Val → Hh → R Val := runFn 2 S_wound_cost
/-! winding_length -/
noncomputable def S_winding_length : Sv :=
  (sSeq (sExpr (eFn F_check_winding (aCons (eVar 0) (aCons (eVar 1) (aCons (eVar 2) aNil)))))
  (sRet (eFn F_wound_length (aCons (eVar 0) (aCons (eVar 2) aNil)))))
noncomputable def F_winding_length : List Val → Hh → R Val := runFn 3 S_winding_length
/-! winding_cost -/
noncomputable def S_winding_cost : Sv :=
  (sSeq (sExpr (eFn F_check_winding (aCons (eVar 0) (aCons (eVar 1) (aCons (eVar 2) aNil)))))
  (sRet (eFn F_wound_cost (aCons (eVar 0) (aCons (eVar 2) aNil)))))
noncomputable def F_winding_cost : List Val → Hh → R Val := runFn 3 S_winding_cost
/-! unwound -/
noncomputable def S_unwound : Sv :=
  (sSeq (sExpr (eFn F_check_winding (aCons (eVar 0) (aCons (eVar 1) (aCons (eVar 2) aNil)))))
  (sSeq (sAsg (gTup (gCons (gName 3) (gCons (gName 4) (gCons (gName 5) (gCons (gName 6) gNil))))) (eVar 2))
  (sSeq (sIf (tB (eOp gtP (eOp (addP false) (eOp (addP false) (eCall lenD (aCons (eVar 3) aNil)) (eCall lenD (aCons (eVar 6) aNil))) (eOp (mulP false) (eVar 5) (eCall lenD (aCons (eVar 4) aNil)))) (eC (.int 2000)))) (sRaiseA 41 "most" (eC (.int 2000))) sNext)
  (sRet (eOp (addP false) (eOp (addP false) (eVar 3) (eOp (mulQ false) (eVar 4) (eVar 5))) (eVar 6))))))
noncomputable def F_unwound : List Val → Hh → R Val := runFn 7 S_unwound
/-! check_asked -/
noncomputable def S_check_asked : Sv :=
  (sSeq (sExpr (eFn F_check_ends (aCons (eVar 0) (aCons (eVar 1) (aCons (eVar 2) aNil)))))
  (sIf (Mp.tNot (tB (eFn F_is_within (aCons (eVar 3) (aCons (eC (.int 0)) (aCons (eC (.int 300)) aNil)))))) (sRaise 9) sNext))
noncomputable def F_check_asked : List Val → Hh → R Val := runFn 4 S_check_asked
/-! costs_ahead -/
noncomputable def B_costs_ahead_0 : Sv :=
  (sTidy [5, 6, 7, 8, 9, 10] (sSeq (sPar 9 10 (eOp ixD (eOp ixD (eVar 3) (eVar 4)) (eVar 5)) (eOp (addP false) (eVar 4) (eVar 7)))
  (sIf (Mp.tAnd (tB (eOp notNP (eVar 9) (eC .non))) (Mp.tAnd (tB (eOp leP (eVar 10) (eVar 2))) (Mp.tOr (tB (eOp isNP (eOp ixD (eOp ixD (eVar 3) (eVar 10)) (eVar 6)) (eC .non))) (tB (eOp ltP (eOp (addP false) (eVar 9) (eVar 8)) (eOp ixD (eOp ixD (eVar 3) (eVar 10)) (eVar 6))))))) (sAsg (gSubD (eOp ixD (eVar 3) (eVar 10)) (eVar 6)) (eOp (addP false) (eVar 9) (eVar 8))) sNext)))
noncomputable def B_costs_ahead_1 : Sv :=
  (sTidy [4, 5, 6, 7, 8, 9, 10] (sFor (iSeq (eOp ixD (eVar 0) (eC (.int 1)))) (gTup (gCons (gName 5) (gCons (gName 6) (gCons (gName 7) (gCons (gName 8) gNil))))) B_costs_ahead_0))
noncomputable def S_costs_ahead : Sv :=
  (sSeq (sSet 3 (eComp false [4] (iRng1 (aCons (eOp (addP false) (eVar 2) (eC (.int 1))) aNil)) (gName 4) tTrue (eOp (mulP true) (eLst false (aCons (eC .non) aNil)) (eOp ixD (eVar 0) (eC (.int 0))))))
  (sSeq (sAsg (gSubD (eOp ixD (eVar 3) (eC (.int 0))) (eVar 1)) (eC (.int 0)))
  (sSeq (sFor (iRng1 (aCons (eOp (addP false) (eVar 2) (eC (.int 1))) aNil)) (gName 4) B_costs_ahead_1)
  (sRet (eVar 3)))))
noncomputable def F_costs_ahead : List Val → Hh → R Val := runFn 11 S_costs_ahead
/-! raw_least_cost -/
noncomputable def S_raw_least_cost : Sv :=
  (sRet (eOp ixD (eOp ixD (eFn F_costs_ahead (aCons (eVar 0) (aCons (eVar 1) (aCons (eVar 3) aNil)))) (eVar 3)) (eVar 2)))
noncomputable def F_raw_least_cost : List Val → Hh → R Val := runFn 4 S_raw_least_cost
/-! least_cost -/
noncomputable def S_least_cost : Sv :=
  (sSeq (sExpr (eFn F_check_asked (aCons (eVar 0) (aCons (eVar 1) (aCons (eVar 2) (aCons (eVar 3) aNil))))))
  (sRet (eFn F_raw_least_cost (aCons (eVar 0) (aCons (eVar 1) (aCons (eVar 2) (aCons (eVar 3) aNil)))))))
noncomputable def F_least_cost : List Val → Hh → R Val := runFn 4 S_least_cost
/-! _law_hand -/
noncomputable def S__law_hand_v09 : Sv :=
  (sSeq (sSet 1 (eComp false [2] (iSeq (eSl false (eVar 0) oNone (oSome (eC (.int 63))))) (gName 2) tTrue (eOp modP (eCall intP (aCons (eCall absP (aCons (eCall intP (aCons (eVar 2) aNil)) aNil)) aNil)) (eOp powP (eC (.int 10)) (eC (.int 36))))))
  (sRet (eLst true (aCons (eVar 1) (aCons (eC (.int 0)) (aCons (eC (.int 0)) (aCons (eOp (addP false) (eC (.int 8117)) (eOp (mulP false) (eC (.int 11)) (eCall lenD (aCons (eVar 1) aNil)))) (aCons (eC (.int 0)) aNil))))))))
noncomputable def F__law_hand_v09 : List Val → Hh → R Val := runFnM 3 S__law_hand_v09
/-! _law_draw -/
noncomputable def S__law_draw_v09 : Sv :=
  (sSeq (sIf (Mp.tAnd (tB (eOp eqP (eOp ixD (eVar 0) (eC (.int 2))) (eC (.int 0)))) (tB (eOp ltP (eOp ixD (eVar 0) (eC (.int 1))) (eCall lenD (aCons (eOp ixD (eVar 0) (eC (.int 0))) aNil))))) (sSeq (sSet 2 (eOp ixD (eOp ixD (eVar 0) (eC (.int 0))) (eOp ixD (eVar 0) (eC (.int 1)))))
  (sSeq (sAsg (gSubD (eVar 0) (eC (.int 1))) (eOp (addP false) (eOp ixD (eVar 0) (eC (.int 1))) (eC (.int 1))))
  (sSeq (sAsg (gSubD (eVar 0) (eC (.int 3))) (eOp modP (eCall intP (aCons (eOp (addP false) (eOp (addP false) (eOp (mulP false) (eOp ixD (eVar 0) (eC (.int 3))) (eC (.int 48271))) (eOp (mulP false) (eVar 2) (eC (.int 40692)))) (eC (.int 611))) aNil)) (eC (.int 2147483629))))
  (sIf (tB (eOp geP (eVar 2) (eOp powP (eC (.int 10)) (eC (.int 18))))) (sAsg (gSubD (eVar 0) (eC (.int 2))) (eVar 2)) sNext)))) sNext)
  (sSeq (sIf (tB (eOp gtP (eOp ixD (eVar 0) (eC (.int 2))) (eC (.int 0)))) (sSeq (sSet 3 (eOp modP (eCall intP (aCons (eOp ixD (eVar 0) (eC (.int 2))) aNil)) (eVar 1)))
  (sSeq (sAsg (gSubD (eVar 0) (eC (.int 2))) (eOp divP (eOp ixD (eVar 0) (eC (.int 2))) (eVar 1)))
  (sRet (eVar 3)))) sNext)
  (sSeq (sAsg (gSubD (eVar 0) (eC (.int 4))) (eOp (addP false) (eOp ixD (eVar 0) (eC (.int 4))) (eC (.int 1))))
  (sSeq (sSet 4 (eOp modP (eCall intP (aCons (eOp (mulP false) (eCall intP (aCons (eOp (addP false) (eOp ixD (eVar 0) (eC (.int 3))) (eOp (mulP false) (eC (.int 7919)) (eOp ixD (eVar 0) (eC (.int 4))))) aNil)) (eC (.int 48271))) aNil)) (eC (.int 2147483647))))
  (sSeq (sSet 4 (eOp modP (eCall intP (aCons (eOp (mulP false) (eVar 4) (eOp (addP false) (eOp divP (eVar 4) (eC (.int 1013))) (eC (.int 69621)))) aNil)) (eC (.int 2147483647))))
  (sSeq (sSet 4 (eOp modP (eCall intP (aCons (eOp (mulP false) (eVar 4) (eOp (addP false) (eOp divP (eVar 4) (eC (.int 2011))) (eC (.int 40692)))) aNil)) (eC (.int 2147483563))))
  (sRet (eOp modP (eCall intP (aCons (eOp divP (eVar 4) (eC (.int 16))) aNil)) (eVar 1)))))))))
noncomputable def F__law_draw_v09 : List Val → Hh → R Val := runFn 5 S__law_draw_v09
/-! _law_some -/
noncomputable def S__law_some : Sv :=
  (sRet (eOp ixD (eVar 1) (eFn F__law_draw_v09 (aCons (eVar 0) (aCons (eCall lenD (aCons (eVar 1) aNil)) aNil)))))
noncomputable def F__law_some : List Val → Hh → R Val := runFn 2 S__law_some
/-! _law_net -/
noncomputable def B__law_net_0 : Sv :=
  (sTidy [3, 4, 5] (sSeq (sSet 4 (eFn F__law_some (aCons (eVar 0) (aCons (eLst false (aCons (eC (.int 0)) (aCons (eC (.int 1)) (aCons (eC (.int 2)) (aCons (eC (.int 5)) (aCons (eC (.int 9)) (aCons (eC (.int 99)) aNil))))))) aNil))))
  (sSeq (sSet 5 (eTup (aCons (eFn F__law_draw_v09 (aCons (eVar 0) (aCons (eVar 1) aNil))) (aCons (eFn F__law_draw_v09 (aCons (eVar 0) (aCons (eVar 1) aNil))) (aCons (eOp (addP false) (eC (.int 1)) (eFn F__law_draw_v09 (aCons (eVar 0) (aCons (eC (.int 3)) aNil)))) (aCons (eVar 4) aNil))))))
  (sIf (tB (eOp (inD true) (eVar 5) (eVar 2))) (sExpr (eMeth isL appP (eVar 2) (aCons (eVar 5) aNil))) sNext))))
noncomputable def S__law_net : Sv :=
  (sSeq (sPar 1 2 (eOp (addP false) (eC (.int 1)) (eFn F__law_draw_v09 (aCons (eVar 0) (aCons (eC (.int 4)) aNil)))) (eLst true aNil))
  (sSeq (sFor (iRng1 (aCons (eFn F__law_draw_v09 (aCons (eVar 0) (aCons (eC (.int 10)) aNil))) aNil)) (gName 3) B__law_net_0)
  (sRet (eTup (aCons (eVar 1) (aCons (eCall tupleP (aCons (eVar 2) aNil)) aNil))))))
noncomputable def F__law_net : List Val → Hh → R Val := runFn 6 S__law_net
/-! _law_bad_net -/
noncomputable def S__law_bad_net : Sv :=
  (sSeq (sSet 1 (eLst false (aCons (eC .non) (aCons (eC (.int 3)) (aCons (eTup (aCons (eC (.int 0)) (aCons (eTup aNil) aNil))) (aCons (eTup (aCons (eC (.int 9)) (aCons (eTup aNil) aNil))) (aCons (eTup (aCons (eC (.int 1)) (aCons (eLst false aNil) aNil))) (aCons (eLst false (aCons (eC (.int 1)) (aCons (eTup aNil) aNil))) (aCons (eTup (aCons (eC (.int 1)) (aCons (eTup (aCons (eTup (aCons (eC (.int 0)) (aCons (eC (.int 1)) (aCons (eC (.int 1)) (aCons (eC (.int 0)) aNil))))) aNil)) aNil))) (aCons (eTup (aCons (eC (.int 1)) (aCons (eTup (aCons (eTup (aCons (eC (.int 0)) (aCons (eC (.int 0)) (aCons (eC (.int 0)) (aCons (eC (.int 0)) aNil))))) aNil)) aNil))) aNil))))))))))
  (sSeq (sSet 1 (eOp (addP false) (eVar 1) (eLst false (aCons (eTup (aCons (eC (.int 1)) (aCons (eTup (aCons (eTup (aCons (eC (.int 0)) (aCons (eC (.int 0)) (aCons (eC (.int 7)) (aCons (eC (.int 0)) aNil))))) aNil)) aNil))) (aCons (eTup (aCons (eC (.int 1)) (aCons (eTup (aCons (eTup (aCons (eC (.int 0)) (aCons (eC (.int 0)) (aCons (eC (.int 1)) (aCons (eC (.int 100)) aNil))))) aNil)) aNil))) (aCons (eTup (aCons (eC (.int 1)) (aCons (eTup (aCons (eTup (aCons (eC (.int 0)) (aCons (eC (.int 0)) (aCons (eC (.int 1)) (aCons (eUn negP (eC (.int 1))) aNil))))) aNil)) aNil))) (aCons (eTup (aCons (eC (.bl true)) (aCons (eTup aNil) aNil))) (aCons (eC (.str "net")) aNil))))))))
  (sSeq (sSet 1 (eOp (addP false) (eVar 1) (eLst false (aCons (eTup (aCons (eC (.int 1)) (aCons (eTup (aCons (eTup (aCons (eC (.int 0)) (aCons (eC (.int 0)) (aCons (eC (.int 1)) (aCons (eC (.int 0)) aNil))))) (aCons (eTup (aCons (eC (.int 0)) (aCons (eC (.int 0)) (aCons (eC (.int 1)) (aCons (eC (.int 0)) aNil))))) aNil))) aNil))) (aCons (eTup (aCons (eC (.int 1)) (aCons (eTup (aCons (eTup (aCons (eC (.int 0)) (aCons (eC (.int 0)) (aCons (eC (.int 1)) aNil)))) aNil)) aNil))) (aCons (eTup (aCons (eC (.int 1)) (aCons (eTup (aCons (eLst false (aCons (eC (.int 0)) (aCons (eC (.int 0)) (aCons (eC (.int 1)) (aCons (eC (.int 0)) aNil))))) aNil)) aNil))) aNil))))))
  (sRet (eFn F__law_some (aCons (eVar 0) (aCons (eOp (addP false) (eVar 1) (eLst false (aCons (eTup (aCons (eC (.int 2)) (aCons (eTup (aCons (eTup (aCons (eC (.int 0)) (aCons (eC (.bl true)) (aCons (eC (.int 1)) (aCons (eC (.int 0)) aNil))))) aNil)) aNil))) (aCons (eTup (aCons (eC (.int 1)) (aCons (eTup aNil) (aCons (eC (.int 0)) aNil)))) aNil)))) aNil)))))))
noncomputable def F__law_bad_net : List Val → Hh → R Val := runFn 2 S__law_bad_net
/-! _law_bad_node -/
noncomputable def S__law_bad_node : Sv :=
  (sRet (eFn F__law_some (aCons (eVar 0) (aCons (eLst false (aCons (eOp ixD (eVar 1) (eC (.int 0))) (aCons (eUn negP (eC (.int 1))) (aCons (eC .non) (aCons (eC (.bl true)) (aCons (eC (.str "0")) (aCons (eTup (aCons (eC (.int 0)) aNil)) aNil))))))) aNil))))
noncomputable def F__law_bad_node : List Val → Hh → R Val := runFn 2 S__law_bad_node
/-! _law_walk -/
noncomputable def B__law_walk_0 : Sv :=
  (sTidy [6, 7] (sSeq (sSet 7 (eComp false [8, 9] (iEn (aCons (eOp ixD (eVar 1) (eC (.int 1))) aNil)) (gTup (gCons (gName 8) (gCons (gName 9) gNil))) (tB (eOp eqP (eOp ixD (eVar 9) (eC (.int 0))) (eVar 5))) (eVar 8)))
  (sIf (tB (eOp gtP (eCall lenD (aCons (eVar 7) aNil)) (eC (.int 0)))) (sSeq (sExpr (eMeth isL appP (eVar 4) (aCons (eFn F__law_some (aCons (eVar 0) (aCons (eVar 7) aNil))) aNil)))
  (sSet 5 (eOp ixD (eOp ixD (eOp ixD (eVar 1) (eC (.int 1))) (eOp ixD (eVar 4) (eUn negP (eC (.int 1))))) (eC (.int 1))))) sNext)))
noncomputable def S__law_walk : Sv :=
  (sSeq (sAsg (gTup (gCons (gName 4) (gCons (gName 5) gNil))) (eTup (aCons (eLst true aNil) (aCons (eVar 2) aNil))))
  (sSeq (sFor (iRng1 (aCons (eFn F__law_draw_v09 (aCons (eVar 0) (aCons (eOp (addP false) (eVar 3) (eC (.int 1))) aNil))) aNil)) (gName 6) B__law_walk_0)
  (sRet (eCall tupleP (aCons (eVar 4) aNil)))))
noncomputable def F__law_walk : List Val → Hh → R Val := runFn 10 S__law_walk
/-! _law_end -/
noncomputable def S__law_end : Sv :=
  (sRet (eIf (tB (eOp gtP (eCall lenD (aCons (eVar 2) aNil)) (eC (.int 0)))) (eOp ixD (eOp ixD (eOp ixD (eVar 0) (eC (.int 1))) (eOp ixD (eVar 2) (eUn negP (eC (.int 1))))) (eC (.int 1))) (eVar 1)))
noncomputable def F__law_end : List Val → Hh → R Val := runFn 3 S__law_end
/-! _law_is_walk -/
noncomputable def B__law_is_walk_0 : Sv :=
  (sTidy [5] (sSeq (sIf (Mp.tOr (Mp.tNot (tB (eChain leP ltP (eC (.int 0)) (eVar 5) (eCall lenD (aCons (eOp ixD (eVar 0) (eC (.int 1))) aNil))))) (tB (eOp neP (eOp ixD (eOp ixD (eOp ixD (eVar 0) (eC (.int 1))) (eVar 5)) (eC (.int 0))) (eVar 4)))) (sRet (eC (.bl false))) sNext)
  (sSet 4 (eOp ixD (eOp ixD (eOp ixD (eVar 0) (eC (.int 1))) (eVar 5)) (eC (.int 1))))))
noncomputable def S__law_is_walk : Sv :=
  (sSeq (sSet 4 (eVar 1))
  (sSeq (sFor (iSeq (eVar 3)) (gName 5) B__law_is_walk_0)
  (sRet (eOp eqP (eVar 4) (eVar 2)))))
noncomputable def F__law_is_walk : List Val → Hh → R Val := runFn 6 S__law_is_walk
/-! _law_sum -/
noncomputable def S__law_sum : Sv :=
  (sRet (eCall sumP (aCons (eComp false [3] (iSeq (eVar 1)) (gName 3) tTrue (eOp ixD (eOp ixD (eOp ixD (eVar 0) (eC (.int 1))) (eVar 3)) (eVar 2))) aNil)))
noncomputable def F__law_sum : List Val → Hh → R Val := runFn 4 S__law_sum
/-! _law_is -/
noncomputable def S__law_is_v09 : Sv :=
  (sRet (eOp eqP (eCall reprP (aCons (eVar 0) aNil)) (eCall reprP (aCons (eVar 1) aNil))))
noncomputable def F__law_is_v09 : List Val → Hh → R Val := runFn 2 S__law_is_v09
/-! _law_said -/
noncomputable def S__law_said (θ : Hh → R Val) : Sv :=
  (sTryA [9, 12, 13, 37, 38, 41] (sRet (eThk θ)) ((12, none, fun _ => (sRet (eC (.str "NoNet")))) :: ((13, none, fun _ => (sRet (eC (.str "NoNode")))) :: ((38, none, fun _ => (sRet (eC (.str "NoWinding")))) :: ((41, some 1, (aRet2 (.str "TooMany") "most")) :: [])))))
noncomputable def F__law_said : (Hh → R Val) → Hh → R Val := fun θ => runFn 2 (S__law_said θ) []
/-! _law_ring -/
noncomputable def B__law_ring_0 : Sv :=
  (sTidy [4, 6, 7] (sSeq (sSet 4 (eOp ixD (eOp ixD (eOp ixD (eVar 1) (eC (.int 1))) (eVar 7)) (eC (.int 1))))
  (sIf (tB (eOp eqP (eVar 4) (eVar 2))) (sSet 5 (eSl false (eVar 3) oNone (oSome (eOp (addP false) (eVar 6) (eC (.int 1)))))) sNext)))
noncomputable def S__law_ring : Sv :=
  (sSeq (sPar3 3 4 5 (eFn F__law_walk (aCons (eVar 0) (aCons (eVar 1) (aCons (eVar 2) (aCons (eC (.int 8)) aNil))))) (eVar 2) (eTup aNil))
  (sSeq (sFor (iEn (aCons (eVar 3) aNil)) (gTup (gCons (gName 6) (gCons (gName 7) gNil))) B__law_ring_0)
  (sRet (eVar 5))))
noncomputable def F__law_ring : List Val → Hh → R Val := runFn 8 S__law_ring
/-! _law_winding -/
noncomputable def S__law_winding : Sv :=
  (sSeq (sSet 3 (eFn F__law_walk (aCons (eVar 0) (aCons (eVar 1) (aCons (eVar 2) (aCons (eC (.int 5)) aNil))))))
  (sSeq (sSet 4 (eFn F__law_end (aCons (eVar 1) (aCons (eVar 2) (aCons (eVar 3) aNil)))))
  (sSeq (sSet 5 (eFn F__law_ring (aCons (eVar 0) (aCons (eVar 1) (aCons (eVar 4) aNil)))))
  (sSeq (sSet 6 (eFn F__law_some (aCons (eVar 0) (aCons (eLst false (aCons (eC (.int 0)) (aCons (eC (.int 1)) (aCons (eC (.int 2)) (aCons (eFn F__law_draw_v09 (aCons (eVar 0) (aCons (eC (.int 100)) aNil))) (aCons (eOp (addP false) (eOp powP (eC (.int 10)) (eC (.int 39))) (eFn F__law_draw_v09 (aCons (eVar 0) (aCons (eOp powP (eC (.int 10)) (eC (.int 6))) aNil)))) aNil)))))) aNil))))
  (sRet (eTup (aCons (eVar 3) (aCons (eVar 5) (aCons (eIf (tB (eOp gtP (eCall lenD (aCons (eVar 5) aNil)) (eC (.int 0)))) (eVar 6) (eC (.int 0))) (aCons (eFn F__law_walk (aCons (eVar 0) (aCons (eVar 1) (aCons (eVar 4) (aCons (eC (.int 5)) aNil))))) aNil))))))))))
noncomputable def F__law_winding : List Val → Hh → R Val := runFn 7 S__law_winding
/-! _law_leads -/
noncomputable def B__law_leads_0 : Sv :=
  (sTidy [4] (sSeq (sIf (Mp.tOr (Mp.tNot (tB (eChain leP ltP (eC (.int 0)) (eVar 4) (eCall lenD (aCons (eOp ixD (eVar 0) (eC (.int 1))) aNil))))) (tB (eOp neP (eOp ixD (eOp ixD (eOp ixD (eVar 0) (eC (.int 1))) (eVar 4)) (eC (.int 0))) (eVar 3)))) (sRet (eC (.bl false))) sNext)
  (sSet 3 (eOp ixD (eOp ixD (eOp ixD (eVar 0) (eC (.int 1))) (eVar 4)) (eC (.int 1))))))
noncomputable def S__law_leads : Sv :=
  (sSeq (sSet 3 (eVar 1))
  (sSeq (sFor (iSeq (eVar 2)) (gName 4) B__law_leads_0)
  (sRet (eC (.bl true)))))
noncomputable def F__law_leads : List Val → Hh → R Val := runFn 5 S__law_leads
/-! _law_is_winding -/
noncomputable def S__law_is_winding : Sv :=
  (sSeq (sAsg (gTup (gCons (gName 4) (gCons (gName 5) (gCons (gName 6) (gCons (gName 7) gNil))))) (eVar 3))
  (sSeq (sSet 8 (eIf (tB (eFn F__law_leads (aCons (eVar 0) (aCons (eVar 1) (aCons (eVar 4) aNil))))) (eFn F__law_end (aCons (eVar 0) (aCons (eVar 1) (aCons (eVar 4) aNil)))) (eC .non)))
  (sSeq (sIf (Mp.tOr (tB (eOp isNP (eVar 8) (eC .non))) (Mp.tOr (Mp.tNot (tB (eFn F__law_is_walk (aCons (eVar 0) (aCons (eVar 8) (aCons (eVar 8) (aCons (eVar 5) aNil))))))) (Mp.tAnd (tB (eOp gtP (eVar 6) (eC (.int 0)))) (tB (eOp eqP (eCall lenD (aCons (eVar 5) aNil)) (eC (.int 0))))))) (sRet (eC (.bl false))) sNext)
  (sRet (eFn F__law_is_walk (aCons (eVar 0) (aCons (eVar 8) (aCons (eVar 2) (aCons (eVar 7) aNil)))))))))
noncomputable def F__law_is_winding : List Val → Hh → R Val := runFn 9 S__law_is_winding
/-! _law_bent -/
noncomputable def S__law_bent : Sv :=
  (sSeq (sAsg (gTup (gCons (gName 3) (gCons (gName 4) (gCons (gName 5) (gCons (gName 6) gNil))))) (eVar 2))
  (sSeq (sPar 7 8 (eFn F__law_draw_v09 (aCons (eVar 0) (aCons (eOp (addP false) (eCall lenD (aCons (eOp ixD (eVar 1) (eC (.int 1))) aNil)) (eC (.int 1))) aNil))) (eFn F__law_draw_v09 (aCons (eVar 0) (aCons (eC (.int 5)) aNil))))
  (sSeq (sIf (tB (eOp eqP (eVar 8) (eC (.int 0)))) (sRet (eTup (aCons (eOp (addP false) (eVar 3) (eTup (aCons (eVar 7) aNil))) (aCons (eVar 4) (aCons (eVar 5) (aCons (eVar 6) aNil)))))) sNext)
  (sSeq (sIf (tB (eOp eqP (eVar 8) (eC (.int 1)))) (sRet (eTup (aCons (eVar 3) (aCons (eOp (addP false) (eVar 4) (eTup (aCons (eVar 7) aNil))) (aCons (eVar 5) (aCons (eVar 6) aNil)))))) sNext)
  (sSeq (sIf (tB (eOp eqP (eVar 8) (eC (.int 2)))) (sRet (eTup (aCons (eVar 3) (aCons (eTup aNil) (aCons (eVar 5) (aCons (eVar 6) aNil)))))) sNext)
  (sSeq (sIf (tB (eOp eqP (eVar 8) (eC (.int 3)))) (sRet (eTup (aCons (eVar 3) (aCons (eVar 4) (aCons (eVar 5) (aCons (eOp (addP false) (eTup (aCons (eVar 7) aNil)) (eVar 6)) aNil)))))) sNext)
  (sRet (eTup (aCons (eSl false (eVar 3) (oSome (eC (.int 1))) oNone) (aCons (eVar 4) (aCons (eVar 5) (aCons (eVar 6) aNil))))))))))))
noncomputable def F__law_bent : List Val → Hh → R Val := runFn 9 S__law_bent
/-! _law_are_refused -/
noncomputable def S__law_are_refused : Sv :=
  (sSeq (sAsg (gTup (gCons (gName 4) (gCons (gName 5) (gCons (gName 6) (gCons (gName 7) gNil))))) (eVar 3))
  (sSeq (sAsg (gTup (gCons (gName 8) (gCons (gName 9) gNil))) (eTup (aCons (eFn F__law_bad_net (aCons (eVar 0) aNil)) (aCons (eFn F__law_bad_node (aCons (eVar 0) (aCons (eVar 1) aNil))) aNil))))
  (sSeq (sSet 10 (eLst false (aCons (eC .non) (aCons (eCall (listP false) (aCons (eVar 3) aNil)) (aCons (eSl false (eVar 3) oNone (oSome (eC (.int 3)))) (aCons (eOp (addP false) (eVar 3) (eTup (aCons (eC (.int 0)) aNil))) (aCons (eTup (aCons (eVar 4) (aCons (eVar 5) (aCons (eUn negP (eC (.int 1))) (aCons (eVar 7) aNil))))) (aCons (eTup (aCons (eVar 4) (aCons (eVar 5) (aCons (eC (.bl true)) (aCons (eVar 7) aNil))))) aNil))))))))
  (sSeq (sSet 10 (eOp (addP false) (eVar 10) (eLst false (aCons (eTup (aCons (eCall (listP false) (aCons (eVar 4) aNil)) (aCons (eVar 5) (aCons (eVar 6) (aCons (eVar 7) aNil))))) (aCons (eTup (aCons (eVar 4) (aCons (eVar 5) (aCons (eC .non) (aCons (eVar 7) aNil))))) (aCons (eTup (aCons (eVar 4) (aCons (eTup aNil) (aCons (eC (.int 1)) (aCons (eVar 7) aNil))))) (aCons (eC (.str "winding")) aNil)))))))
  (sSeq (sSet 11 (eFn F__law_some (aCons (eVar 0) (aCons (eOp (addP false) (eVar 10) (eLst false (aCons (eTup (aCons (eVar 4) (aCons (eVar 5) (aCons (eVar 6) (aCons (eOp (addP false) (eVar 7) (eTup (aCons (eUn negP (eC (.int 1))) aNil))) aNil))))) (aCons (eTup (aCons (eVar 4) (aCons (eC .non) (aCons (eC (.int 0)) (aCons (eVar 7) aNil))))) aNil)))) aNil))))
  (sSeq (sSet 12 (eLst true (aCons (eLam F__law_said (eFn F_winding_length (aCons (eVar 8) (aCons (eVar 9) (aCons (eVar 11) aNil))))) aNil)))
  (sSeq (sExpr (eMeth isL appP (eVar 12) (aCons (eLam F__law_said (eFn F_winding_cost (aCons (eVar 1) (aCons (eVar 9) (aCons (eVar 11) aNil))))) aNil)))
  (sSeq (sExpr (eMeth isL appP (eVar 12) (aCons (eLam F__law_said (eFn F_winding_length (aCons (eVar 1) (aCons (eVar 2) (aCons (eVar 11) aNil))))) aNil)))
  (sSeq (sExpr (eMeth isL appP (eVar 12) (aCons (eLam F__law_said (eFn F_winding_cost (aCons (eVar 1) (aCons (eVar 2) (aCons (eVar 11) aNil))))) aNil)))
  (sSeq (sExpr (eMeth isL appP (eVar 12) (aCons (eLam F__law_said (eFn F_unwound (aCons (eVar 1) (aCons (eVar 2) (aCons (eVar 11) aNil))))) aNil)))
  (sSeq (sExpr (eMeth isL appP (eVar 12) (aCons (eLam F__law_said (eFn F_is_winding (aCons (eVar 1) (aCons (eVar 2) (aCons (eC (.int 0)) (aCons (eVar 11) aNil)))))) aNil)))
  (sSeq (sExpr (eMeth isL appP (eVar 12) (aCons (eLam F__law_said (eFn F_is_winding (aCons (eVar 1) (aCons (eVar 9) (aCons (eC (.int 0)) (aCons (eVar 3) aNil)))))) aNil)))
  (sRet (eOp eqP (eVar 12) (eLst false (aCons (eC (.str "NoNet")) (aCons (eC (.str "NoNode")) (aCons (eC (.str "NoWinding")) (aCons (eC (.str "NoWinding")) (aCons (eC (.str "NoWinding")) (aCons (eC (.bl false)) (aCons (eC (.str "NoNode")) aNil))))))))))))))))))))))
noncomputable def F__law_are_refused : List Val → Hh → R Val := runFn 13 S__law_are_refused
/-! _law_is_unwound_right -/
noncomputable def S__law_is_unwound_right : Sv :=
  (sSeq (sAsg (gTup (gCons (gName 4) (gCons (gName 5) (gCons (gName 6) (gCons (gName 7) gNil))))) (eVar 3))
  (sSeq (sSet 8 (eLam F__law_said (eFn F_unwound (aCons (eVar 0) (aCons (eVar 1) (aCons (eVar 3) aNil))))))
  (sSeq (sIf (tB (eOp gtP (eOp (addP false) (eOp (addP false) (eCall lenD (aCons (eVar 4) aNil)) (eOp (mulP false) (eCall lenD (aCons (eVar 5) aNil)) (eVar 6))) (eCall lenD (aCons (eVar 7) aNil))) (eC (.int 2000)))) (sRet (eOp eqP (eVar 8) (eTup (aCons (eC (.str "TooMany")) (aCons (eC (.int 2000)) aNil))))) sNext)
  (sSeq (sIf (Mp.tOr (Mp.tNot (tB (eFn F__law_is_v09 (aCons (eVar 8) (aCons (eOp (addP false) (eOp (addP false) (eVar 4) (eOp (mulQ false) (eVar 5) (eVar 6))) (eVar 7)) aNil))))) (tB (eOp notBP (eFn F_is_walk (aCons (eVar 0) (aCons (eVar 1) (aCons (eVar 2) (aCons (eVar 8) aNil))))) (eC (.bl true))))) (sRet (eC (.bl false))) sNext)
  (sSeq (sPar 9 10 (eFn F_winding_length (aCons (eVar 0) (aCons (eVar 1) (aCons (eVar 3) aNil)))) (eFn F_winding_cost (aCons (eVar 0) (aCons (eVar 1) (aCons (eVar 3) aNil)))))
  (sSeq (sIf (Mp.tOr (tB (eOp neP (eFn F_length_of (aCons (eVar 0) (aCons (eVar 1) (aCons (eVar 8) aNil)))) (eVar 9))) (tB (eOp neP (eFn F_cost_of (aCons (eVar 0) (aCons (eVar 1) (aCons (eVar 8) aNil)))) (eVar 10)))) (sRet (eC (.bl false))) sNext)
  (sRet (eOr (eOp gtP (eVar 9) (eC (.int 300))) (eOp leP (eFn F_least_cost (aCons (eVar 0) (aCons (eVar 1) (aCons (eVar 2) (aCons (eVar 9) aNil))))) (eVar 10))))))))))
noncomputable def F__law_is_unwound_right : List Val → Hh → R Val := runFn 11 S__law_is_unwound_right
/-! _law_is_right -/
noncomputable def B__law_is_right_0 : Sv :=
  (sTidy [10] (sExpr (eMeth isL appP (eVar 9) (aCons (eOp (addP false) (eOp (addP false) (eFn F__law_sum (aCons (eVar 1) (aCons (eVar 4) (aCons (eVar 10) aNil)))) (eOp (mulP false) (eVar 6) (eFn F__law_sum (aCons (eVar 1) (aCons (eVar 5) (aCons (eVar 10) aNil)))))) (eFn F__law_sum (aCons (eVar 1) (aCons (eVar 7) (aCons (eVar 10) aNil))))) aNil))))
noncomputable def B__law_is_right_1 : Sv :=
  (sTidy [12, 13, 14] (sSeq (sPar 13 14 (eFn F__law_bent (aCons (eVar 0) (aCons (eVar 1) (aCons (eVar 3) aNil)))) (eFn F__law_draw_v09 (aCons (eVar 0) (aCons (eOp ixD (eVar 1) (eC (.int 0))) aNil))))
  (sIf (Mp.tNot (tB (eFn F__law_is_v09 (aCons (eFn F_is_winding (aCons (eVar 1) (aCons (eVar 2) (aCons (eVar 14) (aCons (eVar 13) aNil))))) (aCons (eFn F__law_is_winding (aCons (eVar 1) (aCons (eVar 2) (aCons (eVar 14) (aCons (eVar 13) aNil))))) aNil))))) (sRet (eC (.bl false))) sNext)))
noncomputable def S__law_is_right : Sv :=
  (sSeq (sSet 1 (eFn F__law_net (aCons (eVar 0) aNil)))
  (sSeq (sSet 2 (eFn F__law_draw_v09 (aCons (eVar 0) (aCons (eOp ixD (eVar 1) (eC (.int 0))) aNil))))
  (sSeq (sSet 3 (eFn F__law_winding (aCons (eVar 0) (aCons (eVar 1) (aCons (eVar 2) aNil)))))
  (sSeq (sAsg (gTup (gCons (gName 4) (gCons (gName 5) (gCons (gName 6) (gCons (gName 7) gNil))))) (eVar 3))
  (sSeq (sSet 8 (eFn F__law_end (aCons (eVar 1) (aCons (eFn F__law_end (aCons (eVar 1) (aCons (eVar 2) (aCons (eVar 4) aNil)))) (aCons (eVar 7) aNil)))))
  (sSeq (sSet 9 (eLst true aNil))
  (sSeq (sFor (iSeq (eTup (aCons (eC (.int 2)) (aCons (eC (.int 3)) aNil)))) (gName 10) B__law_is_right_0)
  (sSeq (sIf (Mp.tOr (tB (eOp notBP (eFn F_is_winding (aCons (eVar 1) (aCons (eVar 2) (aCons (eVar 8) (aCons (eVar 3) aNil))))) (eC (.bl true)))) (Mp.tNot (tB (eFn F__law_is_v09 (aCons (eFn F_winding_length (aCons (eVar 1) (aCons (eVar 2) (aCons (eVar 3) aNil)))) (aCons (eOp ixD (eVar 9) (eC (.int 0))) aNil)))))) (sRet (eC (.bl false))) sNext)
  (sSeq (sIf (Mp.tNot (tB (eFn F__law_is_v09 (aCons (eFn F_winding_cost (aCons (eVar 1) (aCons (eVar 2) (aCons (eVar 3) aNil)))) (aCons (eOp ixD (eVar 9) (eC (.int 1))) aNil))))) (sRet (eC (.bl false))) sNext)
  (sSeq (sIf (tB (eOp gtP (eCall lenD (aCons (eVar 5) aNil)) (eC (.int 0)))) (sSeq (sSet 11 (eTup (aCons (eVar 4) (aCons (eVar 5) (aCons (eOp (addP false) (eVar 6) (eC (.int 1))) (aCons (eVar 7) aNil))))))
  (sSeq (sIf (tB (eOp neP (eFn F_winding_length (aCons (eVar 1) (aCons (eVar 2) (aCons (eVar 11) aNil)))) (eOp (addP false) (eOp ixD (eVar 9) (eC (.int 0))) (eFn F__law_sum (aCons (eVar 1) (aCons (eVar 5) (aCons (eC (.int 2)) aNil))))))) (sRet (eC (.bl false))) sNext)
  (sIf (tB (eOp neP (eFn F_winding_cost (aCons (eVar 1) (aCons (eVar 2) (aCons (eVar 11) aNil)))) (eOp (addP false) (eOp ixD (eVar 9) (eC (.int 1))) (eFn F__law_sum (aCons (eVar 1) (aCons (eVar 5) (aCons (eC (.int 3)) aNil))))))) (sRet (eC (.bl false))) sNext))) sNext)
  (sSeq (sFor (iRng1 (aCons (eC (.int 4)) aNil)) (gName 12) B__law_is_right_1)
  (sRet (eAnd (eFn F__law_is_unwound_right (aCons (eVar 1) (aCons (eVar 2) (aCons (eVar 8) (aCons (eVar 3) aNil))))) (eFn F__law_are_refused (aCons (eVar 0) (aCons (eVar 1) (aCons (eVar 2) (aCons (eVar 3) aNil))))))))))))))))))
noncomputable def F__law_is_right : List Val → Hh → R Val := runFn 15 S__law_is_right
/-! law -/
noncomputable def B_law_v09_0 : Sv :=
  (sTidy [2] (sIf (Mp.tNot (tB (eFn F__law_is_right (aCons (eVar 1) aNil)))) (sRet (eC (.bl false))) sNext))
noncomputable def S_law_v09 : Sv :=
  (sSeq (sSet 1 (eFn F__law_hand_v09 (aCons (eVar 0) aNil)))
  (sSeq (sFor (iRng1 (aCons (eC (.int 2)) aNil)) (gName 2) B_law_v09_0)
  (sSeq (sSet 3 (eTup (aCons (eC (.int 2)) (aCons (eTup (aCons (eTup (aCons (eC (.int 0)) (aCons (eC (.int 1)) (aCons (eC (.int 2)) (aCons (eC (.int 5)) aNil))))) (aCons (eTup (aCons (eC (.int 1)) (aCons (eC (.int 0)) (aCons (eC (.int 1)) (aCons (eC (.int 0)) aNil))))) aNil))) aNil))))
  (sRet (eFn F__law_is_v09 (aCons (eFn F_winding_cost (aCons (eVar 3) (aCons (eC (.int 0)) (aCons (eTup (aCons (eTup (aCons (eC (.int 0)) aNil)) (aCons (eTup (aCons (eC (.int 1)) (aCons (eC (.int 0)) aNil))) (aCons (eC (.int 10)) (aCons (eTup (aCons (eC (.int 1)) aNil)) aNil))))) aNil)))) (aCons (eC (.int 55)) aNil)))))))
noncomputable def F_law_v09 : List Val → Hh → R Val := runFn 4 S_law_v09
end Ev

set_option Elab.async false
set_option linter.all false
set_option maxRecDepth 100000
set_option maxHeartbeats 4000000
namespace K09
open PySem PySem.Spec PyProof.Rows L2 Mp Ev
def topS (i : Nat) : Stmt := PySem.Challenge.pw_everylength_k09_whole_windings_unwound.main.body.getD i (.Pass ⟨0, 0, 0, 0⟩)
abbrev XL : List Nat := [9, 12, 13, 37, 38, 41]
abbrev s_is_integer : Stmt := topS 1
theorem sc_is_integer : FnScope ["thing"] ["thing"] (defScope s_is_integer) := ⟨rfl, rfl, rfl, by decide +kernel, rfl, by decide +kernel, by decide +kernel⟩
abbrev s_is_within : Stmt := topS 2
theorem sc_is_within : FnScope ["thing", "low", "high"] ["thing", "low", "high"] (defScope s_is_within) := ⟨rfl, rfl, rfl, by decide +kernel, rfl, by decide +kernel, by decide +kernel⟩
abbrev s_is_number : Stmt := topS 3
theorem sc_is_number : FnScope ["thing"] ["thing"] (defScope s_is_number) := ⟨rfl, rfl, rfl, by decide +kernel, rfl, by decide +kernel, by decide +kernel⟩
abbrev s_is_sized : Stmt := topS 4
theorem sc_is_sized : FnScope ["thing", "low", "high"] ["thing", "low", "high"] (defScope s_is_sized) := ⟨rfl, rfl, rfl, by decide +kernel, rfl, by decide +kernel, by decide +kernel⟩
abbrev s_is_arc : Stmt := topS 19
theorem sc_is_arc : FnScope ["thing", "many"] ["thing", "many"] (defScope s_is_arc) := ⟨rfl, rfl, rfl, by decide +kernel, rfl, by decide +kernel, by decide +kernel⟩
abbrev s_is_net : Stmt := topS 20
theorem sc_is_net : FnScope ["thing", "one"] ["thing"] (defScope s_is_net) := ⟨rfl, rfl, rfl, by decide +kernel, rfl, by decide +kernel, by decide +kernel⟩
abbrev s_check_net : Stmt := topS 21
theorem sc_check_net : FnScope ["net"] ["net"] (defScope s_check_net) := ⟨rfl, rfl, rfl, by decide +kernel, rfl, by decide +kernel, by decide +kernel⟩
abbrev s_check_node : Stmt := topS 22
theorem sc_check_node : FnScope ["net", "node"] ["net", "node"] (defScope s_check_node) := ⟨rfl, rfl, rfl, by decide +kernel, rfl, by decide +kernel, by decide +kernel⟩
abbrev s_check_ends : Stmt := topS 23
theorem sc_check_ends : FnScope ["net", "begin", "end"] ["net", "begin", "end"] (defScope s_check_ends) := ⟨rfl, rfl, rfl, by decide +kernel, rfl, by decide +kernel, by decide +kernel⟩
abbrev s_raw_end : Stmt := topS 24
theorem sc_raw_end : FnScope ["net", "begin", "walk", "here", "most", "one"] ["net", "begin", "walk"] (defScope s_raw_end) := ⟨rfl, rfl, rfl, by decide +kernel, rfl, by decide +kernel, by decide +kernel⟩
abbrev s_is_walk : Stmt := topS 25
theorem sc_is_walk : FnScope ["net", "begin", "end", "thing"] ["net", "begin", "end", "thing"] (defScope s_is_walk) := ⟨rfl, rfl, rfl, by decide +kernel, rfl, by decide +kernel, by decide +kernel⟩
abbrev s_check_walk : Stmt := topS 26
theorem sc_check_walk : FnScope ["net", "begin", "walk"] ["net", "begin", "walk"] (defScope s_check_walk) := ⟨rfl, rfl, rfl, by decide +kernel, rfl, by decide +kernel, by decide +kernel⟩
abbrev s_raw_length : Stmt := topS 27
theorem sc_raw_length : FnScope ["net", "walk", "one"] ["net", "walk"] (defScope s_raw_length) := ⟨rfl, rfl, rfl, by decide +kernel, rfl, by decide +kernel, by decide +kernel⟩
abbrev s_raw_cost : Stmt := topS 28
theorem sc_raw_cost : FnScope ["net", "walk", "one"] ["net", "walk"] (defScope s_raw_cost) := ⟨rfl, rfl, rfl, by decide +kernel, rfl, by decide +kernel, by decide +kernel⟩
abbrev s_length_of : Stmt := topS 29
theorem sc_length_of : FnScope ["net", "begin", "walk"] ["net", "begin", "walk"] (defScope s_length_of) := ⟨rfl, rfl, rfl, by decide +kernel, rfl, by decide +kernel, by decide +kernel⟩
abbrev s_cost_of : Stmt := topS 30
theorem sc_cost_of : FnScope ["net", "begin", "walk"] ["net", "begin", "walk"] (defScope s_cost_of) := ⟨rfl, rfl, rfl, by decide +kernel, rfl, by decide +kernel, by decide +kernel⟩
abbrev s_winding_end : Stmt := topS 31
theorem sc_winding_end : FnScope ["net", "begin", "thing", "middle"] ["net", "begin", "thing"] (defScope s_winding_end) := ⟨rfl, rfl, rfl, by decide +kernel, rfl, by decide +kernel, by decide +kernel⟩
abbrev s_is_winding : Stmt := topS 32
theorem sc_is_winding : FnScope ["net", "begin", "end", "thing"] ["net", "begin", "end", "thing"] (defScope s_is_winding) := ⟨rfl, rfl, rfl, by decide +kernel, rfl, by decide +kernel, by decide +kernel⟩
abbrev s_check_winding : Stmt := topS 33
theorem sc_check_winding : FnScope ["net", "begin", "winding"] ["net", "begin", "winding"] (defScope s_check_winding) := ⟨rfl, rfl, rfl, by decide +kernel, rfl, by decide +kernel, by decide +kernel⟩
abbrev s_wound_length : Stmt := topS 34
theorem sc_wound_length : FnScope ["net", "winding"] ["net", "winding"] (defScope s_wound_length) := ⟨rfl, rfl, rfl, by decide +kernel, rfl, by decide +kernel, by decide +kernel⟩
abbrev s_wound_cost : Stmt := topS 35
theorem sc_wound_cost : FnScope ["net", "winding"] ["net", "winding"] (defScope s_wound_cost) := ⟨rfl, rfl, rfl, by decide +kernel, rfl, by decide +kernel, by decide +kernel⟩
abbrev s_winding_length : Stmt := topS 36
theorem sc_winding_length : FnScope ["net", "begin", "winding"] ["net", "begin", "winding"] (defScope s_winding_length) := ⟨rfl, rfl, rfl, by decide +kernel, rfl, by decide +kernel, by decide +kernel⟩
abbrev s_winding_cost : Stmt := topS 37
theorem sc_winding_cost : FnScope ["net", "begin", "winding"] ["net", "begin", "winding"] (defScope s_winding_cost) := ⟨rfl, rfl, rfl, by decide +kernel, rfl, by decide +kernel, by decide +kernel⟩
abbrev s_unwound : Stmt := topS 38
theorem sc_unwound : FnScope ["net", "begin", "winding", "ahead", "ring", "turns", "behind"] ["net", "begin", "winding"] (defScope s_unwound) := ⟨rfl, rfl, rfl, by decide +kernel, rfl, by decide +kernel, by decide +kernel⟩
abbrev s_check_asked : Stmt := topS 41
theorem sc_check_asked : FnScope ["net", "begin", "end", "n"] ["net", "begin", "end", "n"] (defScope s_check_asked) := ⟨rfl, rfl, rfl, by decide +kernel, rfl, by decide +kernel, by decide +kernel⟩
abbrev s_costs_ahead : Stmt := topS 42
theorem sc_costs_ahead : FnScope ["net", "begin", "n", "rows", "at", "u", "v", "length", "cost", "here", "to"] ["net", "begin", "n"] (defScope s_costs_ahead) := ⟨rfl, rfl, rfl, by decide +kernel, rfl, by decide +kernel, by decide +kernel⟩
abbrev s_raw_least_cost : Stmt := topS 43
theorem sc_raw_least_cost : FnScope ["net", "begin", "end", "n"] ["net", "begin", "end", "n"] (defScope s_raw_least_cost) := ⟨rfl, rfl, rfl, by decide +kernel, rfl, by decide +kernel, by decide +kernel⟩
abbrev s_least_cost : Stmt := topS 44
theorem sc_least_cost : FnScope ["net", "begin", "end", "n"] ["net", "begin", "end", "n"] (defScope s_least_cost) := ⟨rfl, rfl, rfl, by decide +kernel, rfl, by decide +kernel, by decide +kernel⟩
abbrev s__law_hand_v09 : Stmt := topS 46
theorem sc__law_hand_v09 : FnScope ["script", "cells", "cell"] ["script"] (defScope s__law_hand_v09) := ⟨rfl, rfl, rfl, by decide +kernel, rfl, by decide +kernel, by decide +kernel⟩
abbrev s__law_draw_v09 : Stmt := topS 47
theorem sc__law_draw_v09 : FnScope ["hand", "many", "cell", "digit", "number"] ["hand", "many"] (defScope s__law_draw_v09) := ⟨rfl, rfl, rfl, by decide +kernel, rfl, by decide +kernel, by decide +kernel⟩
abbrev s__law_some : Stmt := topS 48
theorem sc__law_some : FnScope ["hand", "things"] ["hand", "things"] (defScope s__law_some) := ⟨rfl, rfl, rfl, by decide +kernel, rfl, by decide +kernel, by decide +kernel⟩
abbrev s__law_net : Stmt := topS 49
theorem sc__law_net : FnScope ["hand", "many", "arcs", "turn", "cost", "arc"] ["hand"] (defScope s__law_net) := ⟨rfl, rfl, rfl, by decide +kernel, rfl, by decide +kernel, by decide +kernel⟩
abbrev s__law_bad_net : Stmt := topS 50
theorem sc__law_bad_net : FnScope ["hand", "some"] ["hand"] (defScope s__law_bad_net) := ⟨rfl, rfl, rfl, by decide +kernel, rfl, by decide +kernel, by decide +kernel⟩
abbrev s__law_bad_node : Stmt := topS 51
theorem sc__law_bad_node : FnScope ["hand", "net"] ["hand", "net"] (defScope s__law_bad_node) := ⟨rfl, rfl, rfl, by decide +kernel, rfl, by decide +kernel, by decide +kernel⟩
abbrev s__law_walk : Stmt := topS 52
theorem sc__law_walk : FnScope ["hand", "net", "begin", "most", "found", "here", "turn", "some", "number", "arc"] ["hand", "net", "begin", "most"] (defScope s__law_walk) := ⟨rfl, rfl, rfl, by decide +kernel, rfl, by decide +kernel, by decide +kernel⟩
abbrev s__law_end : Stmt := topS 53
theorem sc__law_end : FnScope ["net", "begin", "walk"] ["net", "begin", "walk"] (defScope s__law_end) := ⟨rfl, rfl, rfl, by decide +kernel, rfl, by decide +kernel, by decide +kernel⟩
abbrev s__law_is_walk : Stmt := topS 54
theorem sc__law_is_walk : FnScope ["net", "begin", "end", "walk", "here", "number"] ["net", "begin", "end", "walk"] (defScope s__law_is_walk) := ⟨rfl, rfl, rfl, by decide +kernel, rfl, by decide +kernel, by decide +kernel⟩
abbrev s__law_sum : Stmt := topS 55
theorem sc__law_sum : FnScope ["net", "walk", "place", "number"] ["net", "walk", "place"] (defScope s__law_sum) := ⟨rfl, rfl, rfl, by decide +kernel, rfl, by decide +kernel, by decide +kernel⟩
abbrev s__law_is_v09 : Stmt := topS 56
theorem sc__law_is_v09 : FnScope ["said", "due"] ["said", "due"] (defScope s__law_is_v09) := ⟨rfl, rfl, rfl, by decide +kernel, rfl, by decide +kernel, by decide +kernel⟩
abbrev s__law_said : Stmt := topS 57
theorem sc__law_said : FnScope ["call", "e"] ["call"] (defScope s__law_said) := ⟨rfl, rfl, rfl, by decide +kernel, rfl, by decide +kernel, by decide +kernel⟩
abbrev s__law_ring : Stmt := topS 58
theorem sc__law_ring : FnScope ["hand", "net", "begin", "walk", "here", "found", "at", "number"] ["hand", "net", "begin"] (defScope s__law_ring) := ⟨rfl, rfl, rfl, by decide +kernel, rfl, by decide +kernel, by decide +kernel⟩
abbrev s__law_winding : Stmt := topS 59
theorem sc__law_winding : FnScope ["hand", "net", "begin", "ahead", "middle", "ring", "times"] ["hand", "net", "begin"] (defScope s__law_winding) := ⟨rfl, rfl, rfl, by decide +kernel, rfl, by decide +kernel, by decide +kernel⟩
abbrev s__law_leads : Stmt := topS 61
theorem sc__law_leads : FnScope ["net", "begin", "walk", "here", "number"] ["net", "begin", "walk"] (defScope s__law_leads) := ⟨rfl, rfl, rfl, by decide +kernel, rfl, by decide +kernel, by decide +kernel⟩
abbrev s__law_is_winding : Stmt := topS 60
theorem sc__law_is_winding : FnScope ["net", "begin", "end", "winding", "ahead", "ring", "times", "behind", "middle"] ["net", "begin", "end", "winding"] (defScope s__law_is_winding) := ⟨rfl, rfl, rfl, by decide +kernel, rfl, by decide +kernel, by decide +kernel⟩
abbrev s__law_bent : Stmt := topS 62
theorem sc__law_bent : FnScope ["hand", "net", "winding", "ahead", "ring", "times", "behind", "number", "sort"] ["hand", "net", "winding"] (defScope s__law_bent) := ⟨rfl, rfl, rfl, by decide +kernel, rfl, by decide +kernel, by decide +kernel⟩
abbrev s__law_are_refused : Stmt := topS 63
theorem sc__law_are_refused : FnScope ["hand", "net", "begin", "winding", "ahead", "ring", "times", "behind", "bad", "node", "some", "none", "words"] ["hand", "net", "begin", "winding"] (defScope s__law_are_refused) := ⟨rfl, rfl, rfl, by decide +kernel, rfl, by decide +kernel, by decide +kernel⟩
abbrev s__law_is_unwound_right : Stmt := topS 64
theorem sc__law_is_unwound_right : FnScope ["net", "begin", "end", "winding", "ahead", "ring", "times", "behind", "told", "n", "cost"] ["net", "begin", "end", "winding"] (defScope s__law_is_unwound_right) := ⟨rfl, rfl, rfl, by decide +kernel, rfl, by decide +kernel, by decide +kernel⟩
abbrev s__law_is_right : Stmt := topS 65
theorem sc__law_is_right : FnScope ["hand", "net", "begin", "winding", "ahead", "ring", "times", "behind", "end", "sums", "place", "more", "turn", "bent", "other"] ["hand"] (defScope s__law_is_right) := ⟨rfl, rfl, rfl, by decide +kernel, rfl, by decide +kernel, by decide +kernel⟩
abbrev s_law_v09 : Stmt := topS 66
theorem sc_law_v09 : FnScope ["script", "hand", "turn", "net"] ["script"] (defScope s_law_v09) := ⟨rfl, rfl, rfl, by decide +kernel, rfl, by decide +kernel, by decide +kernel⟩
theorem sci_TooMany : FnScope ["self", "most"] ["self", "most"] (defScope (clsDef (topS 12))) := ⟨rfl, rfl, rfl, by decide +kernel, rfl, by decide +kernel, by decide +kernel⟩
theorem hbi_TooMany {P : Program} {w : World} {K : PySem.W.Frag} {mg : Str → Option Value} {base : Heap} (fI : Addr) (A : Around) (outer : List PySem.Env) (s : Shared) (H : Hp) (E : XK) (cdv : Value) : PSs (cxOf (L2.CX P w) P w K mg base ["self", "most"] "TooMany.__init__" (defScope (clsDef (topS 12))) fI cdv A outer s H E) (defBody (clsDef (topS 12))) (tOst K "most" (tVar 0) (tVar 1)) := pss_one (ps_ost (pv 0) (pv 1))
variable [Tb]
structure Facts (K : PySem.W.Frag) (mg : Str → Option Value) : Prop where
  D_is_integer : DefG K mg "is_integer" s_is_integer ["thing"]
  D_is_within : DefG K mg "is_within" s_is_within ["thing", "low", "high"]
  D_is_number : DefG K mg "is_number" s_is_number ["thing"]
  D_is_sized : DefG K mg "is_sized" s_is_sized ["thing", "low", "high"]
  D_is_arc : DefG K mg "is_arc" s_is_arc ["thing", "many"]
  D_is_net : DefG K mg "is_net" s_is_net ["thing"]
  D_check_net : DefG K mg "check_net" s_check_net ["net"]
  D_check_node : DefG K mg "check_node" s_check_node ["net", "node"]
  D_check_ends : DefG K mg "check_ends" s_check_ends ["net", "begin", "end"]
  D_raw_end : DefG K mg "raw_end" s_raw_end ["net", "begin", "walk"]
  D_is_walk : DefG K mg "is_walk" s_is_walk ["net", "begin", "end", "thing"]
  D_check_walk : DefG K mg "check_walk" s_check_walk ["net", "begin", "walk"]
  D_raw_length : DefG K mg "raw_length" s_raw_length ["net", "walk"]
  D_raw_cost : DefG K mg "raw_cost" s_raw_cost ["net", "walk"]
  D_length_of : DefG K mg "length_of" s_length_of ["net", "begin", "walk"]
  D_cost_of : DefG K mg "cost_of" s_cost_of ["net", "begin", "walk"]
  D_winding_end : DefG K mg "winding_end" s_winding_end ["net", "begin", "thing"]
  D_is_winding : DefG K mg "is_winding" s_is_winding ["net", "begin", "end", "thing"]
  D_check_winding : DefG K mg "check_winding" s_check_winding ["net", "begin", "winding"]
  D_wound_length : DefG K mg "wound_length" s_wound_length ["net", "winding"]
  D_wound_cost : DefG K mg "wound_cost" s_wound_cost ["net", "winding"]
  D_winding_length : DefG K mg "winding_length" s_winding_length ["net", "begin", "winding"]
  D_winding_cost : DefG K mg "winding_cost" s_winding_cost ["net", "begin", "winding"]
  D_unwound : DefG K mg "unwound" s_unwound ["net", "begin", "winding"]
  D_check_asked : DefG K mg "check_asked" s_check_asked ["net", "begin", "end", "n"]
  D_costs_ahead : DefG K mg "costs_ahead" s_costs_ahead ["net", "begin", "n"]
  D_raw_least_cost : DefG K mg "raw_least_cost" s_raw_least_cost ["net", "begin", "end", "n"]
  D_least_cost : DefG K mg "least_cost" s_least_cost ["net", "begin", "end", "n"]
  D__law_hand_v09 : DefG K mg "_law_hand" s__law_hand_v09 ["script"]
  D__law_draw_v09 : DefG K mg "_law_draw" s__law_draw_v09 ["hand", "many"]
  D__law_some : DefG K mg "_law_some" s__law_some ["hand", "things"]
  D__law_net : DefG K mg "_law_net" s__law_net ["hand"]
  D__law_bad_net : DefG K mg "_law_bad_net" s__law_bad_net ["hand"]
  D__law_bad_node : DefG K mg "_law_bad_node" s__law_bad_node ["hand", "net"]
  D__law_walk : DefG K mg "_law_walk" s__law_walk ["hand", "net", "begin", "most"]
  D__law_end : DefG K mg "_law_end" s__law_end ["net", "begin", "walk"]
  D__law_is_walk : DefG K mg "_law_is_walk" s__law_is_walk ["net", "begin", "end", "walk"]
  D__law_sum : DefG K mg "_law_sum" s__law_sum ["net", "walk", "place"]
  D__law_is_v09 : DefG K mg "_law_is" s__law_is_v09 ["said", "due"]
  D__law_said : DefG K mg "_law_said" s__law_said ["call"]
  D__law_ring : DefG K mg "_law_ring" s__law_ring ["hand", "net", "begin"]
  D__law_winding : DefG K mg "_law_winding" s__law_winding ["hand", "net", "begin"]
  D__law_leads : DefG K mg "_law_leads" s__law_leads ["net", "begin", "walk"]
  D__law_is_winding : DefG K mg "_law_is_winding" s__law_is_winding ["net", "begin", "end", "winding"]
  D__law_bent : DefG K mg "_law_bent" s__law_bent ["hand", "net", "winding"]
  D__law_are_refused : DefG K mg "_law_are_refused" s__law_are_refused ["hand", "net", "begin", "winding"]
  D__law_is_unwound_right : DefG K mg "_law_is_unwound_right" s__law_is_unwound_right ["net", "begin", "end", "winding"]
  D__law_is_right : DefG K mg "_law_is_right" s__law_is_right ["hand"]
  D_law_v09 : DefG K mg "law" s_law_v09 ["script"]
  z_int : mg "int" = none
  z_isinstance : mg "isinstance" = none
  z_bool : mg "bool" = none
  z_tuple : mg "tuple" = none
  z_len : mg "len" = none
  z_all : mg "all" = none
  z_sum : mg "sum" = none
  z_range : mg "range" = none
  z_abs : mg "abs" = none
  z_enumerate : mg "enumerate" = none
  z_repr : mg "repr" = none
  z_list : mg "list" = none
  c_MOST_LENGTH : ∃ t, mg "MOST_LENGTH" = some (.int 6 t)
  c_MOST_COST : ∃ t, mg "MOST_COST" = some (.int 99 t)
  c_MOST_NODES : ∃ t, mg "MOST_NODES" = some (.int 8 t)
  c_MOST_ARCS : ∃ t, mg "MOST_ARCS" = some (.int 20 t)
  c_MOST_WALK : ∃ t, mg "MOST_WALK" = some (.int 2000 t)
  c_MOST_ASKED : ∃ t, mg "MOST_ASKED" = some (.int 300 t)
  x_NoNet : XC K mg 12
  x_NoNode : XC K mg 13
  x_NoWalk : XC K mg 37
  x_NoWinding : XC K mg 38
  x_NoLength : XC K mg 9
  xa_TooMany : XA K mg 41 "most" "TooMany.__init__" (clsDef (topS 12))
  L__law_are_refused : DefL K mg "_law_are_refused"
  L__law_is_unwound_right : DefL K mg "_law_is_unwound_right"
  xf_TooMany : XF K mg 41 "most"
  xt : XT K mg XL
section
variable {P : Program} {w : World} {K : PySem.W.Frag} {mg : Str → Option Value} {base : Heap} (B : LamB base mg)
include B
theorem ok_is_integer (Φ : Facts K mg) : FnG P w K mg base 1 "is_integer" ["thing"] 1 F_is_integer := fn_g Φ.D_is_integer sc_is_integer rfl fun f cdv A outer s H E hr tk po => by
  unfold S_is_integer
  exact (gs_one (gs_ret (ge_and (ge_callB cIsi pl_isi (by rfl) Φ.z_isinstance bb_isinstance (ga_cons (ge_var 0) (ga_cons (ge_ty (t := .int) (by rfl) Φ.z_int bb_int) ga_nil))) (ge_one (ge_not (ge_callB cIsi pl_isi (by rfl) Φ.z_isinstance bb_isinstance (ga_cons (ge_var 0) (ga_cons (ge_ty (t := .bl) (by rfl) Φ.z_bool bb_bool) ga_nil))))))))
theorem ok_is_within (Φ : Facts K mg) : FnG P w K mg base 2 "is_within" ["thing", "low", "high"] 3 F_is_within := fn_g Φ.D_is_within sc_is_within rfl fun f cdv A outer s H E hr tk po => by
  unfold S_is_within
  exact (gs_one (gs_ret (ge_and (ge_fn ((ok_is_integer B Φ).mono (by decide)) hr tk (by rfl) (ga_cons (ge_var 0) ga_nil) (al1 al0)) (ge_one (ge_chain op_le (p2_cmp _) op_le (p2_cmp _) (ge_var 1) (ge_var 0) (ge_var 2) (by rfl))))))
theorem ok_is_number (Φ : Facts K mg) : FnG P w K mg base 2 "is_number" ["thing"] 1 F_is_number := fn_g Φ.D_is_number sc_is_number rfl fun f cdv A outer s H E hr tk po => by
  unfold S_is_number
  exact (gs_one (gs_ret (ge_and (ge_fn ((ok_is_integer B Φ).mono (by decide)) hr tk (by rfl) (ga_cons (ge_var 0) ga_nil) (al1 al0)) (ge_one (ge_cmp op_ge (p2_cmp _) (ge_var 0) ge_int (by rfl))))))
theorem ok_is_sized (Φ : Facts K mg) : FnG P w K mg base 1 "is_sized" ["thing", "low", "high"] 3 F_is_sized := fn_g Φ.D_is_sized sc_is_sized rfl fun f cdv A outer s H E hr tk po => by
  unfold S_is_sized
  exact (gs_one (gs_ret (ge_and (ge_callB cIsi pl_isi (by rfl) Φ.z_isinstance bb_isinstance (ga_cons (ge_var 0) (ga_cons (ge_ty (t := .tup) (by rfl) Φ.z_tuple bb_tuple) ga_nil))) (ge_one (ge_chain op_le (p2_cmp _) op_le (p2_cmp _) (ge_var 1) (ge_callB cLen pl_len (by rfl) Φ.z_len bb_len (ga_cons (ge_var 0) ga_nil)) (ge_var 2) (by rfl))))))
theorem ok_is_arc (Φ : Facts K mg) : FnG P w K mg base 3 "is_arc" ["thing", "many"] 2 F_is_arc := fn_g Φ.D_is_arc sc_is_arc rfl fun f cdv A outer s H E hr tk po => by
  unfold S_is_arc
  exact (gs_cons (gs_if (gw_or (gt_not (gt_val (ge_fn ((ok_is_sized B Φ).mono (by decide)) hr tk (by rfl) (ga_cons (ge_var 0) (ga_cons ge_int (ga_cons ge_int ga_nil))) (al1 (al1 (al1 al0)))))) (gw_or (gt_not (gt_val (ge_fn ((ok_is_within B Φ).mono (by decide)) hr tk (by rfl) (ga_cons (ge_ix (ix_all (room1 hr)) p2_ixD (ge_var 0) ge_int (fun _ _ => rfl)) (ga_cons ge_int (ga_cons (ge_op op_sub p2_sub (ge_var 1) ge_int) ga_nil))) (al1 (al1 (al1 al0)))))) (gw_or1 (gt_not (gt_val (ge_fn ((ok_is_within B Φ).mono (by decide)) hr tk (by rfl) (ga_cons (ge_ix (ix_all (room1 hr)) p2_ixD (ge_var 0) ge_int (fun _ _ => rfl)) (ga_cons ge_int (ga_cons (ge_op op_sub p2_sub (ge_var 1) ge_int) ga_nil))) (al1 (al1 (al1 al0))))))))).pt (gs_one (gs_ret ge_bl)) gs_nil)
  (gs_one (gs_ret (ge_and (ge_fn ((ok_is_within B Φ).mono (by decide)) hr tk (by rfl) (ga_cons (ge_ix (ix_all (room1 hr)) p2_ixD (ge_var 0) ge_int (fun _ _ => rfl)) (ga_cons ge_int (ga_cons (ge_gi (by rfl) Φ.c_MOST_LENGTH) ga_nil))) (al1 (al1 (al1 al0)))) (ge_one (ge_fn ((ok_is_within B Φ).mono (by decide)) hr tk (by rfl) (ga_cons (ge_ix (ix_all (room1 hr)) p2_ixD (ge_var 0) ge_int (fun _ _ => rfl)) (ga_cons ge_int (ga_cons (ge_gi (by rfl) Φ.c_MOST_COST) ga_nil))) (al1 (al1 (al1 al0)))))))))
theorem ok_is_net (Φ : Facts K mg) : FnG P w K mg base 4 "is_net" ["thing"] 1 F_is_net := fn_g Φ.D_is_net sc_is_net rfl fun f cdv A outer s H E hr tk po => by
  unfold S_is_net
  exact (gs_cons (gs_if (gw_or (gt_not (gt_val (ge_fn ((ok_is_sized B Φ).mono (by decide)) hr tk (by rfl) (ga_cons (ge_var 0) (ga_cons ge_int (ga_cons ge_int ga_nil))) (al1 (al1 (al1 al0)))))) (gw_or (gt_not (gt_val (ge_fn ((ok_is_within B Φ).mono (by decide)) hr tk (by rfl) (ga_cons (ge_ix (ix_all (room1 hr)) p2_ixD (ge_var 0) ge_int (fun _ _ => rfl)) (ga_cons ge_int (ga_cons (ge_gi (by rfl) Φ.c_MOST_NODES) ga_nil))) (al1 (al1 (al1 al0)))))) (gw_or1 (gt_not (gt_val (ge_fn ((ok_is_sized B Φ).mono (by decide)) hr tk (by rfl) (ga_cons (ge_ix (ix_all (room1 hr)) p2_ixD (ge_var 0) ge_int (fun _ _ => rfl)) (ga_cons ge_int (ga_cons (ge_gi (by rfl) Φ.c_MOST_ARCS) ga_nil))) (al1 (al1 (al1 al0))))))))).pt (gs_one (gs_ret ge_bl)) gs_nil)
  (gs_cons (gs_if (gt_not (gt_val (ge_callB (cr_all rfl) pl_all (by rfl) Φ.z_all bb_all (ga_cons (ge_lc (m := false) (own := [("one", 1)]) rfl sc_is_net.nd (gi_seq (ge_ix (ix_all (room1 hr)) p2_ixD (ge_var 0) ge_int (fun _ _ => rfl))) (blkOk_by (by rfl)) (fun s H C cl fp => (go_name (i := 1) (by decide) sc_is_net.nd rfl (by first | exact .inl rfl | exact .inr rfl))) (fun s H C cl fp => gts_nil) (fun s H C cl fp => (ge_fn ((ok_is_arc B Φ).mono (by decide)) hr takes0 (by rfl) (ga_cons (ge_var 1) (ga_cons (ge_ix (ix_all (room1 hr)) p2_ixD (ge_var 0) ge_int (fun _ _ => rfl)) ga_nil)) (al1 (al1 al0))))) ga_nil)))) (gs_one (gs_ret ge_bl)) gs_nil)
  (gs_one (gs_ret (ge_cmp (op_eqD hr.units) p2_eq (ge_callB cLenD pl_lenD (by rfl) Φ.z_len bb_len (ga_cons (ge_dc (m := false) (own := [("one", 1)]) (room0 hr) rfl sc_is_net.nd (gi_seq (ge_ix (ix_all (room1 hr)) p2_ixD (ge_var 0) ge_int (fun _ _ => rfl))) (blkOk_by (by rfl)) (fun s H C cl fp => (go_name (i := 1) (by decide) sc_is_net.nd rfl (by first | exact .inl rfl | exact .inr rfl))) (fun s H C cl fp => gts_nil) (fun s H C cl fp => (ge_var 1)) (fun s H C cl fp => ge_bl)) ga_nil)) (ge_callB cLenD pl_lenD (by rfl) Φ.z_len bb_len (ga_cons (ge_ix (ix_all (room1 hr)) p2_ixD (ge_var 0) ge_int (fun _ _ => rfl)) ga_nil)) (by rfl))))))
theorem ok_check_net (Φ : Facts K mg) : FnG P w K mg base 5 "check_net" ["net"] 1 F_check_net := fn_g Φ.D_check_net sc_check_net rfl fun f cdv A outer s H E hr tk po => by
  unfold S_check_net
  exact (gs_one (gs_if (gt_not (gt_val (ge_fn ((ok_is_net B Φ).mono (by decide)) hr tk (by rfl) (ga_cons (ge_var 0) ga_nil) (al1 al0)))) (gs_one (gs_raise 12 Φ.x_NoNet (by rfl) rfl tk (by rfl))) gs_nil))
theorem ok_check_node (Φ : Facts K mg) : FnG P w K mg base 6 "check_node" ["net", "node"] 2 F_check_node := fn_g Φ.D_check_node sc_check_node rfl fun f cdv A outer s H E hr tk po => by
  unfold S_check_node
  exact (gs_cons (gs_expr (ge_fn ((ok_check_net B Φ).mono (by decide)) hr tk (by rfl) (ga_cons (ge_var 0) ga_nil) (al1 al0)))
  (gs_one (gs_if (gt_not (gt_val (ge_fn ((ok_is_within B Φ).mono (by decide)) hr tk (by rfl) (ga_cons (ge_var 1) (ga_cons ge_int (ga_cons (ge_op op_sub p2_sub (ge_ix (ix_all (room1 hr)) p2_ixD (ge_var 0) ge_int (fun _ _ => rfl)) ge_int) ga_nil))) (al1 (al1 (al1 al0)))))) (gs_one (gs_raise 13 Φ.x_NoNode (by rfl) rfl tk (by rfl))) gs_nil)))
theorem ok_check_ends (Φ : Facts K mg) : FnG P w K mg base 7 "check_ends" ["net", "begin", "end"] 3 F_check_ends := fn_g Φ.D_check_ends sc_check_ends rfl fun f cdv A outer s H E hr tk po => by
  unfold S_check_ends
  exact (gs_cons (gs_expr (ge_fn ((ok_check_node B Φ).mono (by decide)) hr tk (by rfl) (ga_cons (ge_var 0) (ga_cons (ge_var 1) ga_nil)) (al1 (al1 al0))))
  (gs_one (gs_expr (ge_fn ((ok_check_node B Φ).mono (by decide)) hr tk (by rfl) (ga_cons (ge_var 0) (ga_cons (ge_var 2) ga_nil)) (al1 (al1 al0))))))
theorem ok_raw_end (Φ : Facts K mg) : FnG P w K mg base 3 "raw_end" ["net", "begin", "walk"] 3 F_raw_end := fn_g Φ.D_raw_end sc_raw_end rfl fun f cdv A outer s H E hr tk po => by
  unfold S_raw_end
  exact (gs_cons (gs_if (gt_not (gt_val (ge_callB cIsi pl_isi (by rfl) Φ.z_isinstance bb_isinstance (ga_cons (ge_var 2) (ga_cons (ge_ty (t := .tup) (by rfl) Φ.z_tuple bb_tuple) ga_nil))))) (gs_one (gs_ret ge_non)) gs_nil)
  (gs_cons (gs_par (i := 3) (j := 4) rfl sc_raw_end.nd rfl rfl (by decide) rfl rfl (ge_var 1) (ge_op op_sub p2_sub (ge_callB cLenD pl_lenD (by rfl) Φ.z_len bb_len (ga_cons (ge_ix (ix_all (room1 hr)) p2_ixD (ge_var 0) ge_int (fun _ _ => rfl)) ga_nil)) ge_int) rfl)
  (gs_cons (gs_for po rfl (gi_seq (ge_var 2)) (gg_name (i := 5) sc_raw_end.nd rfl (by first | exact .inl rfl | exact .inr rfl)) (gs_tidy [5] (gs_cons (gs_if (gw_or (gt_not (gt_val (ge_fn ((ok_is_within B Φ).mono (by decide)) hr tk (by rfl) (ga_cons (ge_var 5) (ga_cons ge_int (ga_cons (ge_var 4) ga_nil))) (al1 (al1 (al1 al0)))))) (gw_or1 (gt_cmp (op_neD hr.units) p2_ne (ge_ix (ix_all (room1 hr)) p2_ixD (ge_ix (ix_all (room1 hr)) p2_ixD (ge_ix (ix_all (room1 hr)) p2_ixD (ge_var 0) ge_int (fun _ _ => rfl)) (ge_var 5) (fun _ _ => rfl)) ge_int (fun _ _ => rfl)) (ge_var 3) (by rfl)))).pt (gs_one (gs_ret ge_non)) gs_nil)
  (gs_one (gs_set (i := 3) sc_raw_end.nd rfl (by first | exact .inl rfl | exact .inr rfl) (ge_ix (ix_all (room1 hr)) p2_ixD (ge_ix (ix_all (room1 hr)) p2_ixD (ge_ix (ix_all (room1 hr)) p2_ixD (ge_var 0) ge_int (fun _ _ => rfl)) (ge_var 5) (fun _ _ => rfl)) ge_int (fun _ _ => rfl)))))))
  (gs_one (gs_ret (ge_var 3))))))
theorem ok_is_walk (Φ : Facts K mg) : FnG P w K mg base 8 "is_walk" ["net", "begin", "end", "thing"] 4 F_is_walk := fn_g Φ.D_is_walk sc_is_walk rfl fun f cdv A outer s H E hr tk po => by
  unfold S_is_walk
  exact (gs_cons (gs_expr (ge_fn ((ok_check_ends B Φ).mono (by decide)) hr tk (by rfl) (ga_cons (ge_var 0) (ga_cons (ge_var 1) (ga_cons (ge_var 2) ga_nil))) (al1 (al1 (al1 al0)))))
  (gs_one (gs_ret (ge_cmp (op_eqD hr.units) p2_eq (ge_fn ((ok_raw_end B Φ).mono (by decide)) hr tk (by rfl) (ga_cons (ge_var 0) (ga_cons (ge_var 1) (ga_cons (ge_var 3) ga_nil))) (al1 (al1 (al1 al0)))) (ge_var 2) (by rfl)))))
theorem ok_check_walk (Φ : Facts K mg) : FnG P w K mg base 7 "check_walk" ["net", "begin", "walk"] 3 F_check_walk := fn_g Φ.D_check_walk sc_check_walk rfl fun f cdv A outer s H E hr tk po => by
  unfold S_check_walk
  exact (gs_cons (gs_expr (ge_fn ((ok_check_node B Φ).mono (by decide)) hr tk (by rfl) (ga_cons (ge_var 0) (ga_cons (ge_var 1) ga_nil)) (al1 (al1 al0))))
  (gs_one (gs_if (gt_cmp op_isN p2_isN (ge_fn ((ok_raw_end B Φ).mono (by decide)) hr tk (by rfl) (ga_cons (ge_var 0) (ga_cons (ge_var 1) (ga_cons (ge_var 2) ga_nil))) (al1 (al1 (al1 al0)))) ge_non (by rfl)) (gs_one (gs_raise 37 Φ.x_NoWalk (by rfl) rfl tk (by rfl))) gs_nil)))
theorem ok_raw_length (Φ : Facts K mg) : FnG P w K mg base 1 "raw_length" ["net", "walk"] 2 F_raw_length := fn_g Φ.D_raw_length sc_raw_length rfl fun f cdv A outer s H E hr tk po => by
  unfold S_raw_length
  exact (gs_one (gs_ret (ge_callB (cr_sum rfl) pl_sum (by rfl) Φ.z_sum bb_sum (ga_cons (ge_lc (m := false) (own := [("one", 2)]) rfl sc_raw_length.nd (gi_seq (ge_var 1)) (blkOk_by (by rfl)) (fun s H C cl fp => (go_name (i := 2) (by decide) sc_raw_length.nd rfl (by first | exact .inl rfl | exact .inr rfl))) (fun s H C cl fp => gts_nil) (fun s H C cl fp => (ge_ix (ix_all (room1 hr)) p2_ixD (ge_ix (ix_all (room1 hr)) p2_ixD (ge_ix (ix_all (room1 hr)) p2_ixD (ge_var 0) ge_int (fun _ _ => rfl)) (ge_var 2) (fun _ _ => rfl)) ge_int (fun _ _ => rfl)))) ga_nil))))
theorem ok_raw_cost (Φ : Facts K mg) : FnG P w K mg base 1 "raw_cost" ["net", "walk"] 2 F_raw_cost := fn_g Φ.D_raw_cost sc_raw_cost rfl fun f cdv A outer s H E hr tk po => by
  unfold S_raw_cost
  exact (gs_one (gs_ret (ge_callB (cr_sum rfl) pl_sum (by rfl) Φ.z_sum bb_sum (ga_cons (ge_lc (m := false) (own := [("one", 2)]) rfl sc_raw_cost.nd (gi_seq (ge_var 1)) (blkOk_by (by rfl)) (fun s H C cl fp => (go_name (i := 2) (by decide) sc_raw_cost.nd rfl (by first | exact .inl rfl | exact .inr rfl))) (fun s H C cl fp => gts_nil) (fun s H C cl fp => (ge_ix (ix_all (room1 hr)) p2_ixD (ge_ix (ix_all (room1 hr)) p2_ixD (ge_ix (ix_all (room1 hr)) p2_ixD (ge_var 0) ge_int (fun _ _ => rfl)) (ge_var 2) (fun _ _ => rfl)) ge_int (fun _ _ => rfl)))) ga_nil))))
theorem ok_length_of (Φ : Facts K mg) : FnG P w K mg base 8 "length_of" ["net", "begin", "walk"] 3 F_length_of := fn_g Φ.D_length_of sc_length_of rfl fun f cdv A outer s H E hr tk po => by
  unfold S_length_of
  exact (gs_cons (gs_expr (ge_fn ((ok_check_walk B Φ).mono (by decide)) hr tk (by rfl) (ga_cons (ge_var 0) (ga_cons (ge_var 1) (ga_cons (ge_var 2) ga_nil))) (al1 (al1 (al1 al0)))))
  (gs_one (gs_ret (ge_fn ((ok_raw_length B Φ).mono (by decide)) hr tk (by rfl) (ga_cons (ge_var 0) (ga_cons (ge_var 2) ga_nil)) (al1 (al1 al0))))))
theorem ok_cost_of (Φ : Facts K mg) : FnG P w K mg base 8 "cost_of" ["net", "begin", "walk"] 3 F_cost_of := fn_g Φ.D_cost_of sc_cost_of rfl fun f cdv A outer s H E hr tk po => by
  unfold S_cost_of
  exact (gs_cons (gs_expr (ge_fn ((ok_check_walk B Φ).mono (by decide)) hr tk (by rfl) (ga_cons (ge_var 0) (ga_cons (ge_var 1) (ga_cons (ge_var 2) ga_nil))) (al1 (al1 (al1 al0)))))
  (gs_one (gs_ret (ge_fn ((ok_raw_cost B Φ).mono (by decide)) hr tk (by rfl) (ga_cons (ge_var 0) (ga_cons (ge_var 2) ga_nil)) (al1 (al1 al0))))))
theorem ok_winding_end (Φ : Facts K mg) : FnG P w K mg base 4 "winding_end" ["net", "begin", "thing"] 3 F_winding_end := fn_g Φ.D_winding_end sc_winding_end rfl fun f cdv A outer s H E hr tk po => by
  unfold S_winding_end
  exact (gs_cons (gs_if (gw_or (gt_not (gt_val (ge_fn ((ok_is_sized B Φ).mono (by decide)) hr tk (by rfl) (ga_cons (ge_var 2) (ga_cons ge_int (ga_cons ge_int ga_nil))) (al1 (al1 (al1 al0)))))) (gw_or1 (gt_not (gt_val (ge_fn ((ok_is_number B Φ).mono (by decide)) hr tk (by rfl) (ga_cons (ge_ix (ix_all (room1 hr)) p2_ixD (ge_var 2) ge_int (fun _ _ => rfl)) ga_nil) (al1 al0)))))).pt (gs_one (gs_ret ge_non)) gs_nil)
  (gs_cons (gs_set (i := 3) sc_winding_end.nd rfl (by first | exact .inl rfl | exact .inr rfl) (ge_fn ((ok_raw_end B Φ).mono (by decide)) hr tk (by rfl) (ga_cons (ge_var 0) (ga_cons (ge_var 1) (ga_cons (ge_ix (ix_all (room1 hr)) p2_ixD (ge_var 2) ge_int (fun _ _ => rfl)) ga_nil))) (al1 (al1 (al1 al0)))))
  (gs_cons (gs_if (gw_or (gt_cmp op_isN p2_isN (ge_var 3) ge_non (by rfl)) (gw_or1 (gt_cmp (op_neD hr.units) p2_ne (ge_fn ((ok_raw_end B Φ).mono (by decide)) hr tk (by rfl) (ga_cons (ge_var 0) (ga_cons (ge_var 3) (ga_cons (ge_ix (ix_all (room1 hr)) p2_ixD (ge_var 2) ge_int (fun _ _ => rfl)) ga_nil))) (al1 (al1 (al1 al0)))) (ge_var 3) (by rfl)))).pt (gs_one (gs_ret ge_non)) gs_nil)
  (gs_cons (gs_if (gw_and (gt_cmp (op_eqD hr.units) p2_eq (ge_ix (ix_all (room1 hr)) p2_ixD (ge_var 2) ge_int (fun _ _ => rfl)) (ge_tup ga_nil) (by rfl)) (gw_and1 (gt_cmp op_gt (p2_cmp _) (ge_ix (ix_all (room1 hr)) p2_ixD (ge_var 2) ge_int (fun _ _ => rfl)) ge_int (by rfl)))).pt (gs_one (gs_ret ge_non)) gs_nil)
  (gs_one (gs_ret (ge_fn ((ok_raw_end B Φ).mono (by decide)) hr tk (by rfl) (ga_cons (ge_var 0) (ga_cons (ge_var 3) (ga_cons (ge_ix (ix_all (room1 hr)) p2_ixD (ge_var 2) ge_int (fun _ _ => rfl)) ga_nil))) (al1 (al1 (al1 al0))))))))))
theorem ok_is_winding (Φ : Facts K mg) : FnG P w K mg base 8 "is_winding" ["net", "begin", "end", "thing"] 4 F_is_winding := fn_g Φ.D_is_winding sc_is_winding rfl fun f cdv A outer s H E hr tk po => by
  unfold S_is_winding
  exact (gs_cons (gs_expr (ge_fn ((ok_check_ends B Φ).mono (by decide)) hr tk (by rfl) (ga_cons (ge_var 0) (ga_cons (ge_var 1) (ga_cons (ge_var 2) ga_nil))) (al1 (al1 (al1 al0)))))
  (gs_one (gs_ret (ge_cmp (op_eqD hr.units) p2_eq (ge_fn ((ok_winding_end B Φ).mono (by decide)) hr tk (by rfl) (ga_cons (ge_var 0) (ga_cons (ge_var 1) (ga_cons (ge_var 3) ga_nil))) (al1 (al1 (al1 al0)))) (ge_var 2) (by rfl)))))
theorem ok_check_winding (Φ : Facts K mg) : FnG P w K mg base 7 "check_winding" ["net", "begin", "winding"] 3 F_check_winding := fn_g Φ.D_check_winding sc_check_winding rfl fun f cdv A outer s H E hr tk po => by
  unfold S_check_winding
  exact (gs_cons (gs_expr (ge_fn ((ok_check_node B Φ).mono (by decide)) hr tk (by rfl) (ga_cons (ge_var 0) (ga_cons (ge_var 1) ga_nil)) (al1 (al1 al0))))
  (gs_one (gs_if (gt_cmp op_isN p2_isN (ge_fn ((ok_winding_end B Φ).mono (by decide)) hr tk (by rfl) (ga_cons (ge_var 0) (ga_cons (ge_var 1) (ga_cons (ge_var 2) ga_nil))) (al1 (al1 (al1 al0)))) ge_non (by rfl)) (gs_one (gs_raise 38 Φ.x_NoWinding (by rfl) rfl tk (by rfl))) gs_nil)))
theorem ok_wound_length (Φ : Facts K mg) : FnG P w K mg base 2 "wound_length" ["net", "winding"] 2 F_wound_length := fn_g Φ.D_wound_length sc_wound_length rfl fun f cdv A outer s H E hr tk po => by
  unfold S_wound_length
  exact (gs_one (gs_ret (ge_op opAdd (p2_add false) (ge_fn ((ok_raw_length B Φ).mono (by decide)) hr tk (by rfl) (ga_cons (ge_var 0) (ga_cons (ge_op opAdd (p2_add false) (ge_ix (ix_all (room1 hr)) p2_ixD (ge_var 1) ge_int (fun _ _ => rfl)) (ge_ix (ix_all (room1 hr)) p2_ixD (ge_var 1) ge_int (fun _ _ => rfl))) ga_nil)) (al1 (al1 al0))) (ge_op opMul (p2_mul false) (ge_ix (ix_all (room1 hr)) p2_ixD (ge_var 1) ge_int (fun _ _ => rfl)) (ge_fn ((ok_raw_length B Φ).mono (by decide)) hr tk (by rfl) (ga_cons (ge_var 0) (ga_cons (ge_ix (ix_all (room1 hr)) p2_ixD (ge_var 1) ge_int (fun _ _ => rfl)) ga_nil)) (al1 (al1 al0)))))))
theorem ok_wound_cost (Φ : Facts K mg) : FnG P w K mg base 2 "wound_cost" ["net", "winding"] 2 F_wound_cost := fn_g Φ.D_wound_cost sc_wound_cost rfl fun f cdv A outer s H E hr tk po => by
  unfold S_wound_cost
  exact (gs_one (gs_ret (ge_op opAdd (p2_add false) (ge_fn ((ok_raw_cost B Φ).mono (by decide)) hr tk (by rfl) (ga_cons (ge_var 0) (ga_cons (ge_op opAdd (p2_add false) (ge_ix (ix_all (room1 hr)) p2_ixD (ge_var 1) ge_int (fun _ _ => rfl)) (ge_ix (ix_all (room1 hr)) p2_ixD (ge_var 1) ge_int (fun _ _ => rfl))) ga_nil)) (al1 (al1 al0))) (ge_op opMul (p2_mul false) (ge_ix (ix_all (room1 hr)) p2_ixD (ge_var 1) ge_int (fun _ _ => rfl)) (ge_fn ((ok_raw_cost B Φ).mono (by decide)) hr tk (by rfl) (ga_cons (ge_var 0) (ga_cons (ge_ix (ix_all (room1 hr)) p2_ixD (ge_var 1) ge_int (fun _ _ => rfl)) ga_nil)) (al1 (al1 al0)))))))
theorem ok_winding_length (Φ : Facts K mg) : FnG P w K mg base 8 "winding_length" ["net", "begin", "winding"] 3 F_winding_length := fn_g Φ.D_winding_length sc_winding_length rfl fun f cdv A outer s H E hr tk po => by
  unfold S_winding_length
  exact (gs_cons (gs_expr (ge_fn ((ok_check_winding B Φ).mono (by decide)) hr tk (by rfl) (ga_cons (ge_var 0) (ga_cons (ge_var 1) (ga_cons (ge_var 2) ga_nil))) (al1 (al1 (al1 al0)))))
  (gs_one (gs_ret (ge_fn ((ok_wound_length B Φ).mono (by decide)) hr tk (by rfl) (ga_cons (ge_var 0) (ga_cons (ge_var 2) ga_nil)) (al1 (al1 al0))))))
theorem ok_winding_cost (Φ : Facts K mg) : FnG P w K mg base 8 "winding_cost" ["net", "begin", "winding"] 3 F_winding_cost := fn_g Φ.D_winding_cost sc_winding_cost rfl fun f cdv A outer s H E hr tk po => by
  unfold S_winding_cost
  exact (gs_cons (gs_expr (ge_fn ((ok_check_winding B Φ).mono (by decide)) hr tk (by rfl) (ga_cons (ge_var 0) (ga_cons (ge_var 1) (ga_cons (ge_var 2) ga_nil))) (al1 (al1 (al1 al0)))))
  (gs_one (gs_ret (ge_fn ((ok_wound_cost B Φ).mono (by decide)) hr tk (by rfl) (ga_cons (ge_var 0) (ga_cons (ge_var 2) ga_nil)) (al1 (al1 al0))))))
theorem ok_unwound (Φ : Facts K mg) : FnG P w K mg base 8 "unwound" ["net", "begin", "winding"] 3 F_unwound := fn_g Φ.D_unwound sc_unwound rfl fun f cdv A outer s H E hr tk po => by
  unfold S_unwound
  exact (gs_cons (gs_expr (ge_fn ((ok_check_winding B Φ).mono (by decide)) hr tk (by rfl) (ga_cons (ge_var 0) (ga_cons (ge_var 1) (ga_cons (ge_var 2) ga_nil))) (al1 (al1 (al1 al0)))))
  (gs_cons (gs_asg (ge_var 2) (GQ.gg (gq_tup (W := W0) (gl1 (gl1 (gl1 (gl1 gl0)))) (nx1 nxN (nx1 nxN (nx1 nxN (nx1 nxN nx0)))) rfl (ggs_cons (gq_name (i := 3) sc_unwound.nd rfl (by first | exact .inl rfl | exact .inr rfl)) (ggs_cons (gq_name (i := 4) sc_unwound.nd rfl (by first | exact .inl rfl | exact .inr rfl)) (ggs_cons (gq_name (i := 5) sc_unwound.nd rfl (by first | exact .inl rfl | exact .inr rfl)) (ggs_cons (gq_name (i := 6) sc_unwound.nd rfl (by first | exact .inl rfl | exact .inr rfl)) ggs_nil))))) (nxT (nx1 nxN (nx1 nxN (nx1 nxN (nx1 nxN nx0)))))))
  (gs_cons (gs_if (gt_cmp op_gt (p2_cmp _) (ge_op opAdd (p2_add false) (ge_op opAdd (p2_add false) (ge_callB cLenD pl_lenD (by rfl) Φ.z_len bb_len (ga_cons (ge_var 3) ga_nil)) (ge_callB cLenD pl_lenD (by rfl) Φ.z_len bb_len (ga_cons (ge_var 6) ga_nil))) (ge_op opMul (p2_mul false) (ge_var 5) (ge_callB cLenD pl_lenD (by rfl) Φ.z_len bb_len (ga_cons (ge_var 4) ga_nil)))) (ge_gi (by rfl) Φ.c_MOST_WALK) (by rfl)) (gs_one (gs_raiseA 41 (k := 0) Φ.xa_TooMany sci_TooMany (fun fI A outer s H E cdv => hbi_TooMany fI A outer s H E cdv) (by rfl) rfl tk (hr.mono (by decide)) (by rfl) (ge_gi (by rfl) Φ.c_MOST_WALK))) gs_nil)
  (gs_one (gs_ret (ge_op opAdd (p2_add false) (ge_op opAdd (p2_add false) (ge_var 3) (ge_op opMulQ (p2_mulQ false) (ge_var 4) (ge_var 5))) (ge_var 6)))))))
theorem ok_check_asked (Φ : Facts K mg) : FnG P w K mg base 8 "check_asked" ["net", "begin", "end", "n"] 4 F_check_asked := fn_g Φ.D_check_asked sc_check_asked rfl fun f cdv A outer s H E hr tk po => by
  unfold S_check_asked
  exact (gs_cons (gs_expr (ge_fn ((ok_check_ends B Φ).mono (by decide)) hr tk (by rfl) (ga_cons (ge_var 0) (ga_cons (ge_var 1) (ga_cons (ge_var 2) ga_nil))) (al1 (al1 (al1 al0)))))
  (gs_one (gs_if (gt_not (gt_val (ge_fn ((ok_is_within B Φ).mono (by decide)) hr tk (by rfl) (ga_cons (ge_var 3) (ga_cons ge_int (ga_cons (ge_gi (by rfl) Φ.c_MOST_ASKED) ga_nil))) (al1 (al1 (al1 al0)))))) (gs_one (gs_raise 9 Φ.x_NoLength (by rfl) rfl tk (by rfl))) gs_nil)))
theorem ok_costs_ahead (Φ : Facts K mg) : FnG P w K mg base 1 "costs_ahead" ["net", "begin", "n"] 3 F_costs_ahead := fn_g Φ.D_costs_ahead sc_costs_ahead rfl fun f cdv A outer s H E hr tk po => by
  unfold S_costs_ahead
  exact (gs_cons (gs_setLc (m := false) (i := 3) (own := [("at", 4)]) rfl sc_costs_ahead.nd rfl rfl (sw_true rfl rfl rfl rfl) (gi_range1 (by rfl) Φ.z_range (ga_cons (ge_op opAdd (p2_add false) (ge_var 2) ge_int) ga_nil)) (blkOk_by (by rfl)) (fun s H C cl fp => (go_name (i := 4) (by decide) sc_costs_ahead.nd rfl (by first | exact .inl rfl | exact .inr rfl))) (fun s H C cl fp => gts_nil) (fun s H C cl fp => (ge_op opMul (p2_mul true) (ge_lst false (ga_cons ge_non ga_nil)) (ge_ix (ix_all (room1 hr)) p2_ixD (ge_var 0) ge_int (fun _ _ => rfl)))))
  (gs_cons (gs_asg ge_int (gg_subD (room1 hr) (ge_ix (ix_all (room1 hr)) p2_ixD (ge_var 3) ge_int (fun _ _ => rfl)) (ge_var 1)))
  (gs_cons (gs_for po rfl (gi_range1 (by rfl) Φ.z_range (ga_cons (ge_op opAdd (p2_add false) (ge_var 2) ge_int) ga_nil)) (gg_name (i := 4) sc_costs_ahead.nd rfl (by first | exact .inl rfl | exact .inr rfl)) (gs_tidy [4, 5, 6, 7, 8, 9, 10] (gs_one (gs_for po rfl (gi_seq (ge_ix (ix_all (room1 hr)) p2_ixD (ge_var 0) ge_int (fun _ _ => rfl))) (GQ.gg (gq_tup (W := W0) (gl1 (gl1 (gl1 (gl1 gl0)))) (nx1 nxN (nx1 nxN (nx1 nxN (nx1 nxN nx0)))) rfl (ggs_cons (gq_name (i := 5) sc_costs_ahead.nd rfl (by first | exact .inl rfl | exact .inr rfl)) (ggs_cons (gq_name (i := 6) sc_costs_ahead.nd rfl (by first | exact .inl rfl | exact .inr rfl)) (ggs_cons (gq_name (i := 7) sc_costs_ahead.nd rfl (by first | exact .inl rfl | exact .inr rfl)) (ggs_cons (gq_name (i := 8) sc_costs_ahead.nd rfl (by first | exact .inl rfl | exact .inr rfl)) ggs_nil))))) (nxT (nx1 nxN (nx1 nxN (nx1 nxN (nx1 nxN nx0)))))) (gs_tidy [5, 6, 7, 8, 9, 10] (gs_cons (gs_par (i := 9) (j := 10) rfl sc_costs_ahead.nd rfl rfl (by decide) rfl rfl (ge_ix (ix_all (room1 hr)) p2_ixD (ge_ix (ix_all (room1 hr)) p2_ixD (ge_var 3) (ge_var 4) (fun _ _ => rfl)) (ge_var 5) (fun _ _ => rfl)) (ge_op opAdd (p2_add false) (ge_var 4) (ge_var 7)) rfl)
  (gs_one (gs_if (gw_and (gt_cmp op_notN p2_notN (ge_var 9) ge_non (by rfl)) (gw_and (gt_cmp op_le (p2_cmp _) (ge_var 10) (ge_var 2) (by rfl)) (gw_and1 (gw_or (gt_cmp op_isN p2_isN (ge_ix (ix_all (room1 hr)) p2_ixD (ge_ix (ix_all (room1 hr)) p2_ixD (ge_var 3) (ge_var 10) (fun _ _ => rfl)) (ge_var 6) (fun _ _ => rfl)) ge_non (by rfl)) (gw_or1 (gt_cmp op_lt (p2_cmp _) (ge_op opAdd (p2_add false) (ge_var 9) (ge_var 8)) (ge_ix (ix_all (room1 hr)) p2_ixD (ge_ix (ix_all (room1 hr)) p2_ixD (ge_var 3) (ge_var 10) (fun _ _ => rfl)) (ge_var 6) (fun _ _ => rfl)) (by rfl)))).pt))).pt (gs_one (gs_asg (ge_op opAdd (p2_add false) (ge_var 9) (ge_var 8)) (gg_subD (room1 hr) (ge_ix (ix_all (room1 hr)) p2_ixD (ge_var 3) (ge_var 10) (fun _ _ => rfl)) (ge_var 6)))) gs_nil))))))))
  (gs_one (gs_ret (ge_var 3))))))
theorem ok_raw_least_cost (Φ : Facts K mg) : FnG P w K mg base 2 "raw_least_cost" ["net", "begin", "end", "n"] 4 F_raw_least_cost := fn_g Φ.D_raw_least_cost sc_raw_least_cost rfl fun f cdv A outer s H E hr tk po => by
  unfold S_raw_least_cost
  exact (gs_one (gs_ret (ge_ix (ix_all (room1 hr)) p2_ixD (ge_ix (ix_all (room1 hr)) p2_ixD (ge_fn ((ok_costs_ahead B Φ).mono (by decide)) hr tk (by rfl) (ga_cons (ge_var 0) (ga_cons (ge_var 1) (ga_cons (ge_var 3) ga_nil))) (al1 (al1 (al1 al0)))) (ge_var 3) (fun _ _ => rfl)) (ge_var 2) (fun _ _ => rfl))))
theorem ok_least_cost (Φ : Facts K mg) : FnG P w K mg base 9 "least_cost" ["net", "begin", "end", "n"] 4 F_least_cost := fn_g Φ.D_least_cost sc_least_cost rfl fun f cdv A outer s H E hr tk po => by
  unfold S_least_cost
  exact (gs_cons (gs_expr (ge_fn ((ok_check_asked B Φ).mono (by decide)) hr tk (by rfl) (ga_cons (ge_var 0) (ga_cons (ge_var 1) (ga_cons (ge_var 2) (ga_cons (ge_var 3) ga_nil)))) (al1 (al1 (al1 (al1 al0))))))
  (gs_one (gs_ret (ge_fn ((ok_raw_least_cost B Φ).mono (by decide)) hr tk (by rfl) (ga_cons (ge_var 0) (ga_cons (ge_var 1) (ga_cons (ge_var 2) (ga_cons (ge_var 3) ga_nil)))) (al1 (al1 (al1 (al1 al0))))))))
theorem ok__law_hand_v09 (Φ : Facts K mg) : FnG P w K mg base 1 "_law_hand" ["script"] 1 F__law_hand_v09 := fn_gM Φ.D__law_hand_v09 sc__law_hand_v09 rfl fun f cdv A outer s H E hr tk po => by
  unfold S__law_hand_v09
  exact (gs_cons (gs_setLc (m := false) (i := 1) (own := [("cell", 2)]) rfl sc__law_hand_v09.nd rfl rfl (sw_true rfl rfl rfl rfl) (gi_seq (ge_sl false (ge_var 0) go_none (go_some ge_int))) (blkOk_by (by rfl)) (fun s H C cl fp => (go_name (i := 2) (by decide) sc__law_hand_v09.nd rfl (by first | exact .inl rfl | exact .inr rfl))) (fun s H C cl fp => gts_nil) (fun s H C cl fp => (ge_op op_mod p2_mod (ge_callT call_int1 pl_int (by rfl) Φ.z_int bb_int (ga_cons (ge_callB call_abs pl_abs (by rfl) Φ.z_abs bb_abs (ga_cons (ge_callT call_int1 pl_int (by rfl) Φ.z_int bb_int (ga_cons (ge_var 2) ga_nil)) ga_nil)) ga_nil)) (ge_op op_pow p2_pow ge_int ge_int))))
  (gs_one (gs_ret (ge_lst true (ga_cons (ge_var 1) (ga_cons ge_int (ga_cons ge_int (ga_cons (ge_op opAdd (p2_add false) ge_int (ge_op opMul (p2_mul false) ge_int (ge_callB cLenD pl_lenD (by rfl) Φ.z_len bb_len (ga_cons (ge_var 1) ga_nil)))) (ga_cons ge_int ga_nil)))))))))
theorem ok__law_draw_v09 (Φ : Facts K mg) : FnG P w K mg base 1 "_law_draw" ["hand", "many"] 2 F__law_draw_v09 := fn_g Φ.D__law_draw_v09 sc__law_draw_v09 rfl fun f cdv A outer s H E hr tk po => by
  unfold S__law_draw_v09
  exact (gs_cons (gs_if (gw_and (gt_cmp (op_eqD hr.units) p2_eq (ge_ix (ix_all (room1 hr)) p2_ixD (ge_var 0) ge_int (fun _ _ => rfl)) ge_int (by rfl)) (gw_and1 (gt_cmp op_lt (p2_cmp _) (ge_ix (ix_all (room1 hr)) p2_ixD (ge_var 0) ge_int (fun _ _ => rfl)) (ge_callB cLenD pl_lenD (by rfl) Φ.z_len bb_len (ga_cons (ge_ix (ix_all (room1 hr)) p2_ixD (ge_var 0) ge_int (fun _ _ => rfl)) ga_nil)) (by rfl)))).pt (gs_cons (gs_set (i := 2) sc__law_draw_v09.nd rfl (by first | exact .inl rfl | exact .inr rfl) (ge_ix (ix_all (room1 hr)) p2_ixD (ge_ix (ix_all (room1 hr)) p2_ixD (ge_var 0) ge_int (fun _ _ => rfl)) (ge_ix (ix_all (room1 hr)) p2_ixD (ge_var 0) ge_int (fun _ _ => rfl)) (fun _ _ => rfl)))
  (gs_cons (gs_asg (ge_op opAdd (p2_add false) (ge_ix (ix_all (room1 hr)) p2_ixD (ge_var 0) ge_int (fun _ _ => rfl)) ge_int) (gg_subD (room1 hr) (ge_var 0) ge_int))
  (gs_cons (gs_asg (ge_op op_mod p2_mod (ge_callT call_int1 pl_int (by rfl) Φ.z_int bb_int (ga_cons (ge_op opAdd (p2_add false) (ge_op opAdd (p2_add false) (ge_op opMul (p2_mul false) (ge_ix (ix_all (room1 hr)) p2_ixD (ge_var 0) ge_int (fun _ _ => rfl)) ge_int) (ge_op opMul (p2_mul false) (ge_var 2) ge_int)) ge_int) ga_nil)) ge_int) (gg_subD (room1 hr) (ge_var 0) ge_int))
  (gs_one (gs_if (gt_cmp op_ge (p2_cmp _) (ge_var 2) (ge_op op_pow p2_pow ge_int ge_int) (by rfl)) (gs_one (gs_asg (ge_var 2) (gg_subD (room1 hr) (ge_var 0) ge_int))) gs_nil))))) gs_nil)
  (gs_cons (gs_if (gt_cmp op_gt (p2_cmp _) (ge_ix (ix_all (room1 hr)) p2_ixD (ge_var 0) ge_int (fun _ _ => rfl)) ge_int (by rfl)) (gs_cons (gs_set (i := 3) sc__law_draw_v09.nd rfl (by first | exact .inl rfl | exact .inr rfl) (ge_op op_mod p2_mod (ge_callT call_int1 pl_int (by rfl) Φ.z_int bb_int (ga_cons (ge_ix (ix_all (room1 hr)) p2_ixD (ge_var 0) ge_int (fun _ _ => rfl)) ga_nil)) (ge_var 1)))
  (gs_cons (gs_asg (ge_op op_fdivW p2_div (ge_ix (ix_all (room1 hr)) p2_ixD (ge_var 0) ge_int (fun _ _ => rfl)) (ge_var 1)) (gg_subD (room1 hr) (ge_var 0) ge_int))
  (gs_one (gs_ret (ge_var 3))))) gs_nil)
  (gs_cons (gs_asg (ge_op opAdd (p2_add false) (ge_ix (ix_all (room1 hr)) p2_ixD (ge_var 0) ge_int (fun _ _ => rfl)) ge_int) (gg_subD (room1 hr) (ge_var 0) ge_int))
  (gs_cons (gs_set (i := 4) sc__law_draw_v09.nd rfl (by first | exact .inl rfl | exact .inr rfl) (ge_op op_mod p2_mod (ge_callT call_int1 pl_int (by rfl) Φ.z_int bb_int (ga_cons (ge_op opMul (p2_mul false) (ge_callT call_int1 pl_int (by rfl) Φ.z_int bb_int (ga_cons (ge_op opAdd (p2_add false) (ge_ix (ix_all (room1 hr)) p2_ixD (ge_var 0) ge_int (fun _ _ => rfl)) (ge_op opMul (p2_mul false) ge_int (ge_ix (ix_all (room1 hr)) p2_ixD (ge_var 0) ge_int (fun _ _ => rfl)))) ga_nil)) ge_int) ga_nil)) ge_int))
  (gs_cons (gs_set (i := 4) sc__law_draw_v09.nd rfl (by first | exact .inl rfl | exact .inr rfl) (ge_op op_mod p2_mod (ge_callT call_int1 pl_int (by rfl) Φ.z_int bb_int (ga_cons (ge_op opMul (p2_mul false) (ge_var 4) (ge_op opAdd (p2_add false) (ge_op op_fdivW p2_div (ge_var 4) ge_int) ge_int)) ga_nil)) ge_int))
  (gs_cons (gs_set (i := 4) sc__law_draw_v09.nd rfl (by first | exact .inl rfl | exact .inr rfl) (ge_op op_mod p2_mod (ge_callT call_int1 pl_int (by rfl) Φ.z_int bb_int (ga_cons (ge_op opMul (p2_mul false) (ge_var 4) (ge_op opAdd (p2_add false) (ge_op op_fdivW p2_div (ge_var 4) ge_int) ge_int)) ga_nil)) ge_int))
  (gs_one (gs_ret (ge_op op_mod p2_mod (ge_callT call_int1 pl_int (by rfl) Φ.z_int bb_int (ga_cons (ge_op op_fdivW p2_div (ge_var 4) ge_int) ga_nil)) (ge_var 1))))))))))
theorem ok__law_some (Φ : Facts K mg) : FnG P w K mg base 2 "_law_some" ["hand", "things"] 2 F__law_some := fn_g Φ.D__law_some sc__law_some rfl fun f cdv A outer s H E hr tk po => by
  unfold S__law_some
  exact (gs_one (gs_ret (ge_ix (ix_all (room1 hr)) p2_ixD (ge_var 1) (ge_fn ((ok__law_draw_v09 B Φ).mono (by decide)) hr tk (by rfl) (ga_cons (ge_var 0) (ga_cons (ge_callB cLenD pl_lenD (by rfl) Φ.z_len bb_len (ga_cons (ge_var 1) ga_nil)) ga_nil)) (al1 (al1 al0))) (fun _ _ => rfl))))
theorem ok__law_net (Φ : Facts K mg) : FnG P w K mg base 3 "_law_net" ["hand"] 1 F__law_net := fn_g Φ.D__law_net sc__law_net rfl fun f cdv A outer s H E hr tk po => by
  unfold S__law_net
  exact (gs_cons (gs_par (i := 1) (j := 2) rfl sc__law_net.nd rfl rfl (by decide) rfl rfl (ge_op opAdd (p2_add false) ge_int (ge_fn ((ok__law_draw_v09 B Φ).mono (by decide)) hr tk (by rfl) (ga_cons (ge_var 0) (ga_cons ge_int ga_nil)) (al1 (al1 al0)))) (ge_lst true ga_nil) rfl)
  (gs_cons (gs_for po rfl (gi_range1 (by rfl) Φ.z_range (ga_cons (ge_fn ((ok__law_draw_v09 B Φ).mono (by decide)) hr tk (by rfl) (ga_cons (ge_var 0) (ga_cons ge_int ga_nil)) (al1 (al1 al0))) ga_nil)) (gg_name (i := 3) sc__law_net.nd rfl (by first | exact .inl rfl | exact .inr rfl)) (gs_tidy [3, 4, 5] (gs_cons (gs_set (i := 4) sc__law_net.nd rfl (by first | exact .inl rfl | exact .inr rfl) (ge_fn ((ok__law_some B Φ).mono (by decide)) hr tk (by rfl) (ga_cons (ge_var 0) (ga_cons (ge_lst false (ga_cons ge_int (ga_cons ge_int (ga_cons ge_int (ga_cons ge_int (ga_cons ge_int (ga_cons ge_int ga_nil))))))) ga_nil)) (al1 (al1 al0))))
  (gs_cons (gs_set (i := 5) sc__law_net.nd rfl (by first | exact .inl rfl | exact .inr rfl) (ge_tup (ga_cons (ge_fn ((ok__law_draw_v09 B Φ).mono (by decide)) hr tk (by rfl) (ga_cons (ge_var 0) (ga_cons (ge_var 1) ga_nil)) (al1 (al1 al0))) (ga_cons (ge_fn ((ok__law_draw_v09 B Φ).mono (by decide)) hr tk (by rfl) (ga_cons (ge_var 0) (ga_cons (ge_var 1) ga_nil)) (al1 (al1 al0))) (ga_cons (ge_op opAdd (p2_add false) ge_int (ge_fn ((ok__law_draw_v09 B Φ).mono (by decide)) hr tk (by rfl) (ga_cons (ge_var 0) (ga_cons ge_int ga_nil)) (al1 (al1 al0)))) (ga_cons (ge_var 4) ga_nil))))))
  (gs_one (gs_if (gt_cmp (notIn_all (room65 hr)) p2_notInD (ge_var 5) (ge_var 2) (by rfl)) (gs_one (gs_expr (ge_bm PySem.F.plainAttrs_list PySem.F.slot_list_append PySem.F.type_list_append mt_append pm_app tyL (ge_var 2) (ga_cons (ge_var 5) ga_nil)))) gs_nil))))))
  (gs_one (gs_ret (ge_tup (ga_cons (ge_var 1) (ga_cons (ge_callT call_tuple_of pl_tuple (by rfl) Φ.z_tuple bb_tuple (ga_cons (ge_var 2) ga_nil)) ga_nil)))))))
theorem ok__law_bad_net (Φ : Facts K mg) : FnG P w K mg base 3 "_law_bad_net" ["hand"] 1 F__law_bad_net := fn_g Φ.D__law_bad_net sc__law_bad_net rfl fun f cdv A outer s H E hr tk po => by
  unfold S__law_bad_net
  exact (gs_cons (gs_set (i := 1) sc__law_bad_net.nd rfl (by first | exact .inl rfl | exact .inr rfl) (ge_lst false (ga_cons ge_non (ga_cons ge_int (ga_cons (ge_tup (ga_cons ge_int (ga_cons (ge_tup ga_nil) ga_nil))) (ga_cons (ge_tup (ga_cons ge_int (ga_cons (ge_tup ga_nil) ga_nil))) (ga_cons (ge_tup (ga_cons ge_int (ga_cons (ge_lst false ga_nil) ga_nil))) (ga_cons (ge_lst false (ga_cons ge_int (ga_cons (ge_tup ga_nil) ga_nil))) (ga_cons (ge_tup (ga_cons ge_int (ga_cons (ge_tup (ga_cons (ge_tup (ga_cons ge_int (ga_cons ge_int (ga_cons ge_int (ga_cons ge_int ga_nil))))) ga_nil)) ga_nil))) (ga_cons (ge_tup (ga_cons ge_int (ga_cons (ge_tup (ga_cons (ge_tup (ga_cons ge_int (ga_cons ge_int (ga_cons ge_int (ga_cons ge_int ga_nil))))) ga_nil)) ga_nil))) ga_nil))))))))))
  (gs_cons (gs_set (i := 1) sc__law_bad_net.nd rfl (by first | exact .inl rfl | exact .inr rfl) (ge_op opAdd (p2_add false) (ge_var 1) (ge_lst false (ga_cons (ge_tup (ga_cons ge_int (ga_cons (ge_tup (ga_cons (ge_tup (ga_cons ge_int (ga_cons ge_int (ga_cons ge_int (ga_cons ge_int ga_nil))))) ga_nil)) ga_nil))) (ga_cons (ge_tup (ga_cons ge_int (ga_cons (ge_tup (ga_cons (ge_tup (ga_cons ge_int (ga_cons ge_int (ga_cons ge_int (ga_cons ge_int ga_nil))))) ga_nil)) ga_nil))) (ga_cons (ge_tup (ga_cons ge_int (ga_cons (ge_tup (ga_cons (ge_tup (ga_cons ge_int (ga_cons ge_int (ga_cons ge_int (ga_cons (ge_un un_neg p1_neg ge_int) ga_nil))))) ga_nil)) ga_nil))) (ga_cons (ge_tup (ga_cons ge_bl (ga_cons (ge_tup ga_nil) ga_nil))) (ga_cons ge_str ga_nil))))))))
  (gs_cons (gs_set (i := 1) sc__law_bad_net.nd rfl (by first | exact .inl rfl | exact .inr rfl) (ge_op opAdd (p2_add false) (ge_var 1) (ge_lst false (ga_cons (ge_tup (ga_cons ge_int (ga_cons (ge_tup (ga_cons (ge_tup (ga_cons ge_int (ga_cons ge_int (ga_cons ge_int (ga_cons ge_int ga_nil))))) (ga_cons (ge_tup (ga_cons ge_int (ga_cons ge_int (ga_cons ge_int (ga_cons ge_int ga_nil))))) ga_nil))) ga_nil))) (ga_cons (ge_tup (ga_cons ge_int (ga_cons (ge_tup (ga_cons (ge_tup (ga_cons ge_int (ga_cons ge_int (ga_cons ge_int ga_nil)))) ga_nil)) ga_nil))) (ga_cons (ge_tup (ga_cons ge_int (ga_cons (ge_tup (ga_cons (ge_lst false (ga_cons ge_int (ga_cons ge_int (ga_cons ge_int (ga_cons ge_int ga_nil))))) ga_nil)) ga_nil))) ga_nil))))))
  (gs_one (gs_ret (ge_fn ((ok__law_some B Φ).mono (by decide)) hr tk (by rfl) (ga_cons (ge_var 0) (ga_cons (ge_op opAdd (p2_add false) (ge_var 1) (ge_lst false (ga_cons (ge_tup (ga_cons ge_int (ga_cons (ge_tup (ga_cons (ge_tup (ga_cons ge_int (ga_cons ge_bl (ga_cons ge_int (ga_cons ge_int ga_nil))))) ga_nil)) ga_nil))) (ga_cons (ge_tup (ga_cons ge_int (ga_cons (ge_tup ga_nil) (ga_cons ge_int ga_nil)))) ga_nil)))) ga_nil)) (al1 (al1 al0))))))))
theorem ok__law_bad_node (Φ : Facts K mg) : FnG P w K mg base 3 "_law_bad_node" ["hand", "net"] 2 F__law_bad_node := fn_g Φ.D__law_bad_node sc__law_bad_node rfl fun f cdv A outer s H E hr tk po => by
  unfold S__law_bad_node
  exact (gs_one (gs_ret (ge_fn ((ok__law_some B Φ).mono (by decide)) hr tk (by rfl) (ga_cons (ge_var 0) (ga_cons (ge_lst false (ga_cons (ge_ix (ix_all (room1 hr)) p2_ixD (ge_var 1) ge_int (fun _ _ => rfl)) (ga_cons (ge_un un_neg p1_neg ge_int) (ga_cons ge_non (ga_cons ge_bl (ga_cons ge_str (ga_cons (ge_tup (ga_cons ge_int ga_nil)) ga_nil))))))) ga_nil)) (al1 (al1 al0)))))
theorem ok__law_walk (Φ : Facts K mg) : FnG P w K mg base 3 "_law_walk" ["hand", "net", "begin", "most"] 4 F__law_walk := fn_g Φ.D__law_walk sc__law_walk rfl fun f cdv A outer s H E hr tk po => by
  unfold S__law_walk
  exact (gs_cons (gs_asg (ge_tup (ga_cons (ge_lst true ga_nil) (ga_cons (ge_var 2) ga_nil))) (GQ.gg (gq_tup (W := W0) (gl1 (gl1 gl0)) (nx1 nxN (nx1 nxN nx0)) rfl (ggs_cons (gq_name (i := 4) sc__law_walk.nd rfl (by first | exact .inl rfl | exact .inr rfl)) (ggs_cons (gq_name (i := 5) sc__law_walk.nd rfl (by first | exact .inl rfl | exact .inr rfl)) ggs_nil))) (nxT (nx1 nxN (nx1 nxN nx0)))))
  (gs_cons (gs_for po rfl (gi_range1 (by rfl) Φ.z_range (ga_cons (ge_fn ((ok__law_draw_v09 B Φ).mono (by decide)) hr tk (by rfl) (ga_cons (ge_var 0) (ga_cons (ge_op opAdd (p2_add false) (ge_var 3) ge_int) ga_nil)) (al1 (al1 al0))) ga_nil)) (gg_name (i := 6) sc__law_walk.nd rfl (by first | exact .inl rfl | exact .inr rfl)) (gs_tidy [6, 7] (gs_cons (gs_setLc (m := false) (i := 7) (own := [("number", 8), ("arc", 9)]) rfl sc__law_walk.nd rfl rfl (sw_true rfl rfl rfl rfl) (gi_en (by rfl) Φ.z_enumerate (ga_cons (ge_ix (ix_all (room1 hr)) p2_ixD (ge_var 1) ge_int (fun _ _ => rfl)) ga_nil)) (blkOk_by (by rfl)) (fun s H C cl fp => (go_tup (gl1 (gl1 gl0)) (nx1 nxN (nx1 nxN nx0)) rfl (gos_cons (go_name (i := 8) (by decide) sc__law_walk.nd rfl (by first | exact .inl rfl | exact .inr rfl)) (gos_cons (go_name (i := 9) (by decide) sc__law_walk.nd rfl (by first | exact .inl rfl | exact .inr rfl)) gos_nil)))) (fun s H C cl fp => (gts_one (gt_cmp (op_eqD hr.units) p2_eq (ge_ix (ix_all (room1 hr)) p2_ixD (ge_var 9) ge_int (fun _ _ => rfl)) (ge_var 5) (by rfl)))) (fun s H C cl fp => (ge_var 8)))
  (gs_one (gs_if (gt_cmp op_gt (p2_cmp _) (ge_callB cLenD pl_lenD (by rfl) Φ.z_len bb_len (ga_cons (ge_var 7) ga_nil)) ge_int (by rfl)) (gs_cons (gs_expr (ge_bm PySem.F.plainAttrs_list PySem.F.slot_list_append PySem.F.type_list_append mt_append pm_app tyL (ge_var 4) (ga_cons (ge_fn ((ok__law_some B Φ).mono (by decide)) hr tk (by rfl) (ga_cons (ge_var 0) (ga_cons (ge_var 7) ga_nil)) (al1 (al1 al0))) ga_nil)))
  (gs_one (gs_set (i := 5) sc__law_walk.nd rfl (by first | exact .inl rfl | exact .inr rfl) (ge_ix (ix_all (room1 hr)) p2_ixD (ge_ix (ix_all (room1 hr)) p2_ixD (ge_ix (ix_all (room1 hr)) p2_ixD (ge_var 1) ge_int (fun _ _ => rfl)) (ge_ix (ix_all (room1 hr)) p2_ixD (ge_var 4) (ge_un un_neg p1_neg ge_int) (fun _ _ => rfl)) (fun _ _ => rfl)) ge_int (fun _ _ => rfl))))) gs_nil)))))
  (gs_one (gs_ret (ge_callT call_tuple_of pl_tuple (by rfl) Φ.z_tuple bb_tuple (ga_cons (ge_var 4) ga_nil))))))
theorem ok__law_end (Φ : Facts K mg) : FnG P w K mg base 1 "_law_end" ["net", "begin", "walk"] 3 F__law_end := fn_g Φ.D__law_end sc__law_end rfl fun f cdv A outer s H E hr tk po => by
  unfold S__law_end
  exact (gs_one (gs_ret (ge_if (gt_cmp op_gt (p2_cmp _) (ge_callB cLenD pl_lenD (by rfl) Φ.z_len bb_len (ga_cons (ge_var 2) ga_nil)) ge_int (by rfl)) (ge_ix (ix_all (room1 hr)) p2_ixD (ge_ix (ix_all (room1 hr)) p2_ixD (ge_ix (ix_all (room1 hr)) p2_ixD (ge_var 0) ge_int (fun _ _ => rfl)) (ge_ix (ix_all (room1 hr)) p2_ixD (ge_var 2) (ge_un un_neg p1_neg ge_int) (fun _ _ => rfl)) (fun _ _ => rfl)) ge_int (fun _ _ => rfl)) (ge_var 1))))
theorem ok__law_is_walk (Φ : Facts K mg) : FnG P w K mg base 1 "_law_is_walk" ["net", "begin", "end", "walk"] 4 F__law_is_walk := fn_g Φ.D__law_is_walk sc__law_is_walk rfl fun f cdv A outer s H E hr tk po => by
  unfold S__law_is_walk
  exact (gs_cons (gs_set (i := 4) sc__law_is_walk.nd rfl (by first | exact .inl rfl | exact .inr rfl) (ge_var 1))
  (gs_cons (gs_for po rfl (gi_seq (ge_var 3)) (gg_name (i := 5) sc__law_is_walk.nd rfl (by first | exact .inl rfl | exact .inr rfl)) (gs_tidy [5] (gs_cons (gs_if (gw_or (gt_not (gt_chain op_le (p2_cmp _) op_lt (p2_cmp _) ge_int (ge_var 5) (ge_callB cLenD pl_lenD (by rfl) Φ.z_len bb_len (ga_cons (ge_ix (ix_all (room1 hr)) p2_ixD (ge_var 0) ge_int (fun _ _ => rfl)) ga_nil)) (by rfl))) (gw_or1 (gt_cmp (op_neD hr.units) p2_ne (ge_ix (ix_all (room1 hr)) p2_ixD (ge_ix (ix_all (room1 hr)) p2_ixD (ge_ix (ix_all (room1 hr)) p2_ixD (ge_var 0) ge_int (fun _ _ => rfl)) (ge_var 5) (fun _ _ => rfl)) ge_int (fun _ _ => rfl)) (ge_var 4) (by rfl)))).pt (gs_one (gs_ret ge_bl)) gs_nil)
  (gs_one (gs_set (i := 4) sc__law_is_walk.nd rfl (by first | exact .inl rfl | exact .inr rfl) (ge_ix (ix_all (room1 hr)) p2_ixD (ge_ix (ix_all (room1 hr)) p2_ixD (ge_ix (ix_all (room1 hr)) p2_ixD (ge_var 0) ge_int (fun _ _ => rfl)) (ge_var 5) (fun _ _ => rfl)) ge_int (fun _ _ => rfl)))))))
  (gs_one (gs_ret (ge_cmp (op_eqD hr.units) p2_eq (ge_var 4) (ge_var 2) (by rfl))))))
theorem ok__law_sum (Φ : Facts K mg) : FnG P w K mg base 1 "_law_sum" ["net", "walk", "place"] 3 F__law_sum := fn_g Φ.D__law_sum sc__law_sum rfl fun f cdv A outer s H E hr tk po => by
  unfold S__law_sum
  exact (gs_one (gs_ret (ge_callB (cr_sum rfl) pl_sum (by rfl) Φ.z_sum bb_sum (ga_cons (ge_lc (m := false) (own := [("number", 3)]) rfl sc__law_sum.nd (gi_seq (ge_var 1)) (blkOk_by (by rfl)) (fun s H C cl fp => (go_name (i := 3) (by decide) sc__law_sum.nd rfl (by first | exact .inl rfl | exact .inr rfl))) (fun s H C cl fp => gts_nil) (fun s H C cl fp => (ge_ix (ix_all (room1 hr)) p2_ixD (ge_ix (ix_all (room1 hr)) p2_ixD (ge_ix (ix_all (room1 hr)) p2_ixD (ge_var 0) ge_int (fun _ _ => rfl)) (ge_var 3) (fun _ _ => rfl)) (ge_var 2) (fun _ _ => rfl)))) ga_nil))))
theorem ok__law_is_v09 (Φ : Facts K mg) : FnG P w K mg base 1 "_law_is" ["said", "due"] 2 F__law_is_v09 := fn_g Φ.D__law_is_v09 sc__law_is_v09 rfl fun f cdv A outer s H E hr tk po => by
  unfold S__law_is_v09
  exact (gs_one (gs_ret (ge_cmp (op_eqD hr.units) p2_eq (ge_callB (call_repr hr.free (room70 hr)) pl_repr (by rfl) Φ.z_repr bb_repr (ga_cons (ge_var 0) ga_nil)) (ge_callB (call_repr hr.free (room70 hr)) pl_repr (by rfl) Φ.z_repr bb_repr (ga_cons (ge_var 1) ga_nil)) (by rfl))))
theorem okT__law_said (Φ : Facts K mg) : FnT P w K mg base 0 "_law_said" F__law_said := fn_t (sv := S__law_said) Φ.D__law_said sc__law_said rfl (by first | exact Or.inl rfl | exact Or.inr (Or.inl rfl) | exact Or.inr (Or.inr rfl)) (fun G cdv A outer s H E f c q env τ θ hr act tk po => by
  unfold S__law_said
  exact (gsp_one (gsp_tryA (Φ.xt.sub (by decide)) rfl rfl tk (fun W pn xe tk2 po2 => (gsp_one (act_ret act tk2))) (.plain (c := 12) (by rfl) (Φ.x_NoNet.cls) (by rfl) (by decide) (snx_ret enx_c) (fun a oe pn => (gs_one (gs_ret ge_str))) (.plain (c := 13) (by rfl) (Φ.x_NoNode.cls) (by rfl) (by decide) (snx_ret enx_c) (fun a oe pn => (gs_one (gs_ret ge_str))) (.plain (c := 38) (by rfl) (Φ.x_NoWinding.cls) (by rfl) (by decide) (snx_ret enx_c) (fun a oe pn => (gs_one (gs_ret ge_str))) (.bound (c := 41) (i := 1) (by rfl) (Φ.xa_TooMany.cls) (by rfl) (by decide) sc__law_said.nd rfl rfl (aRet2_nx (.str "TooMany") "most") (fun a oe cls d pn hz hd => as_ret2 (cv := .str "TooMany") pe_str (fun _ _ => .str _) (i := 1) (c := 41) (by decide) Φ.xf_TooMany hz hd rfl (by first | exact Or.inl rfl | exact Or.inr (Or.inl rfl) | exact Or.inr (Or.inr rfl))) .nil)))))))
theorem ok__law_ring (Φ : Facts K mg) : FnG P w K mg base 4 "_law_ring" ["hand", "net", "begin"] 3 F__law_ring := fn_g Φ.D__law_ring sc__law_ring rfl fun f cdv A outer s H E hr tk po => by
  unfold S__law_ring
  exact (gs_cons (gs_par3 (i := 3) (j := 4) (k := 5) rfl sc__law_ring.nd rfl rfl rfl (by decide) (by decide) (by decide) rfl rfl rfl (ge_fn ((ok__law_walk B Φ).mono (by decide)) hr tk (by rfl) (ga_cons (ge_var 0) (ga_cons (ge_var 1) (ga_cons (ge_var 2) (ga_cons ge_int ga_nil)))) (al1 (al1 (al1 (al1 al0))))) (ge_var 2) (ge_tup ga_nil) rfl)
  (gs_cons (gs_for po rfl (gi_en (by rfl) Φ.z_enumerate (ga_cons (ge_var 3) ga_nil)) (GQ.gg (gq_tup (W := W0) (gl1 (gl1 gl0)) (nx1 nxN (nx1 nxN nx0)) rfl (ggs_cons (gq_name (i := 6) sc__law_ring.nd rfl (by first | exact .inl rfl | exact .inr rfl)) (ggs_cons (gq_name (i := 7) sc__law_ring.nd rfl (by first | exact .inl rfl | exact .inr rfl)) ggs_nil))) (nxT (nx1 nxN (nx1 nxN nx0)))) (gs_tidy [4, 6, 7] (gs_cons (gs_set (i := 4) sc__law_ring.nd rfl (by first | exact .inl rfl | exact .inr rfl) (ge_ix (ix_all (room1 hr)) p2_ixD (ge_ix (ix_all (room1 hr)) p2_ixD (ge_ix (ix_all (room1 hr)) p2_ixD (ge_var 1) ge_int (fun _ _ => rfl)) (ge_var 7) (fun _ _ => rfl)) ge_int (fun _ _ => rfl)))
  (gs_one (gs_if (gt_cmp (op_eqD hr.units) p2_eq (ge_var 4) (ge_var 2) (by rfl)) (gs_one (gs_set (i := 5) sc__law_ring.nd rfl (by first | exact .inl rfl | exact .inr rfl) (ge_sl false (ge_var 3) go_none (go_some (ge_op opAdd (p2_add false) (ge_var 6) ge_int))))) gs_nil)))))
  (gs_one (gs_ret (ge_var 5)))))
theorem ok__law_winding (Φ : Facts K mg) : FnG P w K mg base 5 "_law_winding" ["hand", "net", "begin"] 3 F__law_winding := fn_g Φ.D__law_winding sc__law_winding rfl fun f cdv A outer s H E hr tk po => by
  unfold S__law_winding
  exact (gs_cons (gs_set (i := 3) sc__law_winding.nd rfl (by first | exact .inl rfl | exact .inr rfl) (ge_fn ((ok__law_walk B Φ).mono (by decide)) hr tk (by rfl) (ga_cons (ge_var 0) (ga_cons (ge_var 1) (ga_cons (ge_var 2) (ga_cons ge_int ga_nil)))) (al1 (al1 (al1 (al1 al0))))))
  (gs_cons (gs_set (i := 4) sc__law_winding.nd rfl (by first | exact .inl rfl | exact .inr rfl) (ge_fn ((ok__law_end B Φ).mono (by decide)) hr tk (by rfl) (ga_cons (ge_var 1) (ga_cons (ge_var 2) (ga_cons (ge_var 3) ga_nil))) (al1 (al1 (al1 al0)))))
  (gs_cons (gs_set (i := 5) sc__law_winding.nd rfl (by first | exact .inl rfl | exact .inr rfl) (ge_fn ((ok__law_ring B Φ).mono (by decide)) hr tk (by rfl) (ga_cons (ge_var 0) (ga_cons (ge_var 1) (ga_cons (ge_var 4) ga_nil))) (al1 (al1 (al1 al0)))))
  (gs_cons (gs_set (i := 6) sc__law_winding.nd rfl (by first | exact .inl rfl | exact .inr rfl) (ge_fn ((ok__law_some B Φ).mono (by decide)) hr tk (by rfl) (ga_cons (ge_var 0) (ga_cons (ge_lst false (ga_cons ge_int (ga_cons ge_int (ga_cons ge_int (ga_cons (ge_fn ((ok__law_draw_v09 B Φ).mono (by decide)) hr tk (by rfl) (ga_cons (ge_var 0) (ga_cons ge_int ga_nil)) (al1 (al1 al0))) (ga_cons (ge_op opAdd (p2_add false) (ge_op op_pow p2_pow ge_int ge_int) (ge_fn ((ok__law_draw_v09 B Φ).mono (by decide)) hr tk (by rfl) (ga_cons (ge_var 0) (ga_cons (ge_op op_pow p2_pow ge_int ge_int) ga_nil)) (al1 (al1 al0)))) ga_nil)))))) ga_nil)) (al1 (al1 al0))))
  (gs_one (gs_ret (ge_tup (ga_cons (ge_var 3) (ga_cons (ge_var 5) (ga_cons (ge_if (gt_cmp op_gt (p2_cmp _) (ge_callB cLenD pl_lenD (by rfl) Φ.z_len bb_len (ga_cons (ge_var 5) ga_nil)) ge_int (by rfl)) (ge_var 6) ge_int) (ga_cons (ge_fn ((ok__law_walk B Φ).mono (by decide)) hr tk (by rfl) (ga_cons (ge_var 0) (ga_cons (ge_var 1) (ga_cons (ge_var 4) (ga_cons ge_int ga_nil)))) (al1 (al1 (al1 (al1 al0))))) ga_nil)))))))))))
theorem ok__law_leads (Φ : Facts K mg) : FnG P w K mg base 1 "_law_leads" ["net", "begin", "walk"] 3 F__law_leads := fn_g Φ.D__law_leads sc__law_leads rfl fun f cdv A outer s H E hr tk po => by
  unfold S__law_leads
  exact (gs_cons (gs_set (i := 3) sc__law_leads.nd rfl (by first | exact .inl rfl | exact .inr rfl) (ge_var 1))
  (gs_cons (gs_for po rfl (gi_seq (ge_var 2)) (gg_name (i := 4) sc__law_leads.nd rfl (by first | exact .inl rfl | exact .inr rfl)) (gs_tidy [4] (gs_cons (gs_if (gw_or (gt_not (gt_chain op_le (p2_cmp _) op_lt (p2_cmp _) ge_int (ge_var 4) (ge_callB cLenD pl_lenD (by rfl) Φ.z_len bb_len (ga_cons (ge_ix (ix_all (room1 hr)) p2_ixD (ge_var 0) ge_int (fun _ _ => rfl)) ga_nil)) (by rfl))) (gw_or1 (gt_cmp (op_neD hr.units) p2_ne (ge_ix (ix_all (room1 hr)) p2_ixD (ge_ix (ix_all (room1 hr)) p2_ixD (ge_ix (ix_all (room1 hr)) p2_ixD (ge_var 0) ge_int (fun _ _ => rfl)) (ge_var 4) (fun _ _ => rfl)) ge_int (fun _ _ => rfl)) (ge_var 3) (by rfl)))).pt (gs_one (gs_ret ge_bl)) gs_nil)
  (gs_one (gs_set (i := 3) sc__law_leads.nd rfl (by first | exact .inl rfl | exact .inr rfl) (ge_ix (ix_all (room1 hr)) p2_ixD (ge_ix (ix_all (room1 hr)) p2_ixD (ge_ix (ix_all (room1 hr)) p2_ixD (ge_var 0) ge_int (fun _ _ => rfl)) (ge_var 4) (fun _ _ => rfl)) ge_int (fun _ _ => rfl)))))))
  (gs_one (gs_ret ge_bl))))
theorem ok__law_is_winding (Φ : Facts K mg) : FnG P w K mg base 2 "_law_is_winding" ["net", "begin", "end", "winding"] 4 F__law_is_winding := fn_g Φ.D__law_is_winding sc__law_is_winding rfl fun f cdv A outer s H E hr tk po => by
  unfold S__law_is_winding
  exact (gs_cons (gs_asg (ge_var 3) (GQ.gg (gq_tup (W := W0) (gl1 (gl1 (gl1 (gl1 gl0)))) (nx1 nxN (nx1 nxN (nx1 nxN (nx1 nxN nx0)))) rfl (ggs_cons (gq_name (i := 4) sc__law_is_winding.nd rfl (by first | exact .inl rfl | exact .inr rfl)) (ggs_cons (gq_name (i := 5) sc__law_is_winding.nd rfl (by first | exact .inl rfl | exact .inr rfl)) (ggs_cons (gq_name (i := 6) sc__law_is_winding.nd rfl (by first | exact .inl rfl | exact .inr rfl)) (ggs_cons (gq_name (i := 7) sc__law_is_winding.nd rfl (by first | exact .inl rfl | exact .inr rfl)) ggs_nil))))) (nxT (nx1 nxN (nx1 nxN (nx1 nxN (nx1 nxN nx0)))))))
  (gs_cons (gs_set (i := 8) sc__law_is_winding.nd rfl (by first | exact .inl rfl | exact .inr rfl) (ge_if (gt_val (ge_fn ((ok__law_leads B Φ).mono (by decide)) hr tk (by rfl) (ga_cons (ge_var 0) (ga_cons (ge_var 1) (ga_cons (ge_var 4) ga_nil))) (al1 (al1 (al1 al0))))) (ge_fn ((ok__law_end B Φ).mono (by decide)) hr tk (by rfl) (ga_cons (ge_var 0) (ga_cons (ge_var 1) (ga_cons (ge_var 4) ga_nil))) (al1 (al1 (al1 al0)))) ge_non))
  (gs_cons (gs_if (gw_or (gt_cmp op_isN p2_isN (ge_var 8) ge_non (by rfl)) (gw_or (gt_not (gt_val (ge_fn ((ok__law_is_walk B Φ).mono (by decide)) hr tk (by rfl) (ga_cons (ge_var 0) (ga_cons (ge_var 8) (ga_cons (ge_var 8) (ga_cons (ge_var 5) ga_nil)))) (al1 (al1 (al1 (al1 al0))))))) (gw_or1 (gw_and (gt_cmp op_gt (p2_cmp _) (ge_var 6) ge_int (by rfl)) (gw_and1 (gt_cmp (op_eqD hr.units) p2_eq (ge_callB cLenD pl_lenD (by rfl) Φ.z_len bb_len (ga_cons (ge_var 5) ga_nil)) ge_int (by rfl)))).pt))).pt (gs_one (gs_ret ge_bl)) gs_nil)
  (gs_one (gs_ret (ge_fn ((ok__law_is_walk B Φ).mono (by decide)) hr tk (by rfl) (ga_cons (ge_var 0) (ga_cons (ge_var 8) (ga_cons (ge_var 2) (ga_cons (ge_var 7) ga_nil)))) (al1 (al1 (al1 (al1 al0))))))))))
theorem ok__law_bent (Φ : Facts K mg) : FnG P w K mg base 2 "_law_bent" ["hand", "net", "winding"] 3 F__law_bent := fn_g Φ.D__law_bent sc__law_bent rfl fun f cdv A outer s H E hr tk po => by
  unfold S__law_bent
  exact (gs_cons (gs_asg (ge_var 2) (GQ.gg (gq_tup (W := W0) (gl1 (gl1 (gl1 (gl1 gl0)))) (nx1 nxN (nx1 nxN (nx1 nxN (nx1 nxN nx0)))) rfl (ggs_cons (gq_name (i := 3) sc__law_bent.nd rfl (by first | exact .inl rfl | exact .inr rfl)) (ggs_cons (gq_name (i := 4) sc__law_bent.nd rfl (by first | exact .inl rfl | exact .inr rfl)) (ggs_cons (gq_name (i := 5) sc__law_bent.nd rfl (by first | exact .inl rfl | exact .inr rfl)) (ggs_cons (gq_name (i := 6) sc__law_bent.nd rfl (by first | exact .inl rfl | exact .inr rfl)) ggs_nil))))) (nxT (nx1 nxN (nx1 nxN (nx1 nxN (nx1 nxN nx0)))))))
  (gs_cons (gs_par (i := 7) (j := 8) rfl sc__law_bent.nd rfl rfl (by decide) rfl rfl (ge_fn ((ok__law_draw_v09 B Φ).mono (by decide)) hr tk (by rfl) (ga_cons (ge_var 0) (ga_cons (ge_op opAdd (p2_add false) (ge_callB cLenD pl_lenD (by rfl) Φ.z_len bb_len (ga_cons (ge_ix (ix_all (room1 hr)) p2_ixD (ge_var 1) ge_int (fun _ _ => rfl)) ga_nil)) ge_int) ga_nil)) (al1 (al1 al0))) (ge_fn ((ok__law_draw_v09 B Φ).mono (by decide)) hr tk (by rfl) (ga_cons (ge_var 0) (ga_cons ge_int ga_nil)) (al1 (al1 al0))) rfl)
  (gs_cons (gs_if (gt_cmp (op_eqD hr.units) p2_eq (ge_var 8) ge_int (by rfl)) (gs_one (gs_ret (ge_tup (ga_cons (ge_op opAdd (p2_add false) (ge_var 3) (ge_tup (ga_cons (ge_var 7) ga_nil))) (ga_cons (ge_var 4) (ga_cons (ge_var 5) (ga_cons (ge_var 6) ga_nil))))))) gs_nil)
  (gs_cons (gs_if (gt_cmp (op_eqD hr.units) p2_eq (ge_var 8) ge_int (by rfl)) (gs_one (gs_ret (ge_tup (ga_cons (ge_var 3) (ga_cons (ge_op opAdd (p2_add false) (ge_var 4) (ge_tup (ga_cons (ge_var 7) ga_nil))) (ga_cons (ge_var 5) (ga_cons (ge_var 6) ga_nil))))))) gs_nil)
  (gs_cons (gs_if (gt_cmp (op_eqD hr.units) p2_eq (ge_var 8) ge_int (by rfl)) (gs_one (gs_ret (ge_tup (ga_cons (ge_var 3) (ga_cons (ge_tup ga_nil) (ga_cons (ge_var 5) (ga_cons (ge_var 6) ga_nil))))))) gs_nil)
  (gs_cons (gs_if (gt_cmp (op_eqD hr.units) p2_eq (ge_var 8) ge_int (by rfl)) (gs_one (gs_ret (ge_tup (ga_cons (ge_var 3) (ga_cons (ge_var 4) (ga_cons (ge_var 5) (ga_cons (ge_op opAdd (p2_add false) (ge_tup (ga_cons (ge_var 7) ga_nil)) (ge_var 6)) ga_nil))))))) gs_nil)
  (gs_one (gs_ret (ge_tup (ga_cons (ge_sl false (ge_var 3) (go_some ge_int) go_none) (ga_cons (ge_var 4) (ga_cons (ge_var 5) (ga_cons (ge_var 6) ga_nil)))))))))))))
theorem ok__law_are_refused (Φ : Facts K mg) : FnG P w K mg base 11 "_law_are_refused" ["hand", "net", "begin", "winding"] 4 F__law_are_refused := fn_gL Φ.D__law_are_refused Φ.L__law_are_refused B sc__law_are_refused rfl (fun f cdv A outer s H E c T hc Λ hr tk po => by
  unfold S__law_are_refused
  exact (gs_cons (gs_asg (ge_var 3) (GQ.gg (gq_tup (W := W0) (gl1 (gl1 (gl1 (gl1 gl0)))) (nx1 nxN (nx1 nxN (nx1 nxN (nx1 nxN nx0)))) rfl (ggs_cons (gq_name (i := 4) sc__law_are_refused.nd rfl (by first | exact .inl rfl | exact .inr rfl)) (ggs_cons (gq_name (i := 5) sc__law_are_refused.nd rfl (by first | exact .inl rfl | exact .inr rfl)) (ggs_cons (gq_name (i := 6) sc__law_are_refused.nd rfl (by first | exact .inl rfl | exact .inr rfl)) (ggs_cons (gq_name (i := 7) sc__law_are_refused.nd rfl (by first | exact .inl rfl | exact .inr rfl)) ggs_nil))))) (nxT (nx1 nxN (nx1 nxN (nx1 nxN (nx1 nxN nx0)))))))
  (gs_cons (gs_asg (ge_tup (ga_cons (ge_fn ((ok__law_bad_net B Φ).mono (by decide)) hr tk (by rfl) (ga_cons (ge_var 0) ga_nil) (al1 al0)) (ga_cons (ge_fn ((ok__law_bad_node B Φ).mono (by decide)) hr tk (by rfl) (ga_cons (ge_var 0) (ga_cons (ge_var 1) ga_nil)) (al1 (al1 al0))) ga_nil))) (GQ.gg (gq_tup (W := W0) (gl1 (gl1 gl0)) (nx1 nxN (nx1 nxN nx0)) rfl (ggs_cons (gq_name (i := 8) sc__law_are_refused.nd rfl (by first | exact .inl rfl | exact .inr rfl)) (ggs_cons (gq_name (i := 9) sc__law_are_refused.nd rfl (by first | exact .inl rfl | exact .inr rfl)) ggs_nil))) (nxT (nx1 nxN (nx1 nxN nx0)))))
  (gs_cons (gs_set (i := 10) sc__law_are_refused.nd rfl (by first | exact .inl rfl | exact .inr rfl) (ge_lst false (ga_cons ge_non (ga_cons (ge_callT call_list_of (pl_list false) (by rfl) Φ.z_list bb_list (ga_cons (ge_var 3) ga_nil)) (ga_cons (ge_sl false (ge_var 3) go_none (go_some ge_int)) (ga_cons (ge_op opAdd (p2_add false) (ge_var 3) (ge_tup (ga_cons ge_int ga_nil))) (ga_cons (ge_tup (ga_cons (ge_var 4) (ga_cons (ge_var 5) (ga_cons (ge_un un_neg p1_neg ge_int) (ga_cons (ge_var 7) ga_nil))))) (ga_cons (ge_tup (ga_cons (ge_var 4) (ga_cons (ge_var 5) (ga_cons ge_bl (ga_cons (ge_var 7) ga_nil))))) ga_nil))))))))
  (gs_cons (gs_set (i := 10) sc__law_are_refused.nd rfl (by first | exact .inl rfl | exact .inr rfl) (ge_op opAdd (p2_add false) (ge_var 10) (ge_lst false (ga_cons (ge_tup (ga_cons (ge_callT call_list_of (pl_list false) (by rfl) Φ.z_list bb_list (ga_cons (ge_var 4) ga_nil)) (ga_cons (ge_var 5) (ga_cons (ge_var 6) (ga_cons (ge_var 7) ga_nil))))) (ga_cons (ge_tup (ga_cons (ge_var 4) (ga_cons (ge_var 5) (ga_cons ge_non (ga_cons (ge_var 7) ga_nil))))) (ga_cons (ge_tup (ga_cons (ge_var 4) (ga_cons (ge_tup ga_nil) (ga_cons ge_int (ga_cons (ge_var 7) ga_nil))))) (ga_cons ge_str ga_nil)))))))
  (gs_cons (gs_set (i := 11) sc__law_are_refused.nd rfl (by first | exact .inl rfl | exact .inr rfl) (ge_fn ((ok__law_some B Φ).mono (by decide)) hr tk (by rfl) (ga_cons (ge_var 0) (ga_cons (ge_op opAdd (p2_add false) (ge_var 10) (ge_lst false (ga_cons (ge_tup (ga_cons (ge_var 4) (ga_cons (ge_var 5) (ga_cons (ge_var 6) (ga_cons (ge_op opAdd (p2_add false) (ge_var 7) (ge_tup (ga_cons (ge_un un_neg p1_neg ge_int) ga_nil))) ga_nil))))) (ga_cons (ge_tup (ga_cons (ge_var 4) (ga_cons ge_non (ga_cons ge_int (ga_cons (ge_var 7) ga_nil))))) ga_nil)))) ga_nil)) (al1 (al1 al0))))
  (gs_cons (gs_set (i := 12) sc__law_are_refused.nd rfl (by first | exact .inl rfl | exact .inr rfl) (ge_lst true (ga_cons (ge_lam (k := 8) (okT__law_said B Φ) Λ hc (hr.mono (by decide)) (by decide) tk (by rfl) (LamX.lamS_by (by show LamX.lamSB (defScope s__law_are_refused) _ = true; decide +kernel)) rfl (fun _ _ _ _ _ => rfl) (fun A outer s H E f c hrl tkl => (ge_fn ((ok_winding_length B Φ).mono (by decide)) hrl tkl (by rfl) (ga_cons (ge_var 8) (ga_cons (ge_var 9) (ga_cons (ge_var 11) ga_nil))) (al1 (al1 (al1 al0)))))) ga_nil)))
  (gs_cons (gs_expr (ge_bm PySem.F.plainAttrs_list PySem.F.slot_list_append PySem.F.type_list_append mt_append pm_app tyL (ge_var 12) (ga_cons (ge_lam (k := 8) (okT__law_said B Φ) Λ hc (hr.mono (by decide)) (by decide) tk (by rfl) (LamX.lamS_by (by show LamX.lamSB (defScope s__law_are_refused) _ = true; decide +kernel)) rfl (fun _ _ _ _ _ => rfl) (fun A outer s H E f c hrl tkl => (ge_fn ((ok_winding_cost B Φ).mono (by decide)) hrl tkl (by rfl) (ga_cons (ge_var 1) (ga_cons (ge_var 9) (ga_cons (ge_var 11) ga_nil))) (al1 (al1 (al1 al0)))))) ga_nil)))
  (gs_cons (gs_expr (ge_bm PySem.F.plainAttrs_list PySem.F.slot_list_append PySem.F.type_list_append mt_append pm_app tyL (ge_var 12) (ga_cons (ge_lam (k := 8) (okT__law_said B Φ) Λ hc (hr.mono (by decide)) (by decide) tk (by rfl) (LamX.lamS_by (by show LamX.lamSB (defScope s__law_are_refused) _ = true; decide +kernel)) rfl (fun _ _ _ _ _ => rfl) (fun A outer s H E f c hrl tkl => (ge_fn ((ok_winding_length B Φ).mono (by decide)) hrl tkl (by rfl) (ga_cons (ge_var 1) (ga_cons (ge_var 2) (ga_cons (ge_var 11) ga_nil))) (al1 (al1 (al1 al0)))))) ga_nil)))
  (gs_cons (gs_expr (ge_bm PySem.F.plainAttrs_list PySem.F.slot_list_append PySem.F.type_list_append mt_append pm_app tyL (ge_var 12) (ga_cons (ge_lam (k := 8) (okT__law_said B Φ) Λ hc (hr.mono (by decide)) (by decide) tk (by rfl) (LamX.lamS_by (by show LamX.lamSB (defScope s__law_are_refused) _ = true; decide +kernel)) rfl (fun _ _ _ _ _ => rfl) (fun A outer s H E f c hrl tkl => (ge_fn ((ok_winding_cost B Φ).mono (by decide)) hrl tkl (by rfl) (ga_cons (ge_var 1) (ga_cons (ge_var 2) (ga_cons (ge_var 11) ga_nil))) (al1 (al1 (al1 al0)))))) ga_nil)))
  (gs_cons (gs_expr (ge_bm PySem.F.plainAttrs_list PySem.F.slot_list_append PySem.F.type_list_append mt_append pm_app tyL (ge_var 12) (ga_cons (ge_lam (k := 8) (okT__law_said B Φ) Λ hc (hr.mono (by decide)) (by decide) tk (by rfl) (LamX.lamS_by (by show LamX.lamSB (defScope s__law_are_refused) _ = true; decide +kernel)) rfl (fun _ _ _ _ _ => rfl) (fun A outer s H E f c hrl tkl => (ge_fn ((ok_unwound B Φ).mono (by decide)) hrl tkl (by rfl) (ga_cons (ge_var 1) (ga_cons (ge_var 2) (ga_cons (ge_var 11) ga_nil))) (al1 (al1 (al1 al0)))))) ga_nil)))
  (gs_cons (gs_expr (ge_bm PySem.F.plainAttrs_list PySem.F.slot_list_append PySem.F.type_list_append mt_append pm_app tyL (ge_var 12) (ga_cons (ge_lam (k := 8) (okT__law_said B Φ) Λ hc (hr.mono (by decide)) (by decide) tk (by rfl) (LamX.lamS_by (by show LamX.lamSB (defScope s__law_are_refused) _ = true; decide +kernel)) rfl (fun _ _ _ _ _ => rfl) (fun A outer s H E f c hrl tkl => (ge_fn ((ok_is_winding B Φ).mono (by decide)) hrl tkl (by rfl) (ga_cons (ge_var 1) (ga_cons (ge_var 2) (ga_cons ge_int (ga_cons (ge_var 11) ga_nil)))) (al1 (al1 (al1 (al1 al0))))))) ga_nil)))
  (gs_cons (gs_expr (ge_bm PySem.F.plainAttrs_list PySem.F.slot_list_append PySem.F.type_list_append mt_append pm_app tyL (ge_var 12) (ga_cons (ge_lam (k := 8) (okT__law_said B Φ) Λ hc (hr.mono (by decide)) (by decide) tk (by rfl) (LamX.lamS_by (by show LamX.lamSB (defScope s__law_are_refused) _ = true; decide +kernel)) rfl (fun _ _ _ _ _ => rfl) (fun A outer s H E f c hrl tkl => (ge_fn ((ok_is_winding B Φ).mono (by decide)) hrl tkl (by rfl) (ga_cons (ge_var 1) (ga_cons (ge_var 9) (ga_cons ge_int (ga_cons (ge_var 3) ga_nil)))) (al1 (al1 (al1 (al1 al0))))))) ga_nil)))
  (gs_one (gs_ret (ge_cmp (op_eqD hr.units) p2_eq (ge_var 12) (ge_lst false (ga_cons ge_str (ga_cons ge_str (ga_cons ge_str (ga_cons ge_str (ga_cons ge_str (ga_cons ge_bl (ga_cons ge_str ga_nil)))))))) (by rfl)))))))))))))))))
theorem ok__law_is_unwound_right (Φ : Facts K mg) : FnG P w K mg base 11 "_law_is_unwound_right" ["net", "begin", "end", "winding"] 4 F__law_is_unwound_right := fn_gL Φ.D__law_is_unwound_right Φ.L__law_is_unwound_right B sc__law_is_unwound_right rfl (fun f cdv A outer s H E c T hc Λ hr tk po => by
  unfold S__law_is_unwound_right
  exact (gs_cons (gs_asg (ge_var 3) (GQ.gg (gq_tup (W := W0) (gl1 (gl1 (gl1 (gl1 gl0)))) (nx1 nxN (nx1 nxN (nx1 nxN (nx1 nxN nx0)))) rfl (ggs_cons (gq_name (i := 4) sc__law_is_unwound_right.nd rfl (by first | exact .inl rfl | exact .inr rfl)) (ggs_cons (gq_name (i := 5) sc__law_is_unwound_right.nd rfl (by first | exact .inl rfl | exact .inr rfl)) (ggs_cons (gq_name (i := 6) sc__law_is_unwound_right.nd rfl (by first | exact .inl rfl | exact .inr rfl)) (ggs_cons (gq_name (i := 7) sc__law_is_unwound_right.nd rfl (by first | exact .inl rfl | exact .inr rfl)) ggs_nil))))) (nxT (nx1 nxN (nx1 nxN (nx1 nxN (nx1 nxN nx0)))))))
  (gs_cons (gs_set (i := 8) sc__law_is_unwound_right.nd rfl (by first | exact .inl rfl | exact .inr rfl) (ge_lam (k := 8) (okT__law_said B Φ) Λ hc (hr.mono (by decide)) (by decide) tk (by rfl) (LamX.lamS_by (by show LamX.lamSB (defScope s__law_is_unwound_right) _ = true; decide +kernel)) rfl (fun _ _ _ _ _ => rfl) (fun A outer s H E f c hrl tkl => (ge_fn ((ok_unwound B Φ).mono (by decide)) hrl tkl (by rfl) (ga_cons (ge_var 0) (ga_cons (ge_var 1) (ga_cons (ge_var 3) ga_nil))) (al1 (al1 (al1 al0)))))))
  (gs_cons (gs_if (gt_cmp op_gt (p2_cmp _) (ge_op opAdd (p2_add false) (ge_op opAdd (p2_add false) (ge_callB cLenD pl_lenD (by rfl) Φ.z_len bb_len (ga_cons (ge_var 4) ga_nil)) (ge_op opMul (p2_mul false) (ge_callB cLenD pl_lenD (by rfl) Φ.z_len bb_len (ga_cons (ge_var 5) ga_nil)) (ge_var 6))) (ge_callB cLenD pl_lenD (by rfl) Φ.z_len bb_len (ga_cons (ge_var 7) ga_nil))) ge_int (by rfl)) (gs_one (gs_ret (ge_cmp (op_eqD hr.units) p2_eq (ge_var 8) (ge_tup (ga_cons ge_str (ga_cons ge_int ga_nil))) (by rfl)))) gs_nil)
  (gs_cons (gs_if (gw_or (gt_not (gt_val (ge_fn ((ok__law_is_v09 B Φ).mono (by decide)) hr tk (by rfl) (ga_cons (ge_var 8) (ga_cons (ge_op opAdd (p2_add false) (ge_op opAdd (p2_add false) (ge_var 4) (ge_op opMulQ (p2_mulQ false) (ge_var 5) (ge_var 6))) (ge_var 7)) ga_nil)) (al1 (al1 al0))))) (gw_or1 (gt_cmp op_notBl p2_notB (ge_fn ((ok_is_walk B Φ).mono (by decide)) hr tk (by rfl) (ga_cons (ge_var 0) (ga_cons (ge_var 1) (ga_cons (ge_var 2) (ga_cons (ge_var 8) ga_nil)))) (al1 (al1 (al1 (al1 al0))))) ge_bl (by rfl)))).pt (gs_one (gs_ret ge_bl)) gs_nil)
  (gs_cons (gs_par (i := 9) (j := 10) rfl sc__law_is_unwound_right.nd rfl rfl (by decide) rfl rfl (ge_fn ((ok_winding_length B Φ).mono (by decide)) hr tk (by rfl) (ga_cons (ge_var 0) (ga_cons (ge_var 1) (ga_cons (ge_var 3) ga_nil))) (al1 (al1 (al1 al0)))) (ge_fn ((ok_winding_cost B Φ).mono (by decide)) hr tk (by rfl) (ga_cons (ge_var 0) (ga_cons (ge_var 1) (ga_cons (ge_var 3) ga_nil))) (al1 (al1 (al1 al0)))) rfl)
  (gs_cons (gs_if (gw_or (gt_cmp (op_neD hr.units) p2_ne (ge_fn ((ok_length_of B Φ).mono (by decide)) hr tk (by rfl) (ga_cons (ge_var 0) (ga_cons (ge_var 1) (ga_cons (ge_var 8) ga_nil))) (al1 (al1 (al1 al0)))) (ge_var 9) (by rfl)) (gw_or1 (gt_cmp (op_neD hr.units) p2_ne (ge_fn ((ok_cost_of B Φ).mono (by decide)) hr tk (by rfl) (ga_cons (ge_var 0) (ga_cons (ge_var 1) (ga_cons (ge_var 8) ga_nil))) (al1 (al1 (al1 al0)))) (ge_var 10) (by rfl)))).pt (gs_one (gs_ret ge_bl)) gs_nil)
  (gs_one (gs_ret (ge_or (ge_cmp op_gt (p2_cmp _) (ge_var 9) ge_int (by rfl)) (ge_one (ge_cmp op_le (p2_cmp _) (ge_fn ((ok_least_cost B Φ).mono (by decide)) hr tk (by rfl) (ga_cons (ge_var 0) (ga_cons (ge_var 1) (ga_cons (ge_var 2) (ga_cons (ge_var 9) ga_nil)))) (al1 (al1 (al1 (al1 al0))))) (ge_var 10) (by rfl)))))))))))))
theorem ok__law_is_right (Φ : Facts K mg) : FnG P w K mg base 12 "_law_is_right" ["hand"] 1 F__law_is_right := fn_g Φ.D__law_is_right sc__law_is_right rfl fun f cdv A outer s H E hr tk po => by
  unfold S__law_is_right
  exact (gs_cons (gs_set (i := 1) sc__law_is_right.nd rfl (by first | exact .inl rfl | exact .inr rfl) (ge_fn ((ok__law_net B Φ).mono (by decide)) hr tk (by rfl) (ga_cons (ge_var 0) ga_nil) (al1 al0)))
  (gs_cons (gs_set (i := 2) sc__law_is_right.nd rfl (by first | exact .inl rfl | exact .inr rfl) (ge_fn ((ok__law_draw_v09 B Φ).mono (by decide)) hr tk (by rfl) (ga_cons (ge_var 0) (ga_cons (ge_ix (ix_all (room1 hr)) p2_ixD (ge_var 1) ge_int (fun _ _ => rfl)) ga_nil)) (al1 (al1 al0))))
  (gs_cons (gs_set (i := 3) sc__law_is_right.nd rfl (by first | exact .inl rfl | exact .inr rfl) (ge_fn ((ok__law_winding B Φ).mono (by decide)) hr tk (by rfl) (ga_cons (ge_var 0) (ga_cons (ge_var 1) (ga_cons (ge_var 2) ga_nil))) (al1 (al1 (al1 al0)))))
  (gs_cons (gs_asg (ge_var 3) (GQ.gg (gq_tup (W := W0) (gl1 (gl1 (gl1 (gl1 gl0)))) (nx1 nxN (nx1 nxN (nx1 nxN (nx1 nxN nx0)))) rfl (ggs_cons (gq_name (i := 4) sc__law_is_right.nd rfl (by first | exact .inl rfl | exact .inr rfl)) (ggs_cons (gq_name (i := 5) sc__law_is_right.nd rfl (by first | exact .inl rfl | exact .inr rfl)) (ggs_cons (gq_name (i := 6) sc__law_is_right.nd rfl (by first | exact .inl rfl | exact .inr rfl)) (ggs_cons (gq_name (i := 7) sc__law_is_right.nd rfl (by first | exact .inl rfl | exact .inr rfl)) ggs_nil))))) (nxT (nx1 nxN (nx1 nxN (nx1 nxN (nx1 nxN nx0)))))))
  (gs_cons (gs_set (i := 8) sc__law_is_right.nd rfl (by first | exact .inl rfl | exact .inr rfl) (ge_fn ((ok__law_end B Φ).mono (by decide)) hr tk (by rfl) (ga_cons (ge_var 1) (ga_cons (ge_fn ((ok__law_end B Φ).mono (by decide)) hr tk (by rfl) (ga_cons (ge_var 1) (ga_cons (ge_var 2) (ga_cons (ge_var 4) ga_nil))) (al1 (al1 (al1 al0)))) (ga_cons (ge_var 7) ga_nil))) (al1 (al1 (al1 al0)))))
  (gs_cons (gs_set (i := 9) sc__law_is_right.nd rfl (by first | exact .inl rfl | exact .inr rfl) (ge_lst true ga_nil))
  (gs_cons (gs_for po rfl (gi_seq (ge_tup (ga_cons ge_int (ga_cons ge_int ga_nil)))) (gg_name (i := 10) sc__law_is_right.nd rfl (by first | exact .inl rfl | exact .inr rfl)) (gs_tidy [10] (gs_one (gs_expr (ge_bm PySem.F.plainAttrs_list PySem.F.slot_list_append PySem.F.type_list_append mt_append pm_app tyL (ge_var 9) (ga_cons (ge_op opAdd (p2_add false) (ge_op opAdd (p2_add false) (ge_fn ((ok__law_sum B Φ).mono (by decide)) hr tk (by rfl) (ga_cons (ge_var 1) (ga_cons (ge_var 4) (ga_cons (ge_var 10) ga_nil))) (al1 (al1 (al1 al0)))) (ge_op opMul (p2_mul false) (ge_var 6) (ge_fn ((ok__law_sum B Φ).mono (by decide)) hr tk (by rfl) (ga_cons (ge_var 1) (ga_cons (ge_var 5) (ga_cons (ge_var 10) ga_nil))) (al1 (al1 (al1 al0)))))) (ge_fn ((ok__law_sum B Φ).mono (by decide)) hr tk (by rfl) (ga_cons (ge_var 1) (ga_cons (ge_var 7) (ga_cons (ge_var 10) ga_nil))) (al1 (al1 (al1 al0))))) ga_nil))))))
  (gs_cons (gs_if (gw_or (gt_cmp op_notBl p2_notB (ge_fn ((ok_is_winding B Φ).mono (by decide)) hr tk (by rfl) (ga_cons (ge_var 1) (ga_cons (ge_var 2) (ga_cons (ge_var 8) (ga_cons (ge_var 3) ga_nil)))) (al1 (al1 (al1 (al1 al0))))) ge_bl (by rfl)) (gw_or1 (gt_not (gt_val (ge_fn ((ok__law_is_v09 B Φ).mono (by decide)) hr tk (by rfl) (ga_cons (ge_fn ((ok_winding_length B Φ).mono (by decide)) hr tk (by rfl) (ga_cons (ge_var 1) (ga_cons (ge_var 2) (ga_cons (ge_var 3) ga_nil))) (al1 (al1 (al1 al0)))) (ga_cons (ge_ix (ix_all (room1 hr)) p2_ixD (ge_var 9) ge_int (fun _ _ => rfl)) ga_nil)) (al1 (al1 al0))))))).pt (gs_one (gs_ret ge_bl)) gs_nil)
  (gs_cons (gs_if (gt_not (gt_val (ge_fn ((ok__law_is_v09 B Φ).mono (by decide)) hr tk (by rfl) (ga_cons (ge_fn ((ok_winding_cost B Φ).mono (by decide)) hr tk (by rfl) (ga_cons (ge_var 1) (ga_cons (ge_var 2) (ga_cons (ge_var 3) ga_nil))) (al1 (al1 (al1 al0)))) (ga_cons (ge_ix (ix_all (room1 hr)) p2_ixD (ge_var 9) ge_int (fun _ _ => rfl)) ga_nil)) (al1 (al1 al0))))) (gs_one (gs_ret ge_bl)) gs_nil)
  (gs_cons (gs_if (gt_cmp op_gt (p2_cmp _) (ge_callB cLenD pl_lenD (by rfl) Φ.z_len bb_len (ga_cons (ge_var 5) ga_nil)) ge_int (by rfl)) (gs_cons (gs_set (i := 11) sc__law_is_right.nd rfl (by first | exact .inl rfl | exact .inr rfl) (ge_tup (ga_cons (ge_var 4) (ga_cons (ge_var 5) (ga_cons (ge_op opAdd (p2_add false) (ge_var 6) ge_int) (ga_cons (ge_var 7) ga_nil))))))
  (gs_cons (gs_if (gt_cmp (op_neD hr.units) p2_ne (ge_fn ((ok_winding_length B Φ).mono (by decide)) hr tk (by rfl) (ga_cons (ge_var 1) (ga_cons (ge_var 2) (ga_cons (ge_var 11) ga_nil))) (al1 (al1 (al1 al0)))) (ge_op opAdd (p2_add false) (ge_ix (ix_all (room1 hr)) p2_ixD (ge_var 9) ge_int (fun _ _ => rfl)) (ge_fn ((ok__law_sum B Φ).mono (by decide)) hr tk (by rfl) (ga_cons (ge_var 1) (ga_cons (ge_var 5) (ga_cons ge_int ga_nil))) (al1 (al1 (al1 al0))))) (by rfl)) (gs_one (gs_ret ge_bl)) gs_nil)
  (gs_one (gs_if (gt_cmp (op_neD hr.units) p2_ne (ge_fn ((ok_winding_cost B Φ).mono (by decide)) hr tk (by rfl) (ga_cons (ge_var 1) (ga_cons (ge_var 2) (ga_cons (ge_var 11) ga_nil))) (al1 (al1 (al1 al0)))) (ge_op opAdd (p2_add false) (ge_ix (ix_all (room1 hr)) p2_ixD (ge_var 9) ge_int (fun _ _ => rfl)) (ge_fn ((ok__law_sum B Φ).mono (by decide)) hr tk (by rfl) (ga_cons (ge_var 1) (ga_cons (ge_var 5) (ga_cons ge_int ga_nil))) (al1 (al1 (al1 al0))))) (by rfl)) (gs_one (gs_ret ge_bl)) gs_nil)))) gs_nil)
  (gs_cons (gs_for po rfl (gi_range1 (by rfl) Φ.z_range (ga_cons ge_int ga_nil)) (gg_name (i := 12) sc__law_is_right.nd rfl (by first | exact .inl rfl | exact .inr rfl)) (gs_tidy [12, 13, 14] (gs_cons (gs_par (i := 13) (j := 14) rfl sc__law_is_right.nd rfl rfl (by decide) rfl rfl (ge_fn ((ok__law_bent B Φ).mono (by decide)) hr tk (by rfl) (ga_cons (ge_var 0) (ga_cons (ge_var 1) (ga_cons (ge_var 3) ga_nil))) (al1 (al1 (al1 al0)))) (ge_fn ((ok__law_draw_v09 B Φ).mono (by decide)) hr tk (by rfl) (ga_cons (ge_var 0) (ga_cons (ge_ix (ix_all (room1 hr)) p2_ixD (ge_var 1) ge_int (fun _ _ => rfl)) ga_nil)) (al1 (al1 al0))) rfl)
  (gs_one (gs_if (gt_not (gt_val (ge_fn ((ok__law_is_v09 B Φ).mono (by decide)) hr tk (by rfl) (ga_cons (ge_fn ((ok_is_winding B Φ).mono (by decide)) hr tk (by rfl) (ga_cons (ge_var 1) (ga_cons (ge_var 2) (ga_cons (ge_var 14) (ga_cons (ge_var 13) ga_nil)))) (al1 (al1 (al1 (al1 al0))))) (ga_cons (ge_fn ((ok__law_is_winding B Φ).mono (by decide)) hr tk (by rfl) (ga_cons (ge_var 1) (ga_cons (ge_var 2) (ga_cons (ge_var 14) (ga_cons (ge_var 13) ga_nil)))) (al1 (al1 (al1 (al1 al0))))) ga_nil)) (al1 (al1 al0))))) (gs_one (gs_ret ge_bl)) gs_nil)))))
  (gs_one (gs_ret (ge_and (ge_fn ((ok__law_is_unwound_right B Φ).mono (by decide)) hr tk (by rfl) (ga_cons (ge_var 1) (ga_cons (ge_var 2) (ga_cons (ge_var 8) (ga_cons (ge_var 3) ga_nil)))) (al1 (al1 (al1 (al1 al0))))) (ge_one (ge_fn ((ok__law_are_refused B Φ).mono (by decide)) hr tk (by rfl) (ga_cons (ge_var 0) (ga_cons (ge_var 1) (ga_cons (ge_var 2) (ga_cons (ge_var 3) ga_nil)))) (al1 (al1 (al1 (al1 al0))))))))))))))))))))
theorem ok_law_v09 (Φ : Facts K mg) : FnG P w K mg base 13 "law" ["script"] 1 F_law_v09 := fn_g Φ.D_law_v09 sc_law_v09 rfl fun f cdv A outer s H E hr tk po => by
  unfold S_law_v09
  exact (gs_cons (gs_set (i := 1) sc_law_v09.nd rfl (by first | exact .inl rfl | exact .inr rfl) (ge_fn ((ok__law_hand_v09 B Φ).mono (by decide)) hr tk (by rfl) (ga_cons (ge_var 0) ga_nil) (al1 al0)))
  (gs_cons (gs_for po rfl (gi_range1 (by rfl) Φ.z_range (ga_cons ge_int ga_nil)) (gg_name (i := 2) sc_law_v09.nd rfl (by first | exact .inl rfl | exact .inr rfl)) (gs_tidy [2] (gs_one (gs_if (gt_not (gt_val (ge_fn ((ok__law_is_right B Φ).mono (by decide)) hr tk (by rfl) (ga_cons (ge_var 1) ga_nil) (al1 al0)))) (gs_one (gs_ret ge_bl)) gs_nil))))
  (gs_cons (gs_set (i := 3) sc_law_v09.nd rfl (by first | exact .inl rfl | exact .inr rfl) (ge_tup (ga_cons ge_int (ga_cons (ge_tup (ga_cons (ge_tup (ga_cons ge_int (ga_cons ge_int (ga_cons ge_int (ga_cons ge_int ga_nil))))) (ga_cons (ge_tup (ga_cons ge_int (ga_cons ge_int (ga_cons ge_int (ga_cons ge_int ga_nil))))) ga_nil))) ga_nil))))
  (gs_one (gs_ret (ge_fn ((ok__law_is_v09 B Φ).mono (by decide)) hr tk (by rfl) (ga_cons (ge_fn ((ok_winding_cost B Φ).mono (by decide)) hr tk (by rfl) (ga_cons (ge_var 3) (ga_cons ge_int (ga_cons (ge_tup (ga_cons (ge_tup (ga_cons ge_int ga_nil)) (ga_cons (ge_tup (ga_cons ge_int (ga_cons ge_int ga_nil))) (ga_cons ge_int (ga_cons (ge_tup (ga_cons ge_int ga_nil)) ga_nil))))) ga_nil))) (al1 (al1 (al1 al0)))) (ga_cons ge_int ga_nil)) (al1 (al1 al0))))))))
end
omit [Tb] in
theorem law_at {q : Program} {K : PySem.W.Frag} {h : Heap} {w : World} {lo : List Str} {mean : ExcName → Option Value} {mg mb : Str → Option Value} {fa : Addr} (X : K.In h) (G : h.Ns mainGlobals mg) (Tp : Top q lo mean mg mb h) (hmg : mg "law" = some (.ref fa))
    (lt : ∀ ns : List Int, ns.length ≤ 63 → (∀ z ∈ ns, Builtin.Int.intBits z ≤ 1048576) → F_law_v09 [.fz (ns.map .int)] [] = .ok (.bl true) [])
    {f0 : Addr} {od0 an0 : Option Addr} {sl0 : Array (Option Value)} {oc0 kV0 dc0 pm0 cd0 ct0 : Value}
    (a0 : PySem.W.nsIn K mainGlobals "is_integer" = some (some (.ref f0))) (l0 : K.lookup f0 = some ⟨oc0, od0, .func (PySem.W.fnOf "is_integer" "is_integer" (defArgs s_is_integer) (defBody s_is_integer) (defScope s_is_integer) .none kV0 dc0 pm0 an0 cd0 ct0), sl0⟩) (c0 : PySem.W.codeIn K cd0 "is_integer" = true) (k0 : PySem.W.keepIn K (.ref f0) = true)
    {f1 : Addr} {od1 an1 : Option Addr} {sl1 : Array (Option Value)} {oc1 kV1 dc1 pm1 cd1 ct1 : Value}
    (a1 : PySem.W.nsIn K mainGlobals "is_within" = some (some (.ref f1))) (l1 : K.lookup f1 = some ⟨oc1, od1, .func (PySem.W.fnOf "is_within" "is_within" (defArgs s_is_within) (defBody s_is_within) (defScope s_is_within) .none kV1 dc1 pm1 an1 cd1 ct1), sl1⟩) (c1 : PySem.W.codeIn K cd1 "is_within" = true) (k1 : PySem.W.keepIn K (.ref f1) = true)
    {f2 : Addr} {od2 an2 : Option Addr} {sl2 : Array (Option Value)} {oc2 kV2 dc2 pm2 cd2 ct2 : Value}
    (a2 : PySem.W.nsIn K mainGlobals "is_number" = some (some (.ref f2))) (l2 : K.lookup f2 = some ⟨oc2, od2, .func (PySem.W.fnOf "is_number" "is_number" (defArgs s_is_number) (defBody s_is_number) (defScope s_is_number) .none kV2 dc2 pm2 an2 cd2 ct2), sl2⟩) (c2 : PySem.W.codeIn K cd2 "is_number" = true) (k2 : PySem.W.keepIn K (.ref f2) = true)
    {f3 : Addr} {od3 an3 : Option Addr} {sl3 : Array (Option Value)} {oc3 kV3 dc3 pm3 cd3 ct3 : Value}
    (a3 : PySem.W.nsIn K mainGlobals "is_sized" = some (some (.ref f3))) (l3 : K.lookup f3 = some ⟨oc3, od3, .func (PySem.W.fnOf "is_sized" "is_sized" (defArgs s_is_sized) (defBody s_is_sized) (defScope s_is_sized) .none kV3 dc3 pm3 an3 cd3 ct3), sl3⟩) (c3 : PySem.W.codeIn K cd3 "is_sized" = true) (k3 : PySem.W.keepIn K (.ref f3) = true)
    {f4 : Addr} {od4 an4 : Option Addr} {sl4 : Array (Option Value)} {oc4 kV4 dc4 pm4 cd4 ct4 : Value}
    (a4 : PySem.W.nsIn K mainGlobals "is_arc" = some (some (.ref f4))) (l4 : K.lookup f4 = some ⟨oc4, od4, .func (PySem.W.fnOf "is_arc" "is_arc" (defArgs s_is_arc) (defBody s_is_arc) (defScope s_is_arc) .none kV4 dc4 pm4 an4 cd4 ct4), sl4⟩) (c4 : PySem.W.codeIn K cd4 "is_arc" = true) (k4 : PySem.W.keepIn K (.ref f4) = true)
    {f5 : Addr} {od5 an5 : Option Addr} {sl5 : Array (Option Value)} {oc5 kV5 dc5 pm5 cd5 ct5 : Value}
    (a5 : PySem.W.nsIn K mainGlobals "is_net" = some (some (.ref f5))) (l5 : K.lookup f5 = some ⟨oc5, od5, .func (PySem.W.fnOf "is_net" "is_net" (defArgs s_is_net) (defBody s_is_net) (defScope s_is_net) .none kV5 dc5 pm5 an5 cd5 ct5), sl5⟩) (c5 : PySem.W.codeIn K cd5 "is_net" = true) (k5 : PySem.W.keepIn K (.ref f5) = true)
    {f6 : Addr} {od6 an6 : Option Addr} {sl6 : Array (Option Value)} {oc6 kV6 dc6 pm6 cd6 ct6 : Value}
    (a6 : PySem.W.nsIn K mainGlobals "check_net" = some (some (.ref f6))) (l6 : K.lookup f6 = some ⟨oc6, od6, .func (PySem.W.fnOf "check_net" "check_net" (defArgs s_check_net) (defBody s_check_net) (defScope s_check_net) .none kV6 dc6 pm6 an6 cd6 ct6), sl6⟩) (c6 : PySem.W.codeIn K cd6 "check_net" = true) (k6 : PySem.W.keepIn K (.ref f6) = true)
    {f7 : Addr} {od7 an7 : Option Addr} {sl7 : Array (Option Value)} {oc7 kV7 dc7 pm7 cd7 ct7 : Value}
    (a7 : PySem.W.nsIn K mainGlobals "check_node" = some (some (.ref f7))) (l7 : K.lookup f7 = some ⟨oc7, od7, .func (PySem.W.fnOf "check_node" "check_node" (defArgs s_check_node) (defBody s_check_node) (defScope s_check_node) .none kV7 dc7 pm7 an7 cd7 ct7), sl7⟩) (c7 : PySem.W.codeIn K cd7 "check_node" = true) (k7 : PySem.W.keepIn K (.ref f7) = true)
    {f8 : Addr} {od8 an8 : Option Addr} {sl8 : Array (Option Value)} {oc8 kV8 dc8 pm8 cd8 ct8 : Value}
    (a8 : PySem.W.nsIn K mainGlobals "check_ends" = some (some (.ref f8))) (l8 : K.lookup f8 = some ⟨oc8, od8, .func (PySem.W.fnOf "check_ends" "check_ends" (defArgs s_check_ends) (defBody s_check_ends) (defScope s_check_ends) .none kV8 dc8 pm8 an8 cd8 ct8), sl8⟩) (c8 : PySem.W.codeIn K cd8 "check_ends" = true) (k8 : PySem.W.keepIn K (.ref f8) = true)
    {f9 : Addr} {od9 an9 : Option Addr} {sl9 : Array (Option Value)} {oc9 kV9 dc9 pm9 cd9 ct9 : Value}
    (a9 : PySem.W.nsIn K mainGlobals "raw_end" = some (some (.ref f9))) (l9 : K.lookup f9 = some ⟨oc9, od9, .func (PySem.W.fnOf "raw_end" "raw_end" (defArgs s_raw_end) (defBody s_raw_end) (defScope s_raw_end) .none kV9 dc9 pm9 an9 cd9 ct9), sl9⟩) (c9 : PySem.W.codeIn K cd9 "raw_end" = true) (k9 : PySem.W.keepIn K (.ref f9) = true)
    {f10 : Addr} {od10 an10 : Option Addr} {sl10 : Array (Option Value)} {oc10 kV10 dc10 pm10 cd10 ct10 : Value}
    (a10 : PySem.W.nsIn K mainGlobals "is_walk" = some (some (.ref f10))) (l10 : K.lookup f10 = some ⟨oc10, od10, .func (PySem.W.fnOf "is_walk" "is_walk" (defArgs s_is_walk) (defBody s_is_walk) (defScope s_is_walk) .none kV10 dc10 pm10 an10 cd10 ct10), sl10⟩) (c10 : PySem.W.codeIn K cd10 "is_walk" = true) (k10 : PySem.W.keepIn K (.ref f10) = true)
    {f11 : Addr} {od11 an11 : Option Addr} {sl11 : Array (Option Value)} {oc11 kV11 dc11 pm11 cd11 ct11 : Value}
    (a11 : PySem.W.nsIn K mainGlobals "check_walk" = some (some (.ref f11))) (l11 : K.lookup f11 = some ⟨oc11, od11, .func (PySem.W.fnOf "check_walk" "check_walk" (defArgs s_check_walk) (defBody s_check_walk) (defScope s_check_walk) .none kV11 dc11 pm11 an11 cd11 ct11), sl11⟩) (c11 : PySem.W.codeIn K cd11 "check_walk" = true) (k11 : PySem.W.keepIn K (.ref f11) = true)
    {f12 : Addr} {od12 an12 : Option Addr} {sl12 : Array (Option Value)} {oc12 kV12 dc12 pm12 cd12 ct12 : Value}
    (a12 : PySem.W.nsIn K mainGlobals "raw_length" = some (some (.ref f12))) (l12 : K.lookup f12 = some ⟨oc12, od12, .func (PySem.W.fnOf "raw_length" "raw_length" (defArgs s_raw_length) (defBody s_raw_length) (defScope s_raw_length) .none kV12 dc12 pm12 an12 cd12 ct12), sl12⟩) (c12 : PySem.W.codeIn K cd12 "raw_length" = true) (k12 : PySem.W.keepIn K (.ref f12) = true)
    {f13 : Addr} {od13 an13 : Option Addr} {sl13 : Array (Option Value)} {oc13 kV13 dc13 pm13 cd13 ct13 : Value}
    (a13 : PySem.W.nsIn K mainGlobals "raw_cost" = some (some (.ref f13))) (l13 : K.lookup f13 = some ⟨oc13, od13, .func (PySem.W.fnOf "raw_cost" "raw_cost" (defArgs s_raw_cost) (defBody s_raw_cost) (defScope s_raw_cost) .none kV13 dc13 pm13 an13 cd13 ct13), sl13⟩) (c13 : PySem.W.codeIn K cd13 "raw_cost" = true) (k13 : PySem.W.keepIn K (.ref f13) = true)
    {f14 : Addr} {od14 an14 : Option Addr} {sl14 : Array (Option Value)} {oc14 kV14 dc14 pm14 cd14 ct14 : Value}
    (a14 : PySem.W.nsIn K mainGlobals "length_of" = some (some (.ref f14))) (l14 : K.lookup f14 = some ⟨oc14, od14, .func (PySem.W.fnOf "length_of" "length_of" (defArgs s_length_of) (defBody s_length_of) (defScope s_length_of) .none kV14 dc14 pm14 an14 cd14 ct14), sl14⟩) (c14 : PySem.W.codeIn K cd14 "length_of" = true) (k14 : PySem.W.keepIn K (.ref f14) = true)
    {f15 : Addr} {od15 an15 : Option Addr} {sl15 : Array (Option Value)} {oc15 kV15 dc15 pm15 cd15 ct15 : Value}
    (a15 : PySem.W.nsIn K mainGlobals "cost_of" = some (some (.ref f15))) (l15 : K.lookup f15 = some ⟨oc15, od15, .func (PySem.W.fnOf "cost_of" "cost_of" (defArgs s_cost_of) (defBody s_cost_of) (defScope s_cost_of) .none kV15 dc15 pm15 an15 cd15 ct15), sl15⟩) (c15 : PySem.W.codeIn K cd15 "cost_of" = true) (k15 : PySem.W.keepIn K (.ref f15) = true)
    {f16 : Addr} {od16 an16 : Option Addr} {sl16 : Array (Option Value)} {oc16 kV16 dc16 pm16 cd16 ct16 : Value}
    (a16 : PySem.W.nsIn K mainGlobals "winding_end" = some (some (.ref f16))) (l16 : K.lookup f16 = some ⟨oc16, od16, .func (PySem.W.fnOf "winding_end" "winding_end" (defArgs s_winding_end) (defBody s_winding_end) (defScope s_winding_end) .none kV16 dc16 pm16 an16 cd16 ct16), sl16⟩) (c16 : PySem.W.codeIn K cd16 "winding_end" = true) (k16 : PySem.W.keepIn K (.ref f16) = true)
    {f17 : Addr} {od17 an17 : Option Addr} {sl17 : Array (Option Value)} {oc17 kV17 dc17 pm17 cd17 ct17 : Value}
    (a17 : PySem.W.nsIn K mainGlobals "is_winding" = some (some (.ref f17))) (l17 : K.lookup f17 = some ⟨oc17, od17, .func (PySem.W.fnOf "is_winding" "is_winding" (defArgs s_is_winding) (defBody s_is_winding) (defScope s_is_winding) .none kV17 dc17 pm17 an17 cd17 ct17), sl17⟩) (c17 : PySem.W.codeIn K cd17 "is_winding" = true) (k17 : PySem.W.keepIn K (.ref f17) = true)
    {f18 : Addr} {od18 an18 : Option Addr} {sl18 : Array (Option Value)} {oc18 kV18 dc18 pm18 cd18 ct18 : Value}
    (a18 : PySem.W.nsIn K mainGlobals "check_winding" = some (some (.ref f18))) (l18 : K.lookup f18 = some ⟨oc18, od18, .func (PySem.W.fnOf "check_winding" "check_winding" (defArgs s_check_winding) (defBody s_check_winding) (defScope s_check_winding) .none kV18 dc18 pm18 an18 cd18 ct18), sl18⟩) (c18 : PySem.W.codeIn K cd18 "check_winding" = true) (k18 : PySem.W.keepIn K (.ref f18) = true)
    {f19 : Addr} {od19 an19 : Option Addr} {sl19 : Array (Option Value)} {oc19 kV19 dc19 pm19 cd19 ct19 : Value}
    (a19 : PySem.W.nsIn K mainGlobals "wound_length" = some (some (.ref f19))) (l19 : K.lookup f19 = some ⟨oc19, od19, .func (PySem.W.fnOf "wound_length" "wound_length" (defArgs s_wound_length) (defBody s_wound_length) (defScope s_wound_length) .none kV19 dc19 pm19 an19 cd19 ct19), sl19⟩) (c19 : PySem.W.codeIn K cd19 "wound_length" = true) (k19 : PySem.W.keepIn K (.ref f19) = true)
    {f20 : Addr} {od20 an20 : Option Addr} {sl20 : Array (Option Value)} {oc20 kV20 dc20 pm20 cd20 ct20 : Value}
    (a20 : PySem.W.nsIn K mainGlobals "wound_cost" = some (some (.ref f20))) (l20 : K.lookup f20 = some ⟨oc20, od20, .func (PySem.W.fnOf "wound_cost" "wound_cost" (defArgs s_wound_cost) (defBody s_wound_cost) (defScope s_wound_cost) .none kV20 dc20 pm20 an20 cd20 ct20), sl20⟩) (c20 : PySem.W.codeIn K cd20 "wound_cost" = true) (k20 : PySem.W.keepIn K (.ref f20) = true)
    {f21 : Addr} {od21 an21 : Option Addr} {sl21 : Array (Option Value)} {oc21 kV21 dc21 pm21 cd21 ct21 : Value}
    (a21 : PySem.W.nsIn K mainGlobals "winding_length" = some (some (.ref f21))) (l21 : K.lookup f21 = some ⟨oc21, od21, .func (PySem.W.fnOf "winding_length" "winding_length" (defArgs s_winding_length) (defBody s_winding_length) (defScope s_winding_length) .none kV21 dc21 pm21 an21 cd21 ct21), sl21⟩) (c21 : PySem.W.codeIn K cd21 "winding_length" = true) (k21 : PySem.W.keepIn K (.ref f21) = true)
    {f22 : Addr} {od22 an22 : Option Addr} {sl22 : Array (Option Value)} {oc22 kV22 dc22 pm22 cd22 ct22 : Value}
    (a22 : PySem.W.nsIn K mainGlobals "winding_cost" = some (some (.ref f22))) (l22 : K.lookup f22 = some ⟨oc22, od22, .func (PySem.W.fnOf "winding_cost" "winding_cost" (defArgs s_winding_cost) (defBody s_winding_cost) (defScope s_winding_cost) .none kV22 dc22 pm22 an22 cd22 ct22), sl22⟩) (c22 : PySem.W.codeIn K cd22 "winding_cost" = true) (k22 : PySem.W.keepIn K (.ref f22) = true)
    {f23 : Addr} {od23 an23 : Option Addr} {sl23 : Array (Option Value)} {oc23 kV23 dc23 pm23 cd23 ct23 : Value}
    (a23 : PySem.W.nsIn K mainGlobals "unwound" = some (some (.ref f23))) (l23 : K.lookup f23 = some ⟨oc23, od23, .func (PySem.W.fnOf "unwound" "unwound" (defArgs s_unwound) (defBody s_unwound) (defScope s_unwound) .none kV23 dc23 pm23 an23 cd23 ct23), sl23⟩) (c23 : PySem.W.codeIn K cd23 "unwound" = true) (k23 : PySem.W.keepIn K (.ref f23) = true)
    {f24 : Addr} {od24 an24 : Option Addr} {sl24 : Array (Option Value)} {oc24 kV24 dc24 pm24 cd24 ct24 : Value}
    (a24 : PySem.W.nsIn K mainGlobals "check_asked" = some (some (.ref f24))) (l24 : K.lookup f24 = some ⟨oc24, od24, .func (PySem.W.fnOf "check_asked" "check_asked" (defArgs s_check_asked) (defBody s_check_asked) (defScope s_check_asked) .none kV24 dc24 pm24 an24 cd24 ct24), sl24⟩) (c24 : PySem.W.codeIn K cd24 "check_asked" = true) (k24 : PySem.W.keepIn K (.ref f24) = true)
    {f25 : Addr} {od25 an25 : Option Addr} {sl25 : Array (Option Value)} {oc25 kV25 dc25 pm25 cd25 ct25 : Value}
    (a25 : PySem.W.nsIn K mainGlobals "costs_ahead" = some (some (.ref f25))) (l25 : K.lookup f25 = some ⟨oc25, od25, .func (PySem.W.fnOf "costs_ahead" "costs_ahead" (defArgs s_costs_ahead) (defBody s_costs_ahead) (defScope s_costs_ahead) .none kV25 dc25 pm25 an25 cd25 ct25), sl25⟩) (c25 : PySem.W.codeIn K cd25 "costs_ahead" = true) (k25 : PySem.W.keepIn K (.ref f25) = true)
    {f26 : Addr} {od26 an26 : Option Addr} {sl26 : Array (Option Value)} {oc26 kV26 dc26 pm26 cd26 ct26 : Value}
    (a26 : PySem.W.nsIn K mainGlobals "raw_least_cost" = some (some (.ref f26))) (l26 : K.lookup f26 = some ⟨oc26, od26, .func (PySem.W.fnOf "raw_least_cost" "raw_least_cost" (defArgs s_raw_least_cost) (defBody s_raw_least_cost) (defScope s_raw_least_cost) .none kV26 dc26 pm26 an26 cd26 ct26), sl26⟩) (c26 : PySem.W.codeIn K cd26 "raw_least_cost" = true) (k26 : PySem.W.keepIn K (.ref f26) = true)
    {f27 : Addr} {od27 an27 : Option Addr} {sl27 : Array (Option Value)} {oc27 kV27 dc27 pm27 cd27 ct27 : Value}
    (a27 : PySem.W.nsIn K mainGlobals "least_cost" = some (some (.ref f27))) (l27 : K.lookup f27 = some ⟨oc27, od27, .func (PySem.W.fnOf "least_cost" "least_cost" (defArgs s_least_cost) (defBody s_least_cost) (defScope s_least_cost) .none kV27 dc27 pm27 an27 cd27 ct27), sl27⟩) (c27 : PySem.W.codeIn K cd27 "least_cost" = true) (k27 : PySem.W.keepIn K (.ref f27) = true)
    {f28 : Addr} {od28 an28 : Option Addr} {sl28 : Array (Option Value)} {oc28 kV28 dc28 pm28 cd28 ct28 : Value}
    (a28 : PySem.W.nsIn K mainGlobals "_law_hand" = some (some (.ref f28))) (l28 : K.lookup f28 = some ⟨oc28, od28, .func (PySem.W.fnOf "_law_hand" "_law_hand" (defArgs s__law_hand_v09) (defBody s__law_hand_v09) (defScope s__law_hand_v09) .none kV28 dc28 pm28 an28 cd28 ct28), sl28⟩) (c28 : PySem.W.codeIn K cd28 "_law_hand" = true) (k28 : PySem.W.keepIn K (.ref f28) = true)
    {f29 : Addr} {od29 an29 : Option Addr} {sl29 : Array (Option Value)} {oc29 kV29 dc29 pm29 cd29 ct29 : Value}
    (a29 : PySem.W.nsIn K mainGlobals "_law_draw" = some (some (.ref f29))) (l29 : K.lookup f29 = some ⟨oc29, od29, .func (PySem.W.fnOf "_law_draw" "_law_draw" (defArgs s__law_draw_v09) (defBody s__law_draw_v09) (defScope s__law_draw_v09) .none kV29 dc29 pm29 an29 cd29 ct29), sl29⟩) (c29 : PySem.W.codeIn K cd29 "_law_draw" = true) (k29 : PySem.W.keepIn K (.ref f29) = true)
    {f30 : Addr} {od30 an30 : Option Addr} {sl30 : Array (Option Value)} {oc30 kV30 dc30 pm30 cd30 ct30 : Value}
    (a30 : PySem.W.nsIn K mainGlobals "_law_some" = some (some (.ref f30))) (l30 : K.lookup f30 = some ⟨oc30, od30, .func (PySem.W.fnOf "_law_some" "_law_some" (defArgs s__law_some) (defBody s__law_some) (defScope s__law_some) .none kV30 dc30 pm30 an30 cd30 ct30), sl30⟩) (c30 : PySem.W.codeIn K cd30 "_law_some" = true) (k30 : PySem.W.keepIn K (.ref f30) = true)
    {f31 : Addr} {od31 an31 : Option Addr} {sl31 : Array (Option Value)} {oc31 kV31 dc31 pm31 cd31 ct31 : Value}
    (a31 : PySem.W.nsIn K mainGlobals "_law_net" = some (some (.ref f31))) (l31 : K.lookup f31 = some ⟨oc31, od31, .func (PySem.W.fnOf "_law_net" "_law_net" (defArgs s__law_net) (defBody s__law_net) (defScope s__law_net) .none kV31 dc31 pm31 an31 cd31 ct31), sl31⟩) (c31 : PySem.W.codeIn K cd31 "_law_net" = true) (k31 : PySem.W.keepIn K (.ref f31) = true)
    {f32 : Addr} {od32 an32 : Option Addr} {sl32 : Array (Option Value)} {oc32 kV32 dc32 pm32 cd32 ct32 : Value}
    (a32 : PySem.W.nsIn K mainGlobals "_law_bad_net" = some (some (.ref f32))) (l32 : K.lookup f32 = some ⟨oc32, od32, .func (PySem.W.fnOf "_law_bad_net" "_law_bad_net" (defArgs s__law_bad_net) (defBody s__law_bad_net) (defScope s__law_bad_net) .none kV32 dc32 pm32 an32 cd32 ct32), sl32⟩) (c32 : PySem.W.codeIn K cd32 "_law_bad_net" = true) (k32 : PySem.W.keepIn K (.ref f32) = true)
    {f33 : Addr} {od33 an33 : Option Addr} {sl33 : Array (Option Value)} {oc33 kV33 dc33 pm33 cd33 ct33 : Value}
    (a33 : PySem.W.nsIn K mainGlobals "_law_bad_node" = some (some (.ref f33))) (l33 : K.lookup f33 = some ⟨oc33, od33, .func (PySem.W.fnOf "_law_bad_node" "_law_bad_node" (defArgs s__law_bad_node) (defBody s__law_bad_node) (defScope s__law_bad_node) .none kV33 dc33 pm33 an33 cd33 ct33), sl33⟩) (c33 : PySem.W.codeIn K cd33 "_law_bad_node" = true) (k33 : PySem.W.keepIn K (.ref f33) = true)
    {f34 : Addr} {od34 an34 : Option Addr} {sl34 : Array (Option Value)} {oc34 kV34 dc34 pm34 cd34 ct34 : Value}
    (a34 : PySem.W.nsIn K mainGlobals "_law_walk" = some (some (.ref f34))) (l34 : K.lookup f34 = some ⟨oc34, od34, .func (PySem.W.fnOf "_law_walk" "_law_walk" (defArgs s__law_walk) (defBody s__law_walk) (defScope s__law_walk) .none kV34 dc34 pm34 an34 cd34 ct34), sl34⟩) (c34 : PySem.W.codeIn K cd34 "_law_walk" = true) (k34 : PySem.W.keepIn K (.ref f34) = true)
    {f35 : Addr} {od35 an35 : Option Addr} {sl35 : Array (Option Value)} {oc35 kV35 dc35 pm35 cd35 ct35 : Value}
    (a35 : PySem.W.nsIn K mainGlobals "_law_end" = some (some (.ref f35))) (l35 : K.lookup f35 = some ⟨oc35, od35, .func (PySem.W.fnOf "_law_end" "_law_end" (defArgs s__law_end) (defBody s__law_end) (defScope s__law_end) .none kV35 dc35 pm35 an35 cd35 ct35), sl35⟩) (c35 : PySem.W.codeIn K cd35 "_law_end" = true) (k35 : PySem.W.keepIn K (.ref f35) = true)
    {f36 : Addr} {od36 an36 : Option Addr} {sl36 : Array (Option Value)} {oc36 kV36 dc36 pm36 cd36 ct36 : Value}
    (a36 : PySem.W.nsIn K mainGlobals "_law_is_walk" = some (some (.ref f36))) (l36 : K.lookup f36 = some ⟨oc36, od36, .func (PySem.W.fnOf "_law_is_walk" "_law_is_walk" (defArgs s__law_is_walk) (defBody s__law_is_walk) (defScope s__law_is_walk) .none kV36 dc36 pm36 an36 cd36 ct36), sl36⟩) (c36 : PySem.W.codeIn K cd36 "_law_is_walk" = true) (k36 : PySem.W.keepIn K (.ref f36) = true)
    {f37 : Addr} {od37 an37 : Option Addr} {sl37 : Array (Option Value)} {oc37 kV37 dc37 pm37 cd37 ct37 : Value}
    (a37 : PySem.W.nsIn K mainGlobals "_law_sum" = some (some (.ref f37))) (l37 : K.lookup f37 = some ⟨oc37, od37, .func (PySem.W.fnOf "_law_sum" "_law_sum" (defArgs s__law_sum) (defBody s__law_sum) (defScope s__law_sum) .none kV37 dc37 pm37 an37 cd37 ct37), sl37⟩) (c37 : PySem.W.codeIn K cd37 "_law_sum" = true) (k37 : PySem.W.keepIn K (.ref f37) = true)
    {f38 : Addr} {od38 an38 : Option Addr} {sl38 : Array (Option Value)} {oc38 kV38 dc38 pm38 cd38 ct38 : Value}
    (a38 : PySem.W.nsIn K mainGlobals "_law_is" = some (some (.ref f38))) (l38 : K.lookup f38 = some ⟨oc38, od38, .func (PySem.W.fnOf "_law_is" "_law_is" (defArgs s__law_is_v09) (defBody s__law_is_v09) (defScope s__law_is_v09) .none kV38 dc38 pm38 an38 cd38 ct38), sl38⟩) (c38 : PySem.W.codeIn K cd38 "_law_is" = true) (k38 : PySem.W.keepIn K (.ref f38) = true)
    {f39 : Addr} {od39 an39 : Option Addr} {sl39 : Array (Option Value)} {oc39 kV39 dc39 pm39 cd39 ct39 : Value}
    (a39 : PySem.W.nsIn K mainGlobals "_law_said" = some (some (.ref f39))) (l39 : K.lookup f39 = some ⟨oc39, od39, .func (PySem.W.fnOf "_law_said" "_law_said" (defArgs s__law_said) (defBody s__law_said) (defScope s__law_said) .none kV39 dc39 pm39 an39 cd39 ct39), sl39⟩) (c39 : PySem.W.codeIn K cd39 "_law_said" = true) (k39 : PySem.W.keepIn K (.ref f39) = true)
    {f40 : Addr} {od40 an40 : Option Addr} {sl40 : Array (Option Value)} {oc40 kV40 dc40 pm40 cd40 ct40 : Value}
    (a40 : PySem.W.nsIn K mainGlobals "_law_ring" = some (some (.ref f40))) (l40 : K.lookup f40 = some ⟨oc40, od40, .func (PySem.W.fnOf "_law_ring" "_law_ring" (defArgs s__law_ring) (defBody s__law_ring) (defScope s__law_ring) .none kV40 dc40 pm40 an40 cd40 ct40), sl40⟩) (c40 : PySem.W.codeIn K cd40 "_law_ring" = true) (k40 : PySem.W.keepIn K (.ref f40) = true)
    {f41 : Addr} {od41 an41 : Option Addr} {sl41 : Array (Option Value)} {oc41 kV41 dc41 pm41 cd41 ct41 : Value}
    (a41 : PySem.W.nsIn K mainGlobals "_law_winding" = some (some (.ref f41))) (l41 : K.lookup f41 = some ⟨oc41, od41, .func (PySem.W.fnOf "_law_winding" "_law_winding" (defArgs s__law_winding) (defBody s__law_winding) (defScope s__law_winding) .none kV41 dc41 pm41 an41 cd41 ct41), sl41⟩) (c41 : PySem.W.codeIn K cd41 "_law_winding" = true) (k41 : PySem.W.keepIn K (.ref f41) = true)
    {f42 : Addr} {od42 an42 : Option Addr} {sl42 : Array (Option Value)} {oc42 kV42 dc42 pm42 cd42 ct42 : Value}
    (a42 : PySem.W.nsIn K mainGlobals "_law_leads" = some (some (.ref f42))) (l42 : K.lookup f42 = some ⟨oc42, od42, .func (PySem.W.fnOf "_law_leads" "_law_leads" (defArgs s__law_leads) (defBody s__law_leads) (defScope s__law_leads) .none kV42 dc42 pm42 an42 cd42 ct42), sl42⟩) (c42 : PySem.W.codeIn K cd42 "_law_leads" = true) (k42 : PySem.W.keepIn K (.ref f42) = true)
    {f43 : Addr} {od43 an43 : Option Addr} {sl43 : Array (Option Value)} {oc43 kV43 dc43 pm43 cd43 ct43 : Value}
    (a43 : PySem.W.nsIn K mainGlobals "_law_is_winding" = some (some (.ref f43))) (l43 : K.lookup f43 = some ⟨oc43, od43, .func (PySem.W.fnOf "_law_is_winding" "_law_is_winding" (defArgs s__law_is_winding) (defBody s__law_is_winding) (defScope s__law_is_winding) .none kV43 dc43 pm43 an43 cd43 ct43), sl43⟩) (c43 : PySem.W.codeIn K cd43 "_law_is_winding" = true) (k43 : PySem.W.keepIn K (.ref f43) = true)
    {f44 : Addr} {od44 an44 : Option Addr} {sl44 : Array (Option Value)} {oc44 kV44 dc44 pm44 cd44 ct44 : Value}
    (a44 : PySem.W.nsIn K mainGlobals "_law_bent" = some (some (.ref f44))) (l44 : K.lookup f44 = some ⟨oc44, od44, .func (PySem.W.fnOf "_law_bent" "_law_bent" (defArgs s__law_bent) (defBody s__law_bent) (defScope s__law_bent) .none kV44 dc44 pm44 an44 cd44 ct44), sl44⟩) (c44 : PySem.W.codeIn K cd44 "_law_bent" = true) (k44 : PySem.W.keepIn K (.ref f44) = true)
    {f45 : Addr} {od45 an45 : Option Addr} {sl45 : Array (Option Value)} {oc45 kV45 dc45 pm45 ct45 : Value}
    {cc__law_are_refused ct__law_are_refused : Addr} {kk__law_are_refused : Value} {dd__law_are_refused : Option Addr} {vv__law_are_refused : Array Value} {ss__law_are_refused : Array (Option Value)}
    (a45 : PySem.W.nsIn K mainGlobals "_law_are_refused" = some (some (.ref f45))) (l45 : K.lookup f45 = some ⟨oc45, od45, .func (PySem.W.fnOf "_law_are_refused" "_law_are_refused" (defArgs s__law_are_refused) (defBody s__law_are_refused) (defScope s__law_are_refused) .none kV45 dc45 pm45 an45 (.ref cc__law_are_refused) ct45), sl45⟩) (c45 : PySem.W.codeIn K (.ref cc__law_are_refused) "_law_are_refused" = true) (k45 : PySem.W.keepIn K (.ref f45) = true)
    (lc__law_are_refused : K.lookup cc__law_are_refused = some ⟨kk__law_are_refused, dd__law_are_refused, .fields vv__law_are_refused, ss__law_are_refused⟩) (lv__law_are_refused : vv__law_are_refused[11]? = some (.ref ct__law_are_refused)) (ln__law_are_refused : K.lookup ct__law_are_refused = none)
    {f46 : Addr} {od46 an46 : Option Addr} {sl46 : Array (Option Value)} {oc46 kV46 dc46 pm46 ct46 : Value}
    {cc__law_is_unwound_right ct__law_is_unwound_right : Addr} {kk__law_is_unwound_right : Value} {dd__law_is_unwound_right : Option Addr} {vv__law_is_unwound_right : Array Value} {ss__law_is_unwound_right : Array (Option Value)}
    (a46 : PySem.W.nsIn K mainGlobals "_law_is_unwound_right" = some (some (.ref f46))) (l46 : K.lookup f46 = some ⟨oc46, od46, .func (PySem.W.fnOf "_law_is_unwound_right" "_law_is_unwound_right" (defArgs s__law_is_unwound_right) (defBody s__law_is_unwound_right) (defScope s__law_is_unwound_right) .none kV46 dc46 pm46 an46 (.ref cc__law_is_unwound_right) ct46), sl46⟩) (c46 : PySem.W.codeIn K (.ref cc__law_is_unwound_right) "_law_is_unwound_right" = true) (k46 : PySem.W.keepIn K (.ref f46) = true)
    (lc__law_is_unwound_right : K.lookup cc__law_is_unwound_right = some ⟨kk__law_is_unwound_right, dd__law_is_unwound_right, .fields vv__law_is_unwound_right, ss__law_is_unwound_right⟩) (lv__law_is_unwound_right : vv__law_is_unwound_right[11]? = some (.ref ct__law_is_unwound_right)) (ln__law_is_unwound_right : K.lookup ct__law_is_unwound_right = none)
    {f47 : Addr} {od47 an47 : Option Addr} {sl47 : Array (Option Value)} {oc47 kV47 dc47 pm47 cd47 ct47 : Value}
    (a47 : PySem.W.nsIn K mainGlobals "_law_is_right" = some (some (.ref f47))) (l47 : K.lookup f47 = some ⟨oc47, od47, .func (PySem.W.fnOf "_law_is_right" "_law_is_right" (defArgs s__law_is_right) (defBody s__law_is_right) (defScope s__law_is_right) .none kV47 dc47 pm47 an47 cd47 ct47), sl47⟩) (c47 : PySem.W.codeIn K cd47 "_law_is_right" = true) (k47 : PySem.W.keepIn K (.ref f47) = true)
    {f48 : Addr} {od48 an48 : Option Addr} {sl48 : Array (Option Value)} {oc48 kV48 dc48 pm48 cd48 ct48 : Value}
    (a48 : PySem.W.nsIn K mainGlobals "law" = some (some (.ref f48))) (l48 : K.lookup f48 = some ⟨oc48, od48, .func (PySem.W.fnOf "law" "law" (defArgs s_law_v09) (defBody s_law_v09) (defScope s_law_v09) .none kV48 dc48 pm48 an48 cd48 ct48), sl48⟩) (c48 : PySem.W.codeIn K cd48 "law" = true) (k48 : PySem.W.keepIn K (.ref f48) = true)
    (z_int : PySem.W.nsIn K mainGlobals "int" = some none)
    (z_isinstance : PySem.W.nsIn K mainGlobals "isinstance" = some none)
    (z_bool : PySem.W.nsIn K mainGlobals "bool" = some none)
    (z_tuple : PySem.W.nsIn K mainGlobals "tuple" = some none)
    (z_len : PySem.W.nsIn K mainGlobals "len" = some none)
    (z_all : PySem.W.nsIn K mainGlobals "all" = some none)
    (z_sum : PySem.W.nsIn K mainGlobals "sum" = some none)
    (z_range : PySem.W.nsIn K mainGlobals "range" = some none)
    (z_abs : PySem.W.nsIn K mainGlobals "abs" = some none)
    (z_enumerate : PySem.W.nsIn K mainGlobals "enumerate" = some none)
    (z_repr : PySem.W.nsIn K mainGlobals "repr" = some none)
    (z_list : PySem.W.nsIn K mainGlobals "list" = some none)
    {t_MOST_LENGTH : Tok} (c_MOST_LENGTH : PySem.W.nsIn K mainGlobals "MOST_LENGTH" = some (some (.int 6 t_MOST_LENGTH)))
    {t_MOST_COST : Tok} (c_MOST_COST : PySem.W.nsIn K mainGlobals "MOST_COST" = some (some (.int 99 t_MOST_COST)))
    {t_MOST_NODES : Tok} (c_MOST_NODES : PySem.W.nsIn K mainGlobals "MOST_NODES" = some (some (.int 8 t_MOST_NODES)))
    {t_MOST_ARCS : Tok} (c_MOST_ARCS : PySem.W.nsIn K mainGlobals "MOST_ARCS" = some (some (.int 20 t_MOST_ARCS)))
    {t_MOST_WALK : Tok} (c_MOST_WALK : PySem.W.nsIn K mainGlobals "MOST_WALK" = some (some (.int 2000 t_MOST_WALK)))
    {t_MOST_ASKED : Tok} (c_MOST_ASKED : PySem.W.nsIn K mainGlobals "MOST_ASKED" = some (some (.int 300 t_MOST_ASKED)))
    {C_NoNet : Addr} (xa_NoNet : PySem.W.nsIn K mainGlobals "NoNet" = some (some (.ref C_NoNet))) (xe_NoNet : PySem.W.excIn K C_NoNet [.type "ValueError", .type "Exception", .type "BaseException", .type "object"] "ValueError.__new__" = true) (xk_NoNet : PySem.W.keepIn K (.ref C_NoNet) = true)
    (xs_NoNet : PySem.W.subIn K (.ref C_NoNet) (.type "BaseException") = some true) (xt_NoNet : PySem.W.typeIn K (.ref C_NoNet) = some (.type "type"))
    {C_NoNode : Addr} (xa_NoNode : PySem.W.nsIn K mainGlobals "NoNode" = some (some (.ref C_NoNode))) (xe_NoNode : PySem.W.excIn K C_NoNode [.type "ValueError", .type "Exception", .type "BaseException", .type "object"] "ValueError.__new__" = true) (xk_NoNode : PySem.W.keepIn K (.ref C_NoNode) = true)
    (xs_NoNode : PySem.W.subIn K (.ref C_NoNode) (.type "BaseException") = some true) (xt_NoNode : PySem.W.typeIn K (.ref C_NoNode) = some (.type "type"))
    {C_NoWalk : Addr} (xa_NoWalk : PySem.W.nsIn K mainGlobals "NoWalk" = some (some (.ref C_NoWalk))) (xe_NoWalk : PySem.W.excIn K C_NoWalk [.type "ValueError", .type "Exception", .type "BaseException", .type "object"] "ValueError.__new__" = true) (xk_NoWalk : PySem.W.keepIn K (.ref C_NoWalk) = true)
    (xs_NoWalk : PySem.W.subIn K (.ref C_NoWalk) (.type "BaseException") = some true) (xt_NoWalk : PySem.W.typeIn K (.ref C_NoWalk) = some (.type "type"))
    {C_NoWinding : Addr} (xa_NoWinding : PySem.W.nsIn K mainGlobals "NoWinding" = some (some (.ref C_NoWinding))) (xe_NoWinding : PySem.W.excIn K C_NoWinding [.type "ValueError", .type "Exception", .type "BaseException", .type "object"] "ValueError.__new__" = true) (xk_NoWinding : PySem.W.keepIn K (.ref C_NoWinding) = true)
    (xs_NoWinding : PySem.W.subIn K (.ref C_NoWinding) (.type "BaseException") = some true) (xt_NoWinding : PySem.W.typeIn K (.ref C_NoWinding) = some (.type "type"))
    {C_NoLength : Addr} (xa_NoLength : PySem.W.nsIn K mainGlobals "NoLength" = some (some (.ref C_NoLength))) (xe_NoLength : PySem.W.excIn K C_NoLength [.type "ValueError", .type "Exception", .type "BaseException", .type "object"] "ValueError.__new__" = true) (xk_NoLength : PySem.W.keepIn K (.ref C_NoLength) = true)
    (xs_NoLength : PySem.W.subIn K (.ref C_NoLength) (.type "BaseException") = some true) (xt_NoLength : PySem.W.typeIn K (.ref C_NoLength) = some (.type "type"))
    {C_TooMany CL_TooMany fI_TooMany N_TooMany : Addr} {nm_TooMany q_TooMany : Str} {bs_TooMany sub_TooMany : List Value} {sn_TooMany : List Str} {ab_TooMany : Bool} {col_TooMany : Option Bool} {dd_TooMany od_TooMany an_TooMany : Option Addr} {m0_TooMany m1_TooMany m2_TooMany m3_TooMany m5_TooMany : Option Value} {oc_TooMany kV_TooMany dc_TooMany pm_TooMany cd_TooMany ct_TooMany : Value} {sl_TooMany : Array (Option Value)}
    (xa_TooMany : PySem.W.nsIn K mainGlobals "TooMany" = some (some (.ref C_TooMany))) (xL_TooMany : K.lookup C_TooMany = some (excClassObj nm_TooMany q_TooMany C_TooMany N_TooMany bs_TooMany [.ref CL_TooMany, .type "ValueError", .type "Exception", .type "BaseException", .type "object"] true sn_TooMany sub_TooMany ab_TooMany col_TooMany dd_TooMany m0_TooMany m1_TooMany m2_TooMany m3_TooMany m5_TooMany "ValueError.__new__"))
    (xsa_TooMany : PySem.W.findIn K (.ref C_TooMany) "__setattr__" = some (some (.builtin "object.__setattr__"))) (xs_TooMany : PySem.W.subIn K (.ref C_TooMany) (.type "BaseException") = some true) (xt_TooMany : PySem.W.typeIn K (.ref C_TooMany) = some (.type "type")) (xk_TooMany : PySem.W.keepIn K (.ref C_TooMany) = true)
    (xi1_TooMany : PySem.W.findIn K (.ref C_TooMany) "__init__" = some (some (.ref fI_TooMany))) (xi2_TooMany : PySem.W.typeIn K (.ref fI_TooMany) = some (.type "function")) (xi3_TooMany : PySem.W.findIn K (.ref C_TooMany) "most" = some none)
    (xl_TooMany : K.lookup fI_TooMany = some ⟨oc_TooMany, od_TooMany, .func (PySem.W.fnOf "__init__" "TooMany.__init__" (defArgs (clsDef (topS 12))) (defBody (clsDef (topS 12))) (defScope (clsDef (topS 12))) .none kV_TooMany dc_TooMany pm_TooMany an_TooMany cd_TooMany ct_TooMany), sl_TooMany⟩) (xc_TooMany : PySem.W.codeIn K cd_TooMany "TooMany.__init__" = true) (xkf_TooMany : PySem.W.keepIn K (.ref fI_TooMany) = true)
    (xg1_TooMany : PySem.W.findIn K (.ref C_TooMany) "__getattribute__" = some (some (.builtin "BaseException.__getattribute__"))) (xg2_TooMany : PySem.W.findIn K (.ref C_TooMany) "__getattr__" = some none) (xg3_TooMany : PySem.W.hasDictIn K C_TooMany = true)
    (xi_NoLength : PySem.W.isClsIn K C_NoLength = true)
    (xi_NoNet : PySem.W.isClsIn K C_NoNet = true)
    (xi_NoNode : PySem.W.isClsIn K C_NoNode = true)
    (xi_NoWalk : PySem.W.isClsIn K C_NoWalk = true)
    (xi_NoWinding : PySem.W.isClsIn K C_NoWinding = true)
    (xi_TooMany : PySem.W.isClsIn K C_TooMany = true)
    (xp_9_9 : PySem.W.subIn K (.ref C_NoLength) (.ref C_NoLength) = some true)
    (xp_9_12 : PySem.W.subIn K (.ref C_NoLength) (.ref C_NoNet) = some false)
    (xp_9_13 : PySem.W.subIn K (.ref C_NoLength) (.ref C_NoNode) = some false)
    (xp_9_37 : PySem.W.subIn K (.ref C_NoLength) (.ref C_NoWalk) = some false)
    (xp_9_38 : PySem.W.subIn K (.ref C_NoLength) (.ref C_NoWinding) = some false)
    (xp_9_41 : PySem.W.subIn K (.ref C_NoLength) (.ref C_TooMany) = some false)
    (xp_12_9 : PySem.W.subIn K (.ref C_NoNet) (.ref C_NoLength) = some false)
    (xp_12_12 : PySem.W.subIn K (.ref C_NoNet) (.ref C_NoNet) = some true)
    (xp_12_13 : PySem.W.subIn K (.ref C_NoNet) (.ref C_NoNode) = some false)
    (xp_12_37 : PySem.W.subIn K (.ref C_NoNet) (.ref C_NoWalk) = some false)
    (xp_12_38 : PySem.W.subIn K (.ref C_NoNet) (.ref C_NoWinding) = some false)
    (xp_12_41 : PySem.W.subIn K (.ref C_NoNet) (.ref C_TooMany) = some false)
    (xp_13_9 : PySem.W.subIn K (.ref C_NoNode) (.ref C_NoLength) = some false)
    (xp_13_12 : PySem.W.subIn K (.ref C_NoNode) (.ref C_NoNet) = some false)
    (xp_13_13 : PySem.W.subIn K (.ref C_NoNode) (.ref C_NoNode) = some true)
    (xp_13_37 : PySem.W.subIn K (.ref C_NoNode) (.ref C_NoWalk) = some false)
    (xp_13_38 : PySem.W.subIn K (.ref C_NoNode) (.ref C_NoWinding) = some false)
    (xp_13_41 : PySem.W.subIn K (.ref C_NoNode) (.ref C_TooMany) = some false)
    (xp_37_9 : PySem.W.subIn K (.ref C_NoWalk) (.ref C_NoLength) = some false)
    (xp_37_12 : PySem.W.subIn K (.ref C_NoWalk) (.ref C_NoNet) = some false)
    (xp_37_13 : PySem.W.subIn K (.ref C_NoWalk) (.ref C_NoNode) = some false)
    (xp_37_37 : PySem.W.subIn K (.ref C_NoWalk) (.ref C_NoWalk) = some true)
    (xp_37_38 : PySem.W.subIn K (.ref C_NoWalk) (.ref C_NoWinding) = some false)
    (xp_37_41 : PySem.W.subIn K (.ref C_NoWalk) (.ref C_TooMany) = some false)
    (xp_38_9 : PySem.W.subIn K (.ref C_NoWinding) (.ref C_NoLength) = some false)
    (xp_38_12 : PySem.W.subIn K (.ref C_NoWinding) (.ref C_NoNet) = some false)
    (xp_38_13 : PySem.W.subIn K (.ref C_NoWinding) (.ref C_NoNode) = some false)
    (xp_38_37 : PySem.W.subIn K (.ref C_NoWinding) (.ref C_NoWalk) = some false)
    (xp_38_38 : PySem.W.subIn K (.ref C_NoWinding) (.ref C_NoWinding) = some true)
    (xp_38_41 : PySem.W.subIn K (.ref C_NoWinding) (.ref C_TooMany) = some false)
    (xp_41_9 : PySem.W.subIn K (.ref C_TooMany) (.ref C_NoLength) = some false)
    (xp_41_12 : PySem.W.subIn K (.ref C_TooMany) (.ref C_NoNet) = some false)
    (xp_41_13 : PySem.W.subIn K (.ref C_TooMany) (.ref C_NoNode) = some false)
    (xp_41_37 : PySem.W.subIn K (.ref C_TooMany) (.ref C_NoWalk) = some false)
    (xp_41_38 : PySem.W.subIn K (.ref C_TooMany) (.ref C_NoWinding) = some false)
    (xp_41_41 : PySem.W.subIn K (.ref C_TooMany) (.ref C_TooMany) = some true)
    (nd_ : [ct__law_are_refused, ct__law_is_unwound_right].Nodup)
    (lr__law_are_refused : ((recsOf q).any fun d => d.name == "_law_are_refused") = true)
    (lr__law_is_unwound_right : ((recsOf q).any fun d => d.name == "_law_is_unwound_right") = true)
    : LawAt PySem.Challenge.rw_everylength_k09_whole_windings_unwound w K 13 63 "script" mg fa h := by
  let CS : List (Addr × Addr × Str) := [(cc__law_are_refused, ct__law_are_refused, lamNm "_law_are_refused"), (cc__law_is_unwound_right, ct__law_is_unwound_right, lamNm "_law_is_unwound_right")]
  letI : Tb := ⟨CS⟩
  have Φ : Facts K mg := {
    D_is_integer := defG_mk X G (fun _ _ _ _ _ _ us hl => match us, hl with | [_], _ => rfl) a0 l0 c0 k0,
    D_is_within := defG_mk X G (fun _ _ _ _ _ _ us hl => match us, hl with | [_, _, _], _ => rfl) a1 l1 c1 k1,
    D_is_number := defG_mk X G (fun _ _ _ _ _ _ us hl => match us, hl with | [_], _ => rfl) a2 l2 c2 k2,
    D_is_sized := defG_mk X G (fun _ _ _ _ _ _ us hl => match us, hl with | [_, _, _], _ => rfl) a3 l3 c3 k3,
    D_is_arc := defG_mk X G (fun _ _ _ _ _ _ us hl => match us, hl with | [_, _], _ => rfl) a4 l4 c4 k4,
    D_is_net := defG_mk X G (fun _ _ _ _ _ _ us hl => match us, hl with | [_], _ => rfl) a5 l5 c5 k5,
    D_check_net := defG_mk X G (fun _ _ _ _ _ _ us hl => match us, hl with | [_], _ => rfl) a6 l6 c6 k6,
    D_check_node := defG_mk X G (fun _ _ _ _ _ _ us hl => match us, hl with | [_, _], _ => rfl) a7 l7 c7 k7,
    D_check_ends := defG_mk X G (fun _ _ _ _ _ _ us hl => match us, hl with | [_, _, _], _ => rfl) a8 l8 c8 k8,
    D_raw_end := defG_mk X G (fun _ _ _ _ _ _ us hl => match us, hl with | [_, _, _], _ => rfl) a9 l9 c9 k9,
    D_is_walk := defG_mk X G (fun _ _ _ _ _ _ us hl => match us, hl with | [_, _, _, _], _ => rfl) a10 l10 c10 k10,
    D_check_walk := defG_mk X G (fun _ _ _ _ _ _ us hl => match us, hl with | [_, _, _], _ => rfl) a11 l11 c11 k11,
    D_raw_length := defG_mk X G (fun _ _ _ _ _ _ us hl => match us, hl with | [_, _], _ => rfl) a12 l12 c12 k12,
    D_raw_cost := defG_mk X G (fun _ _ _ _ _ _ us hl => match us, hl with | [_, _], _ => rfl) a13 l13 c13 k13,
    D_length_of := defG_mk X G (fun _ _ _ _ _ _ us hl => match us, hl with | [_, _, _], _ => rfl) a14 l14 c14 k14,
    D_cost_of := defG_mk X G (fun _ _ _ _ _ _ us hl => match us, hl with | [_, _, _], _ => rfl) a15 l15 c15 k15,
    D_winding_end := defG_mk X G (fun _ _ _ _ _ _ us hl => match us, hl with | [_, _, _], _ => rfl) a16 l16 c16 k16,
    D_is_winding := defG_mk X G (fun _ _ _ _ _ _ us hl => match us, hl with | [_, _, _, _], _ => rfl) a17 l17 c17 k17,
    D_check_winding := defG_mk X G (fun _ _ _ _ _ _ us hl => match us, hl with | [_, _, _], _ => rfl) a18 l18 c18 k18,
    D_wound_length := defG_mk X G (fun _ _ _ _ _ _ us hl => match us, hl with | [_, _], _ => rfl) a19 l19 c19 k19,
    D_wound_cost := defG_mk X G (fun _ _ _ _ _ _ us hl => match us, hl with | [_, _], _ => rfl) a20 l20 c20 k20,
    D_winding_length := defG_mk X G (fun _ _ _ _ _ _ us hl => match us, hl with | [_, _, _], _ => rfl) a21 l21 c21 k21,
    D_winding_cost := defG_mk X G (fun _ _ _ _ _ _ us hl => match us, hl with | [_, _, _], _ => rfl) a22 l22 c22 k22,
    D_unwound := defG_mk X G (fun _ _ _ _ _ _ us hl => match us, hl with | [_, _, _], _ => rfl) a23 l23 c23 k23,
    D_check_asked := defG_mk X G (fun _ _ _ _ _ _ us hl => match us, hl with | [_, _, _, _], _ => rfl) a24 l24 c24 k24,
    D_costs_ahead := defG_mk X G (fun _ _ _ _ _ _ us hl => match us, hl with | [_, _, _], _ => rfl) a25 l25 c25 k25,
    D_raw_least_cost := defG_mk X G (fun _ _ _ _ _ _ us hl => match us, hl with | [_, _, _, _], _ => rfl) a26 l26 c26 k26,
    D_least_cost := defG_mk X G (fun _ _ _ _ _ _ us hl => match us, hl with | [_, _, _, _], _ => rfl) a27 l27 c27 k27,
    D__law_hand_v09 := defG_mk X G (fun _ _ _ _ _ _ us hl => match us, hl with | [_], _ => rfl) a28 l28 c28 k28,
    D__law_draw_v09 := defG_mk X G (fun _ _ _ _ _ _ us hl => match us, hl with | [_, _], _ => rfl) a29 l29 c29 k29,
    D__law_some := defG_mk X G (fun _ _ _ _ _ _ us hl => match us, hl with | [_, _], _ => rfl) a30 l30 c30 k30,
    D__law_net := defG_mk X G (fun _ _ _ _ _ _ us hl => match us, hl with | [_], _ => rfl) a31 l31 c31 k31,
    D__law_bad_net := defG_mk X G (fun _ _ _ _ _ _ us hl => match us, hl with | [_], _ => rfl) a32 l32 c32 k32,
    D__law_bad_node := defG_mk X G (fun _ _ _ _ _ _ us hl => match us, hl with | [_, _], _ => rfl) a33 l33 c33 k33,
    D__law_walk := defG_mk X G (fun _ _ _ _ _ _ us hl => match us, hl with | [_, _, _, _], _ => rfl) a34 l34 c34 k34,
    D__law_end := defG_mk X G (fun _ _ _ _ _ _ us hl => match us, hl with | [_, _, _], _ => rfl) a35 l35 c35 k35,
    D__law_is_walk := defG_mk X G (fun _ _ _ _ _ _ us hl => match us, hl with | [_, _, _, _], _ => rfl) a36 l36 c36 k36,
    D__law_sum := defG_mk X G (fun _ _ _ _ _ _ us hl => match us, hl with | [_, _, _], _ => rfl) a37 l37 c37 k37,
    D__law_is_v09 := defG_mk X G (fun _ _ _ _ _ _ us hl => match us, hl with | [_, _], _ => rfl) a38 l38 c38 k38,
    D__law_said := defG_mk X G (fun _ _ _ _ _ _ us hl => match us, hl with | [_], _ => rfl) a39 l39 c39 k39,
    D__law_ring := defG_mk X G (fun _ _ _ _ _ _ us hl => match us, hl with | [_, _, _], _ => rfl) a40 l40 c40 k40,
    D__law_winding := defG_mk X G (fun _ _ _ _ _ _ us hl => match us, hl with | [_, _, _], _ => rfl) a41 l41 c41 k41,
    D__law_leads := defG_mk X G (fun _ _ _ _ _ _ us hl => match us, hl with | [_, _, _], _ => rfl) a42 l42 c42 k42,
    D__law_is_winding := defG_mk X G (fun _ _ _ _ _ _ us hl => match us, hl with | [_, _, _, _], _ => rfl) a43 l43 c43 k43,
    D__law_bent := defG_mk X G (fun _ _ _ _ _ _ us hl => match us, hl with | [_, _, _], _ => rfl) a44 l44 c44 k44,
    D__law_are_refused := defG_mk X G (fun _ _ _ _ _ _ us hl => match us, hl with | [_, _, _, _], _ => rfl) a45 l45 c45 k45,
    D__law_is_unwound_right := defG_mk X G (fun _ _ _ _ _ _ us hl => match us, hl with | [_, _, _, _], _ => rfl) a46 l46 c46 k46,
    D__law_is_right := defG_mk X G (fun _ _ _ _ _ _ us hl => match us, hl with | [_], _ => rfl) a47 l47 c47 k47,
    D_law_v09 := defG_mk X G (fun _ _ _ _ _ _ us hl => match us, hl with | [_], _ => rfl) a48 l48 c48 k48,
    z_int := PySem.W.mg_none_of X G z_int,
    z_isinstance := PySem.W.mg_none_of X G z_isinstance,
    z_bool := PySem.W.mg_none_of X G z_bool,
    z_tuple := PySem.W.mg_none_of X G z_tuple,
    z_len := PySem.W.mg_none_of X G z_len,
    z_all := PySem.W.mg_none_of X G z_all,
    z_sum := PySem.W.mg_none_of X G z_sum,
    z_range := PySem.W.mg_none_of X G z_range,
    z_abs := PySem.W.mg_none_of X G z_abs,
    z_enumerate := PySem.W.mg_none_of X G z_enumerate,
    z_repr := PySem.W.mg_none_of X G z_repr,
    z_list := PySem.W.mg_none_of X G z_list,
    c_MOST_LENGTH := ⟨_, PySem.W.mg_of X G c_MOST_LENGTH⟩,
    c_MOST_COST := ⟨_, PySem.W.mg_of X G c_MOST_COST⟩,
    c_MOST_NODES := ⟨_, PySem.W.mg_of X G c_MOST_NODES⟩,
    c_MOST_ARCS := ⟨_, PySem.W.mg_of X G c_MOST_ARCS⟩,
    c_MOST_WALK := ⟨_, PySem.W.mg_of X G c_MOST_WALK⟩,
    c_MOST_ASKED := ⟨_, PySem.W.mg_of X G c_MOST_ASKED⟩,
    x_NoNet := xc_mk X G xa_NoNet xe_NoNet xk_NoNet xs_NoNet xt_NoNet,
    x_NoNode := xc_mk X G xa_NoNode xe_NoNode xk_NoNode xs_NoNode xt_NoNode,
    x_NoWalk := xc_mk X G xa_NoWalk xe_NoWalk xk_NoWalk xs_NoWalk xt_NoWalk,
    x_NoWinding := xc_mk X G xa_NoWinding xe_NoWinding xk_NoWinding xs_NoWinding xt_NoWinding,
    x_NoLength := xc_mk X G xa_NoLength xe_NoLength xk_NoLength xs_NoLength xt_NoLength,
    xa_TooMany := xa_mk X G (fun _ _ _ _ _ _ us hl => match us, hl with | [_, _], _ => rfl) xa_TooMany xL_TooMany xsa_TooMany xs_TooMany xt_TooMany xk_TooMany xi1_TooMany xi2_TooMany xi3_TooMany xl_TooMany xc_TooMany xkf_TooMany,
    xf_TooMany := xf_mk X G xa_TooMany xg1_TooMany xg2_TooMany xs_TooMany xg3_TooMany xi3_TooMany,
    xt := xt_mk [(9, C_NoLength), (12, C_NoNet), (13, C_NoNode), (37, C_NoWalk), (38, C_NoWinding), (41, C_TooMany)] rfl (by simp only [List.forall_mem_cons, List.not_mem_nil, false_imp_iff, implies_true, and_true]; exact ⟨PySem.W.mg_of X G xa_NoLength, PySem.W.mg_of X G xa_NoNet, PySem.W.mg_of X G xa_NoNode, PySem.W.mg_of X G xa_NoWalk, PySem.W.mg_of X G xa_NoWinding, PySem.W.mg_of X G xa_TooMany⟩)
        (by simp only [List.forall_mem_cons, List.not_mem_nil, false_imp_iff, implies_true, and_true]; exact ⟨⟨exm_mk xs_NoLength xi_NoLength xt_NoLength xp_9_9, exm_mk xs_NoNet xi_NoNet xt_NoNet xp_9_12, exm_mk xs_NoNode xi_NoNode xt_NoNode xp_9_13, exm_mk xs_NoWalk xi_NoWalk xt_NoWalk xp_9_37, exm_mk xs_NoWinding xi_NoWinding xt_NoWinding xp_9_38, exm_mk xs_TooMany xi_TooMany xt_TooMany xp_9_41⟩, ⟨exm_mk xs_NoLength xi_NoLength xt_NoLength xp_12_9, exm_mk xs_NoNet xi_NoNet xt_NoNet xp_12_12, exm_mk xs_NoNode xi_NoNode xt_NoNode xp_12_13, exm_mk xs_NoWalk xi_NoWalk xt_NoWalk xp_12_37, exm_mk xs_NoWinding xi_NoWinding xt_NoWinding xp_12_38, exm_mk xs_TooMany xi_TooMany xt_TooMany xp_12_41⟩, ⟨exm_mk xs_NoLength xi_NoLength xt_NoLength xp_13_9, exm_mk xs_NoNet xi_NoNet xt_NoNet xp_13_12, exm_mk xs_NoNode xi_NoNode xt_NoNode xp_13_13, exm_mk xs_NoWalk xi_NoWalk xt_NoWalk xp_13_37, exm_mk xs_NoWinding xi_NoWinding xt_NoWinding xp_13_38, exm_mk xs_TooMany xi_TooMany xt_TooMany xp_13_41⟩, ⟨exm_mk xs_NoLength xi_NoLength xt_NoLength xp_37_9, exm_mk xs_NoNet xi_NoNet xt_NoNet xp_37_12, exm_mk xs_NoNode xi_NoNode xt_NoNode xp_37_13, exm_mk xs_NoWalk xi_NoWalk xt_NoWalk xp_37_37, exm_mk xs_NoWinding xi_NoWinding xt_NoWinding xp_37_38, exm_mk xs_TooMany xi_TooMany xt_TooMany xp_37_41⟩, ⟨exm_mk xs_NoLength xi_NoLength xt_NoLength xp_38_9, exm_mk xs_NoNet xi_NoNet xt_NoNet xp_38_12, exm_mk xs_NoNode xi_NoNode xt_NoNode xp_38_13, exm_mk xs_NoWalk xi_NoWalk xt_NoWalk xp_38_37, exm_mk xs_NoWinding xi_NoWinding xt_NoWinding xp_38_38, exm_mk xs_TooMany xi_TooMany xt_TooMany xp_38_41⟩, ⟨exm_mk xs_NoLength xi_NoLength xt_NoLength xp_41_9, exm_mk xs_NoNet xi_NoNet xt_NoNet xp_41_12, exm_mk xs_NoNode xi_NoNode xt_NoNode xp_41_13, exm_mk xs_NoWalk xi_NoWalk xt_NoWalk xp_41_37, exm_mk xs_NoWinding xi_NoWinding xt_NoWinding xp_41_38, exm_mk xs_TooMany xi_TooMany xt_TooMany xp_41_41⟩⟩),
    L__law_are_refused := defL_mk (c := cc__law_are_refused) (t := ct__law_are_refused) X G a45 l45 rfl (.head _) (lam_uniq (cs := CS) nd_ (.head _)),
    L__law_is_unwound_right := defL_mk (c := cc__law_is_unwound_right) (t := ct__law_is_unwound_right) X G a46 l46 rfl (.tail _ (.head _)) (lam_uniq (cs := CS) nd_ (.tail _ (.head _))) }
  have lawD : DefG K mg "law" s_law_v09 ["script"] := Φ.D_law_v09
  obtain ⟨fd, lk, hb⟩ := bind_of lawD hmg fun _ _ _ _ _ _ us hl => match us, hl with | [_], _ => rfl
  refine ⟨fd, CS, F_law_v09, by
    simp only [CS, List.forall_mem_cons, List.not_mem_nil, false_imp_iff, implies_true, and_true]
    exact ⟨(let z := tab_at Tp X lr__law_are_refused (PySem.W.mg_of X G a45) l45 rfl lc__law_are_refused lv__law_are_refused; ⟨z.2, ln__law_are_refused, z.1⟩), (let z := tab_at Tp X lr__law_is_unwound_right (PySem.W.mg_of X G a46) l46 rfl lc__law_is_unwound_right lv__law_is_unwound_right; ⟨z.2, ln__law_is_unwound_right, z.1⟩)⟩, fun s u => hb s [u] rfl, lt, fun base h1 h2 h3 => ?_⟩
  exact law_end hmg lk (ok_law_v09 h3 Φ)
end K09

set_option Elab.async false
set_option linter.all false
set_option maxRecDepth 100000
namespace Mp
open PySem PyProof.Rows
section
variable {h : Hh} {k : Nat}
theorem lsqS {l : List Val} (hk : k < h.length) : lsq (.ref k) (h.set k (.lst l)) = some l := by
  unfold lsq
  dsimp only
  rw [List.getElem?_set_self hk]
theorem ixS5 {l : List Val} {i : Nat} {v : Val} (hk : k < h.length) (e : l[i]? = some v) : ixP (.ref k) (.int (i : Int)) (h.set k (.lst l)) = .ok v (h.set k (.lst l)) := by
  unfold ixP
  dsimp only
  rw [lsqS hk]
  dsimp only
  rw [L2.atI_nat e]
theorem ixS0 {a b c d e : Val} (hk : k < h.length) : ixP (.ref k) (.int 0) (h.set k (.lst [a, b, c, d, e])) = .ok a (h.set k (.lst [a, b, c, d, e])) := ixS5 (i := 0) hk rfl
theorem ixS1 {a b c d e : Val} (hk : k < h.length) : ixP (.ref k) (.int 1) (h.set k (.lst [a, b, c, d, e])) = .ok b (h.set k (.lst [a, b, c, d, e])) := ixS5 (i := 1) hk rfl
theorem ixS2 {a b c d e : Val} (hk : k < h.length) : ixP (.ref k) (.int 2) (h.set k (.lst [a, b, c, d, e])) = .ok c (h.set k (.lst [a, b, c, d, e])) := ixS5 (i := 2) hk rfl
theorem ixS3 {a b c d e : Val} (hk : k < h.length) : ixP (.ref k) (.int 3) (h.set k (.lst [a, b, c, d, e])) = .ok d (h.set k (.lst [a, b, c, d, e])) := ixS5 (i := 3) hk rfl
theorem ixS4 {a b c d e : Val} (hk : k < h.length) : ixP (.ref k) (.int 4) (h.set k (.lst [a, b, c, d, e])) = .ok e (h.set k (.lst [a, b, c, d, e])) := ixS5 (i := 4) hk rfl
theorem setS {l : List Val} {j : Nat} {z : Int} (hk : k < h.length) (hj : j < l.length) : setP (.ref k) (.int (j : Int)) (.int z) (h.set k (.lst l)) = .ok () (h.set k (.lst (l.set j (.int z)))) := by
  unfold setP
  dsimp only
  rw [List.getElem?_set_self hk]
  dsimp only
  have : L2.ixN l.length (j : Int) = some j := by
    unfold L2.ixN
    rw [if_pos (by omega), if_pos (by omega), Int.toNat_natCast]
  rw [this]
  dsimp only
  rw [if_pos (by unfold Val.bel; rfl), List.set_set]
theorem setS1 {a b c d e : Val} {z : Int} (hk : k < h.length) : setP (.ref k) (.int 1) (.int z) (h.set k (.lst [a, b, c, d, e])) = .ok () (h.set k (.lst [a, .int z, c, d, e])) := setS (j := 1) hk (by simp)
theorem setS2 {a b c d e : Val} {z : Int} (hk : k < h.length) : setP (.ref k) (.int 2) (.int z) (h.set k (.lst [a, b, c, d, e])) = .ok () (h.set k (.lst [a, b, .int z, d, e])) := setS (j := 2) hk (by simp)
theorem setS3 {a b c d e : Val} {z : Int} (hk : k < h.length) : setP (.ref k) (.int 3) (.int z) (h.set k (.lst [a, b, c, d, e])) = .ok () (h.set k (.lst [a, b, c, .int z, e])) := setS (j := 3) hk (by simp)
theorem setS4 {a b c d e : Val} {z : Int} (hk : k < h.length) : setP (.ref k) (.int 4) (.int z) (h.set k (.lst [a, b, c, d, e])) = .ok () (h.set k (.lst [a, b, c, d, .int z])) := setS (j := 4) hk (by simp)
@[simp] theorem int_int (i : Int) (h : Hh) : intP [.int i] h = .ok (.int i) h := rfl
end
theorem div_md {a b : Int} {h : Hh} (q0 : 0 < b) (q : b < 2 ^ 200) : divP (.int a) (.int b) h = .ok (.int (a / b)) h := if_pos ⟨q0, by
  have : b.natAbs < 2 ^ 200 := by omega
  exact Nat.lt_trans ((Nat.log2_lt (by omega)).mpr this) (by decide)⟩
/-- the law's own hand of numbers to draw by -/
structure HandOk (l : List Val) : Prop where
  ex : ∃ (cells : List Int) (i : Nat) (b s c : Int), l = [.lst (cells.map .int), .int (i : Int), .int b, .int s, .int c] ∧ (∀ z ∈ cells, 0 ≤ z) ∧ 0 ≤ b ∧ 0 ≤ s ∧ 0 ≤ c
end Mp
namespace Ev
open PySem PySem.Spec PyProof.Rows Mp
namespace E09
noncomputable def DA : Sv := (sIf (Mp.tAnd (tB (eOp eqP (eOp ixD (eVar 0) (eC (.int 2))) (eC (.int 0)))) (tB (eOp ltP (eOp ixD (eVar 0) (eC (.int 1))) (eCall lenD (aCons (eOp ixD (eVar 0) (eC (.int 0))) aNil))))) (sSeq (sSet 2 (eOp ixD (eOp ixD (eVar 0) (eC (.int 0))) (eOp ixD (eVar 0) (eC (.int 1)))))
  (sSeq (sAsg (gSubD (eVar 0) (eC (.int 1))) (eOp (addP false) (eOp ixD (eVar 0) (eC (.int 1))) (eC (.int 1))))
  (sSeq (sAsg (gSubD (eVar 0) (eC (.int 3))) (eOp modP (eCall intP (aCons (eOp (addP false) (eOp (addP false) (eOp (mulP false) (eOp ixD (eVar 0) (eC (.int 3))) (eC (.int 48271))) (eOp (mulP false) (eVar 2) (eC (.int 40692)))) (eC (.int 611))) aNil)) (eC (.int 2147483629))))
  (sIf (tB (eOp geP (eVar 2) (eOp powP (eC (.int 10)) (eC (.int 18))))) (sAsg (gSubD (eVar 0) (eC (.int 2))) (eVar 2)) sNext)))) sNext)
noncomputable def DB : Sv := (sIf (tB (eOp gtP (eOp ixD (eVar 0) (eC (.int 2))) (eC (.int 0)))) (sSeq (sSet 3 (eOp modP (eCall intP (aCons (eOp ixD (eVar 0) (eC (.int 2))) aNil)) (eVar 1)))
  (sSeq (sAsg (gSubD (eVar 0) (eC (.int 2))) (eOp divP (eOp ixD (eVar 0) (eC (.int 2))) (eVar 1)))
  (sRet (eVar 3)))) sNext)
noncomputable def DC : Sv := (sSeq (sAsg (gSubD (eVar 0) (eC (.int 4))) (eOp (addP false) (eOp ixD (eVar 0) (eC (.int 4))) (eC (.int 1))))
  (sSeq (sSet 4 (eOp modP (eCall intP (aCons (eOp (mulP false) (eCall intP (aCons (eOp (addP false) (eOp ixD (eVar 0) (eC (.int 3))) (eOp (mulP false) (eC (.int 7919)) (eOp ixD (eVar 0) (eC (.int 4))))) aNil)) (eC (.int 48271))) aNil)) (eC (.int 2147483647))))
  (sSeq (sSet 4 (eOp modP (eCall intP (aCons (eOp (mulP false) (eVar 4) (eOp (addP false) (eOp divP (eVar 4) (eC (.int 1013))) (eC (.int 69621)))) aNil)) (eC (.int 2147483647))))
  (sSeq (sSet 4 (eOp modP (eCall intP (aCons (eOp (mulP false) (eVar 4) (eOp (addP false) (eOp divP (eVar 4) (eC (.int 2011))) (eC (.int 40692)))) aNil)) (eC (.int 2147483563))))
  (sRet (eOp modP (eCall intP (aCons (eOp divP (eVar 4) (eC (.int 16))) aNil)) (eVar 1)))))))
theorem draw_split : S__law_draw_v09 = sSeq DA (sSeq DB DC) := rfl
theorem drawA {h : Hh} {k : Nat} {l : List Val} {m : Int} (hk : k < h.length) (ok : HandOk l) : ∃ l' x, HandOk l' ∧ DA [some (.ref k), some (.int m), none, none, none] (h.set k (.lst l)) = .nx [some (.ref k), some (.int m), x, none, none] (h.set k (.lst l')) := by
  obtain ⟨cells, i, b, s, c, rfl, hc, hb, hs, hcc⟩ := ok.ex
  have p1 : ∀ (g : Hh), powP (.int 10) (.int 18) g = .ok (.int 1000000000000000000) g := fun g => by
    show (if (0 : Int) ≤ 18 ∧ (18 : Int) ≤ 1000000 ∧ (10 : Int).natAbs < 2 ^ 64 then R.ok (Val.int (10 ^ (18 : Int).toNat)) g else .bad) = _
    rw [if_pos (by decide)]
    rfl
  have m1 : ∀ (x : Int) (g : Hh), mulP false (.int x) (.int 48271) g = .ok (.int (x * 48271)) g := fun x g => mul_sm (by omega)
  have m1' : ∀ (x : Int) (g : Hh), mulP false (.int x) (.int 40692) g = .ok (.int (x * 40692)) g := fun x g => mul_sm (by omega)
  have m2 : ∀ (x : Int) (g : Hh), modP (.int x) (.int 2147483629) g = .ok (.int (x % 2147483629)) g := fun x g => mod_sm (by omega)
  by_cases q : b = 0
  · subst q
    by_cases q2 : i < cells.length
    · have q3 : (i : Int) < (cells.length : Int) := by omega
      have e1 : ∀ g : Hh, ixP (.lst (cells.map Val.int)) (.int (i : Int)) g = .ok (.int cells[i]) g := fun g => ix_lst (by rw [List.getElem?_map, List.getElem?_eq_getElem q2]; rfl)
      have hz := hc _ (List.getElem_mem q2)
      generalize cells[i] = z at *
      have hmod : 0 ≤ (s * 48271 + z * 40692 + 611) % 2147483629 := Int.emod_nonneg _ (by decide)
      have l1 : ∀ g : Hh, lenD [.lst (cells.map Val.int)] g = .ok (.int (cells.length : Int)) g := fun g => by simp
      generalize hCC : cells.map Val.int = CC at *
      by_cases q4 : (1000000000000000000 : Int) ≤ z
      · refine ⟨_, some (.int z), ⟨⟨cells, i + 1, z, (s * 48271 + z * 40692 + 611) % 2147483629, c, rfl, hc, by omega, hmod, hcc⟩⟩, ?_⟩
        simp -implicitDefEqProofs [DA, ixS0 hk, ixS1 hk, ixS2 hk, ixS3 hk, setS1 hk, setS2 hk, setS3 hk, q3, e1, l1, m1, m1', m2, p1, q4]
        rw [hCC]
      · refine ⟨_, some (.int z), ⟨⟨cells, i + 1, 0, (s * 48271 + z * 40692 + 611) % 2147483629, c, rfl, hc, by omega, hmod, hcc⟩⟩, ?_⟩
        simp -implicitDefEqProofs [DA, ixS0 hk, ixS1 hk, ixS2 hk, ixS3 hk, setS1 hk, setS2 hk, setS3 hk, q3, e1, l1, m1, m1', m2, p1, q4]
        rw [hCC]
    · refine ⟨_, none, ok, ?_⟩
      have q3 : ¬ (i : Int) < (cells.length : Int) := by omega
      have l1 : ∀ g : Hh, lenD [.lst (cells.map Val.int)] g = .ok (.int (cells.length : Int)) g := fun g => by simp
      simp -implicitDefEqProofs [DA, ixS0 hk, ixS1 hk, ixS2 hk, q3]
      try omega
  · refine ⟨_, none, ok, ?_⟩
    simp -implicitDefEqProofs [DA, ixS2 hk, q]
theorem drawB {h : Hh} {k : Nat} {l : List Val} {m : Int} {x : Option Val} (hk : k < h.length) (ok : HandOk l) (hm : 0 < m) (hm2 : m < 2 ^ 200) : (∃ l' d, HandOk l' ∧ 0 ≤ d ∧ d < m ∧ DB [some (.ref k), some (.int m), x, none, none] (h.set k (.lst l)) = .rt (.int d) (h.set k (.lst l'))) ∨
    DB [some (.ref k), some (.int m), x, none, none] (h.set k (.lst l)) = .nx [some (.ref k), some (.int m), x, none, none] (h.set k (.lst l)) := by
  obtain ⟨cells, i, b, s, c, rfl, hc, hb, hs, hcc⟩ := ok.ex
  by_cases q : 0 < b
  · have m2 : ∀ (g : Hh), modP (.int b) (.int m) g = .ok (.int (b % m)) g := fun g => mod_sm hm
    have m3 : ∀ (g : Hh), divP (.int b) (.int m) g = .ok (.int (b / m)) g := fun g => div_md hm hm2
    refine .inl ⟨_, b % m, ⟨⟨cells, i, b / m, s, c, rfl, hc, Int.ediv_nonneg hb (by omega), hs, hcc⟩⟩, Int.emod_nonneg _ (by omega), Int.emod_lt_of_pos _ hm, ?_⟩
    generalize hCC : cells.map Val.int = CC at *
    simp -implicitDefEqProofs [DB, ixS2 hk, setS2 hk, m2, m3, q]
    try rw [hCC]
  · refine .inr ?_
    simp -implicitDefEqProofs [DB, ixS2 hk, q]
theorem drawC {h : Hh} {k : Nat} {l : List Val} {m : Int} {x : Option Val} (hk : k < h.length) (ok : HandOk l) (hm : 0 < m) (hm2 : m < 2 ^ 200) : ∃ l' d, HandOk l' ∧ 0 ≤ d ∧ d < m ∧ DC [some (.ref k), some (.int m), x, none, none] (h.set k (.lst l)) = .rt (.int d) (h.set k (.lst l')) := by
  obtain ⟨cells, i, b, s, c, rfl, hc, hb, hs, hcc⟩ := ok.ex
  have m1 : ∀ (y : Int) (g : Hh), mulP false (.int 7919) (.int y) g = .ok (.int (7919 * y)) g := fun y g => mul_sm' (by omega)
  have m2 : ∀ (y : Int) (g : Hh), mulP false (.int y) (.int 48271) g = .ok (.int (y * 48271)) g := fun y g => mul_sm (by omega)
  have m3 : ∀ (y : Int) (g : Hh), modP (.int y) (.int 2147483647) g = .ok (.int (y % 2147483647)) g := fun y g => mod_sm (by omega)
  have m4 : ∀ (y : Int) (g : Hh), modP (.int y) (.int 2147483563) g = .ok (.int (y % 2147483563)) g := fun y g => mod_sm (by omega)
  have m5 : ∀ (y : Int) (g : Hh), divP (.int y) (.int 1013) g = .ok (.int (y / 1013)) g := fun y g => div_sm (by omega) (by omega)
  have m6 : ∀ (y : Int) (g : Hh), divP (.int y) (.int 2011) g = .ok (.int (y / 2011)) g := fun y g => div_sm (by omega) (by omega)
  have m7 : ∀ (y : Int) (g : Hh), divP (.int y) (.int 16) g = .ok (.int (y / 16)) g := fun y g => div_sm (by omega) (by omega)
  have m8 : ∀ (y : Int) (g : Hh), modP (.int y) (.int m) g = .ok (.int (y % m)) g := fun y g => mod_sm hm
  have m9 : ∀ (y z : Int) (g : Hh), mulP false (.int (y % 2147483647)) (.int z) g = .ok (.int (y % 2147483647 * z)) g := fun y z g => mul_sm' (by
    have h1 := Int.emod_nonneg y (show (2147483647 : Int) ≠ 0 by decide)
    have h2 := Int.emod_lt_of_pos y (show (0 : Int) < 2147483647 by decide)
    omega)
  refine ⟨_, ((((s + 7919 * (c + 1)) * 48271 % 2147483647) * (((s + 7919 * (c + 1)) * 48271 % 2147483647) / 1013 + 69621) % 2147483647) * ((((s + 7919 * (c + 1)) * 48271 % 2147483647) * (((s + 7919 * (c + 1)) * 48271 % 2147483647) / 1013 + 69621) % 2147483647) / 2011 + 40692) % 2147483563) / 16 % m, ⟨⟨cells, i, b, s, c + 1, rfl, hc, hb, hs, by omega⟩⟩, ?_, ?_, ?_⟩
  rotate_left 2
  · generalize hCC : cells.map Val.int = CC at *
    simp -implicitDefEqProofs [DC, ixS3 hk, ixS4 hk, setS4 hk, m1, m2, m3, m4, m5, m6, m7, m8, m9]
    try rw [hCC]
  · exact Int.emod_nonneg _ (by omega)
  · exact Int.emod_lt_of_pos _ hm
theorem draw_ok {h : Hh} {k : Nat} {l : List Val} {m : Int} (e : h[k]? = some (.lst l)) (ok : HandOk l) (hm : 0 < m) (hm2 : m < 2 ^ 200) : ∃ l' d, HandOk l' ∧ 0 ≤ d ∧ d < m ∧ F__law_draw_v09 [.ref k, .int m] h = .ok (.int d) (h.set k (.lst l')) := by
  have hk : k < h.length := (List.getElem?_eq_some_iff.mp e).1
  have eh : h = h.set k (.lst l) := by
    apply List.ext_getElem?
    intro j
    by_cases q : k = j
    · subst q; rw [List.getElem?_set_self hk, e]
    · rw [List.getElem?_set_ne q]
  obtain ⟨l1, x, ok1, eA⟩ := drawA (m := m) hk ok
  have fin : ∀ l2 d, S__law_draw_v09 [some (.ref k), some (.int m), none, none, none] (h.set k (.lst l)) = .rt (.int d) (h.set k (.lst l2)) → F__law_draw_v09 [.ref k, .int m] h = .ok (.int d) (h.set k (.lst l2)) := fun l2 d q => by
    rw [← eh] at q
    exact run_rtH (h1 := h.set k (.lst l2)) q (by unfold Val.bel; rfl) (List.take_of_length_le (by simp))
  rcases drawB (x := x) hk ok1 hm hm2 with ⟨l2, d, ok2, h1, h2, eB⟩ | eB
  · refine ⟨l2, d, ok2, h1, h2, fin l2 d ?_⟩
    rw [draw_split, x_seq, eA, SR.bnd_nx, x_seq, eB]
    rfl
  · obtain ⟨l2, d, ok2, h1, h2, eC⟩ := drawC (x := x) hk ok1 hm hm2
    refine ⟨l2, d, ok2, h1, h2, fin l2 d ?_⟩
    rw [draw_split, x_seq, eA, SR.bnd_nx, x_seq, eB, SR.bnd_nx, eC]
end E09
end Ev

set_option Elab.async false
set_option linter.all false
set_option maxRecDepth 100000
namespace Ev
open PySem PySem.Spec PyProof.Rows Mp
namespace E09
theorem cut_take (l : List Val) (m : Nat) : cutL l none (some (m : Int)) = l.take m := by
  unfold cutL
  rw [HT.sIx_none, HT.sIx_nat]
  simp
theorem get_top (h : Hh) (x : Ob) : (h ++ [x])[h.length]? = some x := by simp
theorem hand_ok {ns : List Int} {h : Hh} (hl : ns.length ≤ 63) : ∃ l, HandOk l ∧ F__law_hand_v09 [.fz (ns.map Val.int)] h = .ok (.ref h.length) (h ++ [.lst l]) := by
  have hz : 1000000 ≤ sizeLine := sz_le (by omega)
  have hz5 : 5 ≤ sizeLine := by omega
  have p1 : ∀ (g : Hh), powP (.int 10) (.int 36) g = .ok (.int 1000000000000000000000000000000000000) g := fun g => by
    show (if (0 : Int) ≤ 36 ∧ (36 : Int) ≤ 1000000 ∧ (10 : Int).natAbs < 2 ^ 64 then R.ok (Val.int (10 ^ (36 : Int).toNat)) g else .bad) = _
    rw [if_pos (by decide)]
    rfl
  have m1 : ∀ (x : Int) (g : Hh), modP (.int x) (.int 1000000000000000000000000000000000000) g = .ok (.int (x % 1000000000000000000000000000000000000)) g := fun x g => mod_sm (by decide)
  have one : eComp false [2] (iSeq (eSl false (eVar 0) oNone (oSome (eC (.int 63))))) (gName 2) tTrue (eOp modP (eCall intP (aCons (eCall absP (aCons (eCall intP (aCons (eVar 2) aNil)) aNil)) aNil)) (eOp powP (eC (.int 10)) (eC (.int 36)))) [some (.fz (ns.map Val.int)), none, none] h = .ok (.lst ((ns.map fun i => (if i < 0 then -i else i) % 1000000000000000000000000000000000000).map Val.int)) h := by
    refine x_comp (iv := ⟨ns.map Val.int, []⟩) (h1 := h) (h2 := h) ?_ ?_
    · have : slP false (.fz (ns.map Val.int)) none (some 63) h = .ok (.lst (ns.map Val.int)) h := by
        show mk false (cutL (ns.map Val.int) none (some (63 : Int))) h = _
        have := cut_take (ns.map Val.int) 63
        rw [show ((63 : Nat) : Int) = 63 from rfl] at this
        rw [this, List.take_of_length_le (by simpa using hl)]
        rfl
      simp -implicitDefEqProofs [this, seqI, lsq, chkOf]
    · refine (comp_map (h := h) (f := fun v => match v with | .int i => .int ((if i < 0 then -i else i) % 1000000000000000000000000000000000000) | _ => .non) (ns.map Val.int) [] (fun v hv => ?_) (by simp; omega)).trans ?_
      · obtain ⟨i, hi, rfl⟩ := List.mem_map.mp hv
        refine ⟨_, rfl, ?_⟩
        simp -implicitDefEqProofs [wipeE, absP, p1, m1]
      · rw [List.nil_append, List.map_map, List.map_map]
        rfl
  refine ⟨[.lst ((ns.map fun i => (if i < 0 then -i else i) % 1000000000000000000000000000000000000).map Val.int), .int 0, .int 0, .int (8117 + 11 * (ns.length : Int)), .int 0], ⟨⟨ns.map fun i => (if i < 0 then -i else i) % 1000000000000000000000000000000000000, 0, 0, 8117 + 11 * (ns.length : Int), 0, rfl, fun z hz => ?_, by decide, by omega, by decide⟩⟩, ?_⟩
  · obtain ⟨i, hi, rfl⟩ := List.mem_map.mp hz
    exact Int.emod_nonneg _ (by decide)
  · have m2 : mulP false (.int 11) (.int (ns.length : Int)) h = .ok (.int (11 * (ns.length : Int))) h := mul_sm' (by omega)
    have l1 : lenD [.lst ((ns.map fun i => (if i < 0 then -i else i) % 1000000000000000000000000000000000000).map Val.int)] h = .ok (.int (ns.length : Int)) h := by simp
    have bl : belL h.length ((ns.map fun i => (if i < 0 then -i else i) % 1000000000000000000000000000000000000).map Val.int) = true := belL_map fun _ _ => by unfold Val.bel; rfl
    generalize ((ns.map fun i => (if i < 0 then -i else i) % 1000000000000000000000000000000000000).map Val.int) = Z at *
    have e : S__law_hand_v09 ([Val.fz (ns.map Val.int)].map some ++ List.replicate (3 - [Val.fz (ns.map Val.int)].length) none) h = .rt (.ref h.length) (h ++ [.lst [.lst Z, .int 0, .int 0, .int (8117 + 11 * (ns.length : Int)), .int 0]]) := by
      generalize ns.map Val.int = Z3 at *
      simp -implicitDefEqProofs [S__law_hand_v09, one, m2, l1, hz5, mk]
    unfold F__law_hand_v09 runFnM
    rw [e]
    show finM h (.ref h.length) _ = _
    unfold finM
    dsimp only
    rw [if_pos (Nat.le_refl _), get_top]
    dsimp only
    rw [if_pos (by simp [belL, Val.bel, bl]), List.take_left' rfl]
/-- a draw below a natural -/
theorem drawN {h : Hh} {k : Nat} {l : List Val} {m : Nat} (e : h[k]? = some (.lst l)) (ok : HandOk l) (hm : 0 < m) (hm2 : m < 2000000) : ∃ l' d, HandOk l' ∧ d < m ∧ F__law_draw_v09 [.ref k, .int (m : Int)] h = .ok (.int (d : Nat)) (h.set k (.lst l')) := by
  obtain ⟨l', d, ok', h1, h2, e1⟩ := draw_ok e ok (m := (m : Int)) (by omega) (by omega)
  refine ⟨l', d.toNat, ok', by omega, ?_⟩
  rw [e1, Int.toNat_of_nonneg h1]
/-- one of some things -/
theorem some_ok {h : Hh} {k : Nat} {l : List Val} {t : List Val} (e : h[k]? = some (.lst l)) (ok : HandOk l) (ht : 0 < t.length) (ht2 : t.length < 2000000) (hb : ∀ v ∈ t, v.pl) : ∃ l' v, HandOk l' ∧ v ∈ t ∧ F__law_some [.ref k, .lst t] h = .ok v (h.set k (.lst l')) := by
  obtain ⟨l', d, ok', h1, e1⟩ := drawN e ok ht ht2
  refine ⟨l', t[d], ok', List.getElem_mem h1, run_rtH (h1 := h.set k (.lst l')) ?_ (Val.pl.bel (hb _ (List.getElem_mem h1)) _) (List.take_of_length_le (by simp))⟩
  have e2 : ∀ g : Hh, ixP (.lst t) (.int (d : Int)) g = .ok t[d] g := fun g => ix_lst (by rw [List.getElem?_eq_getElem h1])
  simp -implicitDefEqProofs [S__law_some, e1, e2]
end E09
end Ev

set_option Elab.async false
set_option linter.all false
set_option maxRecDepth 100000
namespace Ev
open PySem PySem.Spec PyProof.Rows L2 Mp
theorem is_integer_ok {v : Val} {h : Hh} (hv : v.thing = true) : F_is_integer [v] h = .ok (.bl v.isInt) h := by
  refine run_rt (h1 := h) ?_ rfl List.take_length
  cases v <;> simp -implicitDefEqProofs [S_is_integer, isiP, tyOfV, isTy] at hv ⊢
theorem is_within_ok {v : Val} {lo hi : Int} {h : Hh} (hv : v.thing = true) : F_is_within [v, .int lo, .int hi] h = .ok (.bl (v.isIn lo hi)) h := by
  refine run_rt (h1 := h) ?_ rfl List.take_length
  cases v <;> simp -implicitDefEqProofs [S_is_within, is_integer_ok, cmpP] at hv ⊢
  split <;> simp_all <;> omega
theorem is_number_ok {v : Val} {h : Hh} (hv : v.thing = true) : F_is_number [v] h = .ok (.bl v.isNum) h := by
  refine run_rt (h1 := h) ?_ rfl List.take_length
  cases v <;> simp -implicitDefEqProofs [S_is_number, is_integer_ok, cmpP] at hv ⊢
theorem is_sized_ok {v : Val} {lo hi : Int} {h : Hh} (hv : v.thing = true) : F_is_sized [v, .int lo, .int hi] h = .ok (.bl (v.sized lo hi)) h := by
  refine run_rt (h1 := h) ?_ rfl List.take_length
  cases v <;> simp -implicitDefEqProofs [S_is_sized, isiP, tyOfV, isTy, cmpP, lenP] at hv ⊢
  split <;> simp_all <;> omega
end Ev

set_option Elab.async false
set_option linter.all false
set_option maxRecDepth 100000
namespace Ev
open PySem PySem.Spec PyProof.Rows Mp
namespace E09
structure Arc where
  (u v l c : Nat)
  deriving DecidableEq
structure Net where
  (N : Nat) (A : List Arc)
def encArc (a : Arc) : Val := .tup [.int (a.u : Int), .int (a.v : Int), .int (a.l : Int), .int (a.c : Int)]
def encNet (n : Net) : Val := .tup [.int (n.N : Int), .tup (n.A.map encArc)]
structure Net.Ok (n : Net) : Prop where
  n1 : 1 ≤ n.N
  n2 : n.N ≤ 4
  a : n.A.length ≤ 12
  arcs : ∀ a ∈ n.A, a.u < n.N ∧ a.v < n.N ∧ 1 ≤ a.l ∧ a.l ≤ 3 ∧ a.c ≤ 99
  nd : n.A.Nodup
def arcV (v : Val) (m : Int) : Bool := match v with
  | .tup [a, b, c, d] => a.isIn 0 (m - 1) && b.isIn 0 (m - 1) && c.isIn 1 6 && d.isIn 0 99
  | _ => false
@[simp] theorem ix_t2 (a b c : Val) (l : List Val) (h : Hh) : ixP (.tup (a :: b :: c :: l)) (.int 2) h = .ok c h := ix_tup (i := 2) rfl
@[simp] theorem ix_t3 (a b c d : Val) (l : List Val) (h : Hh) : ixP (.tup (a :: b :: c :: d :: l)) (.int 3) h = .ok d h := ix_tup (i := 3) rfl
@[simp] theorem sub_int (a b : Int) (h : Hh) : subP (.int a) (.int b) h = .ok (.int (a - b)) h := rfl
theorem is_arc_ok {v : Val} {m : Int} {h : Hh} (hd : v.data = true) : F_is_arc [v, .int m] h = .ok (.bl (arcV v m)) h := by
  have hv := data_thing hd
  refine run_rt (h1 := h) ?_ rfl List.take_length
  cases v with
  | tup l =>
    rcases l with _ | ⟨a, _ | ⟨b, _ | ⟨c, _ | ⟨d, _ | ⟨e, l⟩⟩⟩⟩⟩
    · simp -implicitDefEqProofs [S_is_arc, is_sized_ok, arcV]
    · simp -implicitDefEqProofs [S_is_arc, is_sized_ok, arcV]
    · simp -implicitDefEqProofs [S_is_arc, is_sized_ok, arcV]
    · simp -implicitDefEqProofs [S_is_arc, is_sized_ok, arcV]
    · have ha := data_thing (data_tup hd a (by simp))
      have hb := data_thing (data_tup hd b (by simp))
      have hc := data_thing (data_tup hd c (by simp))
      have hd' := data_thing (data_tup hd d (by simp))
      cases q1 : a.isIn 0 (m - 1) <;> cases q2 : b.isIn 0 (m - 1) <;> cases q3 : c.isIn 1 6 <;> cases q4 : d.isIn 0 99 <;> simp -implicitDefEqProofs [S_is_arc, is_sized_ok, ha, hb, hc, hd', is_within_ok, arcV, q1, q2, q3, q4]
    · have e : ¬ ((l.length : Int) + 1 + 1 + 1 + 1 + 1 ≤ 4) := by omega
      simp -implicitDefEqProofs [S_is_arc, is_sized_ok, e, arcV]
  | ty t => simp at hv
  | fn t => simp at hv
  | _ => simp -implicitDefEqProofs [S_is_arc, is_sized_ok, arcV]
/-! the dict of a net's arcs -/
def arcK (a : Arc) : DK := .tup [.inl (a.u : Int), .inl (a.v : Int), .inl (a.l : Int), .inl (a.c : Int)]
theorem arc_dk (a : Arc) : (encArc a).dk = some (arcK a) := rfl
theorem arcK_inj {a b : Arc} (e : arcK a = arcK b) : a = b := by
  unfold arcK at e
  injection e with e
  cases a; cases b
  simp at e
  simp
  omega
theorem compD_arcs {h : Hh} {tg : Gv} {ek ev : Ev} {env : Mp.Env} (hb : ∀ a : Arc, ∃ e1, tg (encArc a) env h = .ok e1 h ∧ ek e1 h = .ok (encArc a) h ∧ ev e1 h = .ok (.bl true) h) :
    ∀ (A B : List Arc) (vs : List Val), (B ++ A).Nodup → (B ++ A).length ≤ 1000 → ∃ ws, compD tg tTrue ek ev [] (A.map encArc) (B.map arcK) vs env h = .ok ((B ++ A).map arcK, ws) h
  | [], B, vs, _, _ => ⟨vs, by rw [List.map_nil, compD, if_pos (chk0 h), List.append_nil]⟩
  | a :: A, B, vs, nd, hl => by
    obtain ⟨e1, h1, h2, h3⟩ := hb a
    have nin : arcK a ∉ B.map arcK := fun hm => by
      obtain ⟨b, hb1, hb2⟩ := List.mem_map.mp hm
      have := arcK_inj hb2
      subst this
      rw [List.nodup_append] at nd
      exact nd.2.2 b hb1 b List.mem_cons_self rfl
    have ok : okK (B.map arcK) (arcK a) = true := by
      unfold okK
      rw [List.all_eq_true]
      intro k hk
      obtain ⟨b, _, rfl⟩ := List.mem_map.mp hk
      rfl
    have hz : (B.map arcK).length < sizeLine := by
      have := sz_le (n := 1000000) (by omega)
      rw [List.length_append] at hl
      rw [List.length_map]
      omega
    obtain ⟨ws, ih⟩ := compD_arcs hb A (B ++ [a]) (dputV (B.map arcK) vs (arcK a) (.bl true)) (by simpa using nd) (by simpa using hl)
    refine ⟨ws, ?_⟩
    rw [List.map_cons, compD, if_pos (chk0 h), h1]
    dsimp only
    rw [x_tTrue]
    dsimp only
    rw [h2]
    dsimp only
    rw [h3]
    dsimp only
    rw [arc_dk]
    dsimp only
    rw [if_pos ⟨ok, hz⟩, dputK, if_neg nin]
    rw [List.map_append, List.append_assoc] at ih
    exact ih
theorem data_arc (a : Arc) : (encArc a).data = true := by unfold encArc Val.data; rfl
theorem arcV_ok {n : Net} (ok : n.Ok) {a : Arc} (ha : a ∈ n.A) : arcV (encArc a) (n.N : Int) = true := by
  obtain ⟨h1, h2, h3, h4, h5⟩ := ok.arcs a ha
  unfold arcV encArc
  simp [Val.isIn]
  omega
theorem all_true {α : Type} (l : List α) (h : Hh) : allP [.lst (l.map fun _ => Val.bl true)] h = .ok (.bl true) h := by
  unfold allP lsq
  dsimp only
  have : blsOf (l.map fun _ => Val.bl true) = some (l.map fun _ => true) := by
    induction l with
    | nil => rfl
    | cons a l ih => rw [List.map_cons, blsOf, ih]; rfl
  rw [this]
  simp
theorem is_net_ok {n : Net} (ok : n.Ok) {h : Hh} : F_is_net [encNet n] h = .ok (.bl true) h := by
  refine run_rt (h1 := h) ?_ rfl List.take_length
  have hl := ok.a
  have h1 := ok.n1
  have h2 := ok.n2
  have i1 : Val.isIn 1 8 (.int (n.N : Int)) = true := by simp [Val.isIn]; omega
  have i2 : Val.sized 0 20 (.tup (n.A.map encArc)) = true := by simp [Val.sized]; omega
  have i3 : Val.sized 2 2 (.tup [.int (n.N : Int), .tup (n.A.map encArc)]) = true := by simp [Val.sized]
  have c1 : eComp false [1] (iSeq (eOp ixD (eVar 0) (eC (.int 1)))) (gName 1) tTrue (eFn F_is_arc (aCons (eVar 1) (aCons (eOp ixD (eVar 0) (eC (.int 0))) aNil))) [some (encNet n), none] h = .ok (.lst (n.A.map fun _ => Val.bl true)) h := by
    refine compE encArc (fun _ => Val.bl true) n.A ?_ (by omega) fun a ha => ⟨_, rfl, ?_⟩
    · simp -implicitDefEqProofs [encNet, seqI, lsq, chkOf]
    · have := is_arc_ok (v := encArc a) (m := (n.N : Int)) (h := h) (data_arc a)
      rw [arcV_ok ok ha] at this
      generalize encArc a = x at *
      simp -implicitDefEqProofs [encNet, wipeE, this]
  obtain ⟨ws, c2⟩ := compD_arcs (h := h) (tg := gName 1) (ek := eVar 1) (ev := eC (.bl true)) (env := wipeE [some (encNet n), none] [1]) (fun a => ⟨_, rfl, by simp [wipeE], by simp⟩) n.A [] [] (by simpa using ok.nd) (by simp; omega)
  have c3 : eDComp false [1] (iSeq (eOp ixD (eVar 0) (eC (.int 1)))) (gName 1) tTrue (eVar 1) (eC (.bl true)) [some (encNet n), none] h = .ok (.dic (n.A.map arcK) ws) h := by
    unfold eDComp
    have : iSeq (eOp ixD (eVar 0) (eC (.int 1))) [some (encNet n), none] h = .ok ⟨n.A.map encArc, []⟩ h := by
      simp -implicitDefEqProofs [encNet, seqI, lsq, chkOf]
    rw [this]
    show (match compD _ _ _ _ [] (n.A.map encArc) [] [] _ h with | .ok acc h2 => mkD false acc.1 acc.2 h2 | _ => .bad) = _
    have c2' := c2
    rw [List.map_nil, List.nil_append] at c2'
    rw [c2']
    rfl
  have a1 := all_true n.A h
  generalize hC : (n.A.map fun _ => Val.bl true) = C at *
  generalize hL : n.A.map arcK = L at *
  have hLn : (L.length : Int) = (n.A.length : Int) := by rw [← hL, List.length_map]
  generalize hM : (n.A.map encArc) = M at *
  have hMn : (M.length : Int) = (n.A.length : Int) := by rw [← hM, List.length_map]
  unfold encNet at c1 c3 ⊢
  rw [hM] at c1 c3 ⊢
  have e1 : ∀ g : Hh, eqP (.int (L.length : Int)) (.int (M.length : Int)) g = .ok (.bl true) g := fun g => by
    rw [hLn, hMn]
    have := eq_pd pd_int (by decide) (n.A.length : Int) (n.A.length : Int) (h := g)
    simpa using this
  simp -implicitDefEqProofs [S_is_net, is_sized_ok, is_within_ok, i1, i2, i3, c1, c3, a1, e1]
end E09
end Ev

set_option Elab.async false
set_option linter.all false
set_option maxRecDepth 100000
namespace Ev
open PySem PySem.Spec PyProof.Rows Mp
namespace E09
theorem eq_ii (a b : Int) (h : Hh) : eqP (.int a) (.int b) h = .ok (.bl (decide (a = b))) h := eq_pd pd_int (by decide) a b
theorem ne_ii (a b : Int) (h : Hh) : neP (.int a) (.int b) h = .ok (.bl (!decide (a = b))) h := ne_pd pd_int (by decide) a b
def encO : Option Nat → Val
  | none => .non
  | some x => .int (x : Int)
theorem check_net_ok {n : Net} (ok : n.Ok) {h : Hh} : F_check_net [encNet n] h = .ok .non h := by
  refine run_nx (h1 := h) (en := [some (encNet n)]) ?_ List.take_length
  have := is_net_ok ok (h := h)
  generalize encNet n = x at *
  simp -implicitDefEqProofs [S_check_net, this]
theorem check_net_bad {v : Val} {h : Hh} (e : F_is_net [v] h = .ok (.bl false) h) : F_check_net [v] h = .exc ⟨12, []⟩ h := by
  refine run_exc (h1 := h) (en := [some v]) ?_ List.take_length
  simp -implicitDefEqProofs [S_check_net, e]
theorem check_node_ok {n : Net} (ok : n.Ok) {b : Nat} (hb : b < n.N) {h : Hh} : F_check_node [encNet n, .int (b : Int)] h = .ok .non h := by
  refine run_nx (h1 := h) (en := [some (encNet n), some (.int (b : Int))]) ?_ List.take_length
  have e := check_net_ok ok (h := h)
  have i1 : Val.isIn 0 ((n.N : Int) - 1) (.int (b : Int)) = true := by simp [Val.isIn]; omega
  unfold encNet at *
  generalize (n.A.map encArc) = M at *
  simp -implicitDefEqProofs [S_check_node, e, is_within_ok, i1]
theorem check_node_bad {n : Net} (ok : n.Ok) {v : Val} {h : Hh} (hv : v.thing = true) (hn : v.isIn 0 ((n.N : Int) - 1) = false) : F_check_node [encNet n, v] h = .exc ⟨13, []⟩ h := by
  refine run_exc (h1 := h) (en := [some (encNet n), some v]) ?_ List.take_length
  have e := check_net_ok ok (h := h)
  unfold encNet at *
  generalize (n.A.map encArc) = M at *
  simp -implicitDefEqProofs [S_check_node, e, is_within_ok, hn, hv]
theorem check_node_badnet {v w : Val} {h : Hh} (e : F_is_net [v] h = .ok (.bl false) h) : F_check_node [v, w] h = .exc ⟨12, []⟩ h := by
  refine run_exc (h1 := h) (en := [some v, some w]) ?_ List.take_length
  simp -implicitDefEqProofs [S_check_node, check_net_bad e]
theorem check_ends_ok {n : Net} (ok : n.Ok) {b e : Nat} (hb : b < n.N) (he : e < n.N) {h : Hh} : F_check_ends [encNet n, .int (b : Int), .int (e : Int)] h = .ok .non h := by
  refine run_nx (h1 := h) (en := [some (encNet n), some (.int (b : Int)), some (.int (e : Int))]) ?_ List.take_length
  have e1 := check_node_ok ok hb (h := h)
  have e2 := check_node_ok ok he (h := h)
  generalize encNet n = x at *
  simp -implicitDefEqProofs [S_check_ends, e1, e2]
theorem check_ends_bad {n : Net} (ok : n.Ok) {v w : Val} {h : Hh} (hv : v.thing = true) (hn : v.isIn 0 ((n.N : Int) - 1) = false) : F_check_ends [encNet n, v, w] h = .exc ⟨13, []⟩ h := by
  refine run_exc (h1 := h) (en := [some (encNet n), some v, some w]) ?_ List.take_length
  have e1 := check_node_bad ok hv hn (h := h)
  generalize encNet n = x at *
  simp -implicitDefEqProofs [S_check_ends, e1]
/-! walks -/
def stepI (n : Net) (here : Nat) (i : Int) : Option Nat := if 0 ≤ i then match n.A[i.toNat]? with
  | some a => if a.u = here then some a.v else none
  | none => none
  else none
def wend (n : Net) : Nat → List Int → Option Nat
  | b, [] => some b
  | b, i :: w => match stepI n b i with
    | some c => wend n c w
    | none => none
theorem ix_arc {n : Net} {i : Int} {a : Arc} (h0 : 0 ≤ i) (e : n.A[i.toNat]? = some a) (g : Hh) : ixP (.tup (n.A.map encArc)) (.int i) g = .ok (encArc a) g := by
  have := ix_tup (l := n.A.map encArc) (i := i.toNat) (v := encArc a) (h := g) (by rw [List.getElem?_map, e]; rfl)
  rwa [Int.toNat_of_nonneg h0] at this
theorem raw_loop {n : Net} {b wk : Option Val} {h : Hh} : ∀ (w : List Int) (x5 : Option Val) (here : Nat), ∃ y5,
    forL (gName 5) B_raw_end_0 [] (w.map Val.int) [some (encNet n), b, wk, some (.int (here : Int)), some (.int ((n.A.length : Int) - 1)), x5] h = match wend n here w with
      | none => .rt .non h
      | some e => .nx [some (encNet n), b, wk, some (.int (e : Int)), some (.int ((n.A.length : Int) - 1)), y5] h
  | [], x5, here => ⟨x5, by rw [List.map_nil, forL_nil]; rfl⟩
  | i :: w, x5, here => by
    rw [List.map_cons, forL_cons]
    show ∃ y5, (lift (R.ok _ h) _ _) = _
    rw [wend]
    have stepE : ∃ z5, B_raw_end_0 ([some (encNet n), b, wk, some (.int (here : Int)), some (.int ((n.A.length : Int) - 1)), x5].set 5 (some (.int i))) h = match stepI n here i with
        | none => .rt .non h
        | some e => .nx [some (encNet n), b, wk, some (.int (e : Int)), some (.int ((n.A.length : Int) - 1)), z5] h := by
      by_cases h0 : 0 ≤ i
      · cases q : n.A[i.toNat]? with
        | none =>
          have hge : n.A.length ≤ i.toNat := List.getElem?_eq_none_iff.mp q
          have i1 : Val.isIn 0 ((n.A.length : Int) - 1) (.int i) = false := by simp [Val.isIn]; omega
          refine ⟨none, ?_⟩
          have es : stepI n here i = none := by unfold stepI; rw [if_pos h0, q]
          rw [es]
          unfold encNet
          generalize (n.A.map encArc) = M at *
          simp -implicitDefEqProofs [B_raw_end_0, is_within_ok, i1]
        | some a =>
          have hlt := (List.getElem?_eq_some_iff.mp q).1
          have i1 : Val.isIn 0 ((n.A.length : Int) - 1) (.int i) = true := by simp [Val.isIn]; omega
          have e1 := ix_arc (n := n) h0 q
          by_cases hu : a.u = here
          · have es : stepI n here i = some a.v := by unfold stepI; rw [if_pos h0, q]; simp [hu]
            refine ⟨none, ?_⟩
            rw [es]
            unfold encNet
            generalize (n.A.map encArc) = M at *
            unfold encArc at e1
            simp -implicitDefEqProofs [B_raw_end_0, is_within_ok, i1, e1, ne_ii, hu]
          · have es : stepI n here i = none := by unfold stepI; rw [if_pos h0, q]; simp [hu]
            have hu' : ¬ ((a.u : Int) = (here : Int)) := by omega
            refine ⟨none, ?_⟩
            rw [es]
            unfold encNet
            generalize (n.A.map encArc) = M at *
            unfold encArc at e1
            simp -implicitDefEqProofs [B_raw_end_0, is_within_ok, i1, e1, ne_ii, hu']
      · have i1 : Val.isIn 0 ((n.A.length : Int) - 1) (.int i) = false := by simp [Val.isIn]; omega
        refine ⟨none, ?_⟩
        have es : stepI n here i = none := by unfold stepI; rw [if_neg h0]
        rw [es]
        unfold encNet
        generalize (n.A.map encArc) = M at *
        simp -implicitDefEqProofs [B_raw_end_0, is_within_ok, i1]
    obtain ⟨z5, hz⟩ := stepE
    cases q : stepI n here i with
    | none =>
      rw [q] at hz
      refine ⟨none, ?_⟩
      rw [lift_ok, hz]
    | some e =>
      rw [q] at hz
      obtain ⟨y5, hy⟩ := raw_loop w z5 e
      refine ⟨y5, ?_⟩
      rw [lift_ok, hz]
      exact hy
theorem raw_end_ok {n : Net} (b : Nat) (w : List Int) {h : Hh} : F_raw_end [encNet n, .int (b : Int), .tup (w.map Val.int)] h = .ok (encO (wend n b w)) h := by
  refine run_rt (h1 := h) ?_ (by cases wend n b w <;> rfl) List.take_length
  obtain ⟨y5, hy⟩ := raw_loop (n := n) (b := some (.int (b : Int))) (wk := some (.tup (w.map Val.int))) (h := h) w none b
  have l1 : ((n.A.map encArc).length : Int) = (n.A.length : Int) := by rw [List.length_map]
  have is1 : ∀ (l : List Val) (g : Hh), isiP [.tup l, .ty .tup] g = .ok (.bl true) g := fun l g => by simp [isiP, tyOfV, isTy]
  have sq : ∀ (l : List Val) (g : Hh), seqI (.tup l) g = .ok ⟨l, []⟩ g := fun l g => by simp [seqI, lsq, chkOf]
  unfold encNet at *
  generalize (n.A.map encArc) = M at *
  generalize (w.map Val.int) = W at *
  simp -implicitDefEqProofs [S_raw_end, x_for, is1, sq, l1, hy]
  cases wend n b w <;> simp [encO]
theorem raw_end_no {n : Val} {b v : Val} {h : Hh} (hv : isiP [v, .ty .tup] h = .ok (.bl false) h) : F_raw_end [n, b, v] h = .ok .non h := by
  refine run_rt (h1 := h) ?_ rfl List.take_length
  simp -implicitDefEqProofs [S_raw_end, hv]
end E09
end Ev

set_option Elab.async false
set_option linter.all false
set_option maxRecDepth 100000
namespace Ev
open PySem PySem.Spec PyProof.Rows Mp
namespace E09
/-! windings -/
def encW (w : List Int) : Val := .tup (w.map Val.int)
theorem eq_oi (a : Option Nat) (b : Int) (h : Hh) : eqP (encO a) (.int b) h = .ok (.bl (decide (a.map Int.ofNat = some b))) h := by
  have := eq_pd pd_optInt (by decide) (a.map Int.ofNat) (some b) (h := h)
  cases a <;> exact this
theorem ne_oi (a : Option Nat) (b : Int) (h : Hh) : neP (encO a) (.int b) h = .ok (.bl (!decide (a.map Int.ofNat = some b))) h := by
  have := ne_pd pd_optInt (by decide) (a.map Int.ofNat) (some b) (h := h)
  cases a <;> exact this
theorem eq_ww (a b : List Int) (h : Hh) : eqP (encW a) (encW b) h = .ok (.bl (decide (a = b))) h := eq_pd (pd_list pd_int) (by decide) a b
theorem isN_o (a : Option Nat) (h : Hh) : isNP (encO a) .non h = .ok (.bl a.isNone) h := by cases a <;> rfl
@[simp] theorem encO_n : encO none = .non := rfl
@[simp] theorem encO_s (x : Nat) : encO (some x) = .int (x : Int) := rfl
/-- where a winding ends -/
def windE (n : Net) (b : Nat) (A G : List Int) (t : Int) (B : List Int) : Option Nat := if 0 ≤ t then match wend n b A with
  | none => none
  | some m => if wend n m G = some m then if G = [] ∧ 0 < t then none else wend n m B else none
  else none
theorem winding_end_ok {n : Net} (b : Nat) (A G : List Int) (t : Int) (B : List Int) {h : Hh} : F_winding_end [encNet n, .int (b : Int), .tup [encW A, encW G, .int t, encW B]] h = .ok (encO (windE n b A G t B)) h := by
  refine run_rt (h1 := h) ?_ (by cases windE n b A G t B <;> rfl) List.take_length
  have i1 : Val.sized 4 4 (.tup [encW A, encW G, .int t, encW B]) = true := by simp [Val.sized]
  have r1 : F_raw_end [encNet n, .int (b : Int), encW A] h = _ := raw_end_ok (n := n) b A (h := h)
  have r2 : ∀ m : Nat, F_raw_end [encNet n, .int (m : Int), encW G] h = .ok (encO (wend n m G)) h := fun m : Nat => raw_end_ok (n := n) m G (h := h)
  have r3 : ∀ m : Nat, F_raw_end [encNet n, .int (m : Int), encW B] h = .ok (encO (wend n m B)) h := fun m : Nat => raw_end_ok (n := n) m B (h := h)
  have q1 := eq_ww G [] h
  unfold windE
  generalize encNet n = N at *
  rw [show encW [] = Val.tup [] from rfl] at q1
  have q2 : ∀ i : Nat, neP (encO (wend n i G)) (.int (i : Int)) h = .ok (.bl (!decide (wend n i G = some i))) h := fun i => by
    rw [ne_oi]
    congr 3
    cases wend n i G with
    | none => simp
    | some x => simp; omega
  have g1 : cmpP (fun a b => decide (b < a)) = cmpP (fun a b => decide (b < a)) := rfl
  generalize encW A = VA at *
  generalize encW G = VR at *
  generalize encW B = VB at *
  by_cases h0 : 0 ≤ t
  · have n1 : Val.isNum (.int t) = true := by simp [Val.isNum, h0]
    rw [if_pos h0]
    cases hA : wend n b A with
    | none =>
      rw [hA] at r1
      have r1' : F_raw_end [N, Val.int ↑b, VA] h = .ok .non h := r1
      have z1 : isNP .non .non h = .ok (.bl true) h := rfl
      simp -implicitDefEqProofs [S_winding_end, is_sized_ok, is_number_ok, i1, n1, r1', z1, encO_n]
    | some m =>
      rw [hA] at r1
      have r1' : F_raw_end [N, Val.int ↑b, VA] h = .ok (.int (m : Int)) h := r1
      have z1 : isNP (.int (m : Int)) .non h = .ok (.bl false) h := rfl
      dsimp only
      by_cases hR : wend n m G = some m
      · rw [if_pos hR]
        have q2' := q2 m
        rw [hR] at q2'
        have r2' := r2 m
        rw [hR] at r2'
        by_cases hR0 : G = []
        · have q1' : eqP VR (.tup []) h = .ok (.bl true) h := by rw [q1]; simp [hR0]
          by_cases ht : 0 < t
          · rw [if_pos ⟨hR0, ht⟩]
            simp -implicitDefEqProofs [S_winding_end, is_sized_ok, is_number_ok, i1, n1, r1', z1, r2', q2', q1', ht, encO_n]
          · rw [if_neg fun x => ht x.2]
            simp -implicitDefEqProofs [S_winding_end, is_sized_ok, is_number_ok, i1, n1, r1', z1, r2', q2', q1', ht, r3]
        · have q1' : eqP VR (.tup []) h = .ok (.bl false) h := by rw [q1]; simp [hR0]
          rw [if_neg fun x => hR0 x.1]
          simp -implicitDefEqProofs [S_winding_end, is_sized_ok, is_number_ok, i1, n1, r1', z1, r2', q2', q1', r3]
      · rw [if_neg hR]
        have q2' := q2 m
        have r2' := r2 m
        rw [decide_eq_false hR] at q2'
        simp -implicitDefEqProofs [S_winding_end, is_sized_ok, is_number_ok, i1, n1, r1', z1, r2', q2', encO_n]
  · have n1 : Val.isNum (.int t) = false := by simp [Val.isNum, h0]
    rw [if_neg h0]
    simp -implicitDefEqProofs [S_winding_end, is_sized_ok, is_number_ok, i1, n1, encO_n]
theorem is_winding_ok {n : Net} (ok : n.Ok) {b e : Nat} (hb : b < n.N) (he : e < n.N) (A G : List Int) (t : Int) (B : List Int) {h : Hh} :
    F_is_winding [encNet n, .int (b : Int), .int (e : Int), .tup [encW A, encW G, .int t, encW B]] h = .ok (.bl (decide (windE n b A G t B = some e))) h := by
  refine run_rt (h1 := h) ?_ rfl List.take_length
  have e1 := check_ends_ok ok hb he (h := h)
  have e2 := winding_end_ok (n := n) b A G t B (h := h)
  have e3 : eqP (encO (windE n b A G t B)) (.int (e : Int)) h = .ok (.bl (decide (windE n b A G t B = some e))) h := by
    rw [eq_oi]
    congr 2
    cases windE n b A G t B with
    | none => simp
    | some x => simp; omega
  generalize encNet n = N at *
  generalize Val.tup [encW A, encW G, .int t, encW B] = Wd at *
  simp -implicitDefEqProofs [S_is_winding, e1, e2, e3]
theorem check_winding_ok {n : Net} (ok : n.Ok) {b e : Nat} (hb : b < n.N) {A G : List Int} {t : Int} {B : List Int} (hw : windE n b A G t B = some e) {h : Hh} :
    F_check_winding [encNet n, .int (b : Int), .tup [encW A, encW G, .int t, encW B]] h = .ok .non h := by
  refine run_nx (h1 := h) (en := [some (encNet n), some (.int (b : Int)), some (.tup [encW A, encW G, .int t, encW B])]) ?_ List.take_length
  have e1 := check_node_ok ok hb (h := h)
  have e2 := winding_end_ok (n := n) b A G t B (h := h)
  rw [hw] at e2
  have e3 : isNP (encO (some e)) .non h = .ok (.bl false) h := isN_o _ _
  generalize encO (some e) = o at *
  generalize encNet n = N at *
  generalize Val.tup [encW A, encW G, .int t, encW B] = Wd at *
  simp -implicitDefEqProofs [S_check_winding, e1, e2, e3]
/-- one that is no winding -/
theorem check_winding_no {n : Net} (ok : n.Ok) {b : Nat} (hb : b < n.N) {v : Val} {h : Hh} (hw : F_winding_end [encNet n, .int (b : Int), v] h = .ok .non h) :
    F_check_winding [encNet n, .int (b : Int), v] h = .exc ⟨38, []⟩ h := by
  refine run_exc (h1 := h) (en := [some (encNet n), some (.int (b : Int)), some v]) ?_ List.take_length
  have e1 := check_node_ok ok hb (h := h)
  have e3 : isNP .non .non h = .ok (.bl true) h := rfl
  generalize encNet n = N at *
  simp -implicitDefEqProofs [S_check_winding, e1, hw, e3]
theorem check_winding_node {n : Net} (ok : n.Ok) {b v : Val} {h : Hh} (hv : b.thing = true) (hn : b.isIn 0 ((n.N : Int) - 1) = false) :
    F_check_winding [encNet n, b, v] h = .exc ⟨13, []⟩ h := by
  refine run_exc (h1 := h) (en := [some (encNet n), some b, some v]) ?_ List.take_length
  have e1 := check_node_bad ok hv hn (h := h)
  generalize encNet n = N at *
  simp -implicitDefEqProofs [S_check_winding, e1]
theorem check_winding_net {n b v : Val} {h : Hh} (e : F_is_net [n] h = .ok (.bl false) h) :
    F_check_winding [n, b, v] h = .exc ⟨12, []⟩ h := by
  refine run_exc (h1 := h) (en := [some n, some b, some v]) ?_ List.take_length
  have e1 := check_node_badnet e (w := b)
  simp -implicitDefEqProofs [S_check_winding, e1]
/-! sums -/
def sumA (n : Net) (f : Arc → Nat) (w : List Int) : Nat := (w.map fun i => match n.A[i.toNat]? with | some a => f a | none => 0).sum
def inW (n : Net) (w : List Int) : Prop := ∀ i ∈ w, 0 ≤ i ∧ i.toNat < n.A.length
theorem sum_ints (h : Hh) : ∀ l : List Nat, sumP [.lst (l.map fun i : Nat => Val.int (i : Int))] h = .ok (.int ((l.sum : Nat) : Int)) h := fun l => by
  have e1 : ∀ l : List Nat, intsOf (l.map fun i : Nat => Val.int (i : Int)) = some (l.map fun i : Nat => (i : Int)) := by
    intro l
    induction l with
    | nil => rfl
    | cons a l ih => rw [List.map_cons, intsOf, ih]; rfl
  have e2 : ∀ l : List Nat, (l.map fun i : Nat => (i : Int)).sum = ((l.sum : Nat) : Int) := by
    intro l
    induction l with
    | nil => rfl
    | cons a l ih => rw [List.map_cons, List.sum_cons, ih, List.sum_cons]; omega
  unfold sumP lsq
  dsimp only
  rw [e1]
  dsimp only
  rw [e2]
def fld (n : Net) (f : Arc → Nat) (i : Int) : Nat := match n.A[i.toNat]? with | some a => f a | none => 0
theorem sumA_eq (n : Net) (f : Arc → Nat) (w : List Int) : sumA n f w = (w.map (fld n f)).sum := rfl
theorem sumA_app (n : Net) (f : Arc → Nat) (w v : List Int) : sumA n f (w ++ v) = sumA n f w + sumA n f v := by simp [sumA]
theorem fld_arc {n : Net} {f : Arc → Nat} {i : Int} {a : Arc} (e : n.A[i.toNat]? = some a) : fld n f i = f a := by unfold fld; rw [e]
theorem inW_get {n : Net} {w : List Int} (hw : inW n w) {i : Int} (hi : i ∈ w) : 0 ≤ i ∧ ∃ a, n.A[i.toNat]? = some a := by
  obtain ⟨h1, h2⟩ := hw i hi
  exact ⟨h1, _, List.getElem?_eq_getElem h2⟩
theorem raw_length_ok {n : Net} {w : List Int} (hw : inW n w) (hz : w.length ≤ 1000000) {h : Hh} : F_raw_length [encNet n, encW w] h = .ok (.int ((sumA n (·.l) w : Nat) : Int)) h := by
  refine run_rt (h1 := h) ?_ rfl List.take_length
  have c1 : eComp false [2] (iSeq (eVar 1)) (gName 2) tTrue (eOp ixD (eOp ixD (eOp ixD (eVar 0) (eC (.int 1))) (eVar 2)) (eC (.int 2))) [some (encNet n), some (encW w), none] h = .ok (.lst (w.map fun i => Val.int ((fld n (·.l) i : Nat) : Int))) h := by
    refine compE Val.int (fun i => Val.int ((fld n (·.l) i : Nat) : Int)) w ?_ hz fun i hi => ⟨_, rfl, ?_⟩
    · simp -implicitDefEqProofs [encW, seqI, lsq, chkOf]
    · obtain ⟨h0, a, ea⟩ := inW_get hw hi
      have e1 := ix_arc (n := n) h0 ea h
      rw [fld_arc ea]
      unfold encNet
      generalize n.A.map encArc = M at *
      unfold encArc at e1
      simp -implicitDefEqProofs [wipeE, e1]
  have e2 := sum_ints h (w.map (fld n (·.l)))
  rw [List.map_map] at e2
  rw [sumA_eq]
  have c2 : eComp false [2] (iSeq (eVar 1)) (gName 2) tTrue (eOp ixD (eOp ixD (eOp ixD (eVar 0) (eC (.int 1))) (eVar 2)) (eC (.int 2))) [some (encNet n), some (encW w), none] h = .ok (.lst (w.map ((fun i : Nat => Val.int (i : Int)) ∘ fld n (·.l)))) h := c1
  generalize w.map ((fun i : Nat => Val.int (i : Int)) ∘ fld n (·.l)) = M at *
  simp -implicitDefEqProofs [S_raw_length, c2, e2]
theorem raw_cost_ok {n : Net} {w : List Int} (hw : inW n w) (hz : w.length ≤ 1000000) {h : Hh} : F_raw_cost [encNet n, encW w] h = .ok (.int ((sumA n (·.c) w : Nat) : Int)) h := by
  refine run_rt (h1 := h) ?_ rfl List.take_length
  have c1 : eComp false [2] (iSeq (eVar 1)) (gName 2) tTrue (eOp ixD (eOp ixD (eOp ixD (eVar 0) (eC (.int 1))) (eVar 2)) (eC (.int 3))) [some (encNet n), some (encW w), none] h = .ok (.lst (w.map fun i => Val.int ((fld n (·.c) i : Nat) : Int))) h := by
    refine compE Val.int (fun i => Val.int ((fld n (·.c) i : Nat) : Int)) w ?_ hz fun i hi => ⟨_, rfl, ?_⟩
    · simp -implicitDefEqProofs [encW, seqI, lsq, chkOf]
    · obtain ⟨h0, a, ea⟩ := inW_get hw hi
      have e1 := ix_arc (n := n) h0 ea h
      rw [fld_arc ea]
      unfold encNet
      generalize n.A.map encArc = M at *
      unfold encArc at e1
      simp -implicitDefEqProofs [wipeE, e1]
  have e2 := sum_ints h (w.map (fld n (·.c)))
  rw [List.map_map] at e2
  rw [sumA_eq]
  have c2 : eComp false [2] (iSeq (eVar 1)) (gName 2) tTrue (eOp ixD (eOp ixD (eOp ixD (eVar 0) (eC (.int 1))) (eVar 2)) (eC (.int 3))) [some (encNet n), some (encW w), none] h = .ok (.lst (w.map ((fun i : Nat => Val.int (i : Int)) ∘ fld n (·.c)))) h := c1
  generalize w.map ((fun i : Nat => Val.int (i : Int)) ∘ fld n (·.c)) = M at *
  simp -implicitDefEqProofs [S_raw_cost, c2, e2]
/-- by the place: 2 the length, 3 the cost -/
def pl (p : Nat) : Arc → Nat := if p = 2 then (·.l) else (·.c)
theorem law_sum_ok {n : Net} {w : List Int} (hw : inW n w) (hz : w.length ≤ 1000000) {p : Nat} (hp : p = 2 ∨ p = 3) {h : Hh} : F__law_sum [encNet n, encW w, .int (p : Int)] h = .ok (.int ((sumA n (pl p) w : Nat) : Int)) h := by
  refine run_rt (h1 := h) ?_ rfl List.take_length
  have c1 : eComp false [3] (iSeq (eVar 1)) (gName 3) tTrue (eOp ixD (eOp ixD (eOp ixD (eVar 0) (eC (.int 1))) (eVar 3)) (eVar 2)) [some (encNet n), some (encW w), some (.int (p : Int)), none] h = .ok (.lst (w.map fun i => Val.int ((fld n (pl p) i : Nat) : Int))) h := by
    refine compE Val.int (fun i => Val.int ((fld n (pl p) i : Nat) : Int)) w ?_ hz fun i hi => ⟨_, rfl, ?_⟩
    · simp -implicitDefEqProofs [encW, seqI, lsq, chkOf]
    · obtain ⟨h0, a, ea⟩ := inW_get hw hi
      have e1 := ix_arc (n := n) h0 ea h
      rw [fld_arc ea]
      unfold encNet
      generalize n.A.map encArc = M at *
      unfold encArc at e1
      rcases hp with rfl | rfl
      · simp -implicitDefEqProofs [wipeE, e1, pl]
      · simp -implicitDefEqProofs [wipeE, e1, pl]
  have e2 := sum_ints h (w.map (fld n (pl p)))
  rw [List.map_map] at e2
  rw [sumA_eq]
  have c2 : eComp false [3] (iSeq (eVar 1)) (gName 3) tTrue (eOp ixD (eOp ixD (eOp ixD (eVar 0) (eC (.int 1))) (eVar 3)) (eVar 2)) [some (encNet n), some (encW w), some (.int (p : Int)), none] h = .ok (.lst (w.map ((fun i : Nat => Val.int (i : Int)) ∘ fld n (pl p)))) h := c1
  generalize w.map ((fun i : Nat => Val.int (i : Int)) ∘ fld n (pl p)) = M at *
  simp -implicitDefEqProofs [S__law_sum, c2, e2]
/-! walks put together -/
theorem wend_app (n : Net) : ∀ (w v : List Int) (b : Nat), wend n b (w ++ v) = match wend n b w with | some c => wend n c v | none => none
  | [], v, b => rfl
  | i :: w, v, b => by
    rw [List.cons_append, wend, wend]
    cases stepI n b i with
    | none => rfl
    | some c => exact wend_app n w v c
theorem wend_in {n : Net} : ∀ {w : List Int} {b e : Nat}, wend n b w = some e → inW n w
  | [], _, _, _ => fun i hi => nomatch hi
  | i :: w, b, e, h => by
    rw [wend] at h
    cases q : stepI n b i with
    | none => rw [q] at h; cases h
    | some c =>
      rw [q] at h
      have ih := wend_in h
      unfold stepI at q
      intro j hj
      rcases List.mem_cons.mp hj with rfl | hj
      · split at q
        · rename_i h0
          split at q
          · rename_i a ea
            exact ⟨h0, (List.getElem?_eq_some_iff.mp ea).1⟩
          · cases q
        · cases q
      · exact ih j hj
theorem wend_lt {n : Net} (ok : n.Ok) : ∀ {w : List Int} {b e : Nat}, b < n.N → wend n b w = some e → e < n.N
  | [], b, e, hb, h => by cases h; exact hb
  | i :: w, b, e, hb, h => by
    rw [wend] at h
    cases q : stepI n b i with
    | none => rw [q] at h; cases h
    | some c =>
      rw [q] at h
      refine wend_lt ok ?_ h
      unfold stepI at q
      split at q
      · split at q
        · rename_i a ea
          split at q
          · cases q
            exact (ok.arcs a (List.mem_of_getElem? ea)).2.1
          · cases q
        · cases q
      · cases q
end E09
end Ev

set_option Elab.async false
set_option linter.all false
set_option maxRecDepth 100000
namespace Ev
open PySem PySem.Spec PyProof.Rows Mp
namespace E09
theorem add_ww (m : Bool) (a b : List Int) (h : Hh) (hz : a.length + b.length ≤ 1000000) : addP m (encW a) (encW b) h = .ok (encW (a ++ b)) h := by
  unfold addP encW
  dsimp only
  rw [if_pos (by simpa using sz_le hz), List.map_append]
@[simp] theorem len_w (a : List Int) (h : Hh) : lenD [encW a] h = .ok (.int (a.length : Int)) h := by
  unfold encW
  rw [lenD_tup, List.length_map]
theorem inW_app {n : Net} {a b : List Int} (ha : inW n a) (hb : inW n b) : inW n (a ++ b) := fun i hi => (List.mem_append.mp hi).elim (ha i) (hb i)
theorem wound_length_ok {n : Net} {A G B : List Int} {t : Int} (hA : inW n A) (hG : inW n G) (hB : inW n B) (hz : A.length + B.length ≤ 1000) (hz2 : G.length ≤ 1000) (hs : sumA n (·.l) G < 2 ^ 60) {h : Hh} :
    F_wound_length [encNet n, .tup [encW A, encW G, .int t, encW B]] h = .ok (.int (((sumA n (·.l) A + sumA n (·.l) B : Nat) : Int) + t * ((sumA n (·.l) G : Nat) : Int))) h := by
  refine run_rt (h1 := h) ?_ rfl List.take_length
  have e1 := add_ww false A B h (by omega)
  have e2 := raw_length_ok (inW_app hA hB) (by simp; omega) (h := h)
  have e3 := raw_length_ok hG (by omega) (h := h)
  have m1 : mulP false (.int t) (.int ((sumA n (·.l) G : Nat) : Int)) h = .ok (.int (t * ((sumA n (·.l) G : Nat) : Int))) h := mul_sm (by omega)
  rw [sumA_app] at e2
  generalize encNet n = N at *
  generalize encW A = VA at *
  generalize encW B = VB at *
  generalize encW G = VG at *
  generalize encW (A ++ B) = VC at *
  simp -implicitDefEqProofs [S_wound_length, e1, e2, e3, m1]
theorem wound_cost_ok {n : Net} {A G B : List Int} {t : Int} (hA : inW n A) (hG : inW n G) (hB : inW n B) (hz : A.length + B.length ≤ 1000) (hz2 : G.length ≤ 1000) (hs : sumA n (·.c) G < 2 ^ 60) {h : Hh} :
    F_wound_cost [encNet n, .tup [encW A, encW G, .int t, encW B]] h = .ok (.int (((sumA n (·.c) A + sumA n (·.c) B : Nat) : Int) + t * ((sumA n (·.c) G : Nat) : Int))) h := by
  refine run_rt (h1 := h) ?_ rfl List.take_length
  have e1 := add_ww false A B h (by omega)
  have e2 := raw_cost_ok (inW_app hA hB) (by simp; omega) (h := h)
  have e3 := raw_cost_ok hG (by omega) (h := h)
  have m1 : mulP false (.int t) (.int ((sumA n (·.c) G : Nat) : Int)) h = .ok (.int (t * ((sumA n (·.c) G : Nat) : Int))) h := mul_sm (by omega)
  rw [sumA_app] at e2
  generalize encNet n = N at *
  generalize encW A = VA at *
  generalize encW B = VB at *
  generalize encW G = VG at *
  generalize encW (A ++ B) = VC at *
  simp -implicitDefEqProofs [S_wound_cost, e1, e2, e3, m1]
/-- a winding that leads from b to e, of a size that the law draws -/
structure WOk (n : Net) (b e : Nat) (A G : List Int) (t : Int) (B : List Int) : Prop where
  ok : n.Ok
  hb : b < n.N
  he : windE n b A G t B = some e
  zA : A.length ≤ 10
  zG : G.length ≤ 10
  zB : B.length ≤ 10
theorem WOk.t0 {n : Net} {b e : Nat} {A G B : List Int} {t : Int} (w : WOk n b e A G t B) : 0 ≤ t ∧ ∃ m, wend n b A = some m ∧ wend n m G = some m ∧ (G = [] → t = 0) ∧ wend n m B = some e := by
  have := w.he
  unfold windE at this
  split at this
  · rename_i h0
    refine ⟨h0, ?_⟩
    split at this
    · cases this
    · rename_i m hm
      split at this
      · rename_i hG
        split at this
        · cases this
        · rename_i hn
          refine ⟨m, hm, hG, fun z => ?_, this⟩
          have : ¬ 0 < t := fun y => hn ⟨z, y⟩
          omega
      · cases this
  · cases this
theorem sum_le {n : Net} (ok : n.Ok) (f : Arc → Nat) (hf : ∀ a ∈ n.A, f a ≤ 99) : ∀ w : List Int, sumA n f w ≤ 99 * w.length
  | [] => by simp [sumA]
  | i :: w => by
    have ih := sum_le ok f hf w
    have : sumA n f (i :: w) = fld n f i + sumA n f w := by rw [sumA_eq, sumA_eq, List.map_cons, List.sum_cons]
    rw [this, List.length_cons]
    have : fld n f i ≤ 99 := by
      unfold fld
      split
      · rename_i a ea
        exact hf a (List.mem_of_getElem? ea)
      · omega
    omega
theorem lenA {n : Net} (ok : n.Ok) : ∀ a ∈ n.A, a.l ≤ 99 := fun a ha => by have := ok.arcs a ha; omega
theorem costA {n : Net} (ok : n.Ok) : ∀ a ∈ n.A, a.c ≤ 99 := fun a ha => by have := ok.arcs a ha; omega
theorem WOk.ins {n : Net} {b e : Nat} {A G B : List Int} {t : Int} (w : WOk n b e A G t B) : inW n A ∧ inW n G ∧ inW n B := by
  obtain ⟨_, m, h1, h2, _, h3⟩ := w.t0
  exact ⟨wend_in h1, wend_in h2, wend_in h3⟩
abbrev encWd (A G : List Int) (t : Int) (B : List Int) : Val := .tup [encW A, encW G, .int t, encW B]
def wsum (n : Net) (f : Arc → Nat) (A G : List Int) (t : Int) (B : List Int) : Int := ((sumA n f A + sumA n f B : Nat) : Int) + t * ((sumA n f G : Nat) : Int)
theorem winding_length_ok {n : Net} {b e : Nat} {A G B : List Int} {t : Int} (w : WOk n b e A G t B) {h : Hh} :
    F_winding_length [encNet n, .int (b : Int), encWd A G t B] h = .ok (.int (wsum n (·.l) A G t B)) h := by
  refine run_rt (h1 := h) ?_ rfl List.take_length
  obtain ⟨i1, i2, i3⟩ := w.ins
  have s1 := sum_le w.ok (·.l) (lenA w.ok) G
  have z1 := w.zA; have z2 := w.zG; have z3 := w.zB
  have e1 := check_winding_ok w.ok w.hb w.he (h := h)
  have e2 := wound_length_ok (t := t) i1 i2 i3 (by omega) (by omega) (by omega) (h := h)
  rw [show ((sumA n (·.l) A + sumA n (·.l) B : Nat) : Int) + t * ((sumA n (·.l) G : Nat) : Int) = wsum n (·.l) A G t B from rfl] at e2
  unfold encWd
  generalize encNet n = N at *
  generalize Val.tup [encW A, encW G, .int t, encW B] = Wd at *
  simp -implicitDefEqProofs [S_winding_length, e1, e2]
theorem winding_cost_ok {n : Net} {b e : Nat} {A G B : List Int} {t : Int} (w : WOk n b e A G t B) {h : Hh} :
    F_winding_cost [encNet n, .int (b : Int), encWd A G t B] h = .ok (.int (wsum n (·.c) A G t B)) h := by
  refine run_rt (h1 := h) ?_ rfl List.take_length
  obtain ⟨i1, i2, i3⟩ := w.ins
  have s1 := sum_le w.ok (·.c) (costA w.ok) G
  have z1 := w.zA; have z2 := w.zG; have z3 := w.zB
  have e1 := check_winding_ok w.ok w.hb w.he (h := h)
  have e2 := wound_cost_ok (t := t) i1 i2 i3 (by omega) (by omega) (by omega) (h := h)
  rw [show ((sumA n (·.c) A + sumA n (·.c) B : Nat) : Int) + t * ((sumA n (·.c) G : Nat) : Int) = wsum n (·.c) A G t B from rfl] at e2
  unfold encWd
  generalize encNet n = N at *
  generalize Val.tup [encW A, encW G, .int t, encW B] = Wd at *
  simp -implicitDefEqProofs [S_winding_cost, e1, e2]
/-- the walk of a winding -/
def unw (A G : List Int) (t : Int) (B : List Int) : List Int := A ++ (List.replicate t.toNat G).flatten ++ B
theorem rep_len (k : Nat) (G : List Int) : (List.replicate k G).flatten.length = k * G.length := by simp
theorem rep_map (k : Nat) (G : List Int) : (List.replicate k (G.map Val.int)).flatten = ((List.replicate k G).flatten).map Val.int := by
  induction k with
  | zero => rfl
  | succ k ih => rw [List.replicate_succ, List.replicate_succ, List.flatten_cons, List.flatten_cons, ih, List.map_append]
theorem mul_w {G : List Int} {t : Int} (h0 : 0 ≤ t) (hG : G = [] → t = 0) (h1 : t * (G.length : Int) ≤ 3000) (h : Hh) : mulQ false (encW G) (.int t) h = .ok (encW (List.replicate t.toNat G).flatten) h := by
  have ht : t ≤ 3000 := by
    rcases G with _ | ⟨g, G⟩
    · have := hG rfl; omega
    · rw [List.length_cons] at h1
      have : t * 1 ≤ t * (((G.length + 1 : Nat)) : Int) := Int.mul_le_mul_of_nonneg_left (by omega) h0
      omega
  unfold encW
  rw [mulQ_tup h0 (by omega), rep_map]
  rw [List.length_map]
  have : ((G.length * t.toNat : Nat) : Int) = t * (G.length : Int) := by rw [Int.natCast_mul, Int.toNat_of_nonneg h0, Int.mul_comm]
  omega
theorem unwound_ok {n : Net} {b e : Nat} {A G B : List Int} {t : Int} (w : WOk n b e A G t B) {h : Hh} (hz : (A.length : Int) + B.length + t * G.length ≤ 2000) :
    F_unwound [encNet n, .int (b : Int), encWd A G t B] h = .ok (encW (unw A G t B)) h := by
  refine run_rt (h1 := h) ?_ ?_ List.take_length
  rotate_left
  · unfold encW Val.bel
    exact belL_map fun _ _ => by unfold Val.bel; rfl
  obtain ⟨h0, m, q1, q2, q3, q4⟩ := w.t0
  have e1 := check_winding_ok w.ok w.hb w.he (h := h)
  have z1 := w.zA; have z2 := w.zG; have z3 := w.zB
  have m0 : mulP false (.int t) (.int (G.length : Int)) h = .ok (.int (t * (G.length : Int))) h := mul_sm (by omega)
  have m1 := mul_w h0 q3 (by omega) h
  have hl : (List.replicate t.toNat G).flatten.length ≤ 3000 := by
    rw [rep_len]
    have : ((t.toNat * G.length : Nat) : Int) = t * (G.length : Int) := by rw [Int.natCast_mul, Int.toNat_of_nonneg h0]
    omega
  have a1 := add_ww false A (List.replicate t.toNat G).flatten h (by omega)
  have a2 := add_ww false (A ++ (List.replicate t.toNat G).flatten) B h (by rw [List.length_append]; omega)
  have l1 := len_w A h; have l2 := len_w B h; have l3 := len_w G h
  have hz' : ¬ (2000 < (A.length : Int) + B.length + t * G.length) := by omega
  unfold encWd unw
  generalize encW (A ++ (List.replicate t.toNat G).flatten ++ B) = VD at *
  generalize encW (A ++ (List.replicate t.toNat G).flatten) = VC at *
  generalize encW (List.replicate t.toNat G).flatten = VE at *
  generalize encNet n = N at *
  generalize encW A = VA at *
  generalize encW B = VB at *
  generalize encW G = VG at *
  simp -implicitDefEqProofs [S_unwound, e1, m0, m1, a1, a2, l1, l2, l3, hz']
theorem unwound_many {n : Net} {b e : Nat} {A G B : List Int} {t : Int} (w : WOk n b e A G t B) {h : Hh} (hz : 2000 < (A.length : Int) + B.length + t * G.length) :
    F_unwound [encNet n, .int (b : Int), encWd A G t B] h = .exc ⟨41, [("most", .int 2000)]⟩ h := by
  refine run_excA (h1 := h) (en := [some (encNet n), some (.int (b : Int)), some (encWd A G t B), some (encW A), some (encW G), some (.int t), some (encW B)]) ?_ List.take_length
  have e1 := check_winding_ok w.ok w.hb w.he (h := h)
  have z1 := w.zA; have z2 := w.zG; have z3 := w.zB
  have m0 : mulP false (.int t) (.int (G.length : Int)) h = .ok (.int (t * (G.length : Int))) h := mul_sm (by omega)
  have l1 := len_w A h; have l2 := len_w B h; have l3 := len_w G h
  unfold encWd
  generalize encNet n = N at *
  generalize encW A = VA at *
  generalize encW B = VB at *
  generalize encW G = VG at *
  simp -implicitDefEqProofs [S_unwound, e1, m0, l1, l2, l3, hz]
end E09
end Ev

set_option Elab.async false
set_option linter.all false
set_option maxRecDepth 100000
namespace Ev
open PySem PySem.Spec PyProof.Rows Mp
namespace E09
theorem is_walk_ok {n : Net} (ok : n.Ok) {b e : Nat} (hb : b < n.N) (he : e < n.N) (w : List Int) {h : Hh} :
    F_is_walk [encNet n, .int (b : Int), .int (e : Int), encW w] h = .ok (.bl (decide (wend n b w = some e))) h := by
  refine run_rt (h1 := h) ?_ rfl List.take_length
  have e1 := check_ends_ok ok hb he (h := h)
  have e2 : F_raw_end [encNet n, .int (b : Int), encW w] h = _ := raw_end_ok (n := n) b w (h := h)
  have e3 : eqP (encO (wend n b w)) (.int (e : Int)) h = .ok (.bl (decide (wend n b w = some e))) h := by
    rw [eq_oi]
    congr 2
    cases wend n b w with
    | none => simp
    | some x => simp; omega
  generalize encNet n = N at *
  generalize encW w = Wd at *
  simp -implicitDefEqProofs [S_is_walk, e1, e2, e3]
theorem check_walk_ok {n : Net} (ok : n.Ok) {b e : Nat} (hb : b < n.N) {w : List Int} (hw : wend n b w = some e) {h : Hh} :
    F_check_walk [encNet n, .int (b : Int), encW w] h = .ok .non h := by
  refine run_nx (h1 := h) (en := [some (encNet n), some (.int (b : Int)), some (encW w)]) ?_ List.take_length
  have e1 := check_node_ok ok hb (h := h)
  have e2 : F_raw_end [encNet n, .int (b : Int), encW w] h = _ := raw_end_ok (n := n) b w (h := h)
  rw [hw] at e2
  have e3 : isNP (encO (some e)) .non h = .ok (.bl false) h := isN_o _ _
  generalize encO (some e) = o at *
  generalize encNet n = N at *
  generalize encW w = Wd at *
  simp -implicitDefEqProofs [S_check_walk, e1, e2, e3]
theorem length_of_ok {n : Net} (ok : n.Ok) {b e : Nat} (hb : b < n.N) {w : List Int} (hw : wend n b w = some e) (hz : w.length ≤ 1000000) {h : Hh} :
    F_length_of [encNet n, .int (b : Int), encW w] h = .ok (.int ((sumA n (·.l) w : Nat) : Int)) h := by
  refine run_rt (h1 := h) ?_ rfl List.take_length
  have e1 := check_walk_ok ok hb hw (h := h)
  have e2 := raw_length_ok (wend_in hw) hz (h := h)
  generalize encNet n = N at *
  generalize encW w = Wd at *
  simp -implicitDefEqProofs [S_length_of, e1, e2]
theorem cost_of_ok {n : Net} (ok : n.Ok) {b e : Nat} (hb : b < n.N) {w : List Int} (hw : wend n b w = some e) (hz : w.length ≤ 1000000) {h : Hh} :
    F_cost_of [encNet n, .int (b : Int), encW w] h = .ok (.int ((sumA n (·.c) w : Nat) : Int)) h := by
  refine run_rt (h1 := h) ?_ rfl List.take_length
  have e1 := check_walk_ok ok hb hw (h := h)
  have e2 := raw_cost_ok (wend_in hw) hz (h := h)
  generalize encNet n = N at *
  generalize encW w = Wd at *
  simp -implicitDefEqProofs [S_cost_of, e1, e2]
/-! repr -/
theorem repr_is {v : Val} {d : PyData} {h : Hh} (e : pdOf v h = some d) (h1 : d.showable = true) (h2 : d.hasDict = false) (h3 : d.depth ≤ 64) (h4 : d.shown.length ≤ 1000000) : reprP [v] h = .ok (.str d.shown) h := by
  unfold reprP
  dsimp only
  rw [e]
  dsimp only
  rw [if_pos ⟨h1, h2, h3, sz_le h4⟩]
theorem ok_of (s : String) : PyData.strOk (Str.ofString s) = true := by
  rw [Str.ofString_eq_toList]
  unfold PyData.strOk
  rw [Array.all_eq_true_iff_forall_mem]
  intro x hx
  simp only [List.mem_toArray, List.mem_map] at hx
  obtain ⟨c, _, rfl⟩ := hx
  have := c.valid
  simp only [decide_eq_true_eq]
  show c.val.toNat < _
  rcases this with h | h
  · exact Nat.lt_trans h (by decide)
  · exact h.2
theorem ok_app {a b : Str} (ha : PyData.strOk a = true) (hb : PyData.strOk b = true) : PyData.strOk (a ++ b) = true := by
  unfold PyData.strOk at *
  show (a.cps ++ b.cps).all _ = true
  rw [Array.all_append, ha, hb]
  rfl
theorem ok_join {s : Str} (hs : PyData.strOk s = true) : ∀ l : List Str, (∀ x ∈ l, PyData.strOk x = true) → PyData.strOk (Str.join s l) = true
  | [], _ => by simp [Str.join, Str.empty, PyData.strOk]
  | [x], h => h x List.mem_cons_self
  | x :: y :: l, h => ok_app (ok_app (h x List.mem_cons_self) hs) (ok_join hs (y :: l) fun z hz => h z (List.mem_cons_of_mem _ hz))
theorem ok_int (i : Int) : PyData.strOk (PyData.int i).shown = true := by
  simp only [PyData.shown]
  exact ok_of _
theorem ok_bool (b : Bool) : PyData.strOk (PyData.bool b).shown = true := by
  simp only [PyData.shown]
  cases b <;> exact ok_of _
theorem ok_ints (w : List Int) : PyData.strOk (PyData.tuple (w.map PyData.int)).shown = true := by
  simp only [PyData.shown]
  unfold tupleText
  refine ok_app (ok_app (ok_of _) (ok_join (ok_of _) _ fun x hx => ?_)) (ok_of _)
  induction w with
  | nil => simp [PyData.shownAll] at hx
  | cons i w ih =>
    rw [List.map_cons, PyData.shownAll] at hx
    rcases List.mem_cons.mp hx with rfl | hx
    · exact ok_int i
    · exact ih hx
theorem eq_str {s : Str} (hs : PyData.strOk s = true) (h : Hh) : eqP (.str s) (.str s) h = .ok (.bl true) h := by
  have e : pdOf (.str s) h = some (.str s) := rfl
  unfold eqP
  rw [e]
  dsimp only
  have s1 : SeqAt.shaped (.str s) = true := by simp [SeqAt.shaped, PyData.canLay0, PyData.depth, hs]
  rw [if_pos ⟨s1, s1⟩]
  simp [PyData.eqv]
theorem law_is_same {v : Val} {d : PyData} {h : Hh} (e : pdOf v h = some d) (h1 : d.showable = true) (h2 : d.hasDict = false) (h3 : d.depth ≤ 64) (h4 : d.shown.length ≤ 1000000) (h5 : PyData.strOk d.shown = true) : F__law_is_v09 [v, v] h = .ok (.bl true) h := by
  refine run_rt (h1 := h) ?_ rfl List.take_length
  have r := repr_is e h1 h2 h3 h4
  have e1 := eq_str h5 h
  generalize d.shown = s at *
  simp -implicitDefEqProofs [S__law_is_v09, r, e1]
theorem show_int {i : Int} (h0 : 0 ≤ i) (h1 : i < 10 ^ 60) : (PyData.int i).showable = true := by
  have : i.natAbs < 2 ^ 200 := by
    have : (10 : Int) ^ 60 < 2 ^ 200 := by decide
    omega
  have := Nat.log2_lt (n := i.natAbs) (k := 1920)
  simp only [PyData.showable, decide_eq_true_eq]
  by_cases z : i.natAbs = 0
  · rw [z]; decide
  · exact (this z).mpr (Nat.lt_trans ‹_› (Nat.pow_lt_pow_right (show 1 < 2 by decide) (show 200 < 1920 by decide)))
theorem law_is_int {i : Int} (h0 : 0 ≤ i) (h1 : i < 10 ^ 60) (h : Hh) : F__law_is_v09 [.int i, .int i] h = .ok (.bl true) h := by
  refine law_is_same (d := .int i) rfl (show_int h0 h1) (by simp [PyData.hasDict]) (by simp [PyData.depth]) ?_ (ok_int i)
  have := toString_length_le h0 (k := 60) (by decide) h1
  simp only [PyData.shown]
  exact Nat.le_trans this (by decide)
theorem law_is_bl (b : Bool) (h : Hh) : F__law_is_v09 [.bl b, .bl b] h = .ok (.bl true) h := by
  refine law_is_same (d := .bool b) rfl (by simp [PyData.showable]) (by simp [PyData.hasDict]) (by simp [PyData.depth]) ?_ (ok_bool b)
  cases b
  · simp only [PyData.shown]; decide
  · simp only [PyData.shown]; decide
theorem law_is_w {w : List Int} (hw : ∀ i ∈ w, 0 ≤ i ∧ i < 1000) (hz : w.length ≤ 3000) (h : Hh) : F__law_is_v09 [encW w, encW w] h = .ok (.bl true) h := by
  have hp : pdOf (encW w) h = some (.tuple (w.map PyData.int)) := by
    show Val.pd (encW w) = _
    unfold encW Val.pd
    rw [pdL_map (g := PyData.int) (fun a => rfl)]
    rfl
  refine law_is_same hp ?_ ?_ ?_ ?_ (ok_ints w)
  · simp only [PyData.showable]
    clear hz hp
    induction w with
    | nil => rfl
    | cons i w ih =>
      obtain ⟨h0, h1⟩ := hw i List.mem_cons_self
      have h2 : i < 10 ^ 60 := Int.lt_trans h1 (by decide)
      rw [List.map_cons, PyData.showableAll, show_int h0 h2, Bool.true_and]
      exact ih fun j hj => hw j (List.mem_cons_of_mem _ hj)
  · simp only [PyData.hasDict]
    clear hw hz hp
    induction w with
    | nil => rfl
    | cons i w ih => rw [List.map_cons, PyData.hasDictAll, ih]; simp [PyData.hasDict]
  · have := (lay_map (d := 0) (g := PyData.int) (fun a => ⟨by simp [PyData.canLay0], by simp [PyData.depth]⟩) w).2
    simp only [PyData.depth]
    omega
  · simp only [PyData.shown]
    have key : ∀ w : List Int, (∀ i ∈ w, 0 ≤ i ∧ i < 1000) → piled (PyData.shownAll (w.map PyData.int)) ≤ 5 * w.length := by
      intro w
      induction w with
      | nil => intro _; decide
      | cons i w ih =>
        intro hw
        obtain ⟨h0, h1⟩ := hw i List.mem_cons_self
        have := ih fun j hj => hw j (List.mem_cons_of_mem _ hj)
        have l1 := toString_length_le h0 (k := 3) (by decide) (by simpa using h1)
        rw [List.map_cons, PyData.shownAll, piled_cons, List.length_cons]
        have : (PyData.shown (.int i)).length ≤ 3 := by simp only [PyData.shown]; exact l1
        omega
    have k1 := key w hw
    unfold tupleText
    rw [strLen_append, strLen_append]
    have e1 : ((("(" : String) : Str)).length = 1 := rfl
    have e3 : ∀ b : Bool, ((((if b = true then ",)" else ")" : String)) : Str)).length ≤ 2 := fun b => by cases b <;> decide
    rw [e1]
    have e4 := e3 ((PyData.shownAll (w.map PyData.int)).length == 1)
    by_cases hn : PyData.shownAll (w.map PyData.int) = []
    · rw [hn]; decide
    · have := join_length_add _ hn
      omega
end E09
end Ev

set_option Elab.async false
set_option linter.all false
set_option maxRecDepth 100000
namespace Ev
open PySem PySem.Spec PyProof.Rows Mp
namespace E09
theorem step_arc {n : Net} {c e : Nat} {i : Int} (q : stepI n c i = some e) : 0 ≤ i ∧ ∃ a, n.A[i.toNat]? = some a ∧ a.u = c ∧ a.v = e := by
  unfold stepI at q
  split at q
  · rename_i h0
    split at q
    · rename_i a ea
      split at q
      · rename_i hu
        cases q
        exact ⟨h0, a, ea, hu, rfl⟩
      · cases q
    · cases q
  · cases q
theorem ix_last (l : List Val) (v : Val) (h : Hh) : ixP (.tup (l ++ [v])) (.int (-1)) h = .ok v h := by
  unfold ixP lsq
  dsimp only
  rw [L2.atI_last]
theorem wend_last {n : Net} {w : List Int} {i : Int} {b e : Nat} (hw : wend n b (w ++ [i]) = some e) : 0 ≤ i ∧ ∃ a, n.A[i.toNat]? = some a ∧ a.v = e := by
  rw [wend_app] at hw
  split at hw
  · rename_i c hc
    rw [wend] at hw
    cases q : stepI n c i with
    | none => rw [q] at hw; cases hw
    | some d =>
      rw [q] at hw
      cases hw
      obtain ⟨h0, a, h1, _, h2⟩ := step_arc q
      exact ⟨h0, a, h1, h2⟩
  · cases hw
theorem law_end_ok {n : Net} {b e : Nat} {w : List Int} (hw : wend n b w = some e) {h : Hh} : F__law_end [encNet n, .int (b : Int), encW w] h = .ok (.int (e : Int)) h := by
  refine run_rt (h1 := h) ?_ rfl List.take_length
  rcases List.eq_nil_or_concat w with rfl | ⟨w', i, hc⟩
  · cases hw
    have l1 := len_w [] h
    generalize encNet n = N at *
    generalize encW [] = W at *
    simp -implicitDefEqProofs [S__law_end, l1]
  · rw [List.concat_eq_append] at hc
    subst hc
    obtain ⟨h0, a, ha, hv⟩ := wend_last hw
    have l1 := len_w (w' ++ [i]) h
    have hl : (0 : Int) < ((w' ++ [i]).length : Int) := by rw [List.length_append, List.length_singleton]; omega
    have e1 := ix_arc (n := n) h0 ha h
    have e2 : ixP (encW (w' ++ [i])) (.int (-1)) h = .ok (.int i) h := by
      unfold encW
      rw [List.map_append]
      exact ix_last _ _ _
    have e3 : ixD (encW (w' ++ [i])) (.int (-1)) h = .ok (.int i) h := e2
    unfold encNet
    generalize n.A.map encArc = M at *
    generalize encW (w' ++ [i]) = W at *
    unfold encArc at e1
    simp -implicitDefEqProofs [S__law_end, l1, hl, e3, e1, hv]
theorem arc_at {n : Net} {i : Int} (g : Hh) : (0 ≤ i ∧ ∃ a, n.A[i.toNat]? = some a ∧ ((0 : Int) ≤ i ∧ i < (n.A.length : Int)) ∧ ixP (.tup (n.A.map encArc)) (.int i) g = .ok (encArc a) g) ∨ (¬ ((0 : Int) ≤ i ∧ i < (n.A.length : Int)) ∧ ∀ c, stepI n c i = none) := by
  by_cases h0 : 0 ≤ i
  · cases q : n.A[i.toNat]? with
    | none =>
      have hge : n.A.length ≤ i.toNat := List.getElem?_eq_none_iff.mp q
      refine .inr ⟨by omega, fun c => ?_⟩
      unfold stepI; rw [if_pos h0, q]
    | some a =>
      have hlt := (List.getElem?_eq_some_iff.mp q).1
      exact .inl ⟨h0, a, rfl, by omega, ix_arc h0 q g⟩
  · refine .inr ⟨by omega, fun c => ?_⟩
    unfold stepI; rw [if_neg h0]
theorem isw_loop {n : Net} {b x wk : Option Val} {h : Hh} : ∀ (w : List Int) (x5 : Option Val) (here : Nat), ∃ y5,
    forL (gName 5) B__law_is_walk_0 [] (w.map Val.int) [some (encNet n), b, x, wk, some (.int (here : Int)), x5] h = match wend n here w with
      | none => .rt (.bl false) h
      | some e => .nx [some (encNet n), b, x, wk, some (.int (e : Int)), y5] h
  | [], x5, here => ⟨x5, by rw [List.map_nil, forL_nil]; rfl⟩
  | i :: w, x5, here => by
    rw [List.map_cons, forL_cons]
    show ∃ y5, (lift (R.ok _ h) _ _) = _
    rw [wend]
    have l1 : ((n.A.map encArc).length : Int) = (n.A.length : Int) := by rw [List.length_map]
    have stepE : B__law_is_walk_0 ([some (encNet n), b, x, wk, some (.int (here : Int)), x5].set 5 (some (.int i))) h = match stepI n here i with
        | none => .rt (.bl false) h
        | some e => .nx [some (encNet n), b, x, wk, some (.int (e : Int)), none] h := by
      rcases arc_at (n := n) (i := i) h with ⟨h0, a, q, ⟨h1, h2⟩, e1⟩ | ⟨h1, h2⟩
      · by_cases hu : a.u = here
        · have es : stepI n here i = some a.v := by unfold stepI; rw [if_pos h0, q]; simp [hu]
          rw [es]
          unfold encNet
          generalize (n.A.map encArc) = M at *
          unfold encArc at e1
          simp -implicitDefEqProofs [B__law_is_walk_0, e1, ne_ii, hu, l1, h1, h2]
        · have es : stepI n here i = none := by unfold stepI; rw [if_pos h0, q]; simp [hu]
          have hu' : ¬ ((a.u : Int) = (here : Int)) := by omega
          rw [es]
          unfold encNet
          generalize (n.A.map encArc) = M at *
          unfold encArc at e1
          simp -implicitDefEqProofs [B__law_is_walk_0, e1, ne_ii, hu', l1, h1, h2]
      · rw [h2 here]
        unfold encNet
        generalize (n.A.map encArc) = M at *
        by_cases h0 : (0 : Int) ≤ i
        · have h3 : ¬ i < (n.A.length : Int) := fun z => h1 ⟨h0, z⟩
          simp -implicitDefEqProofs [B__law_is_walk_0, l1, h0, h3]
        · simp -implicitDefEqProofs [B__law_is_walk_0, l1, h0]
    cases q : stepI n here i with
    | none =>
      rw [q] at stepE
      refine ⟨none, ?_⟩
      rw [lift_ok, stepE]
    | some e =>
      rw [q] at stepE
      obtain ⟨y5, hy⟩ := isw_loop w none e
      refine ⟨y5, ?_⟩
      rw [lift_ok, stepE]
      exact hy
theorem law_is_walk_ok {n : Net} (b e : Nat) (w : List Int) {h : Hh} : F__law_is_walk [encNet n, .int (b : Int), .int (e : Int), encW w] h = .ok (.bl (decide (wend n b w = some e))) h := by
  refine run_rt (h1 := h) ?_ rfl List.take_length
  obtain ⟨y5, hy⟩ := isw_loop (n := n) (b := some (.int (b : Int))) (x := some (.int (e : Int))) (wk := some (encW w)) (h := h) w none b
  have sq : seqI (encW w) h = .ok ⟨w.map Val.int, []⟩ h := by simp [encW, seqI, lsq, chkOf]
  generalize encNet n = N at *
  generalize encW w = Wd at *
  generalize (w.map Val.int) = W at *
  simp -implicitDefEqProofs [S__law_is_walk, x_for, sq, hy]
  cases wend n b w with
  | none => simp
  | some x =>
    simp -implicitDefEqProofs [eq_ii]
    have : ((x : Int) = (e : Int)) ↔ x = e := by omega
    simp [this]
theorem leads_loop {n : Net} {b wk : Option Val} {h : Hh} : ∀ (w : List Int) (x5 : Option Val) (here : Nat), ∃ y5,
    forL (gName 4) B__law_leads_0 [] (w.map Val.int) [some (encNet n), b, wk, some (.int (here : Int)), x5] h = match wend n here w with
      | none => .rt (.bl false) h
      | some e => .nx [some (encNet n), b, wk, some (.int (e : Int)), y5] h
  | [], x5, here => ⟨x5, by rw [List.map_nil, forL_nil]; rfl⟩
  | i :: w, x5, here => by
    rw [List.map_cons, forL_cons]
    show ∃ y5, (lift (R.ok _ h) _ _) = _
    rw [wend]
    have l1 : ((n.A.map encArc).length : Int) = (n.A.length : Int) := by rw [List.length_map]
    have stepE : B__law_leads_0 ([some (encNet n), b, wk, some (.int (here : Int)), x5].set 4 (some (.int i))) h = match stepI n here i with
        | none => .rt (.bl false) h
        | some e => .nx [some (encNet n), b, wk, some (.int (e : Int)), none] h := by
      rcases arc_at (n := n) (i := i) h with ⟨h0, a, q, ⟨h1, h2⟩, e1⟩ | ⟨h1, h2⟩
      · by_cases hu : a.u = here
        · have es : stepI n here i = some a.v := by unfold stepI; rw [if_pos h0, q]; simp [hu]
          rw [es]
          unfold encNet
          generalize (n.A.map encArc) = M at *
          unfold encArc at e1
          simp -implicitDefEqProofs [B__law_leads_0, e1, ne_ii, hu, l1, h1, h2]
        · have es : stepI n here i = none := by unfold stepI; rw [if_pos h0, q]; simp [hu]
          have hu' : ¬ ((a.u : Int) = (here : Int)) := by omega
          rw [es]
          unfold encNet
          generalize (n.A.map encArc) = M at *
          unfold encArc at e1
          simp -implicitDefEqProofs [B__law_leads_0, e1, ne_ii, hu', l1, h1, h2]
      · rw [h2 here]
        unfold encNet
        generalize (n.A.map encArc) = M at *
        by_cases h0 : (0 : Int) ≤ i
        · have h3 : ¬ i < (n.A.length : Int) := fun z => h1 ⟨h0, z⟩
          simp -implicitDefEqProofs [B__law_leads_0, l1, h0, h3]
        · simp -implicitDefEqProofs [B__law_leads_0, l1, h0]
    cases q : stepI n here i with
    | none =>
      rw [q] at stepE
      refine ⟨none, ?_⟩
      rw [lift_ok, stepE]
    | some e =>
      rw [q] at stepE
      obtain ⟨y5, hy⟩ := leads_loop w none e
      refine ⟨y5, ?_⟩
      rw [lift_ok, stepE]
      exact hy
theorem law_leads_ok {n : Net} (b : Nat) (w : List Int) {h : Hh} : F__law_leads [encNet n, .int (b : Int), encW w] h = .ok (.bl (wend n b w).isSome) h := by
  refine run_rt (h1 := h) ?_ rfl List.take_length
  obtain ⟨y5, hy⟩ := leads_loop (n := n) (b := some (.int (b : Int))) (wk := some (encW w)) (h := h) w none b
  have sq : seqI (encW w) h = .ok ⟨w.map Val.int, []⟩ h := by simp [encW, seqI, lsq, chkOf]
  generalize encNet n = N at *
  generalize encW w = Wd at *
  generalize (w.map Val.int) = W at *
  simp -implicitDefEqProofs [S__law_leads, x_for, sq, hy]
  cases wend n b w with
  | none => simp
  | some x => simp
theorem law_is_winding_ok {n : Net} (b e : Nat) {A G : List Int} {t : Int} {B : List Int} (ht : 0 ≤ t) {h : Hh} : F__law_is_winding [encNet n, .int (b : Int), .int (e : Int), encWd A G t B] h = .ok (.bl (decide (windE n b A G t B = some e))) h := by
  refine run_rt (h1 := h) ?_ rfl List.take_length
  have r1 := law_leads_ok (n := n) b A (h := h)
  have r2 := fun m : Nat => law_is_walk_ok (n := n) m m G (h := h)
  have r3 := fun m : Nat => law_is_walk_ok (n := n) m e B (h := h)
  have l1 := len_w G h
  generalize hr : windE n b A G t B = r
  unfold windE at hr
  rw [if_pos ht] at hr
  unfold encWd
  cases hA : wend n b A with
  | none =>
    rw [hA] at r1 hr
    subst hr
    have z1 : isNP .non .non h = .ok (.bl true) h := rfl
    generalize encNet n = N at *
    generalize encW A = VA at *
    generalize encW B = VB at *
    generalize encW G = VG at *
    simp -implicitDefEqProofs [S__law_is_winding, r1, z1]
  | some m =>
    rw [hA] at r1 hr
    have r4 := law_end_ok hA (h := h)
    have z1 : isNP (.int (m : Int)) .non h = .ok (.bl false) h := rfl
    have z2 := fun i : Nat => eq_ii (i : Int) 0 h
    dsimp only at hr
    generalize encNet n = N at *
    generalize encW A = VA at *
    generalize encW B = VB at *
    generalize encW G = VG at *
    by_cases hG : wend n m G = some m
    · have r2' := r2 m
      rw [decide_eq_true hG] at r2'
      rw [if_pos hG] at hr
      by_cases h1 : 0 < t
      · by_cases h2 : G = []
        · rw [if_pos ⟨h2, h1⟩] at hr
          subst hr
          subst h2
          simp -implicitDefEqProofs [S__law_is_winding, r1, z1, r4, r2', h1, l1, z2]
        · rw [if_neg fun z => h2 z.1] at hr
          subst hr
          have h3 : ¬ ((G.length : Int) = 0) := by
            have : G.length ≠ 0 := fun z => h2 (List.eq_nil_of_length_eq_zero z)
            omega
          have z3 := z2 G.length
          rw [decide_eq_false h3] at z3
          simp -implicitDefEqProofs [S__law_is_winding, r1, z1, r4, r2', h1, l1, z3, r3]
      · rw [if_neg fun z => h1 z.2] at hr
        subst hr
        simp -implicitDefEqProofs [S__law_is_winding, r1, z1, r4, r2', h1, r3]
    · have r2' := r2 m
      rw [decide_eq_false hG] at r2'
      rw [if_neg hG] at hr
      subst hr
      simp -implicitDefEqProofs [S__law_is_winding, r1, z1, r4, r2']
end E09
end Ev

set_option Elab.async false
set_option linter.all false
set_option maxRecDepth 100000
namespace Ev
namespace E09
abbrev Tbl := Nat → Nat → Option Nat
def updT (c : Tbl) (t v x : Nat) : Tbl := fun t' v' => if t' = t ∧ v' = v then some x else c t' v'
def relax (n t : Nat) (c : Tbl) (a : Arc) : Tbl := match c t a.u with
  | none => c
  | some x => if t + a.l ≤ n then match c (t + a.l) a.v with
    | none => updT c (t + a.l) a.v (x + a.c)
    | some y => if x + a.c < y then updT c (t + a.l) a.v (x + a.c) else c
    else c
def roundT (A : List Arc) (n : Nat) (c : Tbl) (t : Nat) : Tbl := A.foldl (relax n t) c
def allT (A : List Arc) (n : Nat) (c : Tbl) : Tbl := (List.range (n + 1)).foldl (roundT A n) c
def LeT (c : Tbl) (t v k : Nat) : Prop := ∃ x, c t v = some x ∧ x ≤ k
theorem relax_mono {n t s v k : Nat} {c : Tbl} {a : Arc} (h : LeT c s v k) : LeT (relax n t c a) s v k := by
  obtain ⟨x, hx, hk⟩ := h
  unfold relax
  cases q : c t a.u with
  | none => exact ⟨x, hx, hk⟩
  | some z =>
    dsimp only
    split
    · cases q2 : c (t + a.l) a.v with
      | none =>
        dsimp only
        refine ⟨x, ?_, hk⟩
        unfold updT
        rw [if_neg]
        · exact hx
        · rintro ⟨rfl, rfl⟩
          rw [q2] at hx; cases hx
      | some y =>
        dsimp only
        split
        · rename_i hy
          by_cases e : s = t + a.l ∧ v = a.v
          · obtain ⟨rfl, rfl⟩ := e
            rw [q2] at hx; cases hx
            exact ⟨z + a.c, by unfold updT; rw [if_pos ⟨rfl, rfl⟩], by omega⟩
          · exact ⟨x, by unfold updT; rw [if_neg e]; exact hx, hk⟩
        · exact ⟨x, hx, hk⟩
    · exact ⟨x, hx, hk⟩
theorem relax_hit {n t k : Nat} {c : Tbl} {a : Arc} (h : LeT c t a.u k) (hn : t + a.l ≤ n) : LeT (relax n t c a) (t + a.l) a.v (k + a.c) := by
  obtain ⟨x, hx, hk⟩ := h
  unfold relax
  rw [hx]
  dsimp only
  rw [if_pos hn]
  cases q2 : c (t + a.l) a.v with
  | none => exact ⟨x + a.c, by dsimp only; unfold updT; rw [if_pos ⟨rfl, rfl⟩], by omega⟩
  | some y =>
    dsimp only
    split
    · exact ⟨x + a.c, by unfold updT; rw [if_pos ⟨rfl, rfl⟩], by omega⟩
    · exact ⟨y, q2, by omega⟩
theorem round_mono {n t s v k : Nat} : ∀ {A : List Arc} {c : Tbl}, LeT c s v k → LeT (A.foldl (relax n t) c) s v k
  | [], c, h => h
  | a :: A, c, h => round_mono (A := A) (relax_mono h)
theorem round_hit {n t k : Nat} : ∀ {A : List Arc} {c : Tbl} {a : Arc}, a ∈ A → LeT c t a.u k → t + a.l ≤ n → LeT (A.foldl (relax n t) c) (t + a.l) a.v (k + a.c)
  | b :: A, c, a, ha, h, hn => by
    rcases List.mem_cons.mp ha with rfl | ha
    · exact round_mono (A := A) (relax_hit h hn)
    · exact round_hit (A := A) ha (relax_mono h) hn
theorem rounds_mono {A : List Arc} {n s v k : Nat} : ∀ {l : List Nat} {c : Tbl}, LeT c s v k → LeT (l.foldl (roundT A n) c) s v k
  | [], c, h => h
  | t :: l, c, h => rounds_mono (l := l) (round_mono h)
theorem walk_T {N : Net} (hl : ∀ a ∈ N.A, 1 ≤ a.l) {n : Nat} : ∀ {w : List Int} {b e s k : Nat} {c : Tbl}, wend N b w = some e → LeT c s b k → s + sumA N (·.l) w ≤ n →
    LeT ((List.range' s (n + 1 - s)).foldl (roundT N.A n) c) (s + sumA N (·.l) w) e (k + sumA N (·.c) w)
  | [], b, e, s, k, c, hw, h, hn => by
    cases hw
    exact rounds_mono h
  | i :: w, b, e, s, k, c, hw, h, hn => by
    rw [wend] at hw
    cases q : stepI N b i with
    | none => rw [q] at hw; cases hw
    | some d =>
      rw [q] at hw
      obtain ⟨h0, a, ha, hu, hv⟩ := step_arc q
      have hm := List.mem_of_getElem? ha
      have hl1 := hl a hm
      have s1 : sumA N (·.l) (i :: w) = a.l + sumA N (·.l) w := by rw [sumA_eq, sumA_eq, List.map_cons, List.sum_cons, fld_arc ha]
      have s2 : sumA N (·.c) (i :: w) = a.c + sumA N (·.c) w := by rw [sumA_eq, sumA_eq, List.map_cons, List.sum_cons, fld_arc ha]
      rw [s1] at hn
      have hsplit : List.range' s (n + 1 - s) = s :: (List.range' (s + 1) (a.l - 1) ++ List.range' (s + a.l) (n + 1 - (s + a.l))) := by
        have e1 : List.range' (s + 1) (a.l - 1) ++ List.range' (s + a.l) (n + 1 - (s + a.l)) = List.range' (s + 1) (n - s) := by
          have := List.range'_append_1 (s := s + 1) (m := a.l - 1) (n := n + 1 - (s + a.l))
          rw [show s + 1 + (a.l - 1) = s + a.l by omega, show a.l - 1 + (n + 1 - (s + a.l)) = n - s by omega] at this
          exact this
        rw [e1, show n + 1 - s = (n - s) + 1 by omega, List.range'_succ]
      rw [hsplit, List.foldl_cons, List.foldl_append]
      subst hu hv
      have g1 : LeT (roundT N.A n c s) (s + a.l) a.v (k + a.c) := round_hit (a := a) hm h (by omega)
      have g2 : LeT ((List.range' (s + 1) (a.l - 1)).foldl (roundT N.A n) (roundT N.A n c s)) (s + a.l) a.v (k + a.c) := rounds_mono g1
      have := walk_T hl (n := n) (w := w) hw g2 (by omega)
      rw [s1, s2, ← Nat.add_assoc, ← Nat.add_assoc]
      exact this
theorem least_le {N : Net} (hl : ∀ a ∈ N.A, 1 ≤ a.l) {w : List Int} {b e : Nat} (hw : wend N b w = some e) :
    LeT (allT N.A (sumA N (·.l) w) (updT (fun _ _ => none) 0 b 0)) (sumA N (·.l) w) e (sumA N (·.c) w) := by
  have := walk_T hl (n := sumA N (·.l) w) (s := 0) (k := 0) (c := updT (fun _ _ => none) 0 b 0) hw ⟨0, by unfold updT; rw [if_pos ⟨rfl, rfl⟩], Nat.le_refl _⟩ (by omega)
  rw [Nat.zero_add, Nat.zero_add, Nat.sub_zero, ← List.range_eq_range'] at this
  exact this
end E09
end Ev

set_option Elab.async false
set_option linter.all false
set_option maxRecDepth 100000
namespace Ev
open PySem PySem.Spec PyProof.Rows Mp
namespace E09
theorem map_set {α : Type} (f : Nat → α) (m i : Nat) (y : α) : ((List.range m).map f).set i y = (List.range m).map fun j => if j = i then y else f j := by
  refine List.ext_getElem? fun j => ?_
  rw [List.getElem?_map, List.getElem?_set]
  by_cases hj : j < m
  · rw [List.getElem?_range hj]
    by_cases e : i = j
    · subst e
      rw [if_pos rfl, if_pos (by simpa using hj)]
      simp
    · rw [if_neg e, List.getElem?_map, List.getElem?_range hj]
      simp [Ne.symm e]
  · have hr : (List.range m)[j]? = none := List.getElem?_eq_none (by simp; omega)
    rw [hr]
    by_cases e : i = j
    · subst e
      rw [if_pos rfl, if_neg (by simpa using hj)]
      rfl
    · rw [if_neg e, List.getElem?_map, hr]
      rfl
def rowV (N : Nat) (c : Tbl) (t : Nat) : List Val := (List.range N).map fun v => encO (c t v)
def tabH (h : Hh) (N n : Nat) (c : Tbl) : Hh := h ++ (List.range (n + 1)).map fun t => Ob.lst (rowV N c t)
def rowsR (h : Hh) (n : Nat) : Val := .lst ((List.range (n + 1)).map fun t => Val.ref (h.length + t))
section
variable {h : Hh} {N n : Nat} {c : Tbl}
theorem tab_at (t : Nat) (ht : t ≤ n) : (tabH h N n c)[h.length + t]? = some (.lst (rowV N c t)) := by
  unfold tabH
  rw [List.getElem?_append_right (Nat.le_add_right _ _), Nat.add_sub_cancel_left, List.getElem?_map, List.getElem?_range (by omega)]
  rfl
@[simp] theorem tab_len : (tabH h N n c).length = h.length + (n + 1) := by simp [tabH]
theorem row_at {t v : Nat} (hv : v < N) : (rowV N c t)[v]? = some (encO (c t v)) := by
  unfold rowV
  rw [List.getElem?_map, List.getElem?_range hv]
  rfl
theorem row_set {t v x : Nat} : (rowV N c t).set v (.int (x : Int)) = rowV N (updT c t v x) t := by
  unfold rowV
  rw [map_set]
  refine List.map_congr_left fun j _ => ?_
  unfold updT
  by_cases e : j = v
  · rw [if_pos e, if_pos ⟨rfl, e⟩]; rfl
  · rw [if_neg e, if_neg fun z => e z.2]
theorem tab_set {t v x : Nat} (ht : t ≤ n) : (tabH h N n c).set (h.length + t) (.lst ((rowV N c t).set v (.int (x : Int)))) = tabH h N n (updT c t v x) := by
  rw [row_set]
  unfold tabH
  rw [List.set_append_right _ _ (Nat.le_add_right _ _), Nat.add_sub_cancel_left, map_set]
  congr 1
  refine List.map_congr_left fun j _ => ?_
  by_cases e : j = t
  · subst e; rw [if_pos rfl]
  · rw [if_neg e]
    congr 1
    unfold rowV
    refine List.map_congr_left fun w _ => ?_
    unfold updT
    rw [if_neg fun z => e z.1]
/-- rows[t] -/
theorem ix_rows {t : Nat} (ht : t ≤ n) (g : Hh) : ixP (rowsR h n) (.int (t : Int)) g = .ok (.ref (h.length + t)) g :=
  ix_lst (by rw [List.getElem?_map, List.getElem?_range (by omega)]; rfl)
theorem ix_row {t v : Nat} (ht : t ≤ n) (hv : v < N) : ixP (.ref (h.length + t)) (.int (v : Int)) (tabH h N n c) = .ok (encO (c t v)) (tabH h N n c) := by
  have e := tab_at (h := h) (N := N) (c := c) t ht
  unfold ixP lsq
  dsimp only
  rw [e]
  dsimp only
  rw [L2.atI_nat (row_at hv)]
theorem set_row {t v x : Nat} (ht : t ≤ n) (hv : v < N) : setP (.ref (h.length + t)) (.int (v : Int)) (.int (x : Int)) (tabH h N n c) = .ok () (tabH h N n (updT c t v x)) := by
  have e := tab_at (h := h) (N := N) (c := c) t ht
  unfold setP
  dsimp only
  rw [e]
  dsimp only
  have : L2.ixN (rowV N c t).length (v : Int) = some v := by
    unfold L2.ixN
    have : (rowV N c t).length = N := by simp [rowV]
    rw [this, if_pos (by omega), if_pos (by omega), Int.toNat_natCast]
  rw [this]
  dsimp only
  rw [if_pos (by unfold Val.bel; rfl), tab_set ht]
end
@[simp] theorem ixD_rows (h : Hh) (n : Nat) (w : Val) (g : Hh) : ixD (rowsR h n) w g = ixP (rowsR h n) w g := rfl
/-- one arc's turn -/
theorem arc_step {h : Hh} {n : Net} (ok : n.Ok) {m t : Nat} (ht : t ≤ m) {c : Tbl} {a : Arc} (ha : a ∈ n.A) {x0 x1 x2 : Option Val} :
    B_costs_ahead_0 [x0, x1, some (.int (m : Int)), some (rowsR h m), some (.int (t : Int)), some (.int (a.u : Int)), some (.int (a.v : Int)), some (.int (a.l : Int)), some (.int (a.c : Int)), none, none] (tabH h n.N m c)
      = .nx [x0, x1, some (.int (m : Int)), some (rowsR h m), some (.int (t : Int)), none, none, none, none, none, none] (tabH h n.N m (relax m t c a)) := by
  obtain ⟨hu, hv, hl, _, _⟩ := ok.arcs a ha
  have e1 : ∀ g, ixP (rowsR h m) (.int (t : Int)) g = .ok (.ref (h.length + t)) g := fun g => ix_rows ht g
  have e2 := ix_row (h := h) (N := n.N) (n := m) (c := c) ht hu
  have le1 : ∀ (i j : Int) (g : Hh), leP (.int i) (.int j) g = .ok (.bl (decide (i ≤ j))) g := fun i j g => rfl
  unfold relax
  cases q : c t a.u with
  | none =>
    rw [q] at e2
    have z1 : ∀ g, notNP .non .non g = .ok (.bl false) g := fun _ => rfl
    have dR : ∀ w g, ixD (rowsR h m) w g = ixP (rowsR h m) w g := fun _ _ => rfl
    generalize rowsR h m = RW at *
    simp -implicitDefEqProofs [B_costs_ahead_0, dR, e1, e2, z1]
  | some x =>
    rw [q] at e2
    have z1 : ∀ g, notNP (.int (x : Int)) .non g = .ok (.bl true) g := fun _ => rfl
    dsimp only
    by_cases hn : t + a.l ≤ m
    · rw [if_pos hn]
      have hn' : (t : Int) + (a.l : Int) ≤ (m : Int) := by omega
      have e3 : ∀ g, ixP (rowsR h m) (.int ((t : Int) + (a.l : Int))) g = .ok (.ref (h.length + (t + a.l))) g := fun g => ix_rows (t := t + a.l) hn g
      have e4 := ix_row (h := h) (N := n.N) (n := m) (c := c) hn hv
      have e5 := set_row (h := h) (N := n.N) (n := m) (c := c) (x := x + a.c) hn hv
      have hx : ((x + a.c : Nat) : Int) = (x : Int) + (a.c : Int) := by omega
      rw [hx] at e5
      cases q2 : c (t + a.l) a.v with
      | none =>
        rw [q2] at e4
        have z2 : ∀ g, isNP .non .non g = .ok (.bl true) g := fun _ => rfl
        dsimp only
        have dR : ∀ w g, ixD (rowsR h m) w g = ixP (rowsR h m) w g := fun _ _ => rfl
        generalize rowsR h m = RW at *
        simp -implicitDefEqProofs [B_costs_ahead_0, dR, e1, e2, e3, e4, e5, z1, z2, hn']
      | some y =>
        rw [q2] at e4
        have z2 : ∀ g, isNP (.int (y : Int)) .non g = .ok (.bl false) g := fun _ => rfl
        dsimp only
        by_cases hy : x + a.c < y
        · rw [if_pos hy]
          have hy' : (x : Int) + (a.c : Int) < (y : Int) := by omega
          have dR : ∀ w g, ixD (rowsR h m) w g = ixP (rowsR h m) w g := fun _ _ => rfl
          generalize rowsR h m = RW at *
          simp -implicitDefEqProofs [B_costs_ahead_0, dR, e1, e2, e3, e4, e5, z1, z2, hn', hy']
        · rw [if_neg hy]
          have hy' : ¬ ((x : Int) + (a.c : Int) < (y : Int)) := by omega
          have dR : ∀ w g, ixD (rowsR h m) w g = ixP (rowsR h m) w g := fun _ _ => rfl
          generalize rowsR h m = RW at *
          simp -implicitDefEqProofs [B_costs_ahead_0, dR, e1, e2, e3, e4, z1, z2, hn', hy']
    · rw [if_neg hn]
      have hn' : ¬ ((t : Int) + (a.l : Int) ≤ (m : Int)) := by omega
      have dR : ∀ w g, ixD (rowsR h m) w g = ixP (rowsR h m) w g := fun _ _ => rfl
      generalize rowsR h m = RW at *
      simp -implicitDefEqProofs [B_costs_ahead_0, dR, e1, e2, z1, hn']
end E09
end Ev

set_option Elab.async false
set_option linter.all false
set_option maxRecDepth 100000
namespace Ev
open PySem PySem.Spec PyProof.Rows Mp
namespace E09
theorem run_frz {N : Nat} {b : Sv} {args : List Val} {v u : Val} {h h1 h2 : Hh} (e : b (args.map some ++ List.replicate (N - args.length) none) h = .rt v h1) (hv : v.frz h1 h.length 8 = some u) (hh : h1.take h.length = h2) : runFn N b args h = .ok u h2 := by
  unfold runFn
  rw [e]
  show finV h v h1 = _
  unfold finV
  rw [hv, hh]
theorem mapM_comp {α β γ : Type} {f : β → Option γ} {e : α → β} {g : α → γ} : ∀ {l : List α}, (∀ x ∈ l, f (e x) = some (g x)) → (l.map e).mapM f = some (l.map g)
  | [], _ => rfl
  | a :: l, h => by
    rw [List.map_cons, List.mapM_cons, h a List.mem_cons_self, mapM_comp fun x hx => h x (List.mem_cons_of_mem _ hx)]
    rfl
def tabV (N n : Nat) (c : Tbl) : Val := .lst ((List.range (n + 1)).map fun t => .lst (rowV N c t))
theorem tab_frz {h : Hh} {N n : Nat} {c : Tbl} (d : Nat) : (rowsR h n).frz (tabH h N n c) h.length (d + 3) = some (tabV N n c) := by
  have nb : ¬ (rowsR h n).bel h.length = true := by
    unfold rowsR Val.bel
    rw [List.range_succ_eq_map, List.map_cons]
    unfold belL Val.bel
    simp
  unfold Val.frz
  rw [if_neg nb]
  unfold rowsR tabV
  dsimp only
  rw [mapM_comp (g := fun t => Val.lst (rowV N c t))]
  · rfl
  · intro t ht
    have e := tab_at (h := h) (N := N) (n := n) (c := c) t (by have := List.mem_range.mp ht; omega)
    unfold Val.frz
    rw [if_neg (by unfold Val.bel; simp)]
    dsimp only
    rw [e]
    dsimp only
    unfold rowV
    rw [mapM_comp (g := fun v => encO (c t v))]
    · rfl
    · intro v _
      unfold Val.frz
      rw [if_pos (by cases c t v <;> rfl)]
theorem comp_new {el : Ev} {env : Mp.Env} {row : List Val} (hel : ∀ (i : Nat) (H : Hh), el (env.set 4 (some (.int (i : Int)))) H = .ok (.ref H.length) (H ++ [.lst row])) : ∀ (l : List Nat) (acc : List Val) (H : Hh), acc.length + l.length ≤ 1000000 →
    compL (gName 4) tTrue el [] (l.map fun i : Nat => Val.int (i : Int)) acc env H = .ok (acc ++ (List.range' H.length l.length).map Val.ref) (H ++ List.replicate l.length (.lst row))
  | [], acc, H, _ => by rw [List.map_nil, compL_nil]; simp
  | i :: l, acc, H, hz => by
    rw [List.length_cons] at hz
    rw [List.map_cons, compL_cons]
    show (match tTrue (env.set 4 (some (.int (i : Int)))) H with | _ => _) = _
    rw [x_tTrue]
    dsimp only
    rw [hel]
    dsimp only
    have hs := sz_le (n := 1000000) (by omega)
    rw [if_pos (by omega), comp_new hel l _ _ (by rw [List.length_append, List.length_singleton]; omega)]
    rw [List.length_cons, List.length_append, List.length_singleton, List.range'_succ, List.map_cons, List.replicate_succ]
    simp
theorem costs_ok {h : Hh} {n : Net} (ok : n.Ok) {b m : Nat} (hb : b < n.N) (hm : m ≤ 300) :
    F_costs_ahead [encNet n, .int (b : Int), .int (m : Int)] h = .ok (tabV n.N m (allT n.A m (updT (fun _ _ => none) 0 b 0))) h := by
  refine run_frz (h1 := tabH h n.N m (allT n.A m (updT (fun _ _ => none) 0 b 0))) ?_ (tab_frz 5) (by unfold tabH; exact take_end _ _)
  have hN := ok.n2
  have r1 : ∀ g : Hh, rng1I [.int ((m : Int) + 1)] g = .ok ⟨(List.range (m + 1)).map fun i : Nat => Val.int (i : Int), []⟩ g := fun g => rg1 (n := m + 1) (by omega)
  have e0 : eComp false [4] (iRng1 (aCons (eOp (addP false) (eVar 2) (eC (.int 1))) aNil)) (gName 4) tTrue (eOp (mulP true) (eLst false (aCons (eC .non) aNil)) (eOp ixD (eVar 0) (eC (.int 0)))) [some (encNet n), some (.int (b : Int)), some (.int (m : Int)), none, none, none, none, none, none, none, none] h
      = .ok (rowsR h m) (tabH h n.N m fun _ _ => none) := by
    have e1 : rowsR h m = .lst ((List.range' h.length (m + 1)).map Val.ref) := by
      unfold rowsR
      rw [List.range'_eq_map_range, List.map_map]
      rfl
    have e2 : tabH h n.N m (fun _ _ => none) = h ++ List.replicate (m + 1) (.lst (List.replicate n.N Val.non)) := by
      unfold tabH rowV
      congr 1
      refine List.ext_getElem? fun i => ?_
      rw [List.getElem?_map, List.getElem?_replicate]
      by_cases hi : i < m + 1
      · rw [List.getElem?_range hi, if_pos hi, Option.map_some]
        congr 2
        refine List.ext_getElem? fun j => ?_
        rw [List.getElem?_map, List.getElem?_replicate]
        by_cases hj : j < n.N
        · rw [List.getElem?_range hj, if_pos hj]; rfl
        · rw [List.getElem?_eq_none (by simp; omega), if_neg hj]; rfl
      · rw [List.getElem?_eq_none (by simp; omega), if_neg hi]; rfl
    rw [e1, e2]
    refine x_comp (iv := ⟨(List.range (m + 1)).map fun (i : Nat) => Val.int (i : Int), []⟩) (h1 := h) (by simp -implicitDefEqProofs [r1]) ?_
    have := comp_new (el := eOp (mulP true) (eLst false (aCons (eC .non) aNil)) (eOp ixD (eVar 0) (eC (.int 0)))) (env := wipeE [some (encNet n), some (.int (b : Int)), some (.int (m : Int)), none, none, none, none, none, none, none, none] [4]) (row := List.replicate n.N Val.non) (fun i H => by
      have hs := sz_le (n := 1000000) (by omega)
      have m1 : mulP true (.lst [.non]) (.int (n.N : Int)) H = .ok (.ref H.length) (H ++ [.lst (List.replicate n.N Val.non)]) := by
        unfold mulP lsq
        dsimp only
        rw [if_pos ⟨by omega, by omega, by simp; omega⟩, Int.toNat_natCast]
        have : (List.replicate n.N [Val.non]).flatten = List.replicate n.N Val.non := by simp
        rw [this]
        rfl
      have hs1 : 1 ≤ sizeLine := by omega
      unfold encNet
      generalize n.A.map encArc = M at *
      simp -implicitDefEqProofs [wipeE, m1, hs1]) (List.range (m + 1)) [] h (by simp; omega)
    rw [this]
    simp
  have hN0 : (0 : Nat) ≤ m := Nat.zero_le _
  have i0 : ∀ g, ixP (rowsR h m) (.int 0) g = .ok (.ref h.length) g := fun g => ix_rows (t := 0) hN0 g
  have s0 : setP (.ref h.length) (.int (b : Int)) (.int 0) (tabH h n.N m fun _ _ => none) = .ok () (tabH h n.N m (updT (fun _ _ => none) 0 b 0)) := set_row (t := 0) (x := 0) hN0 hb
  have lp := (for_fold (g := gName 4) (b := B_costs_ahead_1) (fun i : Nat => Val.int (i : Int)) (fun _ : Tbl => [some (encNet n), some (.int (b : Int)), some (.int (m : Int)), some (rowsR h m), none, none, none, none, none, none, none]) (fun c => tabH h n.N m c) (roundT n.A m) (fun _ => True) (List.range (m + 1)) (updT (fun _ _ => none) 0 b 0) trivial (fun t ht c _ => by
    refine ⟨trivial, _, rfl, .inl ?_⟩
    have ht' : t ≤ m := by have := List.mem_range.mp ht; omega
    have inn := (for_fold (g := gTup (gCons (gName 5) (gCons (gName 6) (gCons (gName 7) (gCons (gName 8) gNil))))) (b := B_costs_ahead_0) encArc (fun _ : Tbl => [some (encNet n), some (.int (b : Int)), some (.int (m : Int)), some (rowsR h m), some (.int (t : Int)), none, none, none, none, none, none]) (fun c => tabH h n.N m c) (relax m t) (fun _ => True) n.A c trivial (fun a ha c _ => ⟨trivial, _, rfl, .inl (arc_step (x2 := none) ok ht' ha)⟩)).1
    have sq : ∀ g, seqI (.tup (n.A.map encArc)) g = .ok ⟨n.A.map encArc, []⟩ g := fun g => by simp [seqI, lsq, chkOf]
    show B_costs_ahead_1 [some (encNet n), some (.int (b : Int)), some (.int (m : Int)), some (rowsR h m), some (.int (t : Int)), none, none, none, none, none, none] _ = _
    unfold roundT
    unfold encNet at *
    generalize n.A.map encArc = M at *
    generalize rowsR h m = RW at *
    simp -implicitDefEqProofs [B_costs_ahead_1, x_for, sq, inn])).1
  have dR : ∀ w g, ixD (rowsR h m) w g = ixP (rowsR h m) w g := fun _ _ => rfl
  unfold allT
  generalize encNet n = NN at *
  generalize rowsR h m = RW at *
  simp -implicitDefEqProofs [S_costs_ahead, x_for, e0, dR, i0, s0, r1, lp]
theorem least_cost_ok {h : Hh} {n : Net} (ok : n.Ok) {b e m x : Nat} (hb : b < n.N) (he : e < n.N) (hm : m ≤ 300) (hx : allT n.A m (updT (fun _ _ => none) 0 b 0) m e = some x) :
    F_least_cost [encNet n, .int (b : Int), .int (e : Int), .int (m : Int)] h = .ok (.int (x : Int)) h := by
  have r : F_raw_least_cost [encNet n, .int (b : Int), .int (e : Int), .int (m : Int)] h = .ok (.int (x : Int)) h := by
    refine run_rt (h1 := h) ?_ rfl List.take_length
    have e1 := costs_ok (h := h) ok hb hm
    have e2 : ∀ g, ixP (tabV n.N m (allT n.A m (updT (fun _ _ => none) 0 b 0))) (.int (m : Int)) g = .ok (.lst (rowV n.N (allT n.A m (updT (fun _ _ => none) 0 b 0)) m)) g := fun g => ix_lst (by rw [List.getElem?_map, List.getElem?_range (by omega)]; rfl)
    have e3 : ∀ g, ixP (.lst (rowV n.N (allT n.A m (updT (fun _ _ => none) 0 b 0)) m)) (.int (e : Int)) g = .ok (.int (x : Int)) g := fun g => ix_lst (by rw [row_at he, hx]; rfl)
    have dR : ∀ w g, ixD (tabV n.N m (allT n.A m (updT (fun _ _ => none) 0 b 0))) w g = ixP (tabV n.N m (allT n.A m (updT (fun _ _ => none) 0 b 0))) w g := fun _ _ => rfl
    generalize tabV n.N m (allT n.A m (updT (fun _ _ => none) 0 b 0)) = TV at *
    generalize rowV n.N (allT n.A m (updT (fun _ _ => none) 0 b 0)) m = RW at *
    generalize encNet n = NN at *
    simp -implicitDefEqProofs [S_raw_least_cost, e1, dR, e2, e3]
  have ca : F_check_asked [encNet n, .int (b : Int), .int (e : Int), .int (m : Int)] h = .ok .non h := by
    refine run_nx (h1 := h) (en := [some (encNet n), some (.int (b : Int)), some (.int (e : Int)), some (.int (m : Int))]) ?_ List.take_length
    have c1 := check_ends_ok ok hb he (h := h)
    have i1 : Val.isIn 0 300 (.int (m : Int)) = true := by simp [Val.isIn]; omega
    generalize encNet n = NN at *
    simp -implicitDefEqProofs [S_check_asked, c1, is_within_ok, i1]
  refine run_rt (h1 := h) ?_ rfl List.take_length
  generalize encNet n = NN at *
  simp -implicitDefEqProofs [S_least_cost, ca, r]
end E09
end Ev

set_option Elab.async false
set_option linter.all false
set_option maxRecDepth 100000
namespace Ev
open PySem PySem.Spec PyProof.Rows Mp
namespace E09
/-! drawing, the hand at place k, other lists behind -/
section
variable {h : Hh} {k : Nat} {l : List Val} {t : Hh}
theorem set_tail (hk : k < h.length) (x : Ob) (t : Hh) : (h ++ t).set k x = h.set k x ++ t := List.set_append_left _ _ hk
theorem hand_at (hk : k < h.length) : (h.set k (.lst l) ++ t)[k]? = some (.lst l) := by
  rw [List.getElem?_append_left (by simpa using hk), List.getElem?_set_self hk]
theorem drawS (hk : k < h.length) (ok : HandOk l) {m : Nat} (hm : 0 < m) (hm2 : m < 2000000) (t : Hh) : ∃ l' d, HandOk l' ∧ d < m ∧ F__law_draw_v09 [.ref k, .int (m : Int)] (h.set k (.lst l) ++ t) = .ok (.int (d : Nat)) (h.set k (.lst l') ++ t) := by
  obtain ⟨l', d, ok', h1, e1⟩ := drawN (hand_at (l := l) (t := t) hk) ok hm hm2
  refine ⟨l', d, ok', h1, ?_⟩
  rw [e1, List.set_append_left _ _ (by simpa using hk), List.set_set]
theorem someS (hk : k < h.length) (ok : HandOk l) {s : List Val} (hs : 0 < s.length) (hs2 : s.length < 2000000) (hb : ∀ v ∈ s, v.pl) (t : Hh) : ∃ l' v, HandOk l' ∧ v ∈ s ∧ F__law_some [.ref k, .lst s] (h.set k (.lst l) ++ t) = .ok v (h.set k (.lst l') ++ t) := by
  obtain ⟨l', v, ok', h1, e1⟩ := some_ok (hand_at (l := l) (t := t) hk) ok hs hs2 hb
  refine ⟨l', v, ok', h1, ?_⟩
  rw [e1, List.set_append_left _ _ (by simpa using hk), List.set_set]
end
/-! arcs compared -/
def arcL (a : Arc) : List Int := [(a.u : Int), (a.v : Int), (a.l : Int), (a.c : Int)]
theorem pd_arc : PD encArc 1 := pd_via (pd_list pd_int) arcL fun a b e => by
  unfold arcL at e
  cases a; cases b
  simp at e
  simp
  omega
theorem any_decide {α : Type} [DecidableEq α] (a : α) : ∀ l : List α, (l.any fun z => decide (z = a)) = decide (a ∈ l)
  | [] => by simp
  | b :: l => by
    rw [List.any_cons, any_decide a l]
    by_cases e : b = a
    · subst e; simp
    · have : ¬ a = b := fun z => e z.symm
      simp [e, this]
theorem not_in {α : Type} [DecidableEq α] {f : α → Val} {d : Nat} (p : PD f d) (hd : d ≤ 60) {n : Nat} {H : Hh} {A : List α} (e : H[n]? = some (.lst (A.map f))) (a : α) : inP true (f a) (.ref n) H = .ok (.bl (decide (a ∉ A))) H := by
  obtain ⟨g, hg⟩ := p.ex
  obtain ⟨a1, a2, a3, a4⟩ := hg a
  obtain ⟨h1, h2⟩ := lay_map (d := d) (g := g) (fun a => ⟨(hg a).2.1, (hg a).2.2.1⟩) A
  unfold inP
  rw [pd_not_ref a1]
  have e2 : pdOf (.ref n) H = some (.list (A.map g)) := by
    unfold pdOf
    dsimp only
    rw [e]
    dsimp only
    rw [pdL_map (g := g) fun a => (hg a).1]
    rfl
  rw [e2]
  dsimp only
  have s1 : SeqAt.shaped (g a) = true := by unfold SeqAt.shaped; rw [a2, decide_eq_true (by omega)]; rfl
  have s2 : SeqAt.shaped (.list (A.map g)) = true := by
    have c1 : (PyData.list (A.map g)).canLay0 = true := by simp only [PyData.canLay0, h1]
    have c2 : (PyData.list (A.map g)).depth ≤ 64 := by simp only [PyData.depth]; omega
    unfold SeqAt.shaped
    rw [c1, decide_eq_true c2]
    rfl
  rw [if_pos ⟨s1, s2⟩, if_pos rfl, List.any_map]
  have : (A.any ((fun z => PyData.eqv z (g a)) ∘ g)) = A.any fun z => decide (z = a) := by
    congr 1
    funext z
    exact (hg z).2.2.2 a
  rw [this, any_decide]
  congr 2
  simp
/-! the net -/
theorem net_body {h : Hh} {k : Nat} {l : List Val} (hk : k < h.length) (ok : HandOk l) {N : Nat} (hN : 1 ≤ N) (hN2 : N ≤ 4) {A : List Arc} (hA : ∀ a ∈ A, a.u < N ∧ a.v < N ∧ 1 ≤ a.l ∧ a.l ≤ 3 ∧ a.c ≤ 99) (nd : A.Nodup) (hl : A.length ≤ 100) (x : Val) :
    ∃ (l' : List Val) (A' : List Arc), HandOk l' ∧ (∀ a ∈ A', a.u < N ∧ a.v < N ∧ 1 ≤ a.l ∧ a.l ≤ 3 ∧ a.c ≤ 99) ∧ A'.Nodup ∧ A'.length ≤ A.length + 1 ∧
      B__law_net_0 [some (.ref k), some (.int (N : Int)), some (.ref h.length), some x, none, none] (h.set k (.lst l) ++ [.lst (A.map encArc)])
        = .nx [some (.ref k), some (.int (N : Int)), some (.ref h.length), none, none, none] (h.set k (.lst l') ++ [.lst (A'.map encArc)]) := by
  have hs := sz_le (n := 1000000) (by omega)
  have hs6 : 6 ≤ sizeLine := by omega
  have hs4 : 4 ≤ sizeLine := by omega
  obtain ⟨l1, v, ok1, hv, e1⟩ := someS (t := [.lst (A.map encArc)]) (s := ([0, 1, 2, 5, 9, 99].map fun i : Nat => Val.int (i : Int))) hk ok (by simp) (by simp) (fun v hv => by obtain ⟨i, _, rfl⟩ := List.mem_map.mp hv; unfold Val.pl Val.bel; rfl)
  obtain ⟨c, hc, rfl⟩ := List.mem_map.mp hv
  obtain ⟨l2, u, ok2, hu, e2⟩ := drawS (t := [.lst (A.map encArc)]) hk ok1 (m := N) (by omega) (by omega)
  obtain ⟨l3, w, ok3, hw, e3⟩ := drawS (t := [.lst (A.map encArc)]) hk ok2 (m := N) (by omega) (by omega)
  obtain ⟨l4, d, ok4, hd, e4⟩ := drawS (t := [.lst (A.map encArc)]) hk ok3 (m := 3) (by omega) (by omega)
  have e1' : F__law_some [.ref k, .lst [.int 0, .int 1, .int 2, .int 5, .int 9, .int 99]] (h.set k (.lst l) ++ [.lst (A.map encArc)]) = .ok (.int (c : Int)) (h.set k (.lst l1) ++ [.lst (A.map encArc)]) := e1
  have e4' : F__law_draw_v09 [.ref k, .int 3] (h.set k (.lst l3) ++ [.lst (A.map encArc)]) = .ok (.int (d : Nat)) (h.set k (.lst l4) ++ [.lst (A.map encArc)]) := e4
  have hc9 : c ≤ 99 := by
    simp at hc
    omega
  have len : (h.set k (.lst l4)).length = h.length := by simp
  have ni := not_in pd_arc (by decide) (n := h.length) (H := h.set k (.lst l4) ++ [.lst (A.map encArc)]) (A := A) (by rw [← len]; exact get_top _ _) ⟨u, w, 1 + d, c⟩
  have ni' : inP true (.tup [.int (u : Int), .int (w : Int), .int (1 + (d : Int)), .int (c : Int)]) (.ref h.length) (h.set k (.lst l4) ++ [.lst (A.map encArc)]) = .ok (.bl (decide (⟨u, w, 1 + d, c⟩ ∉ A))) (h.set k (.lst l4) ++ [.lst (A.map encArc)]) := by
    rw [← ni]
    unfold encArc
    rw [show ((1 + d : Nat) : Int) = 1 + (d : Int) by omega]
  have isl : isL (.ref h.length) = true := rfl
  by_cases q : (⟨u, w, 1 + d, c⟩ : Arc) ∈ A
  · refine ⟨l4, A, ok4, hA, nd, by omega, ?_⟩
    rw [decide_eq_false (by simpa using q)] at ni'
    generalize A.map encArc = M at *
    simp -implicitDefEqProofs [B__law_net_0, e1', e2, e3, e4', ni', hs6, hs4]
  · refine ⟨l4, A ++ [⟨u, w, 1 + d, c⟩], ok4, fun a ha => ?_, ?_, by simp, ?_⟩
    · rcases List.mem_append.mp ha with ha | ha
      · exact hA a ha
      · cases List.mem_singleton.mp ha
        exact ⟨hu, hw, by show 1 ≤ 1 + d; omega, by show 1 + d ≤ 3; omega, hc9⟩
    · rw [List.nodup_append]
      refine ⟨nd, by simp, fun a ha b hb => ?_⟩
      cases List.mem_singleton.mp hb
      exact fun z => q (z ▸ ha)
    · rw [decide_eq_true q] at ni'
      have ap : appP (.ref h.length) [.tup [.int (u : Int), .int (w : Int), .int (1 + (d : Int)), .int (c : Int)]] (h.set k (.lst l4) ++ [.lst (A.map encArc)]) = .ok .non (h.set k (.lst l4) ++ [.lst (A.map encArc ++ [.tup [.int (u : Int), .int (w : Int), .int (1 + (d : Int)), .int (c : Int)]])]) :=
        app_end len.symm (by simp; omega) (by unfold Val.bel; rfl)
      have ea : (A ++ [(⟨u, w, 1 + d, c⟩ : Arc)]).map encArc = A.map encArc ++ [.tup [.int (u : Int), .int (w : Int), .int (1 + (d : Int)), .int (c : Int)]] := by
        rw [List.map_append]
        show _ ++ [encArc _] = _
        unfold encArc
        rw [show ((1 + d : Nat) : Int) = 1 + (d : Int) by omega]
      rw [ea]
      generalize A.map encArc = M at *
      simp -implicitDefEqProofs [B__law_net_0, e1', e2, e3, e4', ni', hs6, hs4, isL, ap]
theorem net_loop {h : Hh} {k : Nat} (hk : k < h.length) {N : Nat} (hN : 1 ≤ N) (hN2 : N ≤ 4) : ∀ (items : List Val) (l : List Val) (A : List Arc), HandOk l → (∀ a ∈ A, a.u < N ∧ a.v < N ∧ 1 ≤ a.l ∧ a.l ≤ 3 ∧ a.c ≤ 99) → A.Nodup → A.length + items.length ≤ 12 →
    ∃ (l' : List Val) (A' : List Arc), HandOk l' ∧ (∀ a ∈ A', a.u < N ∧ a.v < N ∧ 1 ≤ a.l ∧ a.l ≤ 3 ∧ a.c ≤ 99) ∧ A'.Nodup ∧ A'.length ≤ 12 ∧
      forL (gName 3) B__law_net_0 [] items [some (.ref k), some (.int (N : Int)), some (.ref h.length), none, none, none] (h.set k (.lst l) ++ [.lst (A.map encArc)])
        = .nx [some (.ref k), some (.int (N : Int)), some (.ref h.length), none, none, none] (h.set k (.lst l') ++ [.lst (A'.map encArc)])
  | [], l, A, ok, hA, nd, hl => ⟨l, A, ok, hA, nd, by simpa using hl, by rw [forL_nil]⟩
  | x :: items, l, A, ok, hA, nd, hl => by
    rw [List.length_cons] at hl
    obtain ⟨l1, A1, ok1, hA1, nd1, hl1, e1⟩ := net_body hk ok hN hN2 hA nd (by omega) x
    obtain ⟨l2, A2, ok2, hA2, nd2, hl2, e2⟩ := net_loop hk hN hN2 items l1 A1 ok1 hA1 nd1 (by omega)
    refine ⟨l2, A2, ok2, hA2, nd2, hl2, ?_⟩
    rw [forL_cons]
    show (lift (R.ok _ _) _ _) = _
    have e1' : B__law_net_0 ([some (.ref k), some (.int (N : Int)), some (.ref h.length), none, none, none].set 3 (some x)) (h.set k (.lst l) ++ [.lst (A.map encArc)]) = _ := e1
    rw [lift_ok, e1']
    exact e2
theorem law_net_ok {h : Hh} {k : Nat} {l : List Val} (hk : k < h.length) (ok : HandOk l) : ∃ l' n, HandOk l' ∧ Net.Ok n ∧ F__law_net [.ref k] (h.set k (.lst l)) = .ok (encNet n) (h.set k (.lst l')) := by
  have hs := sz_le (n := 1000000) (by omega)
  have hs2 : 2 ≤ sizeLine := by omega
  have hs0 : 0 ≤ sizeLine := by omega
  obtain ⟨l1, d, ok1, hd, e1⟩ := drawS hk ok (m := 4) (by omega) (by omega) []
  obtain ⟨l2, m, ok2, hm, e2⟩ := drawS hk ok1 (m := 10) (by omega) (by omega) [.lst []]
  obtain ⟨l3, A, ok3, hA, nd, hl, e3⟩ := net_loop hk (N := 1 + d) (by omega) (by omega) ((List.range m).map fun i : Nat => Val.int (i : Int)) l2 [] ok2 (fun _ h => nomatch h) List.nodup_nil (by simp; omega)
  refine ⟨l3, ⟨1 + d, A⟩, ok3, ⟨by show 1 ≤ 1 + d; omega, by show 1 + d ≤ 4; omega, hl, hA, nd⟩, ?_⟩
  have len : (h.set k (.lst l)).length = h.length := by simp
  have len1 : (h.set k (.lst l1)).length = h.length := by simp
  have len3 : (h.set k (.lst l3)).length = h.length := by simp
  refine run_rtH (h1 := h.set k (.lst l3) ++ [.lst (A.map encArc)]) ?_ ?_ (by rw [len, ← len3]; exact take_end _ _)
  rotate_left
  · unfold encNet Val.bel
    unfold belL
    have : belL (h.set k (Ob.lst l)).length (A.map encArc) = true := belL_map fun a _ => by unfold encArc Val.bel; rfl
    rw [len] at this ⊢
    simp [belL, Val.bel, this]
  have e1' : F__law_draw_v09 [.ref k, .int 4] (h.set k (.lst l)) = .ok (.int (d : Nat)) (h.set k (.lst l1)) := by simpa using e1
  have e2' : F__law_draw_v09 [.ref k, .int 10] (h.set k (.lst l1) ++ [.lst []]) = .ok (.int (m : Nat)) (h.set k (.lst l2) ++ [.lst []]) := e2
  have r1 : ∀ g : Hh, rng1I [.int (m : Int)] g = .ok ⟨(List.range m).map fun i : Nat => Val.int (i : Int), []⟩ g := fun g => rg1 (n := m) (by omega)
  have hN : ((1 + d : Nat) : Int) = 1 + (d : Int) := by omega
  rw [hN] at e3
  have tp := tuple_end (l := A.map encArc) (h := h.set k (.lst l3)) len3.symm
  have e3' : forL (gName 3) B__law_net_0 [] ((List.range m).map fun i : Nat => Val.int (i : Int)) [some (.ref k), some (.int (1 + (d : Int))), some (.ref h.length), none, none, none] (h.set k (.lst l2) ++ [.lst []]) = _ := e3
  unfold encNet
  rw [hN]
  generalize A.map encArc = M at *
  generalize ((List.range m).map fun i : Nat => Val.int (i : Int)) = RR at *
  simp -implicitDefEqProofs [S__law_net, x_for, e1', e2', r1, e3', tp, hs2, hs0, len1]
end E09
end Ev

set_option Elab.async false
set_option linter.all false
set_option maxRecDepth 100000
namespace Ev
open PySem PySem.Spec PyProof.Rows Mp
namespace E09
theorem enum_map {α : Type} (f : α → Val) (d : α) (l : List α) : enumV 0 (l.map f) = (List.range l.length).map fun (n : Nat) => Val.tup [.int (n : Int), f (l.getD n d)] := by
  apply List.ext_getElem?
  intro j
  rw [enumV_get, List.getElem?_map, List.getElem?_map]
  by_cases q : j < l.length
  · rw [List.getElem?_range q, List.getElem?_eq_getElem q]
    simp [List.getElem?_eq_getElem q]
  · rw [List.getElem?_eq_none (l := l) (by omega), List.getElem?_eq_none (l := List.range l.length) (by simpa using q)]
    rfl
abbrev A0 : Arc := ⟨0, 0, 0, 0⟩
/-- the arcs that leave a node -/
def outs (n : Net) (here : Nat) : List Nat := (List.range n.A.length).filter fun i => decide (((n.A.getD i A0).u : Int) = (here : Int))
theorem outs_lt {n : Net} {here i : Nat} (h : i ∈ outs n here) : ∃ a, n.A[i]? = some a ∧ a.u = here := by
  obtain ⟨h1, h2⟩ := List.mem_filter.mp h
  have hl := List.mem_range.mp h1
  refine ⟨n.A[i], List.getElem?_eq_getElem hl, ?_⟩
  rw [decide_eq_true_eq, List.getD_eq_getElem?_getD, List.getElem?_eq_getElem hl, Option.getD_some] at h2
  omega
theorem outs_comp {n : Net} (ok : n.Ok) {x0 x2 x3 x4 x6 x7 : Option Val} {here : Nat} {H : Hh} :
    eComp false [8, 9] (iEn (aCons (eOp ixD (eVar 1) (eC (.int 1))) aNil)) (gTup (gCons (gName 8) (gCons (gName 9) gNil))) (tB (eOp eqP (eOp ixD (eVar 9) (eC (.int 0))) (eVar 5))) (eVar 8)
      [x0, some (encNet n), x2, x3, x4, some (.int (here : Int)), x6, x7, none, none] H = .ok (.lst ((outs n here).map fun i : Nat => Val.int (i : Int))) H := by
  have hl := ok.a
  refine compF (fun i : Nat => Val.tup [.int (i : Int), encArc (n.A.getD i A0)]) (fun i : Nat => Val.int (i : Int)) (fun i => decide (((n.A.getD i A0).u : Int) = (here : Int))) (List.range n.A.length) ?_ (by simp; omega) fun i hi => ⟨_, rfl, ?_, fun _ => ?_⟩
  · have := enum_map encArc A0 n.A
    unfold encNet
    generalize n.A.map encArc = M at *
    simp -implicitDefEqProofs [enI, this]
  · unfold encArc
    generalize n.A.getD i A0 = a
    simp -implicitDefEqProofs [wipeE, eq_ii]
  · simp -implicitDefEqProofs [wipeE]
theorem walk_body {h : Hh} {k : Nat} {l : List Val} (hk : k < h.length) (ok : HandOk l) {n : Net} (no : n.Ok) {b here : Nat} {w : List Int} (hw : wend n b w = some here) (hl : w.length ≤ 100) {x2 x3 : Option Val} (x : Val) :
    ∃ (l' : List Val) (w' : List Int) (e : Nat), HandOk l' ∧ wend n b w' = some e ∧ w'.length ≤ w.length + 1 ∧
      B__law_walk_0 [some (.ref k), some (encNet n), x2, x3, some (.ref h.length), some (.int (here : Int)), some x, none, none, none] (h.set k (.lst l) ++ [.lst (w.map Val.int)])
        = .nx [some (.ref k), some (encNet n), x2, x3, some (.ref h.length), some (.int (e : Int)), none, none, none, none] (h.set k (.lst l') ++ [.lst (w'.map Val.int)]) := by
  have c1 := outs_comp no (x0 := some (.ref k)) (x2 := x2) (x3 := x3) (x4 := some (.ref h.length)) (x6 := some x) (x7 := none) (here := here) (H := h.set k (.lst l) ++ [.lst (w.map Val.int)])
  by_cases q : (outs n here) = []
  · refine ⟨l, w, here, ok, hw, by omega, ?_⟩
    rw [q] at c1
    generalize encNet n = N at *
    generalize w.map Val.int = W at *
    simp -implicitDefEqProofs [B__law_walk_0, c1]
  · have hl0 : 0 < (outs n here).length := by
      have : (outs n here).length ≠ 0 := fun z => q (List.eq_nil_of_length_eq_zero z)
      omega
    have hl1 : (outs n here).length ≤ 12 := by
      have := List.length_filter_le (fun i => decide (((n.A.getD i A0).u : Int) = (here : Int))) (List.range n.A.length)
      have h2 := no.a
      unfold outs
      rw [List.length_range] at this
      omega
    obtain ⟨l1, v, ok1, hv, e1⟩ := someS (t := [.lst (w.map Val.int)]) (s := ((outs n here).map fun i : Nat => Val.int (i : Int))) hk ok (by simpa using hl0) (by simp; omega) (fun v hv => by obtain ⟨i, _, rfl⟩ := List.mem_map.mp hv; unfold Val.pl Val.bel; rfl)
    obtain ⟨i, hi, rfl⟩ := List.mem_map.mp hv
    obtain ⟨a, ha, hu⟩ := outs_lt hi
    have st : stepI n here (i : Int) = some a.v := by
      unfold stepI
      rw [if_pos (by omega), Int.toNat_natCast, ha]
      simp [hu]
    have w' : wend n b (w ++ [(i : Int)]) = some a.v := by
      rw [wend_app, hw]
      show (match stepI n here (i : Int) with | some c => wend n c [] | none => none) = _
      rw [st]
      rfl
    have len : (h.set k (.lst l1)).length = h.length := by simp
    have ap : appP (.ref h.length) [.int (i : Int)] (h.set k (.lst l1) ++ [.lst (w.map Val.int)]) = .ok .non (h.set k (.lst l1) ++ [.lst (w.map Val.int ++ [.int (i : Int)])]) := app_end len.symm (by simp; omega) (by unfold Val.bel; rfl)
    have il : ixP (.ref h.length) (.int (-1)) (h.set k (.lst l1) ++ [.lst (w.map Val.int ++ [.int (i : Int)])]) = .ok (.int (i : Int)) (h.set k (.lst l1) ++ [.lst (w.map Val.int ++ [.int (i : Int)])]) := by
      unfold ixP
      dsimp only
      rw [lsq_end len.symm]
      dsimp only
      rw [L2.atI_last]
    have ia : ∀ g : Hh, ixP (.tup (n.A.map encArc)) (.int (i : Int)) g = .ok (encArc a) g := fun g => ix_arc (n := n) (i := (i : Int)) (by omega) (by rw [Int.toNat_natCast]; exact ha) g
    refine ⟨l1, w ++ [(i : Int)], a.v, ok1, w', by simp, ?_⟩
    rw [List.map_append]
    show _ = SR.nx _ (h.set k (.lst l1) ++ [.lst (w.map Val.int ++ [.int (i : Int)])])
    have hlen : ((((outs n here).map fun i : Nat => Val.int (i : Int)).length : Nat) : Int) = ((outs n here).length : Int) := by rw [List.length_map]
    have hpos : (0 : Int) < ((outs n here).length : Int) := by omega
    unfold encNet at c1 ⊢
    generalize ((outs n here).map fun i : Nat => Val.int (i : Int)) = OO at *
    generalize n.A.map encArc = M at *
    generalize w.map Val.int = W at *
    unfold encArc at ia
    simp -implicitDefEqProofs [B__law_walk_0, c1, hlen, hpos, hl0, e1, isL, ap, il, ia]
theorem walk_loop {h : Hh} {k : Nat} (hk : k < h.length) {n : Net} (no : n.Ok) {b : Nat} {x2 x3 : Option Val} : ∀ (items : List Val) (l : List Val) (w : List Int) (here : Nat), HandOk l → wend n b w = some here → w.length + items.length ≤ 100 →
    ∃ (l' : List Val) (w' : List Int) (e : Nat), HandOk l' ∧ wend n b w' = some e ∧ w'.length ≤ w.length + items.length ∧
      forL (gName 6) B__law_walk_0 [] items [some (.ref k), some (encNet n), x2, x3, some (.ref h.length), some (.int (here : Int)), none, none, none, none] (h.set k (.lst l) ++ [.lst (w.map Val.int)])
        = .nx [some (.ref k), some (encNet n), x2, x3, some (.ref h.length), some (.int (e : Int)), none, none, none, none] (h.set k (.lst l') ++ [.lst (w'.map Val.int)])
  | [], l, w, here, ok, hw, hl => ⟨l, w, here, ok, hw, by simp, by rw [forL_nil]⟩
  | x :: items, l, w, here, ok, hw, hl => by
    rw [List.length_cons] at hl
    obtain ⟨l1, w1, e1, ok1, hw1, hl1, q1⟩ := walk_body hk ok no hw (by omega) (x2 := x2) (x3 := x3) x
    obtain ⟨l2, w2, e2, ok2, hw2, hl2, q2⟩ := walk_loop hk no items l1 w1 e1 ok1 hw1 (by omega)
    refine ⟨l2, w2, e2, ok2, hw2, by rw [List.length_cons]; omega, ?_⟩
    rw [forL_cons]
    show (lift (R.ok _ _) _ _) = _
    have q1' : B__law_walk_0 ([some (.ref k), some (encNet n), x2, x3, some (.ref h.length), some (.int (here : Int)), none, none, none, none].set 6 (some x)) (h.set k (.lst l) ++ [.lst (w.map Val.int)]) = _ := q1
    rw [lift_ok, q1']
    exact q2
theorem law_walk_ok {h : Hh} {k : Nat} {l : List Val} (hk : k < h.length) (ok : HandOk l) {n : Net} (no : n.Ok) (b : Nat) {m : Nat} (hm : m ≤ 90) :
    ∃ (l' : List Val) (w : List Int) (e : Nat), HandOk l' ∧ wend n b w = some e ∧ w.length ≤ m ∧ F__law_walk [.ref k, encNet n, .int (b : Int), .int (m : Int)] (h.set k (.lst l)) = .ok (encW w) (h.set k (.lst l')) := by
  have hs := sz_le (n := 1000000) (by omega)
  have hs2 : 2 ≤ sizeLine := by omega
  have hs0 : 0 ≤ sizeLine := by omega
  obtain ⟨l1, d, ok1, hd, e1⟩ := drawS hk ok (m := m + 1) (by omega) (by omega) [.lst []]
  obtain ⟨l2, w, e, ok2, hw, hl, e2⟩ := walk_loop hk no (b := b) (x2 := some (.int (b : Int))) (x3 := some (.int (m : Int))) ((List.range d).map fun i : Nat => Val.int (i : Int)) l1 [] b ok1 rfl (by simp; omega)
  rw [List.length_map, List.length_range] at hl
  refine ⟨l2, w, e, ok2, hw, by simp at hl; omega, ?_⟩
  have len : (h.set k (.lst l)).length = h.length := by simp
  have len2 : (h.set k (.lst l2)).length = h.length := by simp
  refine run_rtH (h1 := h.set k (.lst l2) ++ [.lst (w.map Val.int)]) ?_ ?_ (by rw [len, ← len2]; exact take_end _ _)
  rotate_left
  · unfold encW Val.bel
    exact belL_map fun a _ => by unfold Val.bel; rfl
  have hm1 : ((m + 1 : Nat) : Int) = (m : Int) + 1 := by omega
  rw [hm1] at e1
  have r1 : ∀ g : Hh, rng1I [.int (d : Int)] g = .ok ⟨(List.range d).map fun i : Nat => Val.int (i : Int), []⟩ g := fun g => rg1 (n := d) (by omega)
  have tp := tuple_end (l := w.map Val.int) (h := h.set k (.lst l2)) len2.symm
  have e2' : forL (gName 6) B__law_walk_0 [] ((List.range d).map fun i : Nat => Val.int (i : Int)) [some (.ref k), some (encNet n), some (.int (b : Int)), some (.int (m : Int)), some (.ref h.length), some (.int (b : Int)), none, none, none, none] (h.set k (.lst l1) ++ [.lst []]) = _ := e2
  unfold encW
  generalize w.map Val.int = W at *
  generalize encNet n = N at *
  generalize ((List.range d).map fun i : Nat => Val.int (i : Int)) = RR at *
  simp -implicitDefEqProofs [S__law_walk, x_for, e1, e2', r1, tp, hs2, hs0, len]
end E09
end Ev

set_option Elab.async false
set_option linter.all false
set_option maxRecDepth 100000
namespace Ev
open PySem PySem.Spec PyProof.Rows Mp
namespace E09
@[simp] theorem bel_w (k : Nat) (w : List Int) : (encW w).bel k = true := by unfold encW Val.bel; exact belL_map fun a _ => by unfold Val.bel; rfl
theorem wend_take {n : Net} {w : List Int} {b e : Nat} (hw : wend n b w = some e) {i : Nat} (hi : i < w.length) : ∃ a, 0 ≤ w.getD i 0 ∧ n.A[(w.getD i 0).toNat]? = some a ∧ wend n b (w.take (i + 1)) = some a.v := by
  have h1 : w.take (i + 1) = w.take i ++ [w.getD i 0] := by
    rw [List.take_succ, List.getD_eq_getElem?_getD, List.getElem?_eq_getElem hi]; rfl
  have h2 : ∃ c, wend n b (w.take (i + 1)) = some c := by
    have := wend_app n (w.take (i + 1)) (w.drop (i + 1)) b
    rw [List.take_append_drop, hw] at this
    cases q : wend n b (w.take (i + 1)) with
    | none => rw [q] at this; cases this
    | some c => exact ⟨c, rfl⟩
  obtain ⟨c, hc⟩ := h2
  have hc' := hc
  rw [h1] at hc
  obtain ⟨h0, a, ha, hv⟩ := wend_last hc
  exact ⟨a, h0, ha, by rw [hc', hv]⟩
theorem slW (w : List Int) (i : Nat) (g : Hh) : slP false (encW w) none (some ((i : Int) + 1)) g = .ok (encW (w.take (i + 1))) g := by
  show R.ok (Val.tup (cutL (w.map Val.int) none (some ((i : Int) + 1)))) g = _
  have := cut_take (w.map Val.int) (i + 1)
  rw [show ((i + 1 : Nat) : Int) = (i : Int) + 1 by omega] at this
  rw [this, ← List.map_take]
  rfl
theorem law_ring_ok {h : Hh} {k : Nat} {l : List Val} (hk : k < h.length) (ok : HandOk l) {n : Net} (no : n.Ok) (b : Nat) :
    ∃ (l' : List Val) (w : List Int), HandOk l' ∧ wend n b w = some b ∧ w.length ≤ 8 ∧ F__law_ring [.ref k, encNet n, .int (b : Int)] (h.set k (.lst l)) = .ok (encW w) (h.set k (.lst l')) := by
  have hs := sz_le (n := 1000000) (by omega)
  have hs0 : 0 ≤ sizeLine := by omega
  obtain ⟨l1, w, e, ok1, hw, hl, e1⟩ := law_walk_ok hk ok no b (m := 8) (by omega)
  have e1' : F__law_walk [.ref k, encNet n, .int (b : Int), .int 8] (h.set k (.lst l)) = .ok (encW w) (h.set k (.lst l1)) := e1
  have en := enum_map Val.int 0 w
  obtain ⟨ef, mf, ⟨hm, F, x4, hF, hFl, rfl⟩, lp⟩ := for_inv (g := gTup (gCons (gName 6) (gCons (gName 7) gNil))) (b := B__law_ring_0) (enc := fun i : Nat => Val.tup [.int (i : Int), .int (w.getD i 0)]) (l := List.range w.length)
    (fun e m => m = h.set k (.lst l1) ∧ ∃ (F : List Int) (x4 : Option Val), wend n b F = some b ∧ F.length ≤ 8 ∧ e = [some (.ref k), some (encNet n), some (.int (b : Int)), some (encW w), x4, some (encW F), none, none])
    (env := [some (.ref k), some (encNet n), some (.int (b : Int)), some (encW w), some (.int (b : Int)), some (.tup []), none, none]) (h := h.set k (.lst l1)) ⟨rfl, [], _, rfl, by simp, rfl⟩
    (fun i hi e m ⟨hm, F, x4, hF, hFl, he⟩ => by
      subst hm he
      have hi' := List.mem_range.mp hi
      obtain ⟨a, h0, ha, hc⟩ := wend_take hw hi'
      have ia : ∀ g : Hh, ixP (.tup (n.A.map encArc)) (.int (w.getD i 0)) g = .ok (encArc a) g := fun g => ix_arc (n := n) h0 ha g
      have sl := slW w i (h.set k (.lst l1))
      refine ⟨[some (.ref k), some (encNet n), some (.int (b : Int)), some (encW w), x4, some (encW F), some (.int (i : Int)), some (.int (w.getD i 0))], rfl, ?_⟩
      by_cases q : a.v = b
      · refine ⟨_, _, ⟨rfl, w.take (i + 1), none, by rw [hc, q], by rw [List.length_take]; omega, rfl⟩, .inl ?_⟩
        unfold encNet
        generalize n.A.map encArc = M at *
        unfold encArc at ia
        generalize encW (w.take (i + 1)) = WT at *
        generalize encW F = WF at *
        generalize encW w = W at *
        generalize w.getD i 0 = wi at *
        simp -implicitDefEqProofs [B__law_ring_0, ia, eq_ii, q, sl]
      · have q' : ¬ ((a.v : Int) = (b : Int)) := by omega
        refine ⟨_, _, ⟨rfl, F, none, hF, hFl, rfl⟩, .inl ?_⟩
        unfold encNet
        generalize n.A.map encArc = M at *
        unfold encArc at ia
        generalize encW (w.take (i + 1)) = WT at *
        generalize encW F = WF at *
        generalize encW w = W at *
        generalize w.getD i 0 = wi at *
        simp -implicitDefEqProofs [B__law_ring_0, ia, eq_ii, q', sl])
  subst hm
  refine ⟨l1, F, ok1, hF, hFl, run_rtH (h1 := h.set k (.lst l1)) ?_ (by unfold encW Val.bel; exact belL_map fun a _ => by unfold Val.bel; rfl) (List.take_of_length_le (by simp))⟩
  have ei : enI [encW w] (h.set k (.lst l1)) = .ok ⟨(List.range w.length).map fun (n : Nat) => Val.tup [.int (n : Int), .int (w.getD n 0)], []⟩ (h.set k (.lst l1)) := by
    unfold encW enI
    dsimp only
    rw [en]
  generalize ((List.range w.length).map fun (n : Nat) => Val.tup [.int (n : Int), .int (w.getD n 0)]) = RR at *
  generalize encNet n = N at *
  generalize encW F = WF at *
  generalize encW w = W at *
  simp -implicitDefEqProofs [S__law_ring, x_for, e1', ei, lp, hs0]
theorem law_winding_ok {h : Hh} {k : Nat} {l : List Val} (hk : k < h.length) (ok : HandOk l) {n : Net} (no : n.Ok) {b : Nat} (hb : b < n.N) :
    ∃ (l' : List Val) (A G B : List Int) (t : Int) (m e : Nat), HandOk l' ∧ WOk n b e A G t B ∧ wend n b A = some m ∧ wend n m B = some e ∧ t ≤ 10 ^ 40 ∧ F__law_winding [.ref k, encNet n, .int (b : Int)] (h.set k (.lst l)) = .ok (encWd A G t B) (h.set k (.lst l')) := by
  have hs := sz_le (n := 1000000) (by omega)
  have hs5 : 5 ≤ sizeLine := by omega
  have hs4 : 4 ≤ sizeLine := by omega
  obtain ⟨l1, A, m, ok1, hA, zA, e1⟩ := law_walk_ok hk ok no b (m := 5) (by omega)
  have e1' : F__law_walk [.ref k, encNet n, .int (b : Int), .int 5] (h.set k (.lst l)) = .ok (encW A) (h.set k (.lst l1)) := e1
  have e2 := law_end_ok hA (h := h.set k (.lst l1))
  obtain ⟨l2, G, ok2, hG, zG, e3⟩ := law_ring_ok hk ok1 no m
  obtain ⟨l3, d1, ok3, hd1, e4⟩ := drawS hk ok2 (m := 100) (by omega) (by omega) []
  obtain ⟨l4, d2, ok4, hd2, e5⟩ := drawS hk ok3 (m := 1000000) (by omega) (by omega) []
  rw [List.append_nil, List.append_nil] at e4 e5
  have e4' : F__law_draw_v09 [.ref k, .int 100] (h.set k (.lst l2)) = .ok (.int (d1 : Int)) (h.set k (.lst l3)) := e4
  have e5' : F__law_draw_v09 [.ref k, .int 1000000] (h.set k (.lst l3)) = .ok (.int (d2 : Int)) (h.set k (.lst l4)) := e5
  obtain ⟨l5, v, ok5, hv, e6⟩ := someS (t := []) (s := ([0, 1, 2, (d1 : Int), 1000000000000000000000000000000000000000 + (d2 : Int)].map Val.int)) hk ok4 (by simp) (by simp) (fun v hv => by obtain ⟨i, _, rfl⟩ := List.mem_map.mp hv; unfold Val.pl Val.bel; rfl)
  obtain ⟨t, ht, rfl⟩ := List.mem_map.mp hv
  rw [List.append_nil, List.append_nil] at e6
  have e6' : F__law_some [.ref k, .lst [.int 0, .int 1, .int 2, .int (d1 : Int), .int (1000000000000000000000000000000000000000 + (d2 : Int))]] (h.set k (.lst l4)) = .ok (.int t) (h.set k (.lst l5)) := e6
  have ht0 : 0 ≤ t ∧ t ≤ 10 ^ 40 := by
    simp at ht
    omega
  obtain ⟨l6, B, e, ok6, hB, zB, e7⟩ := law_walk_ok hk ok5 no m (m := 5) (by omega)
  have e7' : F__law_walk [.ref k, encNet n, .int (m : Int), .int 5] (h.set k (.lst l5)) = .ok (encW B) (h.set k (.lst l6)) := e7
  have p1 : ∀ (g : Hh), powP (.int 10) (.int 39) g = .ok (.int 1000000000000000000000000000000000000000) g := fun g => by
    show (if (0 : Int) ≤ 39 ∧ (39 : Int) ≤ 1000000 ∧ (10 : Int).natAbs < 2 ^ 64 then R.ok (Val.int (10 ^ (39 : Int).toNat)) g else .bad) = _
    rw [if_pos (by decide)]
    rfl
  have p2 : ∀ (g : Hh), powP (.int 10) (.int 6) g = .ok (.int 1000000) g := fun g => by
    show (if (0 : Int) ≤ 6 ∧ (6 : Int) ≤ 1000000 ∧ (10 : Int).natAbs < 2 ^ 64 then R.ok (Val.int (10 ^ (6 : Int).toNat)) g else .bad) = _
    rw [if_pos (by decide)]
    rfl
  have wE : ∀ t' : Int, 0 ≤ t' → (G = [] → t' = 0) → windE n b A G t' B = some e := fun t' h0 hz => by
    unfold windE
    rw [if_pos h0, hA]
    dsimp only
    rw [if_pos hG, if_neg (fun z => by have := hz z.1; omega), hB]
  have lg := fun g : Hh => len_w G g
  by_cases q : G = []
  · refine ⟨l6, A, G, B, 0, m, e, ok6, ⟨no, hb, wE 0 (by omega) (fun _ => rfl), by omega, by omega, by omega⟩, hA, hB, by decide, run_rtH (h1 := h.set k (.lst l6)) ?_ ?_ (List.take_of_length_le (by simp))⟩
    rotate_left
    · unfold encWd Val.bel
      simp [belL, Val.bel]
    · have lg' : ∀ g : Hh, lenD [encW G] g = .ok (.int 0) g := fun g => by rw [lg, q]; rfl
      unfold encWd
      generalize encNet n = N at *
      generalize encW A = WA at *
      generalize encW G = WG at *
      generalize encW B = WB at *
      simp -implicitDefEqProofs [S__law_winding, e1', e2, e3, e4', e5', e6', e7', p1, p2, hs5, hs4, lg']
  · have hpos : 0 < G.length := by
      have : G.length ≠ 0 := fun z => q (List.eq_nil_of_length_eq_zero z)
      omega
    refine ⟨l6, A, G, B, t, m, e, ok6, ⟨no, hb, wE t ht0.1 (fun z => absurd z q), by omega, by omega, by omega⟩, hA, hB, ht0.2, run_rtH (h1 := h.set k (.lst l6)) ?_ ?_ (List.take_of_length_le (by simp))⟩
    rotate_left
    · unfold encWd Val.bel
      simp [belL, Val.bel]
    · unfold encWd
      generalize encNet n = N at *
      generalize encW A = WA at *
      generalize encW G = WG at *
      generalize encW B = WB at *
      simp -implicitDefEqProofs [S__law_winding, e1', e2, e3, e4', e5', e6', e7', p1, p2, hs5, hs4, lg, hpos]
end E09
end Ev

set_option Elab.async false
set_option linter.all false
set_option maxRecDepth 100000
namespace Ev
open PySem PySem.Spec PyProof.Rows Mp
namespace E09
@[simp] theorem x_lam (g : (Hh → R Val) → Hh → R Val) (eb : Ev) (env : Mp.Env) (h : Hh) : eLam g eb env h = g (fun m => eb env m) h := rfl
section
variable {θ : Hh → R Val} {h : Hh}
theorem said_ok {v : Val} (e : θ h = .ok v h) (hv : v.bel h.length = true) : F__law_said θ h = .ok v h := by
  refine run_rt (h1 := h) ?_ hv List.take_length
  show sTryA _ _ _ _ _ = _
  rw [x_tryA]
  show (match lift (θ h) _ fun v h1 => SR.rt v h1 with | .exc x e h1 => _ | .nx e h1 => _ | .rt v h1 => _ | .bk e h1 => _ | .ct e h1 => _ | .bad => _) = _
  rw [e]
  rfl
theorem said_net (e : θ h = .exc ⟨12, []⟩ h) : F__law_said θ h = .ok (.str "NoNet") h := by
  refine run_rt (h1 := h) ?_ rfl List.take_length
  show sTryA _ _ _ _ _ = _
  rw [x_tryA]
  show (match lift (θ h) _ fun v h1 => SR.rt v h1 with | .exc x e h1 => _ | .nx e h1 => _ | .rt v h1 => _ | .bk e h1 => _ | .ct e h1 => _ | .bad => _) = _
  rw [e]
  rfl
theorem said_node (e : θ h = .exc ⟨13, []⟩ h) : F__law_said θ h = .ok (.str "NoNode") h := by
  refine run_rt (h1 := h) ?_ rfl List.take_length
  show sTryA _ _ _ _ _ = _
  rw [x_tryA]
  show (match lift (θ h) _ fun v h1 => SR.rt v h1 with | .exc x e h1 => _ | .nx e h1 => _ | .rt v h1 => _ | .bk e h1 => _ | .ct e h1 => _ | .bad => _) = _
  rw [e]
  rfl
theorem said_winding (e : θ h = .exc ⟨38, []⟩ h) : F__law_said θ h = .ok (.str "NoWinding") h := by
  refine run_rt (h1 := h) ?_ rfl List.take_length
  show sTryA _ _ _ _ _ = _
  rw [x_tryA]
  show (match lift (θ h) _ fun v h1 => SR.rt v h1 with | .exc x e h1 => _ | .nx e h1 => _ | .rt v h1 => _ | .bk e h1 => _ | .ct e h1 => _ | .bad => _) = _
  rw [e]
  rfl
theorem said_many (e : θ h = .exc ⟨41, [("most", .int 2000)]⟩ h) : F__law_said θ h = .ok (.tup [.str "TooMany", .int 2000]) h := by
  refine run_rt (h1 := h) ?_ rfl List.take_length
  show sTryA _ _ _ _ _ = _
  rw [x_tryA]
  show (match lift (θ h) _ fun v h1 => SR.rt v h1 with | .exc x e h1 => _ | .nx e h1 => _ | .rt v h1 => _ | .bk e h1 => _ | .ct e h1 => _ | .bad => _) = _
  rw [e]
  rfl
end
theorem many_eq (h : Hh) : eqP (.tup [.str "TooMany", .int 2000]) (.tup [.str "TooMany", .int 2000]) h = .ok (.bl true) h := by
  have o : PyData.strOk "TooMany" = true := ok_of _
  have e : pdOf (.tup [.str "TooMany", .int 2000]) h = some (.tuple [.str "TooMany", .int 2000]) := rfl
  unfold eqP
  rw [e]
  dsimp only
  have s1 : SeqAt.shaped (.tuple [.str "TooMany", .int 2000]) = true := by simp [SeqAt.shaped, PyData.canLay0, PyData.canLayAll0, PyData.depth, PyData.depthAll, o]
  rw [if_pos ⟨s1, s1⟩]
  simp [PyData.eqv, PyData.eqvAll]
/-! the walk of a winding -/
theorem wend_rep {n : Net} {m : Nat} {G : List Int} (hG : wend n m G = some m) : ∀ k : Nat, wend n m (List.replicate k G).flatten = some m
  | 0 => rfl
  | k + 1 => by rw [List.replicate_succ, List.flatten_cons, wend_app, hG]; exact wend_rep hG k
theorem wend_unw {n : Net} {b e : Nat} {A G B : List Int} {t : Int} (w : WOk n b e A G t B) : wend n b (unw A G t B) = some e := by
  obtain ⟨_, m, h1, h2, _, h3⟩ := w.t0
  unfold unw
  rw [wend_app, wend_app, h1]
  dsimp only
  rw [wend_rep h2]
  exact h3
theorem sum_rep (n : Net) (f : Arc → Nat) (G : List Int) : ∀ k : Nat, sumA n f (List.replicate k G).flatten = k * sumA n f G
  | 0 => by simp [sumA]
  | k + 1 => by rw [List.replicate_succ, List.flatten_cons, sumA_app, sum_rep n f G k, Nat.succ_mul, Nat.add_comm]
theorem wsum_unw {n : Net} (f : Arc → Nat) {A G B : List Int} {t : Int} (h0 : 0 ≤ t) : wsum n f A G t B = ((sumA n f (unw A G t B) : Nat) : Int) := by
  unfold wsum unw
  rw [sumA_app, sumA_app, sum_rep, Int.natCast_add, Int.natCast_add, Int.natCast_add, Int.natCast_mul, Int.toNat_of_nonneg h0]
  omega
theorem unw_in {n : Net} {b e : Nat} {A G B : List Int} {t : Int} (w : WOk n b e A G t B) : ∀ i ∈ unw A G t B, 0 ≤ i ∧ i < 1000 := fun i hi => by
  obtain ⟨h1, h2⟩ := wend_in (wend_unw w) i hi
  have := w.ok.a
  omega
theorem unwound_right_ok {n : Net} {b e : Nat} {A G B : List Int} {t : Int} (w : WOk n b e A G t B) (he : e < n.N) {h : Hh} :
    F__law_is_unwound_right [encNet n, .int (b : Int), .int (e : Int), encWd A G t B] h = .ok (.bl true) h := by
  refine run_rt (h1 := h) ?_ rfl List.take_length
  obtain ⟨h0, m, q1, q2, q3, q4⟩ := w.t0
  have z1 := w.zA; have z2 := w.zG; have z3 := w.zB
  have m0 : mulP false (.int (G.length : Int)) (.int t) h = .ok (.int ((G.length : Int) * t)) h := mul_sm' (by omega)
  have cm : (G.length : Int) * t = t * (G.length : Int) := Int.mul_comm _ _
  rw [cm] at m0
  have l1 := len_w A h; have l2 := len_w B h; have l3 := len_w G h
  by_cases hz : 2000 < (A.length : Int) + t * (G.length : Int) + (B.length : Int)
  · have s1 : F__law_said (fun m => F_unwound [encNet n, .int (b : Int), .tup [encW A, encW G, .int t, encW B]] m) h = _ := said_many (unwound_many w (by omega))
    have s2 := many_eq h
    unfold encWd
    generalize encNet n = N at *
    generalize encW A = WA at *
    generalize encW G = WG at *
    generalize encW B = WB at *
    have hs := sz_le (n := 1000000) (by omega)
    have hs2 : 2 ≤ sizeLine := by omega
    simp -implicitDefEqProofs [S__law_is_unwound_right, s1, m0, l1, l2, l3, hz, s2, hs2]
  · have uw := unwound_ok w (h := h) (by omega)
    have s1 : F__law_said (fun m => F_unwound [encNet n, .int (b : Int), .tup [encW A, encW G, .int t, encW B]] m) h = .ok (encW (unw A G t B)) h := said_ok uw (by simp)
    have m1 := mul_w h0 q3 (by omega) h
    have hl : (List.replicate t.toNat G).flatten.length ≤ 3000 := by
      rw [rep_len]
      have : ((t.toNat * G.length : Nat) : Int) = t * (G.length : Int) := by rw [Int.natCast_mul, Int.toNat_of_nonneg h0]
      omega
    have a1 := add_ww false A (List.replicate t.toNat G).flatten h (by omega)
    have a2 : addP false (encW (A ++ (List.replicate t.toNat G).flatten)) (encW B) h = .ok (encW (unw A G t B)) h := add_ww false (A ++ (List.replicate t.toNat G).flatten) B h (by rw [List.length_append]; omega)
    have ul : (unw A G t B).length ≤ 3000 := by
      have : (unw A G t B).length = A.length + (List.replicate t.toNat G).flatten.length + B.length := by unfold unw; rw [List.length_append, List.length_append]
      rw [rep_len] at this
      have h2 : ((t.toNat * G.length : Nat) : Int) = t * (G.length : Int) := by rw [Int.natCast_mul, Int.toNat_of_nonneg h0]
      omega
    have wu := wend_unw w
    have i1 := law_is_w (unw_in w) ul h
    have i2 := is_walk_ok w.ok w.hb he (unw A G t B) (h := h)
    rw [decide_eq_true wu] at i2
    have c1 := winding_length_ok w (h := h)
    have c2 := winding_cost_ok w (h := h)
    rw [wsum_unw _ h0] at c1 c2
    have c3 := length_of_ok w.ok w.hb wu (by omega) (h := h)
    have c4 := cost_of_ok w.ok w.hb wu (by omega) (h := h)
    have ne1 := ne_ii ((sumA n (·.l) (unw A G t B) : Nat) : Int) ((sumA n (·.l) (unw A G t B) : Nat) : Int) h
    have ne2 := ne_ii ((sumA n (·.c) (unw A G t B) : Nat) : Int) ((sumA n (·.c) (unw A G t B) : Nat) : Int) h
    rw [decide_eq_true rfl] at ne1 ne2
    obtain ⟨x, hx, hxl⟩ := least_le (fun a ha => (w.ok.arcs a ha).2.2.1) wu
    have lc : sumA n (·.l) (unw A G t B) ≤ 300 → F_least_cost [encNet n, .int (b : Int), .int (e : Int), .int ((sumA n (·.l) (unw A G t B) : Nat) : Int)] h = .ok (.int (x : Int)) h := fun q => least_cost_ok w.ok w.hb he q hx
    generalize sumA n (·.l) (unw A G t B) = LL at *
    generalize sumA n (·.c) (unw A G t B) = CC at *
    have nb : ∀ g : Hh, notBP (.bl true) (.bl true) g = .ok (.bl false) g := fun _ => rfl
    have le1 : ∀ g : Hh, leP (.int (x : Int)) (.int (CC : Int)) g = .ok (.bl true) g := fun g => by
      show R.ok (Val.bl (decide ((x : Int) ≤ (CC : Int)))) g = _
      rw [decide_eq_true (by omega)]
    unfold encWd at *
    generalize encW (unw A G t B) = WU at *
    generalize encW (A ++ (List.replicate t.toNat G).flatten) = WV at *
    generalize encW (List.replicate t.toNat G).flatten = WR at *
    generalize encNet n = N at *
    generalize encW A = WA at *
    generalize encW G = WG at *
    generalize encW B = WB at *
    by_cases hn : LL ≤ 300
    · have lc' := lc hn
      have hn1 : ¬ (300 < LL) := by omega
      have hn2 : ¬ ((300 : Int) < (LL : Int)) := by omega
      simp -implicitDefEqProofs [S__law_is_unwound_right, s1, m0, l1, l2, l3, hz, m1, a1, a2, i1, i2, nb, c1, c2, c3, c4, ne1, ne2, hn1, hn2, lc', le1]
    · have hn1 : 300 < LL := by omega
      have hn2 : (300 : Int) < (LL : Int) := by omega
      simp -implicitDefEqProofs [S__law_is_unwound_right, s1, m0, l1, l2, l3, hz, m1, a1, a2, i1, i2, nb, c1, c2, c3, c4, ne1, ne2, hn1, hn2]
/-! the winding bent -/
theorem law_bent_ok {h : Hh} {k : Nat} {l : List Val} (hk : k < h.length) (ok : HandOk l) {n : Net} (no : n.Ok) {A G B : List Int} {t : Int} (zA : A.length ≤ 10) (zG : G.length ≤ 10) (zB : B.length ≤ 10) :
    ∃ (l' : List Val) (A' G' B' : List Int), HandOk l' ∧ F__law_bent [.ref k, encNet n, encWd A G t B] (h.set k (.lst l)) = .ok (encWd A' G' t B') (h.set k (.lst l')) := by
  have hs := sz_le (n := 1000000) (by omega)
  have hs4 : 4 ≤ sizeLine := by omega
  have hs1 : 1 ≤ sizeLine := by omega
  have hs0 : 0 ≤ sizeLine := by omega
  have hl := no.a
  obtain ⟨l1, d, ok1, hd, e1⟩ := drawS hk ok (m := n.A.length + 1) (by omega) (by omega) []
  obtain ⟨l2, s, ok2, hs', e2⟩ := drawS hk ok1 (m := 5) (by omega) (by omega) []
  rw [List.append_nil, List.append_nil] at e1 e2
  have e2' : F__law_draw_v09 [.ref k, .int 5] (h.set k (.lst l1)) = .ok (.int (s : Int)) (h.set k (.lst l2)) := e2
  rw [show ((n.A.length + 1 : Nat) : Int) = (n.A.length : Int) + 1 by omega] at e1
  have ln : ((n.A.map encArc).length : Int) = (n.A.length : Int) := by rw [List.length_map]
  have t1 : Val.tup [.int (d : Int)] = encW [(d : Int)] := rfl
  have t0 : Val.tup [] = encW [] := rfl
  have a1 := fun g : Hh => add_ww false A [(d : Int)] g (by simp; omega)
  have a2 := fun g : Hh => add_ww false G [(d : Int)] g (by simp; omega)
  have a3 := fun g : Hh => add_ww false [(d : Int)] B g (by simp; omega)
  have sl : ∀ g : Hh, slP false (encW A) (some 1) none g = .ok (encW (A.drop 1)) g := fun g => by
    show R.ok (Val.tup (cutL (A.map Val.int) (some 1) none)) g = _
    have : cutL (A.map Val.int) (some 1) none = (A.map Val.int).drop 1 := by
      unfold cutL
      rw [HT.sIx_none, show (1 : Int) = ((1 : Nat) : Int) from rfl, HT.sIx_nat]
      rcases A with _ | ⟨a, A⟩
      · simp
      · simp
        exact List.take_of_length_le (by simp)
    rw [this, ← List.map_drop]
    rfl
  have fin : ∀ A' G' B' : List Int, S__law_bent ([.ref k, encNet n, encWd A G t B].map some ++ List.replicate (9 - [Val.ref k, encNet n, encWd A G t B].length) none) (h.set k (.lst l)) = .rt (encWd A' G' t B') (h.set k (.lst l2)) →
      ∃ (l' : List Val) (A' G' B' : List Int), HandOk l' ∧ F__law_bent [.ref k, encNet n, encWd A G t B] (h.set k (.lst l)) = .ok (encWd A' G' t B') (h.set k (.lst l')) := fun A' G' B' e =>
    ⟨l2, A', G', B', ok2, run_rtH (h1 := h.set k (.lst l2)) e (by unfold encWd Val.bel; simp [belL, Val.bel]) (List.take_of_length_le (by simp))⟩
  have hsv : s = 0 ∨ s = 1 ∨ s = 2 ∨ s = 3 ∨ s = 4 := by omega
  unfold encNet at fin ⊢
  unfold encWd at fin ⊢
  rw [t1.symm] at a1 a2 a3
  generalize n.A.map encArc = M at *
  rcases hsv with rfl | rfl | rfl | rfl | rfl
  · refine fin (A ++ [(d : Int)]) G B ?_
    generalize encW (A ++ [(d : Int)]) = W1 at *
    generalize encW A = WA at *
    generalize encW G = WG at *
    generalize encW B = WB at *
    simp -implicitDefEqProofs [S__law_bent, e1, e2', ln, eq_ii, a1, a2, a3, sl, hs4, hs1, hs0]
  · refine fin A (G ++ [(d : Int)]) B ?_
    generalize encW (G ++ [(d : Int)]) = W1 at *
    generalize encW A = WA at *
    generalize encW G = WG at *
    generalize encW B = WB at *
    simp -implicitDefEqProofs [S__law_bent, e1, e2', ln, eq_ii, a1, a2, a3, sl, hs4, hs1, hs0]
  · refine fin A [] B ?_
    rw [← t0]
    generalize encW A = WA at *
    generalize encW G = WG at *
    generalize encW B = WB at *
    simp -implicitDefEqProofs [S__law_bent, e1, e2', ln, eq_ii, a1, a2, a3, sl, hs4, hs1, hs0]
  · refine fin A G ([(d : Int)] ++ B) ?_
    generalize encW ([(d : Int)] ++ B) = W1 at *
    generalize encW A = WA at *
    generalize encW G = WG at *
    generalize encW B = WB at *
    simp -implicitDefEqProofs [S__law_bent, e1, e2', ln, eq_ii, a1, a2, a3, sl, hs4, hs1, hs0]
  · refine fin (A.drop 1) G B ?_
    generalize encW (A.drop 1) = W1 at *
    generalize encW A = WA at *
    generalize encW G = WG at *
    generalize encW B = WB at *
    simp -implicitDefEqProofs [S__law_bent, e1, e2', ln, eq_ii, a1, a2, a3, sl, hs4, hs1, hs0]
end E09
end Ev

set_option Elab.async false
set_option linter.all false
set_option maxRecDepth 100000
namespace Ev
open PySem PySem.Spec PyProof.Rows Mp
namespace E09
abbrev iV (i : Int) : Val := .int i
def badNets : List Val := [.non, iV 3, .tup [iV 0, .tup []], .tup [iV 9, .tup []], .tup [iV 1, .lst []], .lst [iV 1, .tup []], .tup [iV 1, .tup [.tup [iV 0, iV 1, iV 1, iV 0]]], .tup [iV 1, .tup [.tup [iV 0, iV 0, iV 0, iV 0]]],
  .tup [iV 1, .tup [.tup [iV 0, iV 0, iV 7, iV 0]]], .tup [iV 1, .tup [.tup [iV 0, iV 0, iV 1, iV 100]]], .tup [iV 1, .tup [.tup [iV 0, iV 0, iV 1, iV (-1)]]], .tup [.bl true, .tup []], .str "net",
  .tup [iV 1, .tup [.tup [iV 0, iV 0, iV 1, iV 0], .tup [iV 0, iV 0, iV 1, iV 0]]], .tup [iV 1, .tup [.tup [iV 0, iV 0, iV 1]]], .tup [iV 1, .tup [.lst [iV 0, iV 0, iV 1, iV 0]]],
  .tup [iV 2, .tup [.tup [iV 0, .bl true, iV 1, iV 0]]], .tup [iV 1, .tup [], iV 0]]
theorem net_one {N : Int} {x : Val} {h : Hh} (h1 : 1 ≤ N) (h2 : N ≤ 8) (hd : x.data = true) (hx : arcV x N = false) : F_is_net [.tup [.int N, .tup [x]]] h = .ok (.bl false) h := by
  refine run_rt (h1 := h) ?_ rfl List.take_length
  have e1 := is_arc_ok (v := x) (m := N) (h := h) hd
  rw [hx] at e1
  have c1 : eComp false [1] (iSeq (eOp ixD (eVar 0) (eC (.int 1)))) (gName 1) tTrue (eFn F_is_arc (aCons (eVar 1) (aCons (eOp ixD (eVar 0) (eC (.int 0))) aNil))) [some (.tup [.int N, .tup [x]]), none] h = .ok (.lst [.bl false]) h := by
    refine compE (fun _ : Unit => x) (fun _ => Val.bl false) [()] ?_ (by simp) fun a ha => ⟨_, rfl, ?_⟩
    · simp -implicitDefEqProofs [seqI, lsq, chkOf]
    · simp -implicitDefEqProofs [wipeE, e1]
  have a1 : allP [.lst [.bl false]] h = .ok (.bl false) h := by
    unfold allP lsq
    simp [blsOf]
  have i1 : Val.isIn 1 8 (.int N) = true := by simp [Val.isIn]; omega
  have i2 : Val.sized 0 20 (.tup [x]) = true := by simp [Val.sized]
  have i3 : Val.sized 2 2 (.tup [.int N, .tup [x]]) = true := by simp [Val.sized]
  simp -implicitDefEqProofs [S_is_net, is_sized_ok, is_within_ok, i1, i2, i3, c1, a1]
theorem net_sized {v : Val} {h : Hh} (hv : v.thing = true) (hs : v.sized 2 2 = false) : F_is_net [v] h = .ok (.bl false) h := by
  refine run_rt (h1 := h) ?_ rfl List.take_length
  simp -implicitDefEqProofs [S_is_net, is_sized_ok, hv, hs]
theorem net_many {a b : Val} {h : Hh} (ha : a.thing = true) (hs : a.isIn 1 8 = false) : F_is_net [.tup [a, b]] h = .ok (.bl false) h := by
  refine run_rt (h1 := h) ?_ rfl List.take_length
  have i3 : Val.sized 2 2 (.tup [a, b]) = true := by simp [Val.sized]
  simp -implicitDefEqProofs [S_is_net, is_sized_ok, is_within_ok, i3, ha, hs]
theorem net_arcs {N : Int} {b : Val} {h : Hh} (h1 : 1 ≤ N) (h2 : N ≤ 8) (hb : b.thing = true) (hs : b.sized 0 20 = false) : F_is_net [.tup [.int N, b]] h = .ok (.bl false) h := by
  refine run_rt (h1 := h) ?_ rfl List.take_length
  have i1 : Val.isIn 1 8 (.int N) = true := by simp [Val.isIn]; omega
  have i3 : Val.sized 2 2 (.tup [.int N, b]) = true := by simp [Val.sized]
  simp -implicitDefEqProofs [S_is_net, is_sized_ok, is_within_ok, i1, i3, hb, hs]
theorem net_twice {h : Hh} : F_is_net [.tup [.int 1, .tup [.tup [.int 0, .int 0, .int 1, .int 0], .tup [.int 0, .int 0, .int 1, .int 0]]]] h = .ok (.bl false) h := by
  refine run_rt (h1 := h) ?_ rfl List.take_length
  have ea : encArc ⟨0, 0, 1, 0⟩ = .tup [.int 0, .int 0, .int 1, .int 0] := rfl
  rw [← ea]
  have e1 := is_arc_ok (v := encArc ⟨0, 0, 1, 0⟩) (m := 1) (h := h) (data_arc _)
  rw [show arcV (encArc ⟨0, 0, 1, 0⟩) 1 = true from rfl] at e1
  have c1 : eComp false [1] (iSeq (eOp ixD (eVar 0) (eC (.int 1)))) (gName 1) tTrue (eFn F_is_arc (aCons (eVar 1) (aCons (eOp ixD (eVar 0) (eC (.int 0))) aNil))) [some (.tup [.int 1, .tup [encArc ⟨0, 0, 1, 0⟩, encArc ⟨0, 0, 1, 0⟩]]), none] h = .ok (.lst [.bl true, .bl true]) h := by
    refine compE encArc (fun _ => Val.bl true) [⟨0, 0, 1, 0⟩, ⟨0, 0, 1, 0⟩] ?_ (by simp) fun a ha => ⟨_, rfl, ?_⟩
    · simp -implicitDefEqProofs [seqI, lsq, chkOf]
    · have : a = ⟨0, 0, 1, 0⟩ := by simpa using ha
      subst this
      generalize encArc ⟨0, 0, 1, 0⟩ = X at *
      simp -implicitDefEqProofs [wipeE, e1]
  have c3 : eDComp false [1] (iSeq (eOp ixD (eVar 0) (eC (.int 1)))) (gName 1) tTrue (eVar 1) (eC (.bl true)) [some (.tup [.int 1, .tup [encArc ⟨0, 0, 1, 0⟩, encArc ⟨0, 0, 1, 0⟩]]), none] h = .ok (.dic [arcK ⟨0, 0, 1, 0⟩] [.bl true]) h := by
    unfold eDComp
    have : iSeq (eOp ixD (eVar 0) (eC (.int 1))) [some (.tup [.int 1, .tup [encArc ⟨0, 0, 1, 0⟩, encArc ⟨0, 0, 1, 0⟩]]), none] h = .ok ⟨[encArc ⟨0, 0, 1, 0⟩, encArc ⟨0, 0, 1, 0⟩], []⟩ h := by
      generalize encArc ⟨0, 0, 1, 0⟩ = X at *
      simp -implicitDefEqProofs [seqI, lsq, chkOf]
    rw [this]
    have hz := sz_le (n := 1000000) (by omega)
    have hz1 : 0 < sizeLine := by omega
    have hz2 : 1 < sizeLine := by omega
    have cd : compD (gName 1) tTrue (eVar 1) (eC (.bl true)) [] [encArc ⟨0, 0, 1, 0⟩, encArc ⟨0, 0, 1, 0⟩] [] [] (wipeE [some (.tup [.int 1, .tup [encArc ⟨0, 0, 1, 0⟩, encArc ⟨0, 0, 1, 0⟩]]), none] [1]) h = .ok ([arcK ⟨0, 0, 1, 0⟩], [.bl true]) h := by
      have dk := arc_dk ⟨0, 0, 1, 0⟩
      generalize encArc ⟨0, 0, 1, 0⟩ = X at *
      generalize arcK ⟨0, 0, 1, 0⟩ = KK at *
      simp -implicitDefEqProofs [compD, chk0, wipeE, dk, okK, hz1, hz2, dputK, dputV]
    show (match compD _ _ _ _ [] [encArc ⟨0, 0, 1, 0⟩, encArc ⟨0, 0, 1, 0⟩] [] [] _ h with | .ok acc h2 => mkD false acc.1 acc.2 h2 | _ => .bad) = _
    rw [cd]
    rfl
  have a1 : allP [.lst [.bl true, .bl true]] h = .ok (.bl true) h := all_true [(), ()] h
  have i1 : Val.isIn 1 8 (.int 1) = true := by simp [Val.isIn]
  have i2 : Val.sized 0 20 (.tup [encArc ⟨0, 0, 1, 0⟩, encArc ⟨0, 0, 1, 0⟩]) = true := by simp [Val.sized]
  have i3 : Val.sized 2 2 (.tup [.int 1, .tup [encArc ⟨0, 0, 1, 0⟩, encArc ⟨0, 0, 1, 0⟩]]) = true := by simp [Val.sized]
  have ee := eq_ii 1 2 h
  rw [show decide ((1 : Int) = 2) = false from rfl] at ee
  generalize encArc ⟨0, 0, 1, 0⟩ = X at *
  simp -implicitDefEqProofs [S_is_net, is_sized_ok, is_within_ok, i1, i2, i3, c1, c3, a1, ee]
theorem bad_nets {v : Val} (hv : v ∈ badNets) (h : Hh) : F_is_net [v] h = .ok (.bl false) h := by
  unfold badNets at hv
  simp only [List.mem_cons, List.not_mem_nil, or_false] at hv
  have dt : ∀ l : List Val, dataL l = true → (Val.tup l).data = true := fun l hl => by unfold Val.data; exact hl
  have dl : ∀ l : List Val, dataL l = true → (Val.lst l).data = true := fun l hl => by unfold Val.data; exact hl
  rcases hv with rfl | rfl | rfl | rfl | rfl | rfl | rfl | rfl | rfl | rfl | rfl | rfl | rfl | rfl | rfl | rfl | rfl | rfl
  · exact net_sized (by simp) rfl
  · exact net_sized (by simp) rfl
  · exact net_many (by simp) rfl
  · exact net_many (by simp) rfl
  · exact net_arcs (by decide) (by decide) (by simp) rfl
  · exact net_sized (by simp) rfl
  · exact net_one (by decide) (by decide) (dt _ rfl) rfl
  · exact net_one (by decide) (by decide) (dt _ rfl) rfl
  · exact net_one (by decide) (by decide) (dt _ rfl) rfl
  · exact net_one (by decide) (by decide) (dt _ rfl) rfl
  · exact net_one (by decide) (by decide) (dt _ rfl) rfl
  · exact net_many (by simp) rfl
  · exact net_sized (by simp) rfl
  · exact net_twice
  · exact net_one (by decide) (by decide) (dt _ rfl) rfl
  · exact net_one (by decide) (by decide) (dl _ rfl) rfl
  · exact net_one (by decide) (by decide) (dt _ rfl) rfl
  · exact net_sized (by simp) rfl
theorem add_ll (a b : List Val) (h : Hh) (hz : a.length + b.length ≤ 1000) : addP false (.lst a) (.lst b) h = .ok (.lst (a ++ b)) h := by
  unfold addP lsq
  dsimp only
  rw [if_pos (sz_le (by omega))]
  rfl
theorem law_bad_net_ok {h : Hh} {k : Nat} {l : List Val} (hk : k < h.length) (ok : HandOk l) : ∃ (l' : List Val) (v : Val), HandOk l' ∧ v ∈ badNets ∧ F__law_bad_net [.ref k] (h.set k (.lst l)) = .ok v (h.set k (.lst l')) := by
  have hs := sz_le (n := 1000000) (by omega)
  have hb : ∀ v ∈ badNets, v.pl := by
    intro v hv
    unfold badNets at hv
    simp only [List.mem_cons, List.not_mem_nil, or_false] at hv
    rcases hv with rfl | rfl | rfl | rfl | rfl | rfl | rfl | rfl | rfl | rfl | rfl | rfl | rfl | rfl | rfl | rfl | rfl | rfl <;> rfl
  obtain ⟨l1, v, ok1, hv, e1⟩ := someS (t := []) (s := badNets) hk ok (by decide) (by decide) hb
  rw [List.append_nil, List.append_nil] at e1
  refine ⟨l1, v, ok1, hv, run_rtH (h1 := h.set k (.lst l1)) ?_ (Val.pl.bel (hb _ hv) _) (List.take_of_length_le (by simp))⟩
  have s0 : (0 ≤ sizeLine) = True := szz (by omega)
  have s1 : (1 ≤ sizeLine) = True := szz (by omega)
  have s2 : (2 ≤ sizeLine) = True := szz (by omega)
  have s3 : (3 ≤ sizeLine) = True := szz (by omega)
  have s4 : (4 ≤ sizeLine) = True := szz (by omega)
  have s5 : (5 ≤ sizeLine) = True := szz (by omega)
  have s8 : (8 ≤ sizeLine) = True := szz (by omega)
  unfold badNets at e1
  simp -implicitDefEqProofs [S__law_bad_net, s0, s1, s2, s3, s4, s5, s8, add_ll, e1]
theorem law_bad_node_ok {h : Hh} {k : Nat} {l : List Val} (hk : k < h.length) (ok : HandOk l) {n : Net} (no : n.Ok) : ∃ (l' : List Val) (v : Val), HandOk l' ∧ v.thing = true ∧ v.isIn 0 ((n.N : Int) - 1) = false ∧ F__law_bad_node [.ref k, encNet n] (h.set k (.lst l)) = .ok v (h.set k (.lst l')) := by
  have hb : ∀ v ∈ [Val.int (n.N : Int), .int (-1), .non, .bl true, .str "0", .tup [.int 0]], v.pl := by
    intro v hv
    simp only [List.mem_cons, List.not_mem_nil, or_false] at hv
    rcases hv with rfl | rfl | rfl | rfl | rfl | rfl <;> rfl
  obtain ⟨l1, v, ok1, hv, e1⟩ := someS (t := []) (s := [Val.int (n.N : Int), .int (-1), .non, .bl true, .str "0", .tup [.int 0]]) hk ok (by simp) (by simp) hb
  rw [List.append_nil, List.append_nil] at e1
  have hv2 : v.thing = true ∧ v.isIn 0 ((n.N : Int) - 1) = false := by
    simp only [List.mem_cons, List.not_mem_nil, or_false] at hv
    rcases hv with rfl | rfl | rfl | rfl | rfl | rfl
    · refine ⟨by simp, ?_⟩
      simp [Val.isIn]
      omega
    · refine ⟨by simp, ?_⟩
      simp [Val.isIn]
    · exact ⟨by simp, rfl⟩
    · exact ⟨by simp, rfl⟩
    · exact ⟨by simp, rfl⟩
    · exact ⟨by simp, rfl⟩
  refine ⟨l1, v, ok1, hv2.1, hv2.2, run_rtH (h1 := h.set k (.lst l1)) ?_ (Val.pl.bel (hb _ hv) _) (List.take_of_length_le (by simp))⟩
  have s1 : (1 ≤ sizeLine) = True := szz (by omega)
  have s6 : (6 ≤ sizeLine) = True := szz (by omega)
  unfold encNet
  generalize n.A.map encArc = M at *
  simp -implicitDefEqProofs [S__law_bad_node, s1, s6, e1]
end E09
end Ev

set_option Elab.async false
set_option linter.all false
set_option maxRecDepth 100000
namespace Ev
open PySem PySem.Spec PyProof.Rows Mp
namespace E09
/-! what is no winding -/
theorem we_sized {n b v : Val} {h : Hh} (hv : v.thing = true) (hs : v.sized 4 4 = false) : F_winding_end [n, b, v] h = .ok .non h := by
  refine run_rt (h1 := h) ?_ rfl List.take_length
  simp -implicitDefEqProofs [S_winding_end, is_sized_ok, hv, hs]
theorem we_num {n b x y z w : Val} {h : Hh} (hz : z.thing = true) (hn : z.isNum = false) : F_winding_end [n, b, .tup [x, y, z, w]] h = .ok .non h := by
  refine run_rt (h1 := h) ?_ rfl List.take_length
  have i1 : Val.sized 4 4 (.tup [x, y, z, w]) = true := by simp [Val.sized]
  simp -implicitDefEqProofs [S_winding_end, is_sized_ok, is_number_ok, i1, hz, hn]
theorem isi_lst (l : List Val) (h : Hh) : isiP [.lst l, .ty .tup] h = .ok (.bl false) h := by simp [isiP, tyOfV, isTy]
theorem isi_non (h : Hh) : isiP [.non, .ty .tup] h = .ok (.bl false) h := by simp [isiP, tyOfV, isTy]
theorem we_list {n : Net} {b : Nat} {l : List Val} {y w : Val} {t : Int} {h : Hh} (ht : 0 ≤ t) : F_winding_end [encNet n, .int (b : Int), .tup [.lst l, y, .int t, w]] h = .ok .non h := by
  refine run_rt (h1 := h) ?_ rfl List.take_length
  have i1 : Val.sized 4 4 (.tup [.lst l, y, .int t, w]) = true := by simp [Val.sized]
  have n1 : Val.isNum (.int t) = true := by simp [Val.isNum, ht]
  have r := raw_end_no (n := encNet n) (b := .int (b : Int)) (isi_lst l h)
  have z1 : isNP .non .non h = .ok (.bl true) h := rfl
  generalize encNet n = N at *
  simp -implicitDefEqProofs [S_winding_end, is_sized_ok, is_number_ok, i1, n1, r, z1]
theorem ne_ni (i : Int) (h : Hh) : neP .non (.int i) h = .ok (.bl true) h := by
  have := ne_pd pd_optInt (by decide) none (some i) (h := h)
  simpa using this
theorem we_none {n : Net} {b m : Nat} {A : List Int} (hA : wend n b A = some m) {w : Val} {h : Hh} : F_winding_end [encNet n, .int (b : Int), .tup [encW A, .non, .int 0, w]] h = .ok .non h := by
  refine run_rt (h1 := h) ?_ rfl List.take_length
  have i1 : Val.sized 4 4 (.tup [encW A, .non, .int 0, w]) = true := by simp [Val.sized]
  have n1 : Val.isNum (.int 0) = true := by simp [Val.isNum]
  have r1 : F_raw_end [encNet n, .int (b : Int), encW A] h = .ok (encO (wend n b A)) h := raw_end_ok (n := n) b A (h := h)
  rw [hA, encO_s] at r1
  have r2 := raw_end_no (n := encNet n) (b := .int (m : Int)) (isi_non h)
  have z1 : isNP (.int (m : Int)) .non h = .ok (.bl false) h := rfl
  have z2 := ne_ni (m : Int) h
  generalize encNet n = N at *
  generalize encW A = WA at *
  simp -implicitDefEqProofs [S_winding_end, is_sized_ok, is_number_ok, i1, n1, r1, r2, z1, z2]
theorem wend_neg {n : Net} (w : List Int) (b : Nat) : wend n b (w ++ [-1]) = none := by
  rw [wend_app]
  cases wend n b w with
  | none => rfl
  | some c =>
    dsimp only
    rw [wend]
    have : stepI n c (-1) = none := by unfold stepI; rw [if_neg (by decide)]
    rw [this]
def noWd (A G : List Int) (t : Int) (B : List Int) : List Val :=
  [.non, .lst [encW A, encW G, .int t, encW B], .tup [encW A, encW G, .int t], .tup [encW A, encW G, .int t, encW B, .int 0], encWd A G (-1) B, .tup [encW A, encW G, .bl true, encW B],
   .tup [.lst (A.map Val.int), encW G, .int t, encW B], .tup [encW A, encW G, .non, encW B], encWd A [] 1 B, .str "winding", encWd A G t (B ++ [-1]), .tup [encW A, .non, .int 0, encW B]]
theorem noWd_end {n : Net} {b e : Nat} {A G B : List Int} {t : Int} (w : WOk n b e A G t B) {v : Val} (hv : v ∈ noWd A G t B) (h : Hh) : F_winding_end [encNet n, .int (b : Int), v] h = .ok .non h := by
  obtain ⟨h0, m, q1, q2, q3, q4⟩ := w.t0
  unfold noWd at hv
  simp only [List.mem_cons, List.not_mem_nil, or_false] at hv
  rcases hv with rfl | rfl | rfl | rfl | rfl | rfl | rfl | rfl | rfl | rfl | rfl | rfl
  · exact we_sized (by simp) rfl
  · exact we_sized (by simp) rfl
  · exact we_sized (by simp) (by simp [Val.sized])
  · exact we_sized (by simp) (by simp [Val.sized])
  · have := winding_end_ok (n := n) b A G (-1) B (h := h)
    rw [show windE n b A G (-1) B = none from by unfold windE; rw [if_neg (by decide)]] at this
    exact this
  · exact we_num (by simp) rfl
  · exact we_list h0
  · exact we_num (by simp) rfl
  · have := winding_end_ok (n := n) b A [] 1 B (h := h)
    rw [show windE n b A [] 1 B = none from by
      unfold windE
      rw [if_pos (by decide), q1]
      dsimp only
      rw [show wend n m [] = some m from rfl, if_pos rfl, if_pos ⟨rfl, by decide⟩]] at this
    exact this
  · exact we_sized (by simp) rfl
  · have := winding_end_ok (n := n) b A G t (B ++ [-1]) (h := h)
    rw [show windE n b A G t (B ++ [-1]) = none from by
      unfold windE
      rw [if_pos h0, q1]
      dsimp only
      rw [if_pos q2, wend_neg]
      split <;> rfl] at this
    exact this
  · exact we_none q1
section
variable {n b v : Val} {h : Hh} {c : Nat}
theorem wl_exc (e : F_check_winding [n, b, v] h = .exc ⟨c, []⟩ h) : F_winding_length [n, b, v] h = .exc ⟨c, []⟩ h := by
  refine run_exc (h1 := h) (en := [some n, some b, some v]) ?_ List.take_length
  simp -implicitDefEqProofs [S_winding_length, e]
theorem wc_exc (e : F_check_winding [n, b, v] h = .exc ⟨c, []⟩ h) : F_winding_cost [n, b, v] h = .exc ⟨c, []⟩ h := by
  refine run_exc (h1 := h) (en := [some n, some b, some v]) ?_ List.take_length
  simp -implicitDefEqProofs [S_winding_cost, e]
theorem uw_exc (e : F_check_winding [n, b, v] h = .exc ⟨c, []⟩ h) : F_unwound [n, b, v] h = .exc ⟨c, []⟩ h := by
  refine run_exc (h1 := h) (en := [some n, some b, some v, none, none, none, none]) ?_ List.take_length
  simp -implicitDefEqProofs [S_unwound, e]
theorem iw_exc {x : Val} (e : F_check_ends [n, b, x] h = .exc ⟨c, []⟩ h) : F_is_winding [n, b, x, v] h = .exc ⟨c, []⟩ h := by
  refine run_exc (h1 := h) (en := [some n, some b, some x, some v]) ?_ List.take_length
  simp -implicitDefEqProofs [S_is_winding, e]
end
theorem iw_no {n : Net} (no : n.Ok) {b : Nat} (hb : b < n.N) {v : Val} {h : Hh} (e : F_winding_end [encNet n, .int (b : Int), v] h = .ok .non h) : F_is_winding [encNet n, .int (b : Int), .int 0, v] h = .ok (.bl false) h := by
  refine run_rt (h1 := h) ?_ rfl List.take_length
  have c1 := check_ends_ok no hb (e := 0) (by have := no.n1; omega) (h := h)
  have c1' : F_check_ends [encNet n, .int (b : Int), .int 0] h = .ok .non h := c1
  have e2 : eqP .non (.int 0) h = .ok (.bl false) h := by
    have := eq_pd pd_optInt (by decide) none (some 0) (h := h)
    simpa using this
  generalize encNet n = N at *
  simp -implicitDefEqProofs [S_is_winding, c1', e, e2]
theorem words_eq {H : Hh} {m : Nat} (hm : m = H.length) : eqP (.ref m) (.lst [.str "NoNet", .str "NoNode", .str "NoWinding", .str "NoWinding", .str "NoWinding", .bl false, .str "NoNode"])
    (H ++ [.lst [.str "NoNet", .str "NoNode", .str "NoWinding", .str "NoWinding", .str "NoWinding", .bl false, .str "NoNode"]])
      = .ok (.bl true) (H ++ [.lst [.str "NoNet", .str "NoNode", .str "NoWinding", .str "NoWinding", .str "NoWinding", .bl false, .str "NoNode"]]) := by
  subst hm
  have o1 : PyData.strOk "NoNet" = true := ok_of _
  have o2 : PyData.strOk "NoNode" = true := ok_of _
  have o3 : PyData.strOk "NoWinding" = true := ok_of _
  generalize hL : [Val.str "NoNet", .str "NoNode", .str "NoWinding", .str "NoWinding", .str "NoWinding", .bl false, .str "NoNode"] = L
  have e0 : pdL L = some [.str "NoNet", .str "NoNode", .str "NoWinding", .str "NoWinding", .str "NoWinding", .bool false, .str "NoNode"] := by rw [← hL]; rfl
  have e1 : pdOf (.ref H.length) (H ++ [.lst L]) = some (.list [.str "NoNet", .str "NoNode", .str "NoWinding", .str "NoWinding", .str "NoWinding", .bool false, .str "NoNode"]) := by
    unfold pdOf
    dsimp only
    rw [get_top]
    dsimp only
    rw [e0]
    rfl
  have e2 : pdOf (.lst L) (H ++ [.lst L]) = some (.list [.str "NoNet", .str "NoNode", .str "NoWinding", .str "NoWinding", .str "NoWinding", .bool false, .str "NoNode"]) := by
    show Val.pd (.lst L) = _
    unfold Val.pd
    rw [e0]
    rfl
  unfold eqP
  rw [e1, e2]
  dsimp only
  have s1 : SeqAt.shaped (.list [.str "NoNet", .str "NoNode", .str "NoWinding", .str "NoWinding", .str "NoWinding", .bool false, .str "NoNode"]) = true := by simp [SeqAt.shaped, PyData.canLay0, PyData.canLayAll0, PyData.depth, PyData.depthAll, o1, o2, o3]
  rw [if_pos ⟨s1, s1⟩]
  simp [PyData.eqv, PyData.eqvAll]
theorem refused_ok {h : Hh} {k : Nat} {l : List Val} (hk : k < h.length) (ok : HandOk l) {n : Net} {b e : Nat} {A G B : List Int} {t : Int} (w : WOk n b e A G t B) :
    ∃ (l' : List Val), HandOk l' ∧ F__law_are_refused [.ref k, encNet n, .int (b : Int), encWd A G t B] (h.set k (.lst l)) = .ok (.bl true) (h.set k (.lst l')) := by
  have no := w.ok
  have z1 := w.zA; have z2 := w.zG; have z3 := w.zB
  obtain ⟨l1, bad, ok1, hbad, e1⟩ := law_bad_net_ok hk ok
  obtain ⟨l2, node, ok2, hn1, hn2, e2⟩ := law_bad_node_ok hk ok1 no
  have bw : ∀ w : List Int, (encW w).bel 0 = true := fun w => bel_w 0 w
  have hb : ∀ v ∈ noWd A G t B, v.pl := by
    intro v hv
    unfold noWd at hv
    simp only [List.mem_cons, List.not_mem_nil, or_false] at hv
    have bl : belL 0 (A.map Val.int) = true := belL_map fun a _ => by unfold Val.bel; rfl
    rcases hv with rfl | rfl | rfl | rfl | rfl | rfl | rfl | rfl | rfl | rfl | rfl | rfl <;> simp [Val.pl, encWd, Val.bel, belL, bl]
  obtain ⟨l3, none', ok3, hnn, e3⟩ := someS (t := []) (s := noWd A G t B) hk ok2 (by simp [noWd]) (by simp [noWd]) hb
  rw [List.append_nil, List.append_nil] at e3
  refine ⟨l3, ok3, ?_⟩
  have we := noWd_end w hnn
  have len : (h.set k (.lst l3)).length = h.length := by simp
  refine run_rtH (h1 := h.set k (.lst l3) ++ [.lst [.str "NoNet", .str "NoNode", .str "NoWinding", .str "NoWinding", .str "NoWinding", .bl false, .str "NoNode"]]) ?_ rfl (by rw [List.length_set, ← len]; exact take_end _ _)
  have w1 : ∀ g, F__law_said (fun m => F_winding_length [bad, node, none'] m) g = .ok (.str "NoNet") g := fun g => said_net (wl_exc (check_winding_net (bad_nets hbad g)))
  have w2 : ∀ g, F__law_said (fun m => F_winding_cost [encNet n, node, none'] m) g = .ok (.str "NoNode") g := fun g => said_node (wc_exc (check_winding_node no hn1 hn2))
  have w3 : ∀ g, F__law_said (fun m => F_winding_length [encNet n, .int (b : Int), none'] m) g = .ok (.str "NoWinding") g := fun g => said_winding (wl_exc (check_winding_no no w.hb (we g)))
  have w4 : ∀ g, F__law_said (fun m => F_winding_cost [encNet n, .int (b : Int), none'] m) g = .ok (.str "NoWinding") g := fun g => said_winding (wc_exc (check_winding_no no w.hb (we g)))
  have w5 : ∀ g, F__law_said (fun m => F_unwound [encNet n, .int (b : Int), none'] m) g = .ok (.str "NoWinding") g := fun g => said_winding (uw_exc (check_winding_no no w.hb (we g)))
  have w6 : ∀ g, F__law_said (fun m => F_is_winding [encNet n, .int (b : Int), .int 0, none'] m) g = .ok (.bl false) g := fun g => said_ok (iw_no no w.hb (we g)) rfl
  have w7 : ∀ g, F__law_said (fun m => F_is_winding [encNet n, node, .int 0, encWd A G t B] m) g = .ok (.str "NoNode") g := fun g => said_node (iw_exc (check_ends_bad no hn1 hn2))
  have ap : ∀ (L : List Val) (v : Val), L.length ≤ 100 → v.bel 0 = true → appP (.ref h.length) [v] (h.set k (.lst l3) ++ [.lst L]) = .ok .non (h.set k (.lst l3) ++ [.lst (L ++ [v])]) := fun L v hL hv => app_end len.symm (by omega) hv
  have apS : ∀ (L : List Val) (s : Str), L.length ≤ 100 → appP (.ref h.length) [.str s] (h.set k (.lst l3) ++ [.lst L]) = .ok .non (h.set k (.lst l3) ++ [.lst (L ++ [.str s])]) := fun L s hL => ap L _ hL (by unfold Val.bel; rfl)
  have apB : ∀ (L : List Val) (s : Bool), L.length ≤ 100 → appP (.ref h.length) [.bl s] (h.set k (.lst l3) ++ [.lst L]) = .ok .non (h.set k (.lst l3) ++ [.lst (L ++ [.bl s])]) := fun L s hL => ap L _ hL (by unfold Val.bel; rfl)
  have s0 : (0 ≤ sizeLine) = True := szz (by omega)
  have s1 : (1 ≤ sizeLine) = True := szz (by omega)
  have s2 : (2 ≤ sizeLine) = True := szz (by omega)
  have s3 : (3 ≤ sizeLine) = True := szz (by omega)
  have s4 : (4 ≤ sizeLine) = True := szz (by omega)
  have s5 : (5 ≤ sizeLine) = True := szz (by omega)
  have s6 : (6 ≤ sizeLine) = True := szz (by omega)
  have s7 : (7 ≤ sizeLine) = True := szz (by omega)
  have we' := words_eq (H := h.set k (.lst l3)) (m := h.length) len.symm
  have t1 : Val.tup [Val.int (-1)] = encW [-1] := rfl
  have t0 : Val.tup [] = encW [] := rfl
  have a1 : ∀ g, addP false (encW B) (.tup [.int (-1)]) g = .ok (encW (B ++ [-1])) g := fun g => add_ww false B [-1] g (by simp; omega)
  have a2 : ∀ (x y z w : Val) (g : Hh), addP false (.tup [x, y, z, w]) (.tup [.int 0]) g = .ok (.tup [x, y, z, w, .int 0]) g := fun x y z w g => by
    unfold addP
    dsimp only
    rw [if_pos (sz_le (by simp))]
    rfl
  have sl : ∀ (x y z w : Val) (g : Hh), slP false (.tup [x, y, z, w]) none (some 3) g = .ok (.tup [x, y, z]) g := fun x y z w g => by
    show R.ok (Val.tup (cutL [x, y, z, w] none (some (3 : Int)))) g = _
    rw [show (3 : Int) = ((3 : Nat) : Int) from rfl, cut_take]
    rfl
  have la : ∀ g, listP false [encW A] g = .ok (.lst (A.map Val.int)) g := fun g => rfl
  unfold noWd at e3
  unfold encWd at *
  rw [← t0] at e3
  generalize A.map Val.int = WL at *
  generalize encW (B ++ [-1]) = WN at *
  generalize encW A = WA at *
  generalize encW G = WG at *
  generalize encW B = WB at *
  generalize encNet n = N at *
  simp -implicitDefEqProofs [S__law_are_refused, e1, e2, s0, s1, s2, s3, s4, s5, s6, s7, add_ll, a1, a2, sl, la, e3, w1, w2, w3, w4, w5, w6, w7, apS, apB, isL, we', len]
end E09
end Ev

set_option Elab.async false
set_option linter.all false
set_option maxRecDepth 100000
namespace Ev
open PySem PySem.Spec PyProof.Rows Mp
namespace E09
theorem wsum_eq (n : Net) (f : Arc → Nat) (A G B : List Int) (t : Int) : ((sumA n f A : Nat) : Int) + t * ((sumA n f G : Nat) : Int) + ((sumA n f B : Nat) : Int) = wsum n f A G t B := by
  unfold wsum
  rw [Int.natCast_add]
  omega
theorem wsum_more (n : Net) (f : Arc → Nat) (A G B : List Int) (t : Int) : wsum n f A G (t + 1) B = wsum n f A G t B + ((sumA n f G : Nat) : Int) := by
  unfold wsum
  rw [Int.add_mul]
  omega
theorem wsum_lt {n : Net} {f : Arc → Nat} {b e : Nat} {A G B : List Int} {t : Int} (w : WOk n b e A G t B) (hf : ∀ a ∈ n.A, f a ≤ 99) (ht : t ≤ 10 ^ 41) : 0 ≤ wsum n f A G t B ∧ wsum n f A G t B < 10 ^ 60 := by
  have h0 := w.t0.1
  have z1 := w.zA; have z2 := w.zG; have z3 := w.zB
  have s1 := sum_le w.ok f hf A
  have s2 := sum_le w.ok f hf G
  have s3 := sum_le w.ok f hf B
  unfold wsum
  have p1 : 0 ≤ t * ((sumA n f G : Nat) : Int) := Int.mul_nonneg h0 (by omega)
  have p2 : t * ((sumA n f G : Nat) : Int) ≤ t * 990 := Int.mul_le_mul_of_nonneg_left (by omega) h0
  omega
theorem sums_loop {H : Hh} {m : Nat} (hm : m = H.length) {n : Net} {A G B : List Int} {t : Int} (iA : inW n A) (iG : inW n G) (iB : inW n B) (zA : A.length ≤ 10) (zG : G.length ≤ 10) (zB : B.length ≤ 10) (s2 : sumA n (·.l) G < 2 ^ 60) (s3 : sumA n (·.c) G < 2 ^ 60) {x0 x2 x3 x8 x10 : Option Val} :
    forL (gName 10) B__law_is_right_0 [] [.int 2, .int 3] [x0, some (encNet n), x2, x3, some (encW A), some (encW G), some (.int t), some (encW B), x8, some (.ref m), x10, none, none, none, none] (H ++ [.lst []])
      = .nx [x0, some (encNet n), x2, x3, some (encW A), some (encW G), some (.int t), some (encW B), x8, some (.ref m), none, none, none, none, none] (H ++ [.lst [.int (wsum n (·.l) A G t B), .int (wsum n (·.c) A G t B)]]) := by
  have ap1 : ∀ i : Int, appP (.ref m) [.int i] (H ++ [.lst []]) = .ok .non (H ++ [.lst ([] ++ [.int i])]) := fun i => app_end hm (by simp) (by unfold Val.bel; rfl)
  have ap2 : ∀ i j : Int, appP (.ref m) [.int i] (H ++ [.lst [.int j]]) = .ok .non (H ++ [.lst ([.int j] ++ [.int i])]) := fun i j => app_end hm (by simp) (by unfold Val.bel; rfl)
  have a2 := fun g : Hh => law_sum_ok iA (by omega) (p := 2) (.inl rfl) (h := g)
  have g2 := fun g : Hh => law_sum_ok iG (by omega) (p := 2) (.inl rfl) (h := g)
  have b2 := fun g : Hh => law_sum_ok iB (by omega) (p := 2) (.inl rfl) (h := g)
  have a3 := fun g : Hh => law_sum_ok iA (by omega) (p := 3) (.inr rfl) (h := g)
  have g3 := fun g : Hh => law_sum_ok iG (by omega) (p := 3) (.inr rfl) (h := g)
  have b3 := fun g : Hh => law_sum_ok iB (by omega) (p := 3) (.inr rfl) (h := g)
  have e2 := wsum_eq n (·.l) A G B t
  have e3 := wsum_eq n (·.c) A G B t
  rw [show pl 2 = (fun a : Arc => a.l) from rfl] at a2 g2 b2
  rw [show pl 3 = (fun a : Arc => a.c) from rfl] at a3 g3 b3
  have a2' : ∀ g, F__law_sum [encNet n, encW A, .int 2] g = _ := a2
  have g2' : ∀ g, F__law_sum [encNet n, encW G, .int 2] g = _ := g2
  have b2' : ∀ g, F__law_sum [encNet n, encW B, .int 2] g = _ := b2
  have a3' : ∀ g, F__law_sum [encNet n, encW A, .int 3] g = _ := a3
  have g3' : ∀ g, F__law_sum [encNet n, encW G, .int 3] g = _ := g3
  have b3' : ∀ g, F__law_sum [encNet n, encW B, .int 3] g = _ := b3
  have m2 : ∀ g : Hh, mulP false (.int t) (.int ((sumA n (fun a => a.l) G : Nat) : Int)) g = .ok (.int (t * ((sumA n (fun a => a.l) G : Nat) : Int))) g := fun g => mul_sm (by omega)
  have m3 : ∀ g : Hh, mulP false (.int t) (.int ((sumA n (fun a => a.c) G : Nat) : Int)) g = .ok (.int (t * ((sumA n (fun a => a.c) G : Nat) : Int))) g := fun g => mul_sm (by omega)
  rw [← e2, ← e3]
  clear a2 g2 b2 a3 g3 b3 e2 e3
  generalize encNet n = N at *
  generalize encW A = WA at *
  generalize encW G = WG at *
  generalize encW B = WB at *
  simp -implicitDefEqProofs [forL_cons, forL_nil, B__law_is_right_0, a2', g2', b2', a3', g3', b3', m2, m3, isL, ap1, ap2]
theorem bent_loop {h : Hh} {k : Nat} (hk : k < h.length) {n : Net} {b e : Nat} {A G B : List Int} {t : Int} (w : WOk n b e A G t B) {T : Hh} {x4 x5 x6 x7 x8 x9 x11 : Option Val} (items : List Val) {l : List Val} (ok : HandOk l) :
    ∃ l', HandOk l' ∧ forL (gName 12) B__law_is_right_1 [] items [some (.ref k), some (encNet n), some (.int (b : Int)), some (encWd A G t B), x4, x5, x6, x7, x8, x9, none, x11, none, none, none] (h.set k (.lst l) ++ T)
      = .nx [some (.ref k), some (encNet n), some (.int (b : Int)), some (encWd A G t B), x4, x5, x6, x7, x8, x9, none, x11, none, none, none] (h.set k (.lst l') ++ T) := by
  obtain ⟨h0, _⟩ := w.t0
  have hN := w.ok.n1
  have hN2 := w.ok.n2
  obtain ⟨e', m', ⟨l', ok', rfl, rfl⟩, lp⟩ := for_inv (g := gName 12) (b := B__law_is_right_1) (enc := fun v : Val => v) (l := items)
    (fun e m => ∃ l', HandOk l' ∧ m = h.set k (.lst l') ++ T ∧ e = [some (.ref k), some (encNet n), some (.int (b : Int)), some (encWd A G t B), x4, x5, x6, x7, x8, x9, none, x11, none, none, none])
    (env := [some (.ref k), some (encNet n), some (.int (b : Int)), some (encWd A G t B), x4, x5, x6, x7, x8, x9, none, x11, none, none, none]) (h := h.set k (.lst l) ++ T) ⟨l, ok, rfl, rfl⟩
    (fun v hv e m ⟨l1, ok1, hm, he⟩ => by
      subst hm he
      obtain ⟨l2, A', G', B', ok2, e1⟩ := law_bent_ok (h := h ++ T) (k := k) (by rw [List.length_append]; omega) ok1 w.ok (t := t) w.zA w.zG w.zB
      rw [set_tail hk, set_tail hk] at e1
      obtain ⟨l3, d, ok3, hd, e2⟩ := drawS hk ok2 (m := n.N) (by omega) (by omega) T
      have e3 := is_winding_ok w.ok w.hb hd A' G' t B' (h := h.set k (.lst l3) ++ T)
      have e4 := law_is_winding_ok (n := n) b d (A := A') (G := G') (B := B') h0 (h := h.set k (.lst l3) ++ T)
      have e5 := law_is_bl (decide (windE n b A' G' t B' = some d)) (h.set k (.lst l3) ++ T)
      have e3' : F_is_winding [encNet n, .int (b : Int), .int (d : Int), encWd A' G' t B'] (h.set k (.lst l3) ++ T) = _ := e3
      refine ⟨_, rfl, _, _, ⟨l3, ok3, rfl, rfl⟩, .inl ?_⟩
      generalize decide (windE n b A' G' t B' = some d) = DD at *
      have i0 : ∀ g, ixD (encNet n) (.int 0) g = .ok (.int (n.N : Int)) g := fun g => by
        unfold encNet
        simp
      generalize encNet n = N at *
      generalize encWd A' G' t B' = W1 at *
      generalize encWd A G t B = W0 at *
      simp -implicitDefEqProofs [B__law_is_right_1, e1, i0, e2, e3', e4, e5])
  rw [List.map_id'] at lp
  exact ⟨l', ok', lp⟩
theorem is_right_ok {h : Hh} {k : Nat} {l : List Val} (hk : k < h.length) (ok : HandOk l) : ∃ l', HandOk l' ∧ F__law_is_right [.ref k] (h.set k (.lst l)) = .ok (.bl true) (h.set k (.lst l')) := by
  obtain ⟨l1, n, ok1, no, e1⟩ := law_net_ok hk ok
  have hN := no.n1
  have hN2 := no.n2
  obtain ⟨l2, b, ok2, hb, e2⟩ := drawS hk ok1 (m := n.N) (by omega) (by omega) []
  rw [List.append_nil, List.append_nil] at e2
  obtain ⟨l3, A, G, B, t, m, e, ok3, w, hA, hB, ht, e3⟩ := law_winding_ok hk ok2 no hb
  have hm := wend_lt no hb hA
  have he := wend_lt no hm hB
  have f1 := law_end_ok hA (h := h.set k (.lst l3))
  have f2 := law_end_ok hB (h := h.set k (.lst l3))
  obtain ⟨iA, iG, iB⟩ := w.ins
  have zA := w.zA; have zG := w.zG; have zB := w.zB
  have sl := sum_le no (·.l) (lenA no) G
  have sc := sum_le no (·.c) (costA no) G
  have len3 : (h.set k (.lst l3)).length = h.length := by simp
  have lp1 := sums_loop (H := h.set k (.lst l3)) (m := h.length) len3.symm (t := t) iA iG iB zA zG zB (by omega) (by omega) (x0 := some (.ref k)) (x2 := some (.int (b : Int))) (x3 := some (encWd A G t B)) (x8 := some (.int (e : Int))) (x10 := none)
  obtain ⟨T, hT⟩ : ∃ T : Hh, T = [.lst [.int (wsum n (·.l) A G t B), .int (wsum n (·.c) A G t B)]] := ⟨_, rfl⟩
  have g1 : ∀ g : Hh, F_is_winding [encNet n, .int (b : Int), .int (e : Int), encWd A G t B] g = .ok (.bl true) g := fun g => by
    have := is_winding_ok no hb he A G t B (h := g)
    rw [decide_eq_true w.he] at this
    exact this
  have c1 := fun g : Hh => winding_length_ok w (h := g)
  have c2 := fun g : Hh => winding_cost_ok w (h := g)
  have b1 := wsum_lt w (lenA no) (by omega)
  have b2 := wsum_lt w (costA no) (by omega)
  have d1 := law_is_int b1.1 b1.2
  have d2 := law_is_int b2.1 b2.2
  have ix0 : ixP (.ref h.length) (.int 0) (h.set k (.lst l3) ++ T) = .ok (.int (wsum n (·.l) A G t B)) (h.set k (.lst l3) ++ T) := by
    rw [hT]
    unfold ixP
    dsimp only
    rw [lsq_end len3.symm]
    rfl
  have ix1 : ixP (.ref h.length) (.int 1) (h.set k (.lst l3) ++ T) = .ok (.int (wsum n (·.c) A G t B)) (h.set k (.lst l3) ++ T) := by
    rw [hT]
    unfold ixP
    dsimp only
    rw [lsq_end len3.symm]
    rfl
  have lg := fun g : Hh => len_w G g
  have nb : ∀ g : Hh, notBP (.bl true) (.bl true) g = .ok (.bl false) g := fun _ => rfl
  have r4 : ∀ g : Hh, rng1I [.int 4] g = .ok ⟨(List.range 4).map fun i : Nat => Val.int (i : Int), []⟩ g := fun g => rg1 (n := 4) (by omega)
  have sq : ∀ g, seqI (.tup [.int 2, .int 3]) g = .ok ⟨[.int 2, .int 3], []⟩ g := fun g => by simp [seqI, lsq, chkOf]
  have i0 : ∀ g, ixD (encNet n) (.int 0) g = .ok (.int (n.N : Int)) g := fun g => by
    unfold encNet
    simp
  have s0 : (0 ≤ sizeLine) = True := szz (by omega)
  have s2 : (2 ≤ sizeLine) = True := szz (by omega)
  have s4 : (4 ≤ sizeLine) = True := szz (by omega)
  have u1 := fun g : Hh => unwound_right_ok w he (h := g)
  have fin : ∀ (x11 : Option Val), ∃ l', HandOk l' ∧ (sSeq (sFor (iRng1 (aCons (eC (.int 4)) aNil)) (gName 12) B__law_is_right_1)
      (sRet (eAnd (eFn F__law_is_unwound_right (aCons (eVar 1) (aCons (eVar 2) (aCons (eVar 8) (aCons (eVar 3) aNil))))) (eFn F__law_are_refused (aCons (eVar 0) (aCons (eVar 1) (aCons (eVar 2) (aCons (eVar 3) aNil)))))))) [some (.ref k), some (encNet n), some (.int (b : Int)), some (encWd A G t B), some (encW A), some (encW G), some (.int t), some (encW B), some (.int (e : Int)), some (.ref h.length), none, x11, none, none, none] (h.set k (.lst l3) ++ T)
        = .rt (.bl true) (h.set k (.lst l') ++ T) := fun x11 => by
    obtain ⟨l4, ok4, lp2⟩ := bent_loop hk w (T := T) (x4 := some (encW A)) (x5 := some (encW G)) (x6 := some (.int t)) (x7 := some (encW B)) (x8 := some (.int (e : Int))) (x9 := some (.ref h.length)) (x11 := x11) ((List.range 4).map fun i : Nat => Val.int (i : Int)) ok3
    obtain ⟨l5, ok5, rf⟩ := refused_ok (h := h ++ T) (k := k) (by rw [List.length_append]; omega) ok4 w
    rw [set_tail hk, set_tail hk] at rf
    refine ⟨l5, ok5, ?_⟩
    generalize ((List.range 4).map fun i : Nat => Val.int (i : Int)) = RR at *
    generalize encWd A G t B = W0 at *
    generalize encNet n = N at *
    simp -implicitDefEqProofs [x_for, r4, lp2, u1, rf]
  have lenl : (h.set k (.lst l)).length = h.length := by simp
  have close : ∀ l', HandOk l' → S__law_is_right ([Val.ref k].map some ++ List.replicate (15 - [Val.ref k].length) none) (h.set k (.lst l)) = .rt (.bl true) (h.set k (.lst l') ++ T) → ∃ l', HandOk l' ∧ F__law_is_right [.ref k] (h.set k (.lst l)) = .ok (.bl true) (h.set k (.lst l')) := fun l' ok' q => by
    refine ⟨l', ok', run_rtH (h1 := h.set k (.lst l') ++ T) q rfl ?_⟩
    rw [lenl]
    have : h.length = (h.set k (.lst l')).length := by simp
    rw [this]
    exact take_end _ _
  rw [← hT] at lp1
  by_cases q : G = []
  · obtain ⟨l', ok', fe⟩ := fin none
    refine close l' ok' ?_
    have lg' : ∀ g : Hh, lenD [encW G] g = .ok (.int 0) g := fun g => by rw [lg, q]; rfl
    generalize hW2 : wsum n (·.l) A G t B = W2 at *
    generalize hW3 : wsum n (·.c) A G t B = W3 at *
    unfold encWd at *
    generalize encW A = WA at *
    generalize encW G = WG at *
    generalize encW B = WB at *
    generalize encNet n = N at *
    simp -implicitDefEqProofs [S__law_is_right, x_for, e1, i0, e2, e3, f1, f2, s0, s2, s4, sq, lp1, g1, nb, c1, c2, ix0, ix1, d1, d2, lg']
    exact fe
  · have hpos : 0 < G.length := by
      have : G.length ≠ 0 := fun z => q (List.eq_nil_of_length_eq_zero z)
      omega
    obtain ⟨h0, m', p1, p2, _, p3⟩ := w.t0
    have w' : WOk n b e A G (t + 1) B := ⟨no, hb, by
      unfold windE
      rw [if_pos (by omega), p1]
      dsimp only
      rw [if_pos p2, if_neg fun z => q z.1, p3], zA, zG, zB⟩
    have c3 := fun g : Hh => winding_length_ok w' (h := g)
    have c4 := fun g : Hh => winding_cost_ok w' (h := g)
    simp only [wsum_more] at c3 c4
    have g2 : ∀ g, F__law_sum [encNet n, encW G, .int 2] g = .ok (.int ((sumA n (fun a => a.l) G : Nat) : Int)) g := fun g => law_sum_ok iG (by omega) (p := 2) (.inl rfl) (h := g)
    have g3 : ∀ g, F__law_sum [encNet n, encW G, .int 3] g = .ok (.int ((sumA n (fun a => a.c) G : Nat) : Int)) g := fun g => law_sum_ok iG (by omega) (p := 3) (.inr rfl) (h := g)
    have ne : ∀ (i : Int) (g : Hh), neP (.int i) (.int i) g = .ok (.bl false) g := fun i g => by
      have := ne_ii i i g
      rw [decide_eq_true rfl] at this
      exact this
    obtain ⟨l', ok', fe⟩ := fin (some (encWd A G (t + 1) B))
    refine close l' ok' ?_
    generalize hW2 : wsum n (·.l) A G t B = W2 at *
    generalize hW3 : wsum n (·.c) A G t B = W3 at *
    generalize hS2 : sumA n (·.l) G = S2 at *
    generalize hS3 : sumA n (·.c) G = S3 at *
    unfold encWd at *
    generalize encW A = WA at *
    generalize encW G = WG at *
    generalize encW B = WB at *
    generalize encNet n = N at *
    simp -implicitDefEqProofs [S__law_is_right, x_for, e1, i0, e2, e3, f1, f2, s0, s2, s4, sq, lp1, g1, nb, c1, c2, ix0, ix1, d1, d2, lg, hpos, c3, c4, g2, g3, ne]
    exact fe
theorem law_ok {ns : List Int} (hl : ns.length ≤ 63) : F_law_v09 [.fz (ns.map .int)] [] = .ok (.bl true) [] := by
  obtain ⟨l, ok, e1⟩ := hand_ok (h := []) hl
  have e1' : F__law_hand_v09 [.fz (ns.map Val.int)] [] = .ok (.ref 0) [.lst l] := e1
  have step : ∀ l, HandOk l → ∃ l', HandOk l' ∧ F__law_is_right [.ref 0] [.lst l] = .ok (.bl true) [.lst l'] := fun l ok => is_right_ok (h := [.lst l]) (k := 0) (by simp) ok
  obtain ⟨l1, ok1, e2⟩ := step l ok
  obtain ⟨l2, ok2, e3⟩ := step l1 ok1
  have no : Net.Ok ⟨2, [⟨0, 1, 2, 5⟩, ⟨1, 0, 1, 0⟩]⟩ := ⟨by decide, by decide, by decide, by decide, by decide⟩
  have w : WOk ⟨2, [⟨0, 1, 2, 5⟩, ⟨1, 0, 1, 0⟩]⟩ 0 0 [0] [1, 0] 10 [1] := ⟨no, by decide, by decide, by decide, by decide, by decide⟩
  have c : ∀ g : Hh, F_winding_cost [.tup [.int 2, .tup [.tup [.int 0, .int 1, .int 2, .int 5], .tup [.int 1, .int 0, .int 1, .int 0]]], .int 0, .tup [.tup [.int 0], .tup [.int 1, .int 0], .int 10, .tup [.int 1]]] g = .ok (.int 55) g := fun g => by
    have := winding_cost_ok w (h := g)
    rw [show wsum ⟨2, [⟨0, 1, 2, 5⟩, ⟨1, 0, 1, 0⟩]⟩ (·.c) [0] [1, 0] 10 [1] = 55 by decide] at this
    exact this
  have d := law_is_int (i := 55) (by decide) (by decide) [.lst l2]
  have r2 : ∀ g : Hh, rng1I [.int 2] g = .ok ⟨[.int 0, .int 1], []⟩ g := fun g => rg1 (n := 2) (by omega)
  have s1 : (1 ≤ sizeLine) = True := szz (by omega)
  have s2 : (2 ≤ sizeLine) = True := szz (by omega)
  have s4 : (4 ≤ sizeLine) = True := szz (by omega)
  refine run_rtH (h1 := [.lst l2]) ?_ rfl rfl
  generalize ns.map Val.int = X at *
  simp -implicitDefEqProofs [S_law_v09, x_for, e1', r2, forL_cons, forL_nil, B_law_v09_0, e2, e3, c, d, s1, s2, s4]
end E09
end Ev
namespace K09
open PySem PySem.Spec PyProof.Rows Mp
theorem law_true (ns : List Int) (hl : ns.length ≤ 63) (hb : ∀ z ∈ ns, Builtin.Int.intBits z ≤ 1048576) : Ev.F_law_v09 [.fz (ns.map .int)] [] = .ok (.bl true) [] := Ev.E09.law_ok hl
end K09


set_option Elab.async false
open PySem PySem.W PyProof.Rows
set_option maxRecDepth 100000
set_option maxHeartbeats 0 in
theorem PySem.Challenge.cw_everylength_k09_whole_windings_unwound_holds : PySem.Challenge.rw_everylength_k09_whole_windings_unwound.Holds := by
  w_on; o_law; k_head; (case hw => w_witness2)
  k_fill
  refine Mp.walk_ofG (l := PySem.Challenge.rw_everylength_k09_whole_windings_unwound) (n := 63) (k := 13) (x := "script") rfl (by decide) rfl ⟨⟨rfl, by decide, by decide⟩, rfl⟩ (fun w h Y => by first | exact PySem.W.kIn_of Y | exact PySem.W.km_in_of Y) ?F
  case F =>
    intro w lo mean mg mb fa h KX KG Tp hmg
    refine' K09.law_at KX KG Tp hmg K09.law_true ?a0 ?l0 ?c0 ?k0 ?a1 ?l1 ?c1 ?k1 ?a2 ?l2 ?c2 ?k2 ?a3 ?l3 ?c3 ?k3 ?a4 ?l4 ?c4 ?k4 ?a5 ?l5 ?c5 ?k5 ?a6 ?l6 ?c6 ?k6 ?a7 ?l7 ?c7 ?k7 ?a8 ?l8 ?c8 ?k8 ?a9 ?l9 ?c9 ?k9 ?a10 ?l10 ?c10 ?k10 ?a11 ?l11 ?c11 ?k11 ?a12 ?l12 ?c12 ?k12 ?a13 ?l13 ?c13 ?k13 ?a14 ?l14 ?c14 ?k14 ?a15 ?l15 ?c15 ?k15 ?a16 ?l16 ?c16 ?k16 ?a17 ?l17 ?c17 ?k17 ?a18 ?l18 ?c18 ?k18 ?a19 ?l19 ?c19 ?k19 ?a20 ?l20 ?c20 ?k20 ?a21 ?l21 ?c21 ?k21 ?a22 ?l22 ?c22 ?k22 ?a23 ?l23 ?c23 ?k23 ?a24 ?l24 ?c24 ?k24 ?a25 ?l25 ?c25 ?k25 ?a26 ?l26 ?c26 ?k26 ?a27 ?l27 ?c27 ?k27 ?a28 ?l28 ?c28 ?k28 ?a29 ?l29 ?c29 ?k29 ?a30 ?l30 ?c30 ?k30 ?a31 ?l31 ?c31 ?k31 ?a32 ?l32 ?c32 ?k32 ?a33 ?l33 ?c33 ?k33 ?a34 ?l34 ?c34 ?k34 ?a35 ?l35 ?c35 ?k35 ?a36 ?l36 ?c36 ?k36 ?a37 ?l37 ?c37 ?k37 ?a38 ?l38 ?c38 ?k38 ?a39 ?l39 ?c39 ?k39 ?a40 ?l40 ?c40 ?k40 ?a41 ?l41 ?c41 ?k41 ?a42 ?l42 ?c42 ?k42 ?a43 ?l43 ?c43 ?k43 ?a44 ?l44 ?c44 ?k44 ?a45 ?l45 ?c45 ?k45 ?lc__law_are_refused ?lv__law_are_refused ?ln__law_are_refused ?a46 ?l46 ?c46 ?k46 ?lc__law_is_unwound_right ?lv__law_is_unwound_right ?ln__law_is_unwound_right ?a47 ?l47 ?c47 ?k47 ?a48 ?l48 ?c48 ?k48 ?z_int ?z_isinstance ?z_bool ?z_tuple ?z_len ?z_all ?z_sum ?z_range ?z_abs ?z_enumerate ?z_repr ?z_list ?c_MOST_LENGTH ?c_MOST_COST ?c_MOST_NODES ?c_MOST_ARCS ?c_MOST_WALK ?c_MOST_ASKED ?xa_NoNet ?xe_NoNet ?xk_NoNet ?xs_NoNet ?xt_NoNet ?xa_NoNode ?xe_NoNode ?xk_NoNode ?xs_NoNode ?xt_NoNode ?xa_NoWalk ?xe_NoWalk ?xk_NoWalk ?xs_NoWalk ?xt_NoWalk ?xa_NoWinding ?xe_NoWinding ?xk_NoWinding ?xs_NoWinding ?xt_NoWinding ?xa_NoLength ?xe_NoLength ?xk_NoLength ?xs_NoLength ?xt_NoLength ?xa_TooMany ?xL_TooMany ?xsa_TooMany ?xs_TooMany ?xt_TooMany ?xk_TooMany ?xi1_TooMany ?xi2_TooMany ?xi3_TooMany ?xl_TooMany ?xc_TooMany ?xkf_TooMany ?xg1_TooMany ?xg2_TooMany ?xg3_TooMany ?xi_NoLength ?xi_NoNet ?xi_NoNode ?xi_NoWalk ?xi_NoWinding ?xi_TooMany ?xp_9_9 ?xp_9_12 ?xp_9_13 ?xp_9_37 ?xp_9_38 ?xp_9_41 ?xp_12_9 ?xp_12_12 ?xp_12_13 ?xp_12_37 ?xp_12_38 ?xp_12_41 ?xp_13_9 ?xp_13_12 ?xp_13_13 ?xp_13_37 ?xp_13_38 ?xp_13_41 ?xp_37_9 ?xp_37_12 ?xp_37_13 ?xp_37_37 ?xp_37_38 ?xp_37_41 ?xp_38_9 ?xp_38_12 ?xp_38_13 ?xp_38_37 ?xp_38_38 ?xp_38_41 ?xp_41_9 ?xp_41_12 ?xp_41_13 ?xp_41_37 ?xp_41_38 ?xp_41_41 ?nd_ ?lr__law_are_refused ?lr__law_is_unwound_right
    (case a0 => k_is); (case l0 => k_is); (case c0 => k_is); (case k0 => k_is); (case a1 => k_is); (case l1 => k_is); (case c1 => k_is); (case k1 => k_is); (case a2 => k_is); (case l2 => k_is); (case c2 => k_is); (case k2 => k_is); (case a3 => k_is); (case l3 => k_is); (case c3 => k_is); (case k3 => k_is); (case a4 => k_is); (case l4 => k_is); (case c4 => k_is); (case k4 => k_is); (case a5 => k_is); (case l5 => k_is); (case c5 => k_is); (case k5 => k_is); (case a6 => k_is); (case l6 => k_is); (case c6 => k_is); (case k6 => k_is); (case a7 => k_is); (case l7 => k_is); (case c7 => k_is); (case k7 => k_is); (case a8 => k_is); (case l8 => k_is); (case c8 => k_is); (case k8 => k_is); (case a9 => k_is); (case l9 => k_is); (case c9 => k_is); (case k9 => k_is); (case a10 => k_is); (case l10 => k_is); (case c10 => k_is); (case k10 => k_is); (case a11 => k_is); (case l11 => k_is); (case c11 => k_is); (case k11 => k_is); (case a12 => k_is); (case l12 => k_is); (case c12 => k_is); (case k12 => k_is); (case a13 => k_is); (case l13 => k_is); (case c13 => k_is); (case k13 => k_is); (case a14 => k_is); (case l14 => k_is); (case c14 => k_is); (case k14 => k_is); (case a15 => k_is); (case l15 => k_is); (case c15 => k_is); (case k15 => k_is); (case a16 => k_is); (case l16 => k_is); (case c16 => k_is); (case k16 => k_is); (case a17 => k_is); (case l17 => k_is); (case c17 => k_is); (case k17 => k_is); (case a18 => k_is); (case l18 => k_is); (case c18 => k_is); (case k18 => k_is); (case a19 => k_is); (case l19 => k_is); (case c19 => k_is); (case k19 => k_is); (case a20 => k_is); (case l20 => k_is); (case c20 => k_is); (case k20 => k_is); (case a21 => k_is); (case l21 => k_is); (case c21 => k_is); (case k21 => k_is); (case a22 => k_is); (case l22 => k_is); (case c22 => k_is); (case k22 => k_is); (case a23 => k_is); (case l23 => k_is); (case c23 => k_is); (case k23 => k_is); (case a24 => k_is); (case l24 => k_is); (case c24 => k_is); (case k24 => k_is); (case a25 => k_is); (case l25 => k_is); (case c25 => k_is); (case k25 => k_is); (case a26 => k_is); (case l26 => k_is); (case c26 => k_is); (case k26 => k_is); (case a27 => k_is); (case l27 => k_is); (case c27 => k_is); (case k27 => k_is); (case a28 => k_is); (case l28 => k_is); (case c28 => k_is); (case k28 => k_is); (case a29 => k_is); (case l29 => k_is); (case c29 => k_is); (case k29 => k_is); (case a30 => k_is); (case l30 => k_is); (case c30 => k_is); (case k30 => k_is); (case a31 => k_is); (case l31 => k_is); (case c31 => k_is); (case k31 => k_is); (case a32 => k_is); (case l32 => k_is); (case c32 => k_is); (case k32 => k_is); (case a33 => k_is); (case l33 => k_is); (case c33 => k_is); (case k33 => k_is); (case a34 => k_is); (case l34 => k_is); (case c34 => k_is); (case k34 => k_is); (case a35 => k_is); (case l35 => k_is); (case c35 => k_is); (case k35 => k_is); (case a36 => k_is); (case l36 => k_is); (case c36 => k_is); (case k36 => k_is); (case a37 => k_is); (case l37 => k_is); (case c37 => k_is); (case k37 => k_is); (case a38 => k_is); (case l38 => k_is); (case c38 => k_is); (case k38 => k_is); (case a39 => k_is); (case l39 => k_is); (case c39 => k_is); (case k39 => k_is); (case a40 => k_is); (case l40 => k_is); (case c40 => k_is); (case k40 => k_is); (case a41 => k_is); (case l41 => k_is); (case c41 => k_is); (case k41 => k_is); (case a42 => k_is); (case l42 => k_is); (case c42 => k_is); (case k42 => k_is); (case a43 => k_is); (case l43 => k_is); (case c43 => k_is); (case k43 => k_is); (case a44 => k_is); (case l44 => k_is); (case c44 => k_is); (case k44 => k_is); (case a45 => k_is); (case l45 => k_is); (case c45 => k_is); (case k45 => k_is); (case lc__law_are_refused => k_is); (case lv__law_are_refused => rfl); (case ln__law_are_refused => first | rfl | decide +kernel); (case a46 => k_is); (case l46 => k_is); (case c46 => k_is); (case k46 => k_is); (case lc__law_is_unwound_right => k_is); (case lv__law_is_unwound_right => rfl); (case ln__law_is_unwound_right => first | rfl | decide +kernel); (case a47 => k_is); (case l47 => k_is); (case c47 => k_is); (case k47 => k_is); (case a48 => k_is); (case l48 => k_is); (case c48 => k_is); (case k48 => k_is); (case z_int => k_is); (case z_isinstance => k_is); (case z_bool => k_is); (case z_tuple => k_is); (case z_len => k_is); (case z_all => k_is); (case z_sum => k_is); (case z_range => k_is); (case z_abs => k_is); (case z_enumerate => k_is); (case z_repr => k_is); (case z_list => k_is); (case c_MOST_LENGTH => k_is); (case c_MOST_COST => k_is); (case c_MOST_NODES => k_is); (case c_MOST_ARCS => k_is); (case c_MOST_WALK => k_is); (case c_MOST_ASKED => k_is); (case xa_NoNet => k_is); (case xe_NoNet => k_exc); (case xk_NoNet => k_is); (case xs_NoNet => k_is); (case xt_NoNet => k_is); (case xa_NoNode => k_is); (case xe_NoNode => k_exc); (case xk_NoNode => k_is); (case xs_NoNode => k_is); (case xt_NoNode => k_is); (case xa_NoWalk => k_is); (case xe_NoWalk => k_exc); (case xk_NoWalk => k_is); (case xs_NoWalk => k_is); (case xt_NoWalk => k_is); (case xa_NoWinding => k_is); (case xe_NoWinding => k_exc); (case xk_NoWinding => k_is); (case xs_NoWinding => k_is); (case xt_NoWinding => k_is); (case xa_NoLength => k_is); (case xe_NoLength => k_exc); (case xk_NoLength => k_is); (case xs_NoLength => k_is); (case xt_NoLength => k_is); (case xa_TooMany => k_is); (case xL_TooMany => k_is); (case xsa_TooMany => k_is); (case xs_TooMany => k_is); (case xt_TooMany => k_is); (case xk_TooMany => k_is); (case xi1_TooMany => k_is); (case xi2_TooMany => k_is); (case xi3_TooMany => k_is); (case xl_TooMany => k_is); (case xc_TooMany => k_is); (case xkf_TooMany => k_is); (case xg1_TooMany => k_is); (case xg2_TooMany => k_is); (case xg3_TooMany => k_is); (case xi_NoLength => k_is); (case xi_NoNet => k_is); (case xi_NoNode => k_is); (case xi_NoWalk => k_is); (case xi_NoWinding => k_is); (case xi_TooMany => k_is); (case xp_9_9 => first | rfl | k_is); (case xp_9_12 => first | rfl | k_is); (case xp_9_13 => first | rfl | k_is); (case xp_9_37 => first | rfl | k_is); (case xp_9_38 => first | rfl | k_is); (case xp_9_41 => first | rfl | k_is); (case xp_12_9 => first | rfl | k_is); (case xp_12_12 => first | rfl | k_is); (case xp_12_13 => first | rfl | k_is); (case xp_12_37 => first | rfl | k_is); (case xp_12_38 => first | rfl | k_is); (case xp_12_41 => first | rfl | k_is); (case xp_13_9 => first | rfl | k_is); (case xp_13_12 => first | rfl | k_is); (case xp_13_13 => first | rfl | k_is); (case xp_13_37 => first | rfl | k_is); (case xp_13_38 => first | rfl | k_is); (case xp_13_41 => first | rfl | k_is); (case xp_37_9 => first | rfl | k_is); (case xp_37_12 => first | rfl | k_is); (case xp_37_13 => first | rfl | k_is); (case xp_37_37 => first | rfl | k_is); (case xp_37_38 => first | rfl | k_is); (case xp_37_41 => first | rfl | k_is); (case xp_38_9 => first | rfl | k_is); (case xp_38_12 => first | rfl | k_is); (case xp_38_13 => first | rfl | k_is); (case xp_38_37 => first | rfl | k_is); (case xp_38_38 => first | rfl | k_is); (case xp_38_41 => first | rfl | k_is); (case xp_41_9 => first | rfl | k_is); (case xp_41_12 => first | rfl | k_is); (case xp_41_13 => first | rfl | k_is); (case xp_41_37 => first | rfl | k_is); (case xp_41_38 => first | rfl | k_is); (case xp_41_41 => first | rfl | k_is); (case nd_ => first | rfl | decide +kernel); (case lr__law_are_refused => first | rfl | decide +kernel); (case lr__law_is_unwound_right => first | rfl | decide +kernel)
