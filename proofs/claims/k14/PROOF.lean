import PyProof.Rows.All
import Wide.All
import OpenK.AllK
import Wide.FinOn
import KE.DataEq
import HandS.ForMost
import HandS.ForExc
import HandS.Defaults
import HandS.Lambda
import HandS.Wide
import HandS.TupAny
import HandS.TupMul
import HandS.IsInst
import HandS.Conv
import HandS.Style
import HandS.Flow
import HandS.HeadHook2
import HandS.Text
import HandS.ExcCtx
import KE.GoesMore
import KE.GoesZip
import HandS.Zip
import HandS.Iter
import HandS.ExcOwn
import PyProof.Rows.SumAny
import PyProof.WalksMore
import PyProof.ListNew
import PyProof.ListRange
import KE.KDictZip
import KE.GoesEnum
import PyProof.LongRange
import HandS.Hot
import HandS.HotCalls
import HandS.ExcIs
import HandS.HeadHook4
import HandS.ExcField
import HandS.FStr
import HandS.More
import KE.KRevSl
import KE.KExcSuper
import KE.KSuper
import HandS.ExcInit
import HandS.HeadWalk
import HandS.Replace
import HandS.ReplaceLit
import HandS.Call
import PyProof.Rows.StrItems
import PyProof.StrLawsTight
import PyProof.StrLawsChain
import PyProof.Rows.StrSplitAre
import PyProof.Rows.StrSplitJoin
import KE.KStateDown
import HandS.Base
import HandS.Ends
import HandS.Words
import HandS.WordsExc
import HandS.Head0
import HandS.Head1
import HandS.Head2
import HandS.HeadEnd
import HandS.HeadHook1
import HandS.HeadHook3
import PySem.Challenge.RW_anylocks_k14_texts_that_are_refused
set_option Elab.async false
set_option linter.all false
set_option maxRecDepth 100000
set_option maxHeartbeats 2000000
namespace Sh
open PySem PySem.Spec L2

/-! ### values, states -/
inductive D where
  | non | bl (b : Bool) | int (i : Int) | str (x : Str) | tup (xs : List D) | lst (xs : List D) | loc (l : Nat) | fn (n : Str) | dic (ks : List Str) (xs : List D)
inductive Sl where
  | no | d (x : D) | ml (xs : List D)
abbrev En := List Sl
inductive Ob where
  | lst (xs : List D) | ins (c : Str) (fs : List (Str × D))
abbrev Gs := List Ob
structure Xn where
  c : Str
  fs : List (Str × D)
inductive Res (α : Type) where
  | ok (a : α) (g : Gs) | ex (e : Xn) (g : Gs) | bad
def Res.bind {α β : Type} (r : Res α) (k : α → Gs → Res β) : Res β := match r with
  | .ok a g => k a g
  | .ex e g => .ex e g
  | .bad => .bad
@[simp] theorem Res.bind_ok {α β : Type} (a : α) (g : Gs) (k : α → Gs → Res β) : (Res.ok a g).bind k = k a g := rfl
@[simp] theorem Res.bind_ex {α β : Type} (e : Xn) (g : Gs) (k : α → Gs → Res β) : (Res.ex e g : Res α).bind k = .ex e g := rfl
@[simp] theorem Res.bind_bad {α β : Type} (k : α → Gs → Res β) : (Res.bad : Res α).bind k = .bad := rfl

/-! ### how values lie in the abstract heap -/
def KTup (K : PySem.W.Frag) (a : Addr) (vs : List V) : Prop :=
  ∃ (o : Obj) (its : Array Value) (n : Nat), K.lookup a = some o ∧ o.cls = .type "tuple" ∧ o.data = .seq its n ∧ its.size ≤ sizeLine ∧ Vals vs its.toList
def TupAt (K : PySem.W.Frag) (H : Hp) (μ : List Addr) (ow : Addr → Prop) (a : Addr) (vs : List V) : Prop := (H a = some (.tup vs) ∧ a ∉ μ ∧ ¬ ow a) ∨ KTup K a vs
def KLst (K : PySem.W.Frag) (a : Addr) (vs : List V) : Prop :=
  ∃ (o : Obj) (its : Array Value) (n : Nat), K.lookup a = some o ∧ o.cls = .type "list" ∧ o.dict = none ∧ o.data = .seq its n ∧ its.size ≤ sizeLine ∧ Vals vs its.toList
def LstAt (K : PySem.W.Frag) (H : Hp) (μ : List Addr) (ow : Addr → Prop) (a : Addr) (vs : List V) : Prop := (Rd H a (.lst vs) ∧ a ∉ μ ∧ ¬ ow a) ∨ KLst K a vs
/-- a dict with texts as keys -/
def DicAt (H : Hp) (μ : List Addr) (ow : Addr → Prop) (a : Addr) (ks : List Str) (vs : List V) : Prop := H a = some (.dK ((ks.map Sum.inr).zip vs)) ∧ a ∉ μ ∧ ¬ ow a ∧ ks ≠ [] ∧ ks.Nodup ∧ ks.length = vs.length
mutual
inductive Rp (K : PySem.W.Frag) (H : Hp) (μ : List Addr) (ow : Addr → Prop) : D → V → Prop
  | non : Rp K H μ ow .non .non
  | bl (b : Bool) : Rp K H μ ow (.bl b) (.bl b)
  | int (i : Int) : Rp K H μ ow (.int i) (.int i)
  | str (x : Str) : Rp K H μ ow (.str x) (.str x)
  | tup {a : Addr} {xs : List D} {vs : List V} : TupAt K H μ ow a vs → Rps K H μ ow xs vs → Rp K H μ ow (.tup xs) (.ref a)
  | lst {a : Addr} {xs : List D} {vs : List V} : LstAt K H μ ow a vs → Rps K H μ ow xs vs → Rp K H μ ow (.lst xs) (.ref a)
  | loc {l : Nat} {a : Addr} : μ[l]? = some a → Rp K H μ ow (.loc l) (.ref a)
  | fn {n : Str} : Rp K H μ ow (.fn n) (.ref (He.ga K n))
  | dic {a : Addr} {ks : List Str} {xs : List D} {vs : List V} : DicAt H μ ow a ks vs → Rps K H μ ow xs vs → Rp K H μ ow (.dic ks xs) (.ref a)
inductive Rps (K : PySem.W.Frag) (H : Hp) (μ : List Addr) (ow : Addr → Prop) : List D → List V → Prop
  | nil : Rps K H μ ow [] []
  | cons {x : D} {v : V} {xs : List D} {vs : List V} : Rp K H μ ow x v → Rps K H μ ow xs vs → Rps K H μ ow (x :: xs) (v :: vs)
end
/-- nothing but a table -/
def Nn (H : Hp) (a : Addr) : Prop := ∀ u, H a = some u → ∃ ps, u = .tbl ps
theorem Nn.of {H : Hp} {a : Addr} (h : H a = none) : Nn H a := fun u e => by
  rw [h] at e
  cases e
/-- what an evaluation keeps: all that is tracked but the tables and what stands at μ -/
structure Ex (μ : List Addr) (H : Hp) (μ' : List Addr) (H' : Hp) : Prop where
  pre : ∃ more, μ' = μ ++ more
  keep : ∀ a o, H a = some o → (∀ ps, o ≠ .tbl ps) → a ∉ μ → H' a = some o ∧ a ∉ μ'
  th : ∀ a o, H a = some o → (∀ ps, o ≠ .tbl ps) → ∃ u, H' a = some u ∧ ∀ ps, u ≠ .tbl ps
theorem Ex.refl (μ : List Addr) (H : Hp) : Ex μ H μ H := ⟨⟨[], by simp⟩, fun _ _ h _ n => ⟨h, n⟩, fun _ _ h n => ⟨_, h, n⟩⟩
theorem Ex.trans {μ μ1 μ2 : List Addr} {H H1 H2 : Hp} (a : Ex μ H μ1 H1) (b : Ex μ1 H1 μ2 H2) : Ex μ H μ2 H2 := by
  obtain ⟨m1, e1⟩ := a.pre
  obtain ⟨m2, e2⟩ := b.pre
  refine ⟨⟨m1 ++ m2, by rw [e2, e1, List.append_assoc]⟩, fun c o h n hn => ?_, fun c o h n => ?_⟩
  · obtain ⟨h1, n1⟩ := a.keep c o h n hn
    exact b.keep c o h1 n n1
  · obtain ⟨u, h1, n1⟩ := a.th c o h n
    exact b.th c u h1 n1
theorem Ex.at {μ μ' : List Addr} {H H' : Hp} (e : Ex μ H μ' H') {l : Nat} {a : Addr} (h : μ[l]? = some a) : μ'[l]? = some a := by
  obtain ⟨m, e⟩ := e.pre
  rw [e, List.getElem?_append_left (List.getElem?_eq_some_iff.mp h).1]
  exact h
theorem tup_nt (vs : List V) : ∀ ps, HO.tup vs ≠ .tbl ps := fun _ z => by cases z
theorem lst_nt (vs : List V) : ∀ ps, HO.lst vs ≠ .tbl ps := fun _ z => by cases z
theorem frz_nt (o : Obj) (u : HO) : ∀ ps, HO.frz o u ≠ .tbl ps := fun _ z => by cases z
theorem dK_nt (vs : List (Key × V)) : ∀ ps, HO.dK vs ≠ .tbl ps := fun _ z => by cases z
theorem DicAt.ext {H H' : Hp} {μ μ' : List Addr} {ow : Addr → Prop} {a : Addr} {ks : List Str} {vs : List V} (t : DicAt H μ ow a ks vs) (e : Ex μ H μ' H') : DicAt H' μ' ow a ks vs := by
  obtain ⟨h, n, o, r⟩ := t
  obtain ⟨h1, n1⟩ := e.keep a _ h (dK_nt _) n
  exact ⟨h1, n1, o, r⟩
theorem TupAt.ext {K : PySem.W.Frag} {H H' : Hp} {μ μ' : List Addr} {ow : Addr → Prop} {a : Addr} {vs : List V} (t : TupAt K H μ ow a vs) (e : Ex μ H μ' H') : TupAt K H' μ' ow a vs := by
  rcases t with ⟨h, n, o⟩ | k
  · obtain ⟨h1, n1⟩ := e.keep a _ h (tup_nt vs) n
    exact .inl ⟨h1, n1, o⟩
  · exact .inr k
theorem LstAt.ext {K : PySem.W.Frag} {H H' : Hp} {μ μ' : List Addr} {ow : Addr → Prop} {a : Addr} {vs : List V} (t : LstAt K H μ ow a vs) (e : Ex μ H μ' H') : LstAt K H' μ' ow a vs := by
  rcases t with ⟨r, n, o⟩ | k
  · rcases r with h | ⟨ob, h⟩
    · obtain ⟨h1, n1⟩ := e.keep a _ h (lst_nt vs) n
      exact .inl ⟨.inl h1, n1, o⟩
    · obtain ⟨h1, n1⟩ := e.keep a _ h (frz_nt _ _) n
      exact .inl ⟨.inr ⟨ob, h1⟩, n1, o⟩
  · exact .inr k
section
variable {K : PySem.W.Frag} {H H' : Hp} {μ μ' : List Addr} {ow ow' : Addr → Prop}
mutual
theorem Rp.mapP (ht : ∀ a vs, TupAt K H μ ow a vs → TupAt K H' μ' ow' a vs) (hl : ∀ a vs, LstAt K H μ ow a vs → LstAt K H' μ' ow' a vs) (hm : ∀ (l : Nat) a, μ[l]? = some a → μ'[l]? = some a) (hdc : ∀ a ks vs, DicAt H μ ow a ks vs → DicAt H' μ' ow' a ks vs) : ∀ (x : D) (v : V), Rp K H μ ow x v → Rp K H' μ' ow' x v
  | .non, _, h => by cases h; exact .non
  | .bl b, _, h => by cases h; exact .bl b
  | .int i, _, h => by cases h; exact .int i
  | .str x, _, h => by cases h; exact .str x
  | .tup xs, _, h => by
    cases h with
    | tup t r => exact .tup (ht _ _ t) (Rps.mapP ht hl hm hdc xs _ r)
  | .lst xs, _, h => by
    cases h with
    | lst t r => exact .lst (hl _ _ t) (Rps.mapP ht hl hm hdc xs _ r)
  | .loc l, _, h => by
    cases h with
    | loc q => exact .loc (hm l _ q)
  | .fn n, _, h => by cases h; exact .fn
  | .dic ks xs, _, h => by
    cases h with
    | dic t r => exact .dic (hdc _ _ _ t) (Rps.mapP ht hl hm hdc xs _ r)
theorem Rps.mapP (ht : ∀ a vs, TupAt K H μ ow a vs → TupAt K H' μ' ow' a vs) (hl : ∀ a vs, LstAt K H μ ow a vs → LstAt K H' μ' ow' a vs) (hm : ∀ (l : Nat) a, μ[l]? = some a → μ'[l]? = some a) (hdc : ∀ a ks vs, DicAt H μ ow a ks vs → DicAt H' μ' ow' a ks vs) : ∀ (xs : List D) (vs : List V), Rps K H μ ow xs vs → Rps K H' μ' ow' xs vs
  | [], _, h => by cases h; exact .nil
  | x :: xs, _, h => by
    cases h with
    | cons r rs => exact .cons (Rp.mapP ht hl hm hdc x _ r) (Rps.mapP ht hl hm hdc xs _ rs)
end
theorem Rp.ext {x : D} {v : V} (r : Rp K H μ ow x v) (e : Ex μ H μ' H') : Rp K H' μ' ow x v := Rp.mapP (fun _ _ t => t.ext e) (fun _ _ t => t.ext e) (fun _ _ h => e.at h) (fun _ _ _ t => t.ext e) x v r
theorem Rps.ext {x : List D} {v : List V} (r : Rps K H μ ow x v) (e : Ex μ H μ' H') : Rps K H' μ' ow x v := Rps.mapP (fun _ _ t => t.ext e) (fun _ _ t => t.ext e) (fun _ _ h => e.at h) (fun _ _ _ t => t.ext e) x v r
theorem Rps.len : ∀ {xs : List D} {vs : List V}, Rps K H μ ow xs vs → xs.length = vs.length
  | [], _, h => by cases h; rfl
  | _ :: xs, _, h => by
    cases h with
    | cons _ rs => rw [List.length_cons, List.length_cons, Rps.len rs]
theorem Rps.get : ∀ {xs : List D} {vs : List V} {i : Nat} {x : D}, Rps K H μ ow xs vs → xs[i]? = some x → ∃ v, vs[i]? = some v ∧ Rp K H μ ow x v
  | [], _, _, _, h, e => by simp at e
  | x :: xs, _, 0, y, h, e => by
    cases h with
    | cons r rs =>
      simp at e
      subst e
      exact ⟨_, rfl, r⟩
  | x :: xs, _, i + 1, y, h, e => by
    cases h with
    | cons r rs =>
      obtain ⟨v, e1, e2⟩ := Rps.get (i := i) rs (by simpa using e)
      exact ⟨v, by simpa using e1, e2⟩
theorem Rps.get2 : ∀ {xs : List D} {vs : List V} {i : Nat} {v : V}, Rps K H μ ow xs vs → vs[i]? = some v → ∃ x, xs[i]? = some x ∧ Rp K H μ ow x v
  | [], _, _, _, h, e => by cases h; simp at e
  | x :: xs, _, 0, y, h, e => by
    cases h with
    | cons r rs =>
      simp at e
      subst e
      exact ⟨_, rfl, r⟩
  | x :: xs, _, i + 1, y, h, e => by
    cases h with
    | cons r rs =>
      obtain ⟨v, e1, e2⟩ := Rps.get2 (i := i) rs (by simpa using e)
      exact ⟨v, by simpa using e1, e2⟩
theorem Rps.append : ∀ {xs ys : List D} {vs ws : List V}, Rps K H μ ow xs vs → Rps K H μ ow ys ws → Rps K H μ ow (xs ++ ys) (vs ++ ws)
  | [], _, _, _, h, s => by cases h; exact s
  | _ :: _, _, _, _, h, s => by
    cases h with
    | cons r rs => exact .cons r (Rps.append rs s)
theorem Rps.take : ∀ {xs : List D} {vs : List V} (n : Nat), Rps K H μ ow xs vs → Rps K H μ ow (xs.take n) (vs.take n)
  | _, _, 0, _ => .nil
  | [], _, n + 1, h => by cases h; exact .nil
  | _ :: _, _, n + 1, h => by
    cases h with
    | cons r rs => exact .cons r (Rps.take n rs)
theorem Rps.drop : ∀ {xs : List D} {vs : List V} (n : Nat), Rps K H μ ow xs vs → Rps K H μ ow (xs.drop n) (vs.drop n)
  | _, _, 0, h => h
  | [], _, n + 1, h => by cases h; exact .nil
  | _ :: _, _, n + 1, h => by
    cases h with
    | cons r rs => exact Rps.drop n rs
theorem Rps.set {x : D} {v : V} (r : Rp K H μ ow x v) : ∀ {xs : List D} {vs : List V} (i : Nat), Rps K H μ ow xs vs → Rps K H μ ow (xs.set i x) (vs.set i v)
  | [], _, _, h => by cases h; exact .nil
  | _ :: _, _, 0, h => by
    cases h with
    | cons q rs => exact .cons r rs
  | _ :: _, _, i + 1, h => by
    cases h with
    | cons q rs => exact .cons q (Rps.set r i rs)
theorem Rps.reverse {xs : List D} {vs : List V} (h : Rps K H μ ow xs vs) : Rps K H μ ow xs.reverse vs.reverse := by
  induction xs generalizing vs with
  | nil => cases h; exact .nil
  | cons x xs ih =>
    cases h with
    | cons r rs =>
      rw [List.reverse_cons, List.reverse_cons]
      exact (ih rs).append (.cons r .nil)
theorem Rps.ints : ∀ (ns : List Int), Rps K H μ ow (ns.map .int) (ns.map .int)
  | [] => .nil
  | n :: ns => .cons (.int n) (Rps.ints ns)
theorem Rps.to_ints : ∀ {ns : List Int} {vs : List V}, Rps K H μ ow (ns.map .int) vs → vs = ns.map .int
  | [], _, h => by cases h; rfl
  | n :: ns, _, h => by
    cases h with
    | cons r rs =>
      cases r
      rw [Rps.to_ints rs] <;> rfl
theorem Rps.to_bls : ∀ {ns : List Bool} {vs : List V}, Rps K H μ ow (ns.map .bl) vs → vs = ns.map .bl
  | [], _, h => by cases h; rfl
  | n :: ns, _, h => by
    cases h with
    | cons r rs =>
      cases r
      rw [Rps.to_bls rs] <;> rfl
theorem Rps.to_strs : ∀ {ns : List Str} {vs : List V}, Rps K H μ ow (ns.map .str) vs → vs = ns.map .str
  | [], _, h => by cases h; rfl
  | n :: ns, _, h => by
    cases h with
    | cons r rs =>
      cases r
      rw [Rps.to_strs rs] <;> rfl
end
/-! ### the state -/
/-- the lists that a slot owns -/
def sl (ρ : En) (σ : St) (a : Addr) : Prop := ∃ (i : Nat) (xs : List D), ρ[i]? = some (.ml xs) ∧ σ[i]? = some (some (.ref a))
/-- the tables of code objects; what the callers own -/
structure Tb where
  t : List (Addr × Str)
  O : Addr → Prop
def ow (T : Tb) (ρ : En) (σ : St) (a : Addr) : Prop := T.O a ∨ sl ρ σ a
inductive FldR (K : PySem.W.Frag) (H : Hp) (μ : List Addr) (ow : Addr → Prop) : List (Str × D) → List (Str × V) → Prop
  | nil : FldR K H μ ow [] []
  | cons {f : Str} {x : D} {v : V} {xs : List (Str × D)} {vs : List (Str × V)} : Rp K H μ ow x v → FldR K H μ ow xs vs → FldR K H μ ow ((f, x) :: xs) ((f, v) :: vs)
theorem FldR.mapP {K : PySem.W.Frag} {H H' : Hp} {μ μ' : List Addr} {ow ow' : Addr → Prop} (hm : ∀ x v, Rp K H μ ow x v → Rp K H' μ' ow' x v) : ∀ {xs : List (Str × D)} {vs : List (Str × V)}, FldR K H μ ow xs vs → FldR K H' μ' ow' xs vs
  | _, _, .nil => .nil
  | _, _, .cons r rs => .cons (hm _ _ r) (FldR.mapP hm rs)
def ObR (K : PySem.W.Frag) (H : Hp) (μ : List Addr) (ow : Addr → Prop) (a : Addr) : Ob → Prop
  | .lst xs => ∃ vs, H a = some (.lst vs) ∧ Rps K H μ ow xs vs
  | .ins c fs => ∃ dx fv, H a = some (.ins (He.ga K c) dx fv) ∧ H dx = some (.own a) ∧ dx ∉ μ ∧ ¬ ow dx ∧ FldR K H μ ow fs fv
structure StR (K : PySem.W.Frag) (T : Tb) (μ : List Addr) (g : Gs) (ρ : En) (σ : St) (H : Hp) : Prop where
  len : μ.length = g.length
  nd : μ.Nodup
  gl : ∀ (l : Nat) a o, μ[l]? = some a → g[l]? = some o → ObR K H μ (ow T ρ σ) a o
  el : ρ.length = σ.length
  en : ∀ (i : Nat) x, ρ[i]? = some (.d x) → ∃ v, σ[i]? = some (some v) ∧ Rp K H μ (ow T ρ σ) x v
  em : ∀ (i : Nat) xs, ρ[i]? = some (.ml xs) → ∃ a vs, σ[i]? = some (some (.ref a)) ∧ H a = some (.lst vs) ∧ a ∉ μ ∧ Rps K H μ (ow T ρ σ) xs vs
  sep : ∀ (i j : Nat) xs ys a, ρ[i]? = some (.ml xs) → σ[i]? = some (some (.ref a)) → ρ[j]? = some (.ml ys) → σ[j]? = some (some (.ref a)) → i = j
  ob : ∀ a, T.O a → (∃ vs, H a = some (.lst vs)) ∧ a ∉ μ
  os : ∀ (i : Nat) xs a, ρ[i]? = some (.ml xs) → σ[i]? = some (some (.ref a)) → ¬ T.O a
  tb : LamX.Tabs T.t H
section
variable {K : PySem.W.Frag} {T : Tb} {μ μ' : List Addr} {g g' : Gs} {ρ : En} {σ : St} {H H' : Hp} {a p : Addr} {o : HO}
theorem StR.mem (s : StR K T μ g ρ σ H) (h : a ∈ μ) : ∃ o, H a = some o := by
  obtain ⟨l, hl, e⟩ := List.mem_iff_getElem.mp h
  have h1 : μ[l]? = some a := by rw [List.getElem?_eq_getElem hl, e]
  have hg : l < g.length := by rw [← s.len]; exact hl
  have q := s.gl l a g[l] h1 (List.getElem?_eq_getElem hg)
  cases e2 : g[l] with
  | lst xs =>
    rw [e2] at q
    obtain ⟨vs, e3, _⟩ := q
    exact ⟨_, e3⟩
  | ins c fs =>
    rw [e2] at q
    obtain ⟨dx, fv, e3, _⟩ := q
    exact ⟨_, e3⟩
theorem StR.own (s : StR K T μ g ρ σ H) (h : ow T ρ σ a) : ∃ vs, H a = some (.lst vs) := by
  rcases h with h | ⟨i, xs, h1, h2⟩
  · exact (s.ob a h).1
  · obtain ⟨b, vs, e1, e2, _⟩ := s.em i xs h1
    rw [h2] at e1
    cases e1
    exact ⟨vs, e2⟩
theorem StR.freeM (s : StR K T μ g ρ σ H) (h : H p = none) : p ∉ μ := fun z => by
  obtain ⟨o, e⟩ := s.mem z
  rw [h] at e
  cases e
theorem StR.freeO (s : StR K T μ g ρ σ H) (h : H p = none) : ¬ ow T ρ σ p := fun z => by
  obtain ⟨o, e⟩ := s.own z
  rw [h] at e
  cases e
theorem ObR.mapP {ow ow' : Addr → Prop} (hh : ∀ u, H a = some u → (∃ xs, u = .lst xs) ∨ (∃ C dx fs, u = .ins C dx fs) → H' a = some u) (hr : ∀ x v, Rp K H μ ow x v → Rp K H' μ' ow' x v) (hrs : ∀ x v, Rps K H μ ow x v → Rps K H' μ' ow' x v)
    (hd : ∀ dx, dx ∉ μ → ¬ ow dx → H dx = some (.own a) → H' dx = some (.own a) ∧ dx ∉ μ' ∧ ¬ ow' dx) {x : Ob} (r : ObR K H μ ow a x) : ObR K H' μ' ow' a x := by
  cases x with
  | lst xs =>
    obtain ⟨vs, e, r⟩ := r
    exact ⟨vs, hh _ e (.inl ⟨_, rfl⟩), hrs _ _ r⟩
  | ins c fs =>
    obtain ⟨dx, fv, e, e1, n1, n2, r⟩ := r
    obtain ⟨e2, m1, m2⟩ := hd dx n1 n2 e1
    exact ⟨dx, fv, hh _ e (.inr ⟨_, _, _, rfl⟩), e2, m1, m2, r.mapP hr⟩
/-- a new object is laid that nobody owns -/
theorem StR.new (s : StR K T μ g ρ σ H) (h : H p = none) : StR K T μ g ρ σ (upd H p o) := by
  have sm : ∀ b u, H b = some u → upd H p o b = some u := fun b u e => by rw [upd_ne (ne_of_none e h)]; exact e
  have ht : ∀ a vs, TupAt K H μ (ow T ρ σ) a vs → TupAt K (upd H p o) μ (ow T ρ σ) a vs := fun a vs t => t.imp (fun ⟨e, n⟩ => ⟨sm _ _ e, n⟩) id
  have hl : ∀ a vs, LstAt K H μ (ow T ρ σ) a vs → LstAt K (upd H p o) μ (ow T ρ σ) a vs := fun a vs t => t.imp (fun ⟨r, n⟩ => ⟨r.imp (sm _ _) fun ⟨ob, e⟩ => ⟨ob, sm _ _ e⟩, n⟩) id
  have hdc : ∀ a ks vs, DicAt H μ (ow T ρ σ) a ks vs → DicAt (upd H p o) μ (ow T ρ σ) a ks vs := fun a ks vs ⟨e, n⟩ => ⟨sm _ _ e, n⟩
  have hr := Rp.mapP ht hl (fun _ _ h => h) hdc
  have hrs := Rps.mapP ht hl (fun _ _ h => h) hdc
  refine ⟨s.len, s.nd, fun l a x e1 e2 => (s.gl l a x e1 e2).mapP (fun u e _ => sm _ _ e) hr hrs fun dx n1 n2 q => ⟨sm _ _ q, n1, n2⟩, s.el, fun i x e => ?_, fun i xs e => ?_, s.sep, fun a q => ⟨(s.ob a q).1.imp fun vs e => sm _ _ e, (s.ob a q).2⟩, s.os, s.tb.ext sm⟩
  · obtain ⟨v, e1, r⟩ := s.en i x e
    exact ⟨v, e1, hr _ _ r⟩
  · obtain ⟨a, vs, e1, e2, n, r⟩ := s.em i xs e
    exact ⟨a, vs, e1, sm _ _ e2, n, hrs _ _ r⟩
theorem Ex.new (s : StR K T μ g ρ σ H) (h : H p = none) : Ex μ H μ (upd H p o) := ⟨⟨[], by simp⟩, fun a u e _ n => ⟨by rw [upd_ne (ne_of_none e h)]; exact e, n⟩, fun a u e n => ⟨u, by rw [upd_ne (ne_of_none e h)]; exact e, n⟩⟩
theorem Ex.back {μ μ' : List Addr} {H H' : Hp} (e : Ex μ H μ' H') {a : Addr} (h : Nn H' a) : Nn H a := fun u q => by
  by_cases hu : ∃ ps, u = .tbl ps
  · exact hu
  · obtain ⟨v, z, n⟩ := e.th a u q fun ps z => hu ⟨ps, z⟩
    obtain ⟨ps, rfl⟩ := h v z
    exact absurd rfl (n ps)
theorem TupAt.new (s : StR K T μ g ρ σ H) (h : H p = none) (vs : List V) : TupAt K (upd H p (.tup vs)) μ (ow T ρ σ) p vs := .inl ⟨upd_same, s.freeM h, s.freeO h⟩
theorem LstAt.new (s : StR K T μ g ρ σ H) (h : H p = none) (vs : List V) : LstAt K (upd H p (.lst vs)) μ (ow T ρ σ) p vs := .inl ⟨.inl upd_same, s.freeM h, s.freeO h⟩
theorem TupAt.sq {K : PySem.W.Frag} {ow : Addr → Prop} {a : Addr} {vs : List V} (t : TupAt K H μ ow a vs) : SqT K H a vs := by
  rcases t with ⟨h, _⟩ | h
  · exact .inl (.inl h)
  · exact .inr h
theorem LstAt.sq {K : PySem.W.Frag} {ow : Addr → Prop} {a : Addr} {vs : List V} (t : LstAt K H μ ow a vs) : SqL K H a vs := by
  rcases t with ⟨h, _⟩ | h
  · exact .inl h
  · exact .inr h
end
/-! ### what an evaluation gives -/
/-- an exception's fields: its own dict -/
def XnR (K : PySem.W.Frag) (H : Hp) (μ : List Addr) (ow : Addr → Prop) (e : Xn) (d : Option Addr) : Prop :=
  (e.fs = [] ∧ d = none) ∨ ∃ dd fv, d = some dd ∧ e.fs ≠ [] ∧ H dd = some (.xd fv) ∧ dd ∉ μ ∧ ¬ ow dd ∧ FldR K H μ ow e.fs fv
/-- the relation of what is given -/
abbrev RL (α β : Type) := PySem.W.Frag → Hp → List Addr → (Addr → Prop) → α → β → Prop
abbrev rB : RL Bool Bool := fun _ _ _ _ a b => a = b
structure RL.Ok {α β : Type} (rel : RL α β) : Prop where
  ext : ∀ {K H μ ow a b μ' H'}, rel K H μ ow a b → Ex μ H μ' H' → rel K H' μ' ow a b
theorem okD : RL.Ok (Rp : RL D V) := ⟨fun r e => r.ext e⟩
theorem okL : RL.Ok (Rps : RL (List D) (List V)) := ⟨fun r e => r.ext e⟩
theorem okB : RL.Ok rB := ⟨fun r _ => r⟩
section
variable {α β γ δ : Type} (K : PySem.W.Frag) (T : Tb) (rel : RL α β) (W : WX)
def Pst (ρ : En) (σ : St) (μ : List Addr) (H : Hp) (Q : β → Hp → Prop) : Res α → Prop
  | .ok a g' => ∀ b μ' H', StR K T μ' g' ρ σ H' → Ex μ H μ' H' → rel K H' μ' (ow T ρ σ) a b → Q b H'
  | .ex e g' => ∀ d μ' H', StR K T μ' g' ρ σ H' → Ex μ H μ' H' → XnR K H' μ' (ow T ρ σ) e d → W (.ref (He.ga K e.c)) d σ H'
  | .bad => False
def tG (m : En → Gs → Res α) : St → Hp → (β → Hp → Prop) → Prop := fun σ H Q => ∃ ρ μ g, StR K T μ g ρ σ H ∧ Pst K T rel W ρ σ μ H Q (m ρ g)
end
section
variable {α β γ δ : Type} {K : PySem.W.Frag} {T : Tb} {rel : RL α β} {rel' : RL γ δ} {W : WX} {ρ : En} {σ : St} {μ μ' : List Addr} {H H' : Hp} {Q Q' : β → Hp → Prop} {g g' : Gs}
theorem Pst.imp {r : Res α} (h : Pst K T rel W ρ σ μ H Q r) (hq : ∀ b H', Q b H' → Q' b H') : Pst K T rel W ρ σ μ H Q' r := by
  cases r with
  | ok a g' => exact fun b μ' H' s e q => hq _ _ (h b μ' H' s e q)
  | ex e g' => exact h
  | bad => exact h
theorem Pst.rebase {r : Res α} (h : Pst K T rel W ρ σ μ H Q r) (e : Ex μ H μ' H') : Pst K T rel W ρ σ μ' H' Q r := by
  cases r with
  | ok a g' => exact fun b μ2 H2 s e2 q => h b μ2 H2 s (e.trans e2) q
  | ex x g' => exact fun d μ2 H2 s e2 q => h d μ2 H2 s (e.trans e2) q
  | bad => exact h
/-- what stands behind the first part of two -/
def Nxt (K : PySem.W.Frag) (T : Tb) (rel : RL α β) (rel' : RL γ δ) (W : WX) (ρ : En) (σ : St) (μ : List Addr) (H : Hp) (k : α → Gs → Res γ) (Q : δ → Hp → Prop) (b : β) (H1 : Hp) : Prop :=
  ∃ a μ1 g1, StR K T μ1 g1 ρ σ H1 ∧ Ex μ H μ1 H1 ∧ rel K H1 μ1 (ow T ρ σ) a b ∧ Pst K T rel' W ρ σ μ1 H1 Q (k a g1)
theorem Pst.bind {r : Res α} {k : α → Gs → Res γ} {Q : δ → Hp → Prop} (h : Pst K T rel' W ρ σ μ H Q (r.bind k)) : Pst K T rel W ρ σ μ H (Nxt K T rel rel' W ρ σ μ H k Q) r := by
  cases r with
  | ok a g' => exact fun b μ1 H1 s e q => ⟨a, μ1, g', s, e, q, Pst.rebase h e⟩
  | ex x g' => exact h
  | bad => exact h
/-- one after another -/
theorem tG_bind {m : En → Gs → Res α} {k : En → α → Gs → Res γ} {Q : δ → Hp → Prop} {R : β → Hp → Prop} (h : tG K T rel' W (fun ρ g => (m ρ g).bind (k ρ)) σ H Q)
    (hk : ∀ a b ρ μ g H1, StR K T μ g ρ σ H1 → rel K H1 μ (ow T ρ σ) a b → Pst K T rel' W ρ σ μ H1 Q (k ρ a g) → R b H1) : tG K T rel W m σ H R := by
  obtain ⟨ρ, μ, g, s, p⟩ := h
  exact ⟨ρ, μ, g, s, (Pst.bind p).imp fun b H1 ⟨a, μ1, g1, s1, _, r, q⟩ => hk a b ρ μ1 g1 H1 s1 r q⟩
end
/-! ### judgements -/
abbrev EM := En → Gs → Res D
abbrev BM := En → Gs → Res Bool
abbrev LM := En → Gs → Res (List D)
abbrev tE (K : PySem.W.Frag) (T : Tb) (W : WX) (m : EM) : TE := tG K T Rp W m
abbrev tT (K : PySem.W.Frag) (T : Tb) (W : WX) (m : BM) : TT := tG K T rB W m
abbrev tL (K : PySem.W.Frag) (T : Tb) (W : WX) (m : LM) : TA := tG K T Rps W m
abbrev ME (X : Cx) (T : Tb) (W : WX) (e : Expr) (m : EM) : Prop := PE X e (tE X.K T W m)
abbrev MT (X : Cx) (T : Tb) (W : WX) (e : Expr) (m : BM) : Prop := PT X e (tT X.K T W m)
abbrev MA (X : Cx) (T : Tb) (W : WX) (es : List Expr) (m : LM) : Prop := PA X es (tL X.K T W m)
theorem PE.weak {X : Cx} {e : Expr} {t t' : TE} (h : PE X e t) (w : ∀ σ H Q, t' σ H Q → t σ H Q) : PE X e t' := ⟨fun pins s σ H Q I q => h.run pins s σ H Q I (w σ H Q q)⟩
theorem PT.weak {X : Cx} {e : Expr} {t t' : TT} (h : PT X e t) (w : ∀ σ H Q, t' σ H Q → t σ H Q) : PT X e t' := ⟨fun pins s σ H Q I q => h.run pins s σ H Q I (w σ H Q q)⟩
theorem PW.weak {X : Cx} {e : Expr} {t t' : TT} (h : PW X e t) (w : ∀ σ H Q, t' σ H Q → t σ H Q) : PW X e t' := ⟨fun whole pins s σ H Q I q => h.run whole pins s σ H Q I (w σ H Q q)⟩
theorem PA.weak {X : Cx} {es : List Expr} {t t' : TA} (h : PA X es t) (w : ∀ σ H Q, t' σ H Q → t σ H Q) : PA X es t' := ⟨fun pos pins s σ H Q I q => h.run pos pins s σ H Q I (w σ H Q q)⟩
end Sh

set_option Elab.async false
set_option linter.all false
set_option maxRecDepth 100000
set_option maxHeartbeats 2000000
namespace Sh
open PySem PySem.Spec L2
section
variable {X : Cx} {T : Tb} {W : WX} {e a b c : Expr} {es : List Expr} {pos p : Pos} {ma mb mc : EM} {ml : LM}
/-! ### constants, names -/
def mC (d : D) : EM := fun _ g => .ok d g
theorem Pst.pure {α β : Type} {K : PySem.W.Frag} {rel : RL α β} {ρ : En} {σ : L2.St} {μ : List Addr} {H : Hp} {Q : β → Hp → Prop} {x : α} {g : Gs} (h : Pst K T rel W ρ σ μ H Q (.ok x g)) (s : StR K T μ g ρ σ H) {y : β} (r : rel K H μ (ow T ρ σ) x y) : Q y H := h y μ H s (.refl μ H) r
theorem me_int {i : Int} {j : Nat} : ME X T W (.Constant (.int i) j pos) (mC (.int i)) := PE.weak pe_int fun σ H Q ⟨ρ, μ, g, s, p⟩ => Pst.pure p s (.int i)
theorem me_bl {i : Bool} {j : Nat} : ME X T W (.Constant (.bool i) j pos) (mC (.bl i)) := PE.weak pe_bl fun σ H Q ⟨ρ, μ, g, s, p⟩ => Pst.pure p s (.bl i)
theorem me_non {j : Nat} : ME X T W (.Constant .none j pos) (mC .non) := PE.weak pe_non fun σ H Q ⟨ρ, μ, g, s, p⟩ => Pst.pure p s .non
theorem me_str {i : Str} {j : Nat} : ME X T W (.Constant (.str i) j pos) (mC (.str i)) := PE.weak pe_str fun σ H Q ⟨ρ, μ, g, s, p⟩ => Pst.pure p s (.str i)
def mV (i : Nat) : EM := fun ρ g => match ρ[i]? with
  | some (.d x) => .ok x g
  | _ => .bad
theorem me_v (i : Nat) {x : Str} (hN : X.N[i]? = some x := by rfl) (hv : Vis X.env.scope x := by first | exact Or.inl rfl | exact Or.inr (Or.inl rfl) | exact Or.inr (Or.inr rfl)) (hd : (x == ("__debug__" : Str)) = false := by decide)
    (hcd : (x == ("__classdict__" : Str)) = false := by decide) : ME X T W (.Name x pos) (mV i) := PE.weak (pe_var hN hv hd hcd) fun σ H Q ⟨ρ, μ, g, s, p⟩ => by
  unfold mV at p
  cases q : ρ[i]? with
  | none =>
    rw [q] at p
    exact p.elim
  | some sl =>
    rw [q] at p
    cases sl with
    | d x =>
      obtain ⟨v, e1, r⟩ := s.en i x q
      exact ⟨v, e1, Pst.pure p s r⟩
    | no => exact p.elim
    | ml xs => exact p.elim
/-- a module's constant -/
theorem me_gint {x : Str} {i : Int} {t : Tok} (hg : Gl X x) (hm : X.mg x = some (.int i t)) (hd : (x == ("__debug__" : Str)) = false := by decide) : ME X T W (.Name x pos) (mC (.int i)) := PE.weak (pe_glob (v := .int i) hg hm ⟨t, rfl⟩ hd) fun σ H Q ⟨ρ, μ, g, s, p⟩ => Pst.pure p s (.int i)
/-- a def, a class as a value -/
theorem me_gfn {x : Str} (hg : Gl X x) (hm : X.mg x = some (.ref (He.ga X.K x))) (hd : (x == ("__debug__" : Str)) = false := by decide) : ME X T W (.Name x pos) (mC (.fn x)) := PE.weak (pe_glob (v := .ref (He.ga X.K x)) hg hm rfl hd) fun σ H Q ⟨ρ, μ, g, s, p⟩ => Pst.pure p s .fn
/-- a tuple of constants of the module -/
theorem me_gtup {x : Str} {a : Addr} {xs : List D} {vs : List V} (hg : Gl X x) (hm : X.mg x = some (.ref a)) (hk : KTup X.K a vs) (hr : ∀ H μ ow, Rps X.K H μ ow xs vs) (hd : (x == ("__debug__" : Str)) = false := by decide) : ME X T W (.Name x pos) (mC (.tup xs)) :=
  PE.weak (pe_glob (v := .ref a) hg hm rfl hd) fun σ H Q ⟨ρ, μ, g, s, p⟩ => Pst.pure p s (.tup (.inr hk) (hr _ _ _))

/-! ### one, two, many parts -/
def mU (op : D → Gs → Res D) (a : EM) : EM := fun ρ g => (a ρ g).bind op
def mO (op : D → D → Gs → Res D) (a b : EM) : EM := fun ρ g => (a ρ g).bind fun x g1 => (b ρ g1).bind fun y g2 => op x y g2
def mNil : LM := fun _ g => .ok [] g
def mCons (a : EM) (l : LM) : LM := fun ρ g => (a ρ g).bind fun x g1 => (l ρ g1).bind fun xs g2 => .ok (x :: xs) g2
def mN (op : List D → Gs → Res D) (l : LM) : EM := fun ρ g => (l ρ g).bind op
def rU1 (K : PySem.W.Frag) (T : Tb) (W : WX) (op : D → Gs → Res D) : V → Hp → VK → Prop := fun x H Q => ∃ ρ σ μ g d, StR K T μ g ρ σ H ∧ Rp K H μ (ow T ρ σ) d x ∧ Pst K T Rp W ρ σ μ H Q (op d g)
def rO (K : PySem.W.Frag) (T : Tb) (W : WX) (op : D → D → Gs → Res D) : R2 := fun x y H Q => ∃ ρ σ μ g d e, StR K T μ g ρ σ H ∧ Rp K H μ (ow T ρ σ) d x ∧ Rp K H μ (ow T ρ σ) e y ∧ Pst K T Rp W ρ σ μ H Q (op d e g)
def rN (K : PySem.W.Frag) (T : Tb) (W : WX) (op : List D → Gs → Res D) : List V → Hp → VK → Prop := fun xs H Q => ∃ ρ σ μ g ds, StR K T μ g ρ σ H ∧ Rps K H μ (ow T ρ σ) ds xs ∧ Pst K T Rp W ρ σ μ H Q (op ds g)
theorem w_un {op : D → Gs → Res D} {σ : L2.St} {H : Hp} {Q : VK} (h : tE X.K T W (mU op ma) σ H Q) : tE X.K T W ma σ H fun x H1 => rU1 X.K T W op x H1 Q :=
  tG_bind (k := fun _ => op) h fun d x ρ μ g H1 s r p => ⟨ρ, σ, μ, g, d, s, r, p⟩
theorem w_op {op : D → D → Gs → Res D} {σ : L2.St} {H : Hp} {Q : VK} (h : tE X.K T W (mO op ma mb) σ H Q) : tOp (rO X.K T W op) (tE X.K T W ma) (tE X.K T W mb) σ H Q :=
  tG_bind (k := fun ρ x g1 => (mb ρ g1).bind fun y g2 => op x y g2) h fun d x ρ μ g H1 s r p => ⟨ρ, μ, g, s, (Pst.bind p).imp fun y H2 ⟨e, μ2, g2, s2, e2, r2, p2⟩ => ⟨ρ, σ, μ2, g2, d, e, s2, r.ext e2, r2, p2⟩⟩
theorem w_n {op : List D → Gs → Res D} {σ : L2.St} {H : Hp} {Q : VK} (h : tE X.K T W (mN op ml) σ H Q) : tCB (rN X.K T W op) (tL X.K T W ml) σ H Q :=
  tG_bind (k := fun _ => op) h fun d x ρ μ g H1 s r p => ⟨ρ, σ, μ, g, d, s, r, p⟩
theorem me_op {o : Operator} {op : D → D → Gs → Res D} (ho : OpR X (binaryOp o) (rO X.K T W op)) (ha : ME X T W a ma) (hb : ME X T W b mb) : ME X T W (.BinOp a o b pos) (mO op ma mb) := PE.weak (pe_op ho ha hb) fun _ _ _ h => w_op h
theorem me_un {o : UnaryOp} {op : D → Gs → Res D} (ho : UnR X (unaryOp o) (rU1 X.K T W op)) (ha : ME X T W a ma) : ME X T W (.UnaryOp o a pos) (mU op ma) := PE.weak (pe_un ho ha) fun _ _ _ h => w_un h
theorem me_cmp {o : CmpOp} {op : D → D → Gs → Res D} (ho : OpR X (compareOp o) (rO X.K T W op)) (ha : ME X T W a ma) (hb : ME X T W b mb) (hm : behindInMarks o b = false) : ME X T W (.Compare a [o] [b] pos) (mO op ma mb) := PE.weak (pe_cmpR ho ha hb hm) fun _ _ _ h => w_op h
theorem ma_nil : MA X T W [] mNil := PA.weak pa_nil fun σ H Q ⟨ρ, μ, g, s, p⟩ => Pst.pure p s .nil
theorem ma_cons (ha : ME X T W e ma) (hr : MA X T W es ml) (hs : starEach (e :: es) X.env = (false, eval e X.env) :: starEach es X.env := by rfl) : MA X T W (e :: es) (mCons ma ml) := PA.weak (pa_cons ha hr hs) fun σ H Q h =>
  tG_bind (k := fun ρ x g1 => (ml ρ g1).bind fun xs g2 => .ok (x :: xs) g2) h fun d x ρ μ g H1 s r p => ⟨ρ, μ, g, s, (Pst.bind p).imp fun y H2 ⟨e, μ2, g2, s2, e2, r2, p2⟩ => Pst.pure p2 s2 (.cons (r.ext e2) r2)⟩

/-! ### tests -/
def mB (a : EM) : BM := fun ρ g => (a ρ g).bind fun x g1 => match x with
  | .bl k => .ok k g1
  | _ => .bad
theorem w_b {σ : L2.St} {H : Hp} {Q : Bool → Hp → Prop} (h : tT X.K T W (mB ma) σ H Q) : tE X.K T W ma σ H fun x H1 => ∃ k, x = .bl k ∧ Q k H1 :=
  tG_bind (k := fun _ x g1 => match x with
  | .bl k => .ok k g1
  | _ => .bad) h fun d x ρ μ g H1 s r p => by
    cases d with
    | bl k =>
      cases r
      exact ⟨k, rfl, Pst.pure p s rfl⟩
    | _ => exact p.elim
theorem mt_val (h : ME X T W e ma) (he : ∀ whole, isTrue e X.env whole = (do let v ← whole; standAt e.pos; holding [v] (truthy v)) := by intro _; rfl) : MT X T W e (mB ma) := PT.weak (pt_val h he) fun _ _ _ h => w_b h
theorem mt_cmp {o : CmpOp} {op : D → D → Gs → Res D} (ho : OpR X (compareOp o) (rO X.K T W op)) (ha : ME X T W a ma) (hb : ME X T W b mb) (hm : behindInMarks o b = false) : MT X T W (.Compare a [o] [b] pos) (mB (mO op ma mb)) :=
  PT.weak (pt_cmpR ho ha hb hm) fun _ _ _ h => by
    obtain ⟨ρ, μ, g, s, p⟩ := w_b h
    exact w_op ⟨ρ, μ, g, s, p⟩
/-- a o b o' c -/
def mCh (op op' : D → D → Gs → Res D) (a b c : EM) : EM := fun ρ g => (a ρ g).bind fun x g1 => (b ρ g1).bind fun y g2 => (op x y g2).bind fun k g3 => match k with
  | .bl true => (c ρ g3).bind fun z g4 => op' y z g4
  | .bl false => .ok (.bl false) g3
  | _ => .bad
theorem w_ch {op op' : D → D → Gs → Res D} {σ : L2.St} {H : Hp} {Q : VK} (h : tE X.K T W (mCh op op' ma mb mc) σ H Q) : tChain (rO X.K T W op) (rO X.K T W op') (tE X.K T W ma) (tE X.K T W mb) (tE X.K T W mc) σ H Q := by
  obtain ⟨ρ, μ, g, s, p⟩ := h
  refine ⟨ρ, μ, g, s, (Pst.bind p).imp fun x H1 ⟨d, μ1, g1, s1, e1, r1, p1⟩ => ⟨ρ, μ1, g1, s1, (Pst.bind p1).imp fun y H2 ⟨e, μ2, g2, s2, e2, r2, p2⟩ => ⟨ρ, σ, μ2, g2, d, e, s2, r1.ext e2, r2, (Pst.bind p2).imp fun z H3 ⟨k, μ3, g3, s3, e3, r3, p3⟩ => ?_⟩⟩⟩
  cases k with
  | bl k =>
    cases r3
    refine ⟨k, rfl, ?_⟩
    cases k with
    | true => exact iteT ⟨ρ, μ3, g3, s3, (Pst.bind p3).imp fun z H4 ⟨f, μ4, g4, s4, e4, r4, p4⟩ => ⟨ρ, σ, μ4, g4, e, f, s4, (r2.ext e3).ext e4, r4, p4⟩⟩
    | false => exact iteF (Pst.pure p3 s3 (.bl false))
  | _ => exact p3.elim
theorem me_ch {o o' : CmpOp} {op op' : D → D → Gs → Res D} (ho : OpR X (compareOp o) (rO X.K T W op)) (ho' : OpR X (compareOp o') (rO X.K T W op')) (ha : ME X T W a ma) (hb : ME X T W b mb) (hc : ME X T W c mc)
    (hm : lastMarks [o, o'] [b, c] = false := by with_unfolding_all rfl) : ME X T W (.Compare a [o, o'] [b, c] pos) (mCh op op' ma mb mc) := PE.weak (pe_chain ho ho' ha hb hc hm) fun _ _ _ h => w_ch h
theorem mt_ch {o o' : CmpOp} {op op' : D → D → Gs → Res D} (ho : OpR X (compareOp o) (rO X.K T W op)) (ho' : OpR X (compareOp o') (rO X.K T W op')) (ha : ME X T W a ma) (hb : ME X T W b mb) (hc : ME X T W c mc)
    (hm : lastMarks [o, o'] [b, c] = false := by with_unfolding_all rfl) : MT X T W (.Compare a [o, o'] [b, c] pos) (mB (mCh op op' ma mb mc)) := PT.weak (pt_chain ho ho' ha hb hc hm) fun _ _ _ h => by
    obtain ⟨ρ, μ, g, s, p⟩ := w_b h
    exact w_ch ⟨ρ, μ, g, s, p⟩
variable {ba bb : BM} {rest : List Expr}
def bAnd (a b : BM) : BM := fun ρ g => (a ρ g).bind fun k g1 => match k with
  | true => b ρ g1
  | false => .ok false g1
def bOr (a b : BM) : BM := fun ρ g => (a ρ g).bind fun k g1 => match k with
  | true => .ok true g1
  | false => b ρ g1
def bNot (a : BM) : BM := fun ρ g => (a ρ g).bind fun k g1 => .ok (!k) g1
abbrev MW (X : Cx) (T : Tb) (W : WX) (e : Expr) (m : BM) : Prop := PW X e (tT X.K T W m)
theorem mw_and1 (ha : MT X T W a ba) : MW X T W (.BoolOp .And [a] pos) ba := pw_and1 ha
theorem mw_or1 (ha : MT X T W a ba) : MW X T W (.BoolOp .Or [a] pos) ba := pw_or1 ha
theorem w_and {σ : L2.St} {H : Hp} {Q : Bool → Hp → Prop} (h : tT X.K T W (bAnd ba bb) σ H Q) : tAnd (tT X.K T W ba) (tT X.K T W bb) σ H Q :=
  tG_bind (k := fun ρ k g1 => match k with
  | true => bb ρ g1
  | false => .ok false g1) h fun d x ρ μ g H1 s r p => by
    cases r
    cases d with
    | true => exact iteT ⟨ρ, μ, g, s, p⟩
    | false => exact iteF (Pst.pure p s rfl)
theorem w_or {σ : L2.St} {H : Hp} {Q : Bool → Hp → Prop} (h : tT X.K T W (bOr ba bb) σ H Q) : tOr (tT X.K T W ba) (tT X.K T W bb) σ H Q :=
  tG_bind (k := fun ρ k g1 => match k with
  | true => .ok true g1
  | false => bb ρ g1) h fun d x ρ μ g H1 s r p => by
    cases r
    cases d with
    | true => exact iteT (Pst.pure p s rfl)
    | false => exact iteF ⟨ρ, μ, g, s, p⟩
theorem mw_and (ha : MT X T W a ba) (hb : MW X T W (.BoolOp .And (b :: rest) pos) bb) : MW X T W (.BoolOp .And (a :: b :: rest) pos) (bAnd ba bb) := PW.weak (pw_and ha hb) fun _ _ _ h => w_and h
theorem mw_or (ha : MT X T W a ba) (hb : MW X T W (.BoolOp .Or (b :: rest) pos) bb) : MW X T W (.BoolOp .Or (a :: b :: rest) pos) (bOr ba bb) := PW.weak (pw_or ha hb) fun _ _ _ h => w_or h
theorem mw_pt (h : MW X T W e ba) : MT X T W e ba := PW.pt h
theorem mt_not (ha : MT X T W a ba) : MT X T W (.UnaryOp .Not a pos) (bNot ba) := PT.weak (pt_not ha) fun σ H Q h =>
  tG_bind (k := fun _ k g1 => .ok (!k) g1) h fun d x ρ μ g H1 s r p => by
    cases r
    exact Pst.pure p s rfl
/-- and, or, not as values: all parts truths -/
def mAnd (a b : EM) : EM := fun ρ g => (a ρ g).bind fun k g1 => match k with
  | .bl true => b ρ g1
  | .bl false => .ok (.bl false) g1
  | _ => .bad
def mOr (a b : EM) : EM := fun ρ g => (a ρ g).bind fun k g1 => match k with
  | .bl true => .ok (.bl true) g1
  | .bl false => b ρ g1
  | _ => .bad
def mNot (a : EM) : EM := fun ρ g => (a ρ g).bind fun k g1 => match k with
  | .bl k => .ok (.bl (!k)) g1
  | _ => .bad
theorem me_one {op : BoolOp} (h : ME X T W a ma) : ME X T W (.BoolOp op [a] pos) ma := pe_one h
theorem me_and (ha : ME X T W a ma) (hb : ME X T W (.BoolOp .And (b :: rest) pos) mb) : ME X T W (.BoolOp .And (a :: b :: rest) pos) (mAnd ma mb) := PE.weak (pe_and ha hb) fun σ H Q h =>
  tG_bind (k := fun ρ (k : D) g1 => match k with
  | .bl true => mb ρ g1
  | .bl false => .ok (D.bl false) g1
  | _ => .bad) h fun d x ρ μ g H1 s r p => by
    cases d with
    | bl k =>
      cases r
      refine ⟨k, rfl, ?_⟩
      cases k with
      | true => exact iteT ⟨ρ, μ, g, s, p⟩
      | false => exact iteF (Pst.pure p s (.bl false))
    | _ => exact p.elim
theorem me_or (ha : ME X T W a ma) (hb : ME X T W (.BoolOp .Or (b :: rest) pos) mb) : ME X T W (.BoolOp .Or (a :: b :: rest) pos) (mOr ma mb) := PE.weak (pe_or ha hb) fun σ H Q h =>
  tG_bind (k := fun ρ (k : D) g1 => match k with
  | .bl true => .ok (D.bl true) g1
  | .bl false => mb ρ g1
  | _ => .bad) h fun d x ρ μ g H1 s r p => by
    cases d with
    | bl k =>
      cases r
      refine ⟨k, rfl, ?_⟩
      cases k with
      | true => exact iteT (Pst.pure p s (.bl true))
      | false => exact iteF ⟨ρ, μ, g, s, p⟩
    | _ => exact p.elim
theorem me_not (ha : ME X T W a ma) : ME X T W (.UnaryOp .Not a pos) (mNot ma) := PE.weak (pe_not ha) fun σ H Q h =>
  tG_bind (k := fun _ (k : D) g1 => match k with
  | .bl k => .ok (D.bl (!k)) g1
  | _ => .bad) h fun d x ρ μ g H1 s r p => by
    cases d with
    | bl k =>
      cases r
      exact ⟨k, rfl, Pst.pure p s (.bl _)⟩
    | _ => exact p.elim
def mIf (c : BM) (a b : EM) : EM := fun ρ g => (c ρ g).bind fun k g1 => match k with
  | true => a ρ g1
  | false => b ρ g1
theorem me_if {c : Expr} (hc : MT X T W c ba) (ha : ME X T W a ma) (hb : ME X T W b mb) : ME X T W (.IfExp c a b pos) (mIf ba ma mb) := PE.weak (pe_ifExp hc ha hb) fun σ H Q h =>
  tG_bind (k := fun ρ k g1 => match k with
  | true => ma ρ g1
  | false => mb ρ g1) h fun d x ρ μ g H1 s r p => by
    cases r
    cases d with
    | true => exact iteT ⟨ρ, μ, g, s, p⟩
    | false => exact iteF ⟨ρ, μ, g, s, p⟩

/-! ### displays -/
def oTup (xs : List D) (g : Gs) : Res D := if xs.length ≤ 1000000 then .ok (.tup xs) g else .bad
def oLst (xs : List D) (g : Gs) : Res D := if xs.length ≤ 1000000 then .ok (.lst xs) g else .bad
/-- a list that is to be changed by others -/
def oNew (xs : List D) (g : Gs) : Res D := if xs.length ≤ 1000000 then .ok (.loc g.length) (g ++ [.lst xs]) else .bad
theorem lim_ok {n : Nat} (h : n ≤ 1000000) : n ≤ sizeLine := by rw [sizeLine_eq]; omega
theorem new_tup {K : PySem.W.Frag} {ρ : En} {σ : L2.St} {μ : List Addr} {H : Hp} {g : Gs} {Q : VK} {xs : List D} {vs : List V} {p : Addr} (s : StR K T μ g ρ σ H) (r : Rps K H μ (ow T ρ σ) xs vs) (h : Pst K T Rp W ρ σ μ H Q (.ok (.tup xs) g)) (hp : H p = none) : Q (.ref p) (upd H p (.tup vs)) :=
  h _ μ _ (s.new hp) (Ex.new s hp) (.tup (TupAt.new s hp vs) (r.ext (Ex.new s hp)))
theorem new_lst {K : PySem.W.Frag} {ρ : En} {σ : L2.St} {μ : List Addr} {H : Hp} {g : Gs} {Q : VK} {xs : List D} {vs : List V} {p : Addr} (s : StR K T μ g ρ σ H) (r : Rps K H μ (ow T ρ σ) xs vs) (h : Pst K T Rp W ρ σ μ H Q (.ok (.lst xs) g)) (hp : H p = none) : Q (.ref p) (upd H p (.lst vs)) :=
  h _ μ _ (s.new hp) (Ex.new s hp) (.lst (LstAt.new s hp vs) (r.ext (Ex.new s hp)))
theorem me_tup {x1 : Nat} (h : MA X T W es ml) : ME X T W (.Tuple es x1 pos) (mN oTup ml) := PE.weak (pe_tup h) fun σ H Q h =>
  tG_bind (k := fun _ => oTup) h fun d x ρ μ g H1 s r p => by
    unfold oTup at p
    split at p
    · rename_i hz
      exact ⟨by rw [← r.len]; exact lim_ok hz, fun q hq => new_tup s r p hq⟩
    · exact p.elim
theorem me_lst (h : MA X T W es ml) : ME X T W (.List es pos) (mN oLst ml) := PE.weak (pe_lst h) fun σ H Q h =>
  tG_bind (k := fun _ => oLst) h fun d x ρ μ g H1 s r p => by
    unfold oLst at p
    split at p
    · rename_i hz
      exact ⟨by rw [← r.len]; exact lim_ok hz, fun q hq => new_lst s r p hq⟩
    · exact p.elim
/-- a new object at p becomes the state's own -/
theorem StR.push {K : PySem.W.Frag} {ρ : En} {σ : L2.St} {μ : List Addr} {H : Hp} {g : Gs} {xs : List D} {vs : List V} {p : Addr} (s : StR K T μ g ρ σ H) (r : Rps K H μ (ow T ρ σ) xs vs) (hp : H p = none) :
    StR K T (μ ++ [p]) (g ++ [.lst xs]) ρ σ (upd H p (.lst vs)) ∧ Ex μ H (μ ++ [p]) (upd H p (.lst vs)) := by
  have sm : ∀ b u, H b = some u → upd H p (.lst vs) b = some u := fun b u e => by rw [upd_ne (ne_of_none e hp)]; exact e
  have nm : ∀ b u, H b = some u → b ∉ μ → b ∉ μ ++ [p] := fun b u e n z => by
    rcases List.mem_append.mp z with z | z
    · exact n z
    · rw [List.mem_singleton.mp z, hp] at e
      cases e
  have ht : ∀ a vs', TupAt K H μ (ow T ρ σ) a vs' → TupAt K (upd H p (.lst vs)) (μ ++ [p]) (ow T ρ σ) a vs' := fun a vs' t => t.imp (fun ⟨e, n, o⟩ => ⟨sm _ _ e, nm _ _ e n, o⟩) id
  have hl : ∀ a vs', LstAt K H μ (ow T ρ σ) a vs' → LstAt K (upd H p (.lst vs)) (μ ++ [p]) (ow T ρ σ) a vs' := fun a vs' t => by
    rcases t with ⟨r, n, o⟩ | k
    · rcases r with e | ⟨ob, e⟩
      · exact .inl ⟨.inl (sm _ _ e), nm _ _ e n, o⟩
      · exact .inl ⟨.inr ⟨ob, sm _ _ e⟩, nm _ _ e n, o⟩
    · exact .inr k
  have hm : ∀ (l : Nat) a, μ[l]? = some a → (μ ++ [p])[l]? = some a := fun l a h => by
    rw [List.getElem?_append_left (List.getElem?_eq_some_iff.mp h).1]
    exact h
  have hdc : ∀ a ks vs', DicAt H μ (ow T ρ σ) a ks vs' → DicAt (upd H p (.lst vs)) (μ ++ [p]) (ow T ρ σ) a ks vs' := fun a ks vs' ⟨e, n, o, r⟩ => ⟨sm _ _ e, nm _ _ e n, o, r⟩
  have hr := Rp.mapP ht hl hm hdc
  have hrs := Rps.mapP ht hl hm hdc
  have pm := s.freeM hp
  have own : ow T ρ σ p → False := s.freeO hp
  refine ⟨⟨by rw [List.length_append, List.length_append, s.len] <;> rfl, ?_, fun l a o e1 e2 => ?_, s.el, fun i x e => ?_, fun i ys e => ?_, s.sep, fun a q => ⟨(s.ob a q).1.imp fun vs e => sm _ _ e, let ⟨⟨vs, e⟩, n⟩ := s.ob a q; nm _ _ e n⟩, s.os, s.tb.ext sm⟩, ⟨⟨[p], rfl⟩, fun a u e _ n => ⟨sm _ _ e, nm _ _ e n⟩, fun a u e n => ⟨u, sm _ _ e, n⟩⟩⟩
  · rw [List.nodup_append]
    refine ⟨s.nd, by simp, fun a ha b hb z => ?_⟩
    rw [List.mem_singleton.mp hb] at z
    exact pm (z ▸ ha)
  · by_cases hlt : l < μ.length
    · rw [List.getElem?_append_left hlt] at e1
      rw [List.getElem?_append_left (by rw [← s.len]; exact hlt)] at e2
      refine (s.gl l a o e1 e2).mapP (fun u e _ => sm _ _ e) hr hrs fun dx n1 n2 q => ⟨sm _ _ q, nm _ _ q n1, n2⟩
    · have hge : μ.length ≤ l := Nat.le_of_not_lt hlt
      rw [List.getElem?_append_right hge] at e1
      rw [List.getElem?_append_right (by rw [← s.len]; exact hge), ← s.len] at e2
      cases hk : l - μ.length with
      | zero =>
        rw [hk] at e1 e2
        simp at e1 e2
        subst e1 e2
        exact ⟨vs, upd_same, hrs _ _ r⟩
      | succ k =>
        rw [hk] at e1
        simp at e1
  · obtain ⟨v, e1, r'⟩ := s.en i x e
    exact ⟨v, e1, hr _ _ r'⟩
  · obtain ⟨a, ws, e1, e2, n, r'⟩ := s.em i ys e
    exact ⟨a, ws, e1, sm _ _ e2, nm _ _ e2 n, hrs _ _ r'⟩
theorem me_new (h : MA X T W es ml) : ME X T W (.List es pos) (mN oNew ml) := PE.weak (pe_lst h) fun σ H Q h =>
  tG_bind (k := fun _ => oNew) h fun d x ρ μ g H1 s r p => by
    unfold oNew at p
    split at p
    · rename_i hz
      refine ⟨by rw [← r.len]; exact lim_ok hz, fun q hq => ?_⟩
      obtain ⟨s2, e2⟩ := s.push r hq
      refine p _ _ _ s2 e2 (.loc ?_)
      rw [← s.len, List.getElem?_append_right (Nat.le_refl _), Nat.sub_self]
      rfl
    · exact p.elim
end
end Sh

set_option Elab.async false
set_option linter.all false
set_option maxRecDepth 100000
set_option maxHeartbeats 2000000
namespace Sh
open PySem PySem.Spec L2
/-! ### data: ==, plain -/
mutual
def eqD : D → D → Bool
  | .non, .non => true
  | .bl a, .bl b => a == b
  | .bl a, .int j => (if a then 1 else 0) == j
  | .int i, .bl b => i == (if b then 1 else 0)
  | .int i, .int j => i == j
  | .str x, .str y => x == y
  | .lst xs, .lst ys => eqDs xs ys
  | .tup xs, .tup ys => eqDs xs ys
  | _, _ => false
def eqDs : List D → List D → Bool
  | [], [] => true
  | x :: xs, y :: ys => eqD x y && eqDs xs ys
  | _, _ => false
end
mutual
def plain : Nat → D → Bool
  | _, .non => true
  | _, .bl _ => true
  | _, .int _ => true
  | _, .str _ => true
  | 0, .tup _ => false
  | n + 1, .tup xs => plains n xs
  | 0, .lst _ => false
  | n + 1, .lst xs => plains n xs
  | _, .loc _ => false
  | _, .fn _ => false
  | _, .dic _ _ => false
def plains : Nat → List D → Bool
  | _, [] => true
  | n, x :: xs => plain n x && plains n xs
end
mutual
def toPy : D → PyData
  | .non => .none
  | .bl b => .bool b
  | .int i => .int i
  | .str x => .str x
  | .tup xs => .tuple (toPys xs)
  | .lst xs => .list (toPys xs)
  | .loc _ => .none
  | .fn _ => .none
  | .dic _ _ => .none
def toPys : List D → List PyData
  | [] => []
  | x :: xs => toPy x :: toPys xs
end
mutual
theorem toPy_plain : ∀ (n : Nat) (x : D), plain n x = true → (toPy x).plain = true ∧ (toPy x).depth ≤ n
  | n, .non, _ => by simp [toPy, PyData.plain, PyData.depth]
  | n, .bl _, _ => by simp [toPy, PyData.plain, PyData.depth]
  | n, .int _, _ => by simp [toPy, PyData.plain, PyData.depth]
  | n, .str _, _ => by simp [toPy, PyData.plain, PyData.depth]
  | 0, .tup _, h => by simp [plain] at h
  | n + 1, .tup xs, h => by
    obtain ⟨h1, h2⟩ := toPys_plain n xs (by simpa [plain] using h)
    simp only [toPy, PyData.plain, PyData.depth]
    exact ⟨h1, by omega⟩
  | 0, .lst _, h => by simp [plain] at h
  | n + 1, .lst xs, h => by
    obtain ⟨h1, h2⟩ := toPys_plain n xs (by simpa [plain] using h)
    simp only [toPy, PyData.plain, PyData.depth]
    exact ⟨h1, by omega⟩
  | n, .loc _, h => by simp [plain] at h
  | n, .fn _, h => by simp [plain] at h
  | n, .dic _ _, h => by simp [plain] at h
theorem toPys_plain : ∀ (n : Nat) (x : List D), plains n x = true → PyData.plainAll (toPys x) = true ∧ PyData.depthAll (toPys x) ≤ n
  | n, [], _ => by simp [toPys, PyData.plainAll, PyData.depthAll]
  | n, x :: xs, h => by
    simp only [plains, Bool.and_eq_true] at h
    obtain ⟨h1, h2⟩ := toPy_plain n x h.1
    obtain ⟨h3, h4⟩ := toPys_plain n xs h.2
    simp only [toPys, PyData.plainAll, PyData.depthAll, h1, h3]
    exact ⟨rfl, by omega⟩
end
mutual
theorem eqv_toPy : ∀ (n m : Nat) (x y : D), plain n x = true → plain m y = true → PyData.eqv (toPy x) (toPy y) = eqD x y
  | n, m, .non, y, hx, hy => by cases y <;> simp_all [toPy, PyData.eqv, eqD, plain]
  | n, m, .bl _, y, hx, hy => by cases y <;> simp_all [toPy, PyData.eqv, eqD, plain]
  | n, m, .int _, y, hx, hy => by cases y <;> simp_all [toPy, PyData.eqv, eqD, plain]
  | n, m, .str _, y, hx, hy => by cases y <;> simp_all [toPy, PyData.eqv, eqD, plain]
  | 0, m, .tup _, y, hx, hy => by simp [plain] at hx
  | n + 1, m, .tup xs, y, hx, hy => by
    cases y with
    | tup ys =>
      cases m with
      | zero => simp [plain] at hy
      | succ m =>
        simp only [toPy, PyData.eqv, eqD]
        exact eqv_toPys n m xs ys (by simpa [plain] using hx) (by simpa [plain] using hy)
    | _ => simp_all [toPy, PyData.eqv, eqD, plain]
  | 0, m, .lst _, y, hx, hy => by simp [plain] at hx
  | n + 1, m, .lst xs, y, hx, hy => by
    cases y with
    | lst ys =>
      cases m with
      | zero => simp [plain] at hy
      | succ m =>
        simp only [toPy, PyData.eqv, eqD]
        exact eqv_toPys n m xs ys (by simpa [plain] using hx) (by simpa [plain] using hy)
    | _ => simp_all [toPy, PyData.eqv, eqD, plain]
  | n, m, .loc _, y, hx, hy => by simp [plain] at hx
  | n, m, .fn _, y, hx, hy => by simp [plain] at hx
  | n, m, .dic _ _, y, hx, hy => by simp [plain] at hx
theorem eqv_toPys : ∀ (n m : Nat) (x y : List D), plains n x = true → plains m y = true → PyData.eqvAll (toPys x) (toPys y) = eqDs x y
  | n, m, [], [], _, _ => rfl
  | n, m, [], _ :: _, _, _ => rfl
  | n, m, _ :: _, [], _, _ => rfl
  | n, m, x :: xs, y :: ys, hx, hy => by
    simp only [plains, Bool.and_eq_true] at hx hy
    simp only [toPys, PyData.eqvAll, eqDs]
    rw [eqv_toPy n m x y hx.1 hy.1, eqv_toPys n m xs ys hx.2 hy.2]
end
section
variable {K : PySem.W.Frag} {H : Hp} {μ : List Addr} {ow : Addr → Prop}
mutual
theorem Rp.dp : ∀ (n : Nat) (x : D) (v : V), plain n x = true → Rp K H μ ow x v → Dp K H v (toPy x)
  | _, .non, _, _, h => by cases h; exact .non
  | _, .bl b, _, _, h => by cases h; exact .bl b
  | _, .int i, _, _, h => by cases h; exact .int i
  | _, .str x, _, _, h => by cases h; exact .str x
  | 0, .tup xs, _, hp, h => by simp [plain] at hp
  | n + 1, .tup xs, _, hp, h => by
    cases h with
    | tup t r =>
      rw [toPy]
      exact .tup t.sq (Rps.dp n xs _ (by simpa [plain] using hp) r)
  | 0, .lst xs, _, hp, h => by simp [plain] at hp
  | n + 1, .lst xs, _, hp, h => by
    cases h with
    | lst t r =>
      rw [toPy]
      exact .lst t.sq (Rps.dp n xs _ (by simpa [plain] using hp) r)
  | _, .loc l, _, hp, h => by simp [plain] at hp
  | _, .fn n, _, hp, h => by simp [plain] at hp
  | _, .dic _ _, _, hp, h => by simp [plain] at hp
theorem Rps.dp : ∀ (n : Nat) (x : List D) (v : List V), plains n x = true → Rps K H μ ow x v → DpAll K H v (toPys x)
  | _, [], _, _, h => by cases h; exact .nil
  | n, x :: xs, _, hp, h => by
    simp only [plains, Bool.and_eq_true] at hp
    cases h with
    | cons r rs =>
      rw [toPys]
      exact .cons (Rp.dp n x _ hp.1 r) (Rps.dp n xs _ hp.2 rs)
end
end
/-! ### operators -/
def big (i : Int) : Bool := decide (i.natAbs < 10 ^ 100)
def oAdd : D → D → Gs → Res D
  | .int i, .int j, g => .ok (.int (i + j)) g
  | .str i, .str j, g => if i.length + j.length ≤ 1000000 then .ok (.str (i ++ j)) g else .bad
  | .tup i, .tup j, g => if i.length + j.length ≤ 1000000 then .ok (.tup (i ++ j)) g else .bad
  | .lst i, .lst j, g => if i.length + j.length ≤ 1000000 then .ok (.lst (i ++ j)) g else .bad
  | _, _, _ => .bad
def oSub : D → D → Gs → Res D
  | .int i, .int j, g => .ok (.int (i - j)) g
  | _, _, _ => .bad
def oMul : D → D → Gs → Res D
  | .int i, .int j, g => if big i && big j then .ok (.int (i * j)) g else .bad
  | .tup xs, .int k, g => if xs ≠ [] ∧ xs.length ≤ 1000 ∧ 1 ≤ k ∧ k ≤ 1000 then .ok (.tup (List.replicate k.toNat xs).flatten) g else .bad
  | _, _, _ => .bad
def oMod : D → D → Gs → Res D
  | .int i, .int j, g => if 0 < j then .ok (.int (i % j)) g else .bad
  | _, _, _ => .bad
def oDiv : D → D → Gs → Res D
  | .int i, .int j, g => if 0 < j && big j then .ok (.int (i / j)) g else .bad
  | _, _, _ => .bad
def oPow : D → D → Gs → Res D
  | .int i, .int j, g => if 0 ≤ j && decide (j ≤ 1000) && decide (i.natAbs < 2 ^ 64) then .ok (.int (i ^ j.toNat)) g else .bad
  | _, _, _ => .bad
def oNeg : D → Gs → Res D
  | .int i, g => .ok (.int (-i)) g
  | _, _ => .bad
def oCmp (f : Int → Int → Bool) : D → D → Gs → Res D
  | .int i, .int j, g => .ok (.bl (f i j)) g
  | _, _, _ => .bad
abbrev oLt := oCmp fun i j => decide (i < j)
abbrev oLe := oCmp fun i j => decide (i ≤ j)
abbrev oGt := oCmp fun i j => decide (j < i)
abbrev oGe := oCmp fun i j => decide (j ≤ i)
def oEq : D → D → Gs → Res D := fun x y g => if plain 50 x && plain 50 y then .ok (.bl (eqD x y)) g else .bad
def oNe : D → D → Gs → Res D := fun x y g => if plain 50 x && plain 50 y then .ok (.bl (!eqD x y)) g else .bad
def oIn : D → D → Gs → Res D
  | x, .tup ys, g => if plain 50 x && plains 50 ys then .ok (.bl (ys.any fun y => eqD y x)) g else .bad
  | x, .lst ys, g => if plain 50 x && plains 50 ys then .ok (.bl (ys.any fun y => eqD y x)) g else .bad
  | _, _, _ => .bad
def oNin : D → D → Gs → Res D
  | x, .tup ys, g => if plain 50 x && plains 50 ys then .ok (.bl (!ys.any fun y => eqD y x)) g else .bad
  | x, .lst ys, g => if plain 50 x && plains 50 ys then .ok (.bl (!ys.any fun y => eqD y x)) g else .bad
  | _, _, _ => .bad
def isNon : D → Bool
  | .non => true
  | _ => false
/-- is None, is True, is False -/
def oIs : D → D → Gs → Res D
  | x, .non, g => .ok (.bl (isNon x)) g
  | .bl a, .bl b, g => .ok (.bl (a == b)) g
  | _, _, _ => .bad
def oIsN : D → D → Gs → Res D
  | x, .non, g => .ok (.bl (!isNon x)) g
  | .bl a, .bl b, g => .ok (.bl (!(a == b))) g
  | _, _, _ => .bad
section
open PyProof.Rows
theorem tuple_mul1 (l : Addr) (items : Array Value) (n : Nat) (dd : Option Addr) (sl : Array (Option Value)) (u : Tok) :
    Meets (Builtin.«tuple.__mul__» ⟨[.ref l, .int 1 u], []⟩) (fun _ R s => s.heap.get? l = some { cls := .type "tuple", dict := dd, data := .seq items n, slots := sl } ∧ R (.ok (.ret (Value.ref l))) s) :=
  .of_wp fun prog w A R s h => by
    obtain ⟨hp, g, d, tk, os⟩ := s
    obtain ⟨hl, h⟩ := h
    have f1 := AutoSeq1.idx_int
    wp_walk using wpAny_loadPart' hl
    repeat (first
      | (refine wpAny_ite_false (by decide) ?_; wp_walk using wpAny_loadPart' hl)
      | (refine wpAny_ite_true (by simp) ?_; wp_walk using wpAny_loadPart' hl))
    exact ⟨_, rfl, h⟩
theorem op_rep1 {X : Cx} : OpR X (binaryOp .Mult) (fun x y H Q => ∃ l xs, x = .ref l ∧ y = .int 1 ∧ SqT X.K H l xs ∧ Q (.ref l) H) := by
  intro pins s σ H x y v u Q I rx ry h
  obtain ⟨l, xs, rfl, rfl, hT, q⟩ := h
  cases rx
  obtain ⟨t, rfl⟩ := ry
  obtain ⟨its, r, ⟨⟨cls, dd, data, sl⟩, ho, hc, n, hd⟩, hs⟩ := I.tuple hT
  simp only at hc hd
  subst hc hd
  refine wpAny_binaryOp_repeat_ref (T := "tuple") (U := "int") (by decide) ⟨_, ho, rfl⟩ (fun s' => typeIs_int s' 1 t) noFill_tuple_mul F.fills_int_mul F.slot_int_rmul repeat_tuple F.slot_int_index.lookup
    (call_meets F.slot_int_rmul (typeIs_int s 1 t) F.entry_int_rmul (F.args_int_rmul_2 _ _) (int_rmul_tuple 1 t l its.toArray n dd sl)
      ⟨ho, rfl, ⟨_, ho, rfl⟩, call_meets F.slot_tuple_mul ⟨_, ho, rfl⟩ F.entry_tuple_mul (F.args_tuple_mul_2 _ _) (tuple_mul1 l its.toArray n dd sl t) ⟨ho, ?_⟩⟩)
  exact ⟨.ref l, H, I, rfl, q⟩
end
theorem Rps.rep {K : PySem.W.Frag} {H : Hp} {μ : List Addr} {ow : Addr → Prop} {xs : List D} {vs : List V} (r : Rps K H μ ow xs vs) : ∀ n : Nat, Rps K H μ ow (List.replicate n xs).flatten (List.replicate n vs).flatten
  | 0 => .nil
  | n + 1 => by
    rw [List.replicate_succ, List.replicate_succ, List.flatten_cons, List.flatten_cons]
    exact r.append (r.rep n)
section
variable {X : Cx} {T : Tb} {W : WX}
theorem big_lt {i : Int} (h : big i = true) : i.natAbs.log2 < 400 := by
  have h1 : i.natAbs < 10 ^ 100 := of_decide_eq_true h
  have h2 : i.natAbs < 2 ^ 400 := Nat.lt_of_lt_of_le h1 (by decide)
  by_cases h0 : i.natAbs = 0
  · rw [h0]
    decide
  · exact (Nat.log2_lt h0).mpr h2
theorem p_add : OpR X (binaryOp .Add) (rO X.K T W oAdd) := by
  intro pins s σ H x y v u Q I rx ry ⟨ρ, σ', μ, g, d, e, st, r1, r2, p⟩
  cases d <;> cases e <;> try exact p.elim
  · cases r1; cases r2
    exact op_add pins s σ H _ _ v u Q I rx ry ⟨_, _, rfl, rfl, Pst.pure p st (.int _)⟩
  · cases r1; cases r2
    simp only [oAdd] at p
    split at p
    · rename_i hz
      exact op_add_str pins s σ H _ _ v u Q I rx ry ⟨_, _, rfl, rfl, lim_ok hz, Pst.pure p st (.str _)⟩
    · exact p.elim
  · simp only [oAdd] at p
    split at p
    · rename_i xs ys hz
      cases r1 with
      | tup t1 q1 =>
        cases r2 with
        | tup t2 q2 =>
          refine op_catA pins s σ H _ _ v u Q I rx ry ⟨_, _, _, _, rfl, rfl, t1.sq, t2.sq, by rw [← q1.len, ← q2.len]; exact lim_ok hz, fun hx => ?_, fun hx hy => ?_, fun hx hy q hq => ?_⟩
          · subst hx
            have hl := q1.len
            have : xs = [] := List.eq_nil_of_length_eq_zero hl
            subst this
            exact Pst.pure p st (.tup t2 q2)
          · subst hy
            have hl := q2.len
            have : ys = [] := List.eq_nil_of_length_eq_zero hl
            subst this
            rw [List.append_nil] at p
            exact Pst.pure p st (.tup t1 q1)
          · exact new_tup st (q1.append q2) p hq
    · exact p.elim
  · simp only [oAdd] at p
    split at p
    · rename_i xs ys hz
      cases r1 with
      | lst t1 q1 =>
        cases r2 with
        | lst t2 q2 =>
          cases rx
          cases ry
          obtain ⟨its, rv, ⟨⟨cls, dd, data, sl⟩, n, ho, hc, hdd, hd⟩, hl⟩ := I.list t1.sq
          obtain ⟨its2, rv2, ⟨⟨cls2, dd2, data2, sl2⟩, n2, ho2, hc2, hdd2, hd2⟩, hl2⟩ := I.list t2.sq
          simp only at hc hd hdd hc2 hd2 hdd2
          subst hc hd hdd hc2 hd2 hdd2
          have hsz : its.length + its2.length ≤ sizeLine := by rw [← rv.length, ← rv2.length, ← q1.len, ← q2.len]; exact lim_ok hz
          have ea : its.toArray ++ its2.toArray = (its ++ its2).toArray := by simp
          refine concat_meets ⟨_, ho, rfl⟩ ⟨_, ho2, rfl⟩ noFill_list_add seq_list_add PySem.F.slot_list_add PySem.F.entry_list_add (PySem.F.args_list_add_2 _ _) (PyProof.Rows.list_addW _ _ its.toArray its2.toArray n n2 none none sl sl2 (by simpa using hsz)) ⟨ho, ho2, ?_⟩
          rw [ea]
          exact ⟨.ref _, _, I.lnew (t' := s.toks) (rv.append rv2) (by rw [List.length_append, rv.length, rv2.length]; exact hsz), rfl, new_lst st (q1.append q2) p I.fresh⟩
    · exact p.elim
theorem p_sub : OpR X (binaryOp .Sub) (rO X.K T W oSub) := by
  intro pins s σ H x y v u Q I rx ry ⟨ρ, σ', μ, g, d, e, st, r1, r2, p⟩
  cases d <;> cases e <;> try exact p.elim
  cases r1; cases r2
  exact op_sub pins s σ H _ _ v u Q I rx ry ⟨_, _, rfl, rfl, Pst.pure p st (.int _)⟩
theorem p_mul : OpR X (binaryOp .Mult) (rO X.K T W oMul) := by
  intro pins s σ H x y v u Q I rx ry ⟨ρ, σ', μ, g, d, e, st, r1, r2, p⟩
  cases d <;> cases e <;> try exact p.elim
  · cases r1; cases r2
    simp only [oMul] at p
    split at p
    · rename_i i j hz
      obtain ⟨h1, h2⟩ := Bool.and_eq_true_iff.mp hz
      have := big_lt h1
      have := big_lt h2
      exact op_mulW pins s σ H _ _ v u Q I rx ry ⟨_, _, rfl, rfl, by show i.natAbs.log2 + j.natAbs.log2 < 1000000; omega, Pst.pure p st (.int _)⟩
    · exact p.elim
  · cases r2
    cases r1 with
    | tup t rs =>
      simp only [oMul] at p
      split at p
      · rename_i hz
        obtain ⟨h1, h2, h3, h4⟩ := hz
        by_cases hk : (by assumption : Int) = 1
        · subst hk
          refine op_rep1 pins s σ H _ _ v u Q I rx ry ⟨_, _, rfl, rfl, t.sq, Pst.pure p st ?_⟩
          have e1 : ∀ l : List D, (List.replicate (1 : Int).toNat l).flatten = l := fun l => by simp
          rw [e1]
          exact .tup t rs
        · refine op_repT pins s σ H _ _ v u Q I rx ry ⟨_, _, _, rfl, rfl, t.sq, ?_, by omega, h4, by rw [← rs.len]; exact h2, fun q hq => new_tup st (Rps.rep rs _) p hq⟩
          intro e
          exact h1 (List.eq_nil_of_length_eq_zero (by rw [rs.len, e]; rfl))
      · exact p.elim
theorem p_mod : OpR X (binaryOp .Mod) (rO X.K T W oMod) := by
  intro pins s σ H x y v u Q I rx ry ⟨ρ, σ', μ, g, d, e, st, r1, r2, p⟩
  cases d <;> cases e <;> try exact p.elim
  cases r1; cases r2
  simp only [oMod] at p
  split at p
  · rename_i hz
    exact op_mod pins s σ H _ _ v u Q I rx ry ⟨_, _, rfl, rfl, hz, Pst.pure p st (.int _)⟩
  · exact p.elim
theorem p_div : OpR X (binaryOp .FloorDiv) (rO X.K T W oDiv) := by
  intro pins s σ H x y v u Q I rx ry ⟨ρ, σ', μ, g, d, e, st, r1, r2, p⟩
  cases d <;> cases e <;> try exact p.elim
  cases r1; cases r2
  simp only [oDiv] at p
  split at p
  · rename_i i j hz
    obtain ⟨h1, h2⟩ := Bool.and_eq_true_iff.mp hz
    have := big_lt h2
    exact op_fdivW pins s σ H _ _ v u Q I rx ry ⟨_, _, rfl, rfl, ⟨of_decide_eq_true h1, by show j.natAbs.log2 < 9000; omega⟩, Pst.pure p st (.int _)⟩
  · exact p.elim
theorem p_pow : OpR X (binaryOp .Pow) (rO X.K T W oPow) := by
  intro pins s σ H x y v u Q I rx ry ⟨ρ, σ', μ, g, d, e, st, r1, r2, p⟩
  cases d <;> cases e <;> try exact p.elim
  cases r1; cases r2
  simp only [oPow] at p
  split at p
  · rename_i i j hz
    obtain ⟨h1, h3⟩ := Bool.and_eq_true_iff.mp hz
    obtain ⟨h1, h2⟩ := Bool.and_eq_true_iff.mp h1
    have h1 := of_decide_eq_true h1
    have h2 := of_decide_eq_true h2
    exact op_pow pins s σ H _ _ v u Q I rx ry ⟨_, _, rfl, rfl, ⟨h1, by omega, of_decide_eq_true h3⟩, Pst.pure p st (.int _)⟩
  · exact p.elim
theorem p_neg : UnR X (unaryOp .USub) (rU1 X.K T W oNeg) := by
  intro pins s σ H x v Q I rx ⟨ρ, σ', μ, g, d, st, r1, p⟩
  cases d <;> try exact p.elim
  cases r1
  exact un_neg pins s σ H _ v Q I rx ⟨_, rfl, Pst.pure p st (.int _)⟩
theorem p_cmp {o : CmpOp} {f : Int → Int → Bool} (h : OpR X (compareOp o) (rI0 fun i j => .bl (f i j))) : OpR X (compareOp o) (rO X.K T W (oCmp f)) := by
  intro pins s σ H x y v u Q I rx ry ⟨ρ, σ', μ, g, d, e, st, r1, r2, p⟩
  cases d <;> cases e <;> try exact p.elim
  cases r1; cases r2
  exact h pins s σ H _ _ v u Q I rx ry ⟨_, _, rfl, rfl, Pst.pure p st (.bl _)⟩
theorem p_lt : OpR X (compareOp .Lt) (rO X.K T W oLt) := p_cmp op_lt
theorem p_le : OpR X (compareOp .LtE) (rO X.K T W oLe) := p_cmp op_le
theorem p_gt : OpR X (compareOp .Gt) (rO X.K T W oGt) := p_cmp op_gt
theorem p_ge : OpR X (compareOp .GtE) (rO X.K T W oGe) := p_cmp op_ge
theorem reads2 {pins : List (Addr × Obj)} {s : Shared} {σ : L2.St} {H : Hp} {μ : List Addr} {ow : Addr → Prop} {d : D} {x : V} {v : Value} (I : Inv X pins σ H s) (r : Rp X.K H μ ow d x) (rx : RelV x v) (h : plain 50 d = true) :
    ∃ as, Reads s.heap v (toPy d) as := Dp.reads I _ x v (r.dp 50 d x h) rx
theorem p_eq {k : Nat} (hr : Room k X.A) : OpR X (compareOp .Eq) (rO X.K T W oEq) := by
  intro pins s σ H x y v u Q I rx ry ⟨ρ, σ', μ, g, d, e, st, r1, r2, p⟩
  unfold oEq at p
  split at p
  · rename_i hz
    obtain ⟨h1, h2⟩ := Bool.and_eq_true_iff.mp hz
    obtain ⟨as, q1⟩ := reads2 I r1 rx h1
    obtain ⟨bs, q2⟩ := reads2 I r2 ry h2
    obtain ⟨a1, a2⟩ := toPy_plain 50 d h1
    obtain ⟨b1, b2⟩ := toPy_plain 50 e h2
    have hu := hr.units
    refine PySem.SeqAt.eq_plain q1 q2 a1 b1 (by omega) ?_
    rw [eqv_toPy 50 50 d e h1 h2]
    exact ⟨.bl _, H, I, rfl, Pst.pure p st (.bl _)⟩
  · exact p.elim
theorem p_ne {k : Nat} (hr : Room k X.A) : OpR X (compareOp .NotEq) (rO X.K T W oNe) := by
  intro pins s σ H x y v u Q I rx ry ⟨ρ, σ', μ, g, d, e, st, r1, r2, p⟩
  unfold oNe at p
  split at p
  · rename_i hz
    obtain ⟨h1, h2⟩ := Bool.and_eq_true_iff.mp hz
    obtain ⟨as, q1⟩ := reads2 I r1 rx h1
    obtain ⟨bs, q2⟩ := reads2 I r2 ry h2
    obtain ⟨a1, a2⟩ := toPy_plain 50 d h1
    obtain ⟨b1, b2⟩ := toPy_plain 50 e h2
    have hu := hr.units
    refine PySem.SeqAt.ne_plain q1 q2 a1 b1 (by omega) ?_
    rw [eqv_toPy 50 50 d e h1 h2]
    exact ⟨.bl _, H, I, rfl, Pst.pure p st (.bl _)⟩
  · exact p.elim
theorem any_toPys {x : D} (hx : plain 50 x = true) : ∀ {ys : List D}, plains 50 ys = true → ((toPys ys).any fun y => PyData.eqv y (toPy x)) = ys.any fun y => eqD y x
  | [], _ => rfl
  | y :: ys, h => by
    simp only [plains, Bool.and_eq_true] at h
    simp only [toPys, List.any_cons]
    rw [eqv_toPy 50 50 y x h.1 hx, any_toPys hx h.2]
theorem p_in {k : Nat} (hr : Room k X.A) : OpR X (compareOp .In) (rO X.K T W oIn) := by
  intro pins s σ H x y v u Q I rx ry ⟨ρ, σ', μ, g, d, e, st, r1, r2, p⟩
  cases e <;> try exact p.elim
  all_goals
    rename_i ys
    simp only [oIn] at p
    split at p
    rotate_left
    · exact p.elim
    rename_i hz
    obtain ⟨h1, h2⟩ := Bool.and_eq_true_iff.mp hz
    obtain ⟨as, q1⟩ := reads2 I r1 rx h1
    obtain ⟨a1, a2⟩ := toPy_plain 50 d h1
    obtain ⟨b1, b2⟩ := toPys_plain 50 ys h2
    have hu := hr.units
  · obtain ⟨bs, q2⟩ : ∃ as, Reads s.heap u (toPy (.tup ys)) as := Dp.reads I _ y u (r2.dp 51 _ y (by simpa [plain] using h2)) ry
    rw [toPy] at q2
    refine PySem.SeqAt.in_tuple_data q2 q1 b1 a1 (by omega) ?_
    rw [any_toPys h1 h2]
    exact ⟨.bl _, H, I, rfl, Pst.pure p st (.bl _)⟩
  · obtain ⟨bs, q2⟩ : ∃ as, Reads s.heap u (toPy (.lst ys)) as := Dp.reads I _ y u (r2.dp 51 _ y (by simpa [plain] using h2)) ry
    rw [toPy] at q2
    refine PySem.SeqAt.in_list_data q2 q1 b1 a1 (by omega) ?_
    rw [any_toPys h1 h2]
    exact ⟨.bl _, H, I, rfl, Pst.pure p st (.bl _)⟩
theorem p_nin {k : Nat} (hr : Room k X.A) : OpR X (compareOp .NotIn) (rO X.K T W oNin) := by
  intro pins s σ H x y v u Q I rx ry ⟨ρ, σ', μ, g, d, e, st, r1, r2, p⟩
  cases e <;> try exact p.elim
  all_goals
    rename_i ys
    simp only [oNin] at p
    split at p
    rotate_left
    · exact p.elim
    rename_i hz
    obtain ⟨h1, h2⟩ := Bool.and_eq_true_iff.mp hz
    obtain ⟨as, q1⟩ := reads2 I r1 rx h1
    obtain ⟨a1, a2⟩ := toPy_plain 50 d h1
    obtain ⟨b1, b2⟩ := toPys_plain 50 ys h2
    have hu := hr.units
  · obtain ⟨bs, q2⟩ : ∃ as, Reads s.heap u (toPy (.tup ys)) as := Dp.reads I _ y u (r2.dp 51 _ y (by simpa [plain] using h2)) ry
    rw [toPy] at q2
    refine PySem.SeqAt.notIn_tuple_data q2 q1 b1 a1 (by omega) ?_
    rw [any_toPys h1 h2]
    exact ⟨.bl _, H, I, rfl, Pst.pure p st (.bl _)⟩
  · obtain ⟨bs, q2⟩ : ∃ as, Reads s.heap u (toPy (.lst ys)) as := Dp.reads I _ y u (r2.dp 51 _ y (by simpa [plain] using h2)) ry
    rw [toPy] at q2
    refine PySem.SeqAt.notIn_list_data q2 q1 b1 a1 (by omega) ?_
    rw [any_toPys h1 h2]
    exact ⟨.bl _, H, I, rfl, Pst.pure p st (.bl _)⟩
theorem Rp.isNon {K : PySem.W.Frag} {H : Hp} {μ : List Addr} {ow : Addr → Prop} {d : D} {x : V} (r : Rp K H μ ow d x) : decide (x = .non) = isNon d := by
  cases r <;> simp [Sh.isNon]
theorem p_is : OpR X (compareOp .Is) (rO X.K T W oIs) := by
  intro pins s σ H x y v u Q I rx ry ⟨ρ, σ', μ, g, d, e, st, r1, r2, p⟩
  have nn : e = .non → wpAny (model X.prog X.w) X.A (compareOp .Is v u) (EP X pins σ Q) X.xe s := fun he => by
    subst he
    cases r2
    refine op_isN pins s σ H _ _ v u Q I rx ry ⟨rfl, ?_⟩
    rw [r1.isNon]
    have p' : Pst X.K T Rp W ρ σ' μ H Q (.ok (.bl (Sh.isNon d)) g) := by cases d <;> exact p
    exact Pst.pure p' st (.bl _)
  cases e with
  | non => exact nn rfl
  | bl b =>
    cases d <;> try exact p.elim
    rename_i a
    cases r1; cases r2
    refine op_isBl pins s σ H _ _ v u Q I rx ry ⟨a, b, rfl, rfl, ?_⟩
    have e : decide (a = b) = (a == b) := by cases a <;> cases b <;> rfl
    rw [e]
    exact Pst.pure p st (.bl _)
  | _ => cases d <;> exact p.elim
theorem p_isn : OpR X (compareOp .IsNot) (rO X.K T W oIsN) := by
  intro pins s σ H x y v u Q I rx ry ⟨ρ, σ', μ, g, d, e, st, r1, r2, p⟩
  have nn : e = .non → wpAny (model X.prog X.w) X.A (compareOp .IsNot v u) (EP X pins σ Q) X.xe s := fun he => by
    subst he
    cases r2
    refine op_notN pins s σ H _ _ v u Q I rx ry ⟨rfl, ?_⟩
    rw [r1.isNon]
    have p' : Pst X.K T Rp W ρ σ' μ H Q (.ok (.bl (!Sh.isNon d)) g) := by cases d <;> exact p
    exact Pst.pure p' st (.bl _)
  cases e with
  | non => exact nn rfl
  | bl b =>
    cases d <;> try exact p.elim
    rename_i a
    cases r1; cases r2
    refine op_notBl pins s σ H _ _ v u Q I rx ry ⟨a, b, rfl, rfl, ?_⟩
    have e : (!decide (a = b)) = (!(a == b)) := by cases a <;> cases b <;> rfl
    rw [e]
    exact Pst.pure p st (.bl _)
  | _ => cases d <;> exact p.elim
end
end Sh

set_option Elab.async false
set_option linter.all false
set_option maxRecDepth 100000
set_option maxHeartbeats 2000000
namespace Sh
open PySem PySem.Spec L2
section
variable {X : Cx} {T : Tb} {W : WX} {e a b c : Expr} {es : List Expr} {pos p p2 : Pos} {ma mb mc : EM} {ml : LM}
/-! ### subscripts -/
def getLs (g : Gs) (l : Nat) : Option (List D) := match g[l]? with
  | some (.lst xs) => some xs
  | _ => none
def oIx : D → D → Gs → Res D
  | .tup xs, .int i, g => match atI xs i with
    | some x => .ok x g
    | none => .bad
  | .lst xs, .int i, g => match atI xs i with
    | some x => .ok x g
    | none => .bad
  | .loc l, .int i, g => match getLs g l with
    | some xs => (match atI xs i with
      | some x => .ok x g
      | none => .bad)
    | none => .bad
  | .str z, .int i, g => if z.length ≤ 1000000 then (match atI z.cps.toList i with
    | some c => .ok (.str ⟨#[c]⟩) g
    | none => .bad) else .bad
  | _, _, _ => .bad
theorem Rps.atI {K : PySem.W.Frag} {H : Hp} {μ : List Addr} {ow : Addr → Prop} {xs : List D} {vs : List V} {i : Int} {x : D} (r : Rps K H μ ow xs vs) (h : L2.atI xs i = some x) : ∃ v, L2.atI vs i = some v ∧ Rp K H μ ow x v := by
  unfold L2.atI at h ⊢
  rw [← r.len]
  cases q : ixN xs.length i with
  | none => rw [q] at h; cases h
  | some j =>
    rw [q] at h
    exact r.get h
theorem StR.lst {K : PySem.W.Frag} {μ : List Addr} {g : Gs} {ρ : En} {σ : L2.St} {H : Hp} (s : StR K T μ g ρ σ H) {l : Nat} {xs : List D} {v : V} (h : getLs g l = some xs) (r : Rp K H μ (ow T ρ σ) (.loc l) v) :
    ∃ a vs, v = .ref a ∧ μ[l]? = some a ∧ H a = some (.lst vs) ∧ Rps K H μ (ow T ρ σ) xs vs := by
  cases r with
  | loc q =>
    rename_i a
    unfold getLs at h
    cases e : g[l]? with
    | none => rw [e] at h; cases h
    | some o =>
      rw [e] at h
      cases o with
      | lst ys =>
        cases h
        obtain ⟨vs, e1, e2⟩ := s.gl l a _ q e
        exact ⟨a, vs, rfl, q, e1, e2⟩
      | ins c fs => cases h
theorem p_ix : IxR X (rO X.K T W oIx) := by
  intro value slice pins s σ H x y v u Q I rx ry ⟨ρ, σ', μ, g, d, e, st, r1, r2, p⟩ hs
  cases d <;> cases e <;> try exact p.elim
  · rename_i z i
    cases r1; cases r2
    simp only [oIx] at p
    split at p
    · rename_i hz
      cases q : atI z.cps.toList i with
      | none => rw [q] at p; exact p.elim
      | some c =>
        rw [q] at p
        exact ix_str value slice pins s σ H _ _ v u Q I rx ry ⟨z, i, c, rfl, rfl, lim_ok hz, q, Pst.pure p st (.str _)⟩ hs
    · exact p.elim
  · rename_i xs i
    cases r2
    simp only [oIx] at p
    cases r1 with
    | tup t rs =>
      cases q : atI xs i with
      | none => rw [q] at p; exact p.elim
      | some c =>
        rw [q] at p
        obtain ⟨w, e1, e2⟩ := rs.atI q
        exact ix_tup value slice pins s σ H _ _ v u Q I rx ry ⟨_, _, i, w, rfl, rfl, t.sq, e1, Pst.pure p st e2⟩ hs
  · rename_i xs i
    cases r2
    simp only [oIx] at p
    cases r1 with
    | lst t rs =>
      cases q : atI xs i with
      | none => rw [q] at p; exact p.elim
      | some c =>
        rw [q] at p
        obtain ⟨w, e1, e2⟩ := rs.atI q
        exact ix_list value slice pins s σ H _ _ v u Q I rx ry ⟨_, _, i, w, rfl, rfl, t.sq, e1, Pst.pure p st e2⟩ hs
  · rename_i l i
    cases r2
    simp only [oIx] at p
    cases hl : getLs g l with
    | none => rw [hl] at p; exact p.elim
    | some xs =>
      rw [hl] at p
      obtain ⟨a, vs, rfl, _, ea, rs⟩ := st.lst hl r1
      simp only at p
      cases q : atI xs i with
      | none => rw [q] at p; exact p.elim
      | some c =>
        rw [q] at p
        obtain ⟨w, e1, e2⟩ := rs.atI q
        exact ix_list value slice pins s σ H _ _ v u Q I rx ry ⟨_, _, i, w, rfl, rfl, SqL.of ea, e1, Pst.pure p st e2⟩ hs
theorem me_ix (ha : ME X T W a ma) (hb : ME X T W b mb) (hs : PlainIx b := by exact fun _ _ => rfl) : ME X T W (.Subscript a b pos) (mO oIx ma mb) := PE.weak (pe_ix p_ix ha hb hs) fun _ _ _ h => w_op h
/-! ### slices -/
abbrev PM := En → Gs → Res (Option Int)
abbrev rI : RL (Option Int) (Option Int) := fun _ _ _ _ a b => a = b
abbrev MO (X : Cx) (T : Tb) (W : WX) (e : Option Expr) (m : PM) : Prop := PO X e (tG X.K T rI W m)
theorem PO.weak {e : Option Expr} {t t' : TO} (h : PO X e t) (w : ∀ σ H Q, t' σ H Q → t σ H Q) : PO X e t' := ⟨fun pins s σ H Q I q => h.run pins s σ H Q I (w σ H Q q)⟩
def pNo : PM := fun _ g => .ok none g
def pAt (a : EM) : PM := fun ρ g => (a ρ g).bind fun x g1 => match x with
  | .int i => .ok (some i) g1
  | _ => .bad
theorem mo_no : MO X T W none pNo := PO.weak po_none fun σ H Q ⟨ρ, μ, g, s, p⟩ => Pst.pure p s rfl
theorem mo_at (h : ME X T W e ma) : MO X T W (some e) (pAt ma) := PO.weak (po_some h) fun σ H Q h =>
  tG_bind (k := fun _ (x : D) g1 => match x with
  | .int i => .ok (some i) g1
  | _ => .bad) h fun d x ρ μ g H1 s r p => by
    cases d with
    | int i =>
      cases r
      exact ⟨i, rfl, Pst.pure p s rfl⟩
    | _ => exact p.elim
def cutD (xs : List D) (lo hi : Option Int) : List D := (xs.drop (HT.sIx xs.length 0 lo)).take (HT.sIx xs.length xs.length hi - HT.sIx xs.length 0 lo)
def oSl : D → Option Int → Option Int → Gs → Res D
  | .tup xs, lo, hi, g => .ok (.tup (cutD xs lo hi)) g
  | .lst xs, lo, hi, g => .ok (.lst (cutD xs lo hi)) g
  | .loc l, lo, hi, g => match getLs g l with
    | some xs => .ok (.lst (cutD xs lo hi)) g
    | none => .bad
  | .str z, lo, hi, g => if z.length ≤ 1000000 then .ok (.str (cutS z lo hi)) g else .bad
  | _, _, _, _ => .bad
theorem Rps.cut {K : PySem.W.Frag} {H : Hp} {μ : List Addr} {ow : Addr → Prop} {xs : List D} {vs : List V} (r : Rps K H μ ow xs vs) (lo hi : Option Int) : Rps K H μ ow (cutD xs lo hi) (cutV vs lo hi) := by
  unfold cutD cutV
  rw [r.len]
  exact (r.drop _).take _
theorem cut_whole {xs : List D} {lo hi : Option Int} (h : HT.sIx xs.length 0 lo = 0 ∧ HT.sIx xs.length xs.length hi = xs.length) : cutD xs lo hi = xs := by
  unfold cutD
  rw [h.1, h.2]
  simp
def rSl (K : PySem.W.Frag) (T : Tb) (W : WX) : V → Option Int → Option Int → Hp → VK → Prop := fun x lo hi H Q => ∃ ρ σ μ g d, StR K T μ g ρ σ H ∧ Rp K H μ (ow T ρ σ) d x ∧ Pst K T Rp W ρ σ μ H Q (oSl d lo hi g)
theorem p_sl : SlR X (rSl X.K T W) := by
  intro pins s σ H x v vl vu lo hi sl Q I rx hs pl pu ⟨ρ, σ', μ, g, d, st, r1, p⟩
  cases d <;> try exact p.elim
  · rename_i z
    cases r1
    simp only [oSl] at p
    split at p
    · rename_i hz
      exact sl_str pins s σ H _ v vl vu lo hi sl Q I rx hs pl pu ⟨z, rfl, lim_ok hz, Pst.pure p st (.str _)⟩
    · exact p.elim
  · cases r1 with
    | tup t rs =>
      refine sl_tupA pins s σ H _ v vl vu lo hi sl Q I rx hs pl pu ⟨_, _, rfl, t.sq, fun hw => ?_, fun hw q hq => new_tup st (rs.cut lo hi) p hq⟩
      rw [← rs.len] at hw
      simp only [oSl] at p
      rw [cut_whole hw] at p
      exact Pst.pure p st (.tup t rs)
  · cases r1 with
    | lst t rs => exact sl_list pins s σ H _ v vl vu lo hi sl Q I rx hs pl pu ⟨_, _, rfl, t.sq, fun q hq => new_lst st (rs.cut lo hi) p hq⟩
  · rename_i l
    simp only [oSl] at p
    cases hl : getLs g l with
    | none => rw [hl] at p; exact p.elim
    | some xs =>
      rw [hl] at p
      obtain ⟨a, vs, rfl, _, ea, rs⟩ := st.lst hl r1
      exact sl_list pins s σ H _ v vl vu lo hi sl Q I rx hs pl pu ⟨_, _, rfl, SqL.of ea, fun q hq => new_lst st (rs.cut lo hi) p hq⟩
def mSl (a : EM) (lo hi : PM) : EM := fun ρ g => (a ρ g).bind fun x g1 => (lo ρ g1).bind fun l g2 => (hi ρ g2).bind fun h g3 => oSl x l h g3
variable {lo hi : Option Expr} {pl ph : PM}
theorem me_sl (ha : ME X T W a ma) (hl : MO X T W lo pl) (hh : MO X T W hi ph) : ME X T W (.Subscript a (.Slice lo hi none p2) pos) (mSl ma pl ph) := PE.weak (pe_slice p_sl ha hl hh) fun σ H Q h => by
  obtain ⟨ρ, μ, g, s, p⟩ := h
  exact ⟨ρ, μ, g, s, (Pst.bind p).imp fun x H1 ⟨d, μ1, g1, s1, e1, r1, p1⟩ => ⟨ρ, μ1, g1, s1, (Pst.bind p1).imp fun l H2 ⟨l', μ2, g2, s2, e2, r2, p2⟩ => ⟨ρ, μ2, g2, s2, (Pst.bind p2).imp fun h' H3 ⟨h2, μ3, g3, s3, e3, r3, p3⟩ => by
    cases r2
    cases r3
    exact ⟨ρ, σ, μ3, g3, d, s3, (r1.ext e2).ext e3, p3⟩⟩⟩⟩
/-! ### built-ins by values -/
theorem me_bi {id : String} {x : Str} {op : List D → Gs → Res D} (hc : CallR X (.builtin id) (rN X.K T W op)) (hg : Gl X x) (hm : X.mg x = none) (hv : bootBuiltins x = some (.builtin id)) (ha : MA X T W (e :: es) ml) (hn : x ≠ "__name__" := by decide) (hdb : (x == ("__debug__" : Str)) = false := by decide)
    (he : starEach (e :: es) X.env = (false, eval e X.env) :: starEach es X.env := by rfl) (hpl : (backTo pos (starEach es X.env)).any (·.1) = false := by rfl) : ME X T W (.Call (.Name x p) (e :: es) [] pos) (mN op ml) :=
  PE.weak (pe_callB hc hg hm hv ha hn hdb he hpl) fun _ _ _ h => w_n h
theorem me_ty {id : String} {x : Str} {op : List D → Gs → Res D} (hc : CallR X (.type id) (rN X.K T W op)) (hg : Gl X x) (hm : X.mg x = none) (hv : bootBuiltins x = some (.type id)) (ha : MA X T W (e :: es) ml) (hn : x ≠ "__name__" := by decide) (hdb : (x == ("__debug__" : Str)) = false := by decide)
    (he : starEach (e :: es) X.env = (false, eval e X.env) :: starEach es X.env := by rfl) (hpl : (backTo pos (starEach es X.env)).any (·.1) = false := by rfl) : ME X T W (.Call (.Name x p) (e :: es) [] pos) (mN op ml) :=
  PE.weak (pe_callTy hc hg hm hv ha hn hdb he hpl) fun _ _ _ h => w_n h
def oLen : List D → Gs → Res D
  | [.tup xs], g => .ok (.int xs.length) g
  | [.lst xs], g => .ok (.int xs.length) g
  | [.str z], g => if z.length ≤ 1000000 then .ok (.int z.length) g else .bad
  | [.loc l], g => match getLs g l with
    | some xs => .ok (.int xs.length) g
    | none => .bad
  | _, _ => .bad
/-- one argument -/
theorem one_of {K : PySem.W.Frag} {H : Hp} {μ : List Addr} {ow : Addr → Prop} {d : D} {xs : List V} (r : Rps K H μ ow [d] xs) : ∃ x, xs = [x] ∧ Rp K H μ ow d x := by
  cases r with
  | cons r1 r2 =>
    cases r2
    exact ⟨_, rfl, r1⟩
theorem two_of {K : PySem.W.Frag} {H : Hp} {μ : List Addr} {ow : Addr → Prop} {d e : D} {xs : List V} (r : Rps K H μ ow [d, e] xs) : ∃ x y, xs = [x, y] ∧ Rp K H μ ow d x ∧ Rp K H μ ow e y := by
  cases r with
  | cons r1 r2 =>
    obtain ⟨y, rfl, r3⟩ := one_of r2
    exact ⟨_, y, rfl, r1, r3⟩
theorem p_len : CallR X (.builtin "len") (rN X.K T W oLen) := by
  intro pins s σ H xs us Q I rs ⟨ρ, σ', μ, g, ds, st, r, p⟩
  unfold oLen at p
  split at p
  · obtain ⟨x, rfl, r1⟩ := one_of r
    cases r1 with
    | tup t q => exact call_len_seq pins s σ H _ us Q I rs ⟨_, _, rfl, .inr t.sq, by rw [← q.len]; exact Pst.pure p st (.int _)⟩
  · obtain ⟨x, rfl, r1⟩ := one_of r
    cases r1 with
    | lst t q => exact call_len_seq pins s σ H _ us Q I rs ⟨_, _, rfl, .inl t.sq, by rw [← q.len]; exact Pst.pure p st (.int _)⟩
  · obtain ⟨x, rfl, r1⟩ := one_of r
    cases r1
    split at p
    · rename_i hz
      exact call_len_str pins s σ H _ us Q I rs ⟨_, rfl, lim_ok hz, Pst.pure p st (.int _)⟩
    · exact p.elim
  · obtain ⟨x, rfl, r1⟩ := one_of r
    split at p
    · rename_i ys hl
      obtain ⟨a, vs, rfl, _, ea, q⟩ := st.lst hl r1
      exact call_len_seq pins s σ H _ us Q I rs ⟨_, _, rfl, .inl (SqL.of ea), by rw [← q.len]; exact Pst.pure p st (.int _)⟩
    · exact p.elim
  · exact p.elim
def bools? : List D → Option (List Bool)
  | [] => some []
  | .bl b :: xs => (bools? xs).map (b :: ·)
  | _ => none
def ints? : List D → Option (List Int)
  | [] => some []
  | .int b :: xs => (ints? xs).map (b :: ·)
  | _ => none
@[simp] theorem bools_map (bs : List Bool) : bools? (bs.map .bl) = some bs := by
  induction bs with
  | nil => rfl
  | cons b bs ih => simp [bools?, ih]
@[simp] theorem ints_map (bs : List Int) : ints? (bs.map .int) = some bs := by
  induction bs with
  | nil => rfl
  | cons b bs ih => simp [ints?, ih]
theorem bools_of : ∀ {xs : List D} {bs : List Bool}, bools? xs = some bs → xs = bs.map .bl
  | [], bs, h => by cases h; rfl
  | .bl b :: xs, bs, h => by
    simp only [bools?, Option.map_eq_some_iff] at h
    obtain ⟨cs, h1, rfl⟩ := h
    rw [bools_of h1] <;> rfl
  | .non :: _, _, h => by simp [bools?] at h
  | .int _ :: _, _, h => by simp [bools?] at h
  | .str _ :: _, _, h => by simp [bools?] at h
  | .tup _ :: _, _, h => by simp [bools?] at h
  | .lst _ :: _, _, h => by simp [bools?] at h
  | .loc _ :: _, _, h => by simp [bools?] at h
  | .fn _ :: _, _, h => by simp [bools?] at h
  | .dic _ _ :: _, _, h => by simp [bools?] at h
theorem ints_of : ∀ {xs : List D} {bs : List Int}, ints? xs = some bs → xs = bs.map .int
  | [], bs, h => by cases h; rfl
  | .int b :: xs, bs, h => by
    simp only [ints?, Option.map_eq_some_iff] at h
    obtain ⟨cs, h1, rfl⟩ := h
    rw [ints_of h1] <;> rfl
  | .non :: _, _, h => by simp [ints?] at h
  | .bl _ :: _, _, h => by simp [ints?] at h
  | .str _ :: _, _, h => by simp [ints?] at h
  | .tup _ :: _, _, h => by simp [ints?] at h
  | .lst _ :: _, _, h => by simp [ints?] at h
  | .loc _ :: _, _, h => by simp [ints?] at h
  | .fn _ :: _, _, h => by simp [ints?] at h
  | .dic _ _ :: _, _, h => by simp [ints?] at h
def oAll : List D → Gs → Res D
  | [.lst xs], g => match bools? xs with
    | some bs => .ok (.bl (bs.all id)) g
    | none => .bad
  | _, _ => .bad
def oAny : List D → Gs → Res D
  | [.lst xs], g => match bools? xs with
    | some bs => .ok (.bl (bs.any id)) g
    | none => .bad
  | _, _ => .bad
/-- only a list's case -/
theorem lst_only {op : List D → Gs → Res D} (h : ∀ xs g, op xs g ≠ .bad → ∃ ys, xs = [.lst ys]) {K : PySem.W.Frag} {ρ : En} {σ : L2.St} {μ : List Addr} {H : Hp} {Q : VK} {ds : List D} {g : Gs} (p : Pst K T Rp W ρ σ μ H Q (op ds g)) : ∃ ys, ds = [.lst ys] :=
  h ds g fun z => by rw [z] at p; exact p
theorem all_only (xs : List D) (g : Gs) (h : oAll xs g ≠ .bad) : ∃ ys, xs = [.lst ys] := by
  unfold oAll at h
  split at h
  · exact ⟨_, rfl⟩
  · exact absurd rfl h
theorem any_only (xs : List D) (g : Gs) (h : oAny xs g ≠ .bad) : ∃ ys, xs = [.lst ys] := by
  unfold oAny at h
  split at h
  · exact ⟨_, rfl⟩
  · exact absurd rfl h
theorem p_all (hc : X.calm = true) : CallR X (.builtin "all") (rN X.K T W oAll) := by
  intro pins s σ H xs us Q I rs ⟨ρ, σ', μ, g, ds, st, r, p⟩
  obtain ⟨ys, rfl⟩ := lst_only all_only p
  obtain ⟨x, rfl, r1⟩ := one_of r
  simp only [oAll] at p
  cases hb : bools? ys with
  | none => rw [hb] at p; exact p.elim
  | some bs =>
    rw [hb] at p
    have e := bools_of hb
    subst e
    cases r1 with
    | lst t q =>
      have := q.to_bls
      subst this
      exact cr_all hc pins s σ H _ us Q I rs ⟨_, bs, rfl, t.sq, Pst.pure p st (.bl _)⟩
theorem p_any (hc : X.calm = true) : CallR X (.builtin "any") (rN X.K T W oAny) := by
  intro pins s σ H xs us Q I rs ⟨ρ, σ', μ, g, ds, st, r, p⟩
  obtain ⟨ys, rfl⟩ := lst_only any_only p
  obtain ⟨x, rfl, r1⟩ := one_of r
  simp only [oAny] at p
  cases hb : bools? ys with
  | none => rw [hb] at p; exact p.elim
  | some bs =>
    rw [hb] at p
    have e := bools_of hb
    subst e
    cases r1 with
    | lst t q =>
      have := q.to_bls
      subst this
      exact cr_any hc pins s σ H _ us Q I rs ⟨_, bs, rfl, t.sq, Pst.pure p st (.bl _)⟩
def oTuple : List D → Gs → Res D
  | [.lst xs], g => .ok (.tup xs) g
  | [.tup xs], g => .ok (.tup xs) g
  | [.loc l], g => match getLs g l with
    | some xs => .ok (.tup xs) g
    | none => .bad
  | _, _ => .bad
def oList : List D → Gs → Res D
  | [.lst xs], g => .ok (.lst xs) g
  | [.tup xs], g => .ok (.lst xs) g
  | [.loc l], g => match getLs g l with
    | some xs => .ok (.lst xs) g
    | none => .bad
  | _, _ => .bad
theorem seq_only {op : List D → Gs → Res D} (h : ∀ xs g, op xs g ≠ .bad → (∃ ys, xs = [.lst ys]) ∨ (∃ ys, xs = [.tup ys]) ∨ ∃ l, xs = [.loc l]) {K : PySem.W.Frag} {ρ : En} {σ : L2.St} {μ : List Addr} {H : Hp} {Q : VK} {ds : List D} {g : Gs} (p : Pst K T Rp W ρ σ μ H Q (op ds g)) :
    (∃ ys, ds = [.lst ys]) ∨ (∃ ys, ds = [.tup ys]) ∨ ∃ l, ds = [.loc l] :=
  h ds g fun z => by rw [z] at p; exact p
theorem tuple_only (xs : List D) (g : Gs) (h : oTuple xs g ≠ .bad) : (∃ ys, xs = [.lst ys]) ∨ (∃ ys, xs = [.tup ys]) ∨ ∃ l, xs = [.loc l] := by
  unfold oTuple at h
  split at h
  · exact .inl ⟨_, rfl⟩
  · exact .inr (.inl ⟨_, rfl⟩)
  · exact .inr (.inr ⟨_, rfl⟩)
  · exact absurd rfl h
theorem list_only (xs : List D) (g : Gs) (h : oList xs g ≠ .bad) : (∃ ys, xs = [.lst ys]) ∨ (∃ ys, xs = [.tup ys]) ∨ ∃ l, xs = [.loc l] := by
  unfold oList at h
  split at h
  · exact .inl ⟨_, rfl⟩
  · exact .inr (.inl ⟨_, rfl⟩)
  · exact .inr (.inr ⟨_, rfl⟩)
  · exact absurd rfl h
theorem p_tuple : CallR X (.type "tuple") (rN X.K T W oTuple) := by
  intro pins s σ H xs us Q I rs ⟨ρ, σ', μ, g, ds, st, r, p⟩
  rcases seq_only tuple_only p with ⟨ys, rfl⟩ | ⟨ys, rfl⟩ | ⟨l, rfl⟩
  · obtain ⟨x, rfl, r1⟩ := one_of r
    cases r1 with
    | lst t q => exact call_tuple_of pins s σ H _ us Q I rs ⟨_, _, rfl, .inl ⟨t.sq, fun l hl => new_tup st q p hl⟩⟩
  · obtain ⟨x, rfl, r1⟩ := one_of r
    cases r1 with
    | tup t q => exact call_tuple_of pins s σ H _ us Q I rs ⟨_, _, rfl, .inr ⟨t.sq, Pst.pure p st (.tup t q)⟩⟩
  · obtain ⟨x, rfl, r1⟩ := one_of r
    simp only [oTuple] at p
    cases hl : getLs g l with
    | none => rw [hl] at p; exact p.elim
    | some ys =>
      rw [hl] at p
      obtain ⟨a, vs, rfl, _, ea, q⟩ := st.lst hl r1
      exact call_tuple_of pins s σ H _ us Q I rs ⟨_, _, rfl, .inl ⟨SqL.of ea, fun l hl => new_tup st q p hl⟩⟩
theorem p_list : CallR X (.type "list") (rN X.K T W oList) := by
  intro pins s σ H xs us Q I rs ⟨ρ, σ', μ, g, ds, st, r, p⟩
  rcases seq_only list_only p with ⟨ys, rfl⟩ | ⟨ys, rfl⟩ | ⟨l, rfl⟩
  · obtain ⟨x, rfl, r1⟩ := one_of r
    cases r1 with
    | lst t q => exact call_list_of pins s σ H _ us Q I rs ⟨_, _, rfl, .inl t.sq, fun l hl => new_lst st q p hl⟩
  · obtain ⟨x, rfl, r1⟩ := one_of r
    cases r1 with
    | tup t q => exact call_list_of pins s σ H _ us Q I rs ⟨_, _, rfl, .inr t.sq, fun l hl => new_lst st q p hl⟩
  · obtain ⟨x, rfl, r1⟩ := one_of r
    simp only [oList] at p
    cases hl : getLs g l with
    | none => rw [hl] at p; exact p.elim
    | some ys =>
      rw [hl] at p
      obtain ⟨a, vs, rfl, _, ea, q⟩ := st.lst hl r1
      exact call_list_of pins s σ H _ us Q I rs ⟨_, _, rfl, .inl (SqL.of ea), fun l hl => new_lst st q p hl⟩
def oMax2 : List D → Gs → Res D
  | [.int i, .int j], g => .ok (.int (if j > i then j else i)) g
  | _, _ => .bad
def oMin2 : List D → Gs → Res D
  | [.int i, .int j], g => .ok (.int (if j < i then j else i)) g
  | _, _ => .bad
def oAbs : List D → Gs → Res D
  | [.int i], g => .ok (.int (if i < 0 then -i else i)) g
  | _, _ => .bad
def oInt : List D → Gs → Res D
  | [.int i], g => .ok (.int i) g
  | [.bl k], g => .ok (.int (if k then 1 else 0)) g
  | [.str a], g => (match PySem.intText? a with
    | some n => if a.length ≤ 640 then .ok (.int n) g else .bad
    | none => .bad)
  | _, _ => .bad
def oBool : List D → Gs → Res D
  | [.int i], g => .ok (.bl (i != 0)) g
  | [.bl k], g => .ok (.bl k) g
  | _, _ => .bad
def oStr : List D → Gs → Res D
  | [.int i], g => if big i then .ok (.str (toString i)) g else .bad
  | _, _ => .bad
theorem p_max2 (hc : X.calm = true) : CallR X (.builtin "max") (rN X.K T W oMax2) := by
  intro pins s σ H xs us Q I rs ⟨ρ, σ', μ, g, ds, st, r, p⟩
  unfold oMax2 at p
  split at p
  · obtain ⟨x, y, rfl, r1, r2⟩ := two_of r
    cases r1; cases r2
    exact call_max2 hc pins s σ H _ us Q I rs ⟨_, _, rfl, Pst.pure p st (.int _)⟩
  · exact p.elim
theorem p_min2 (hc : X.calm = true) : CallR X (.builtin "min") (rN X.K T W oMin2) := by
  intro pins s σ H xs us Q I rs ⟨ρ, σ', μ, g, ds, st, r, p⟩
  unfold oMin2 at p
  split at p
  · obtain ⟨x, y, rfl, r1, r2⟩ := two_of r
    cases r1; cases r2
    exact call_min2 hc pins s σ H _ us Q I rs ⟨_, _, rfl, Pst.pure p st (.int _)⟩
  · exact p.elim
theorem p_abs : CallR X (.builtin "abs") (rN X.K T W oAbs) := by
  intro pins s σ H xs us Q I rs ⟨ρ, σ', μ, g, ds, st, r, p⟩
  unfold oAbs at p
  split at p
  · obtain ⟨x, rfl, r1⟩ := one_of r
    cases r1
    exact call_abs pins s σ H _ us Q I rs ⟨_, rfl, Pst.pure p st (.int _)⟩
  · exact p.elim
theorem p_int : CallR X (.type "int") (rN X.K T W oInt) := by
  intro pins s σ H xs us Q I rs ⟨ρ, σ', μ, g, ds, st, r, p⟩
  unfold oInt at p
  split at p
  · obtain ⟨x, rfl, r1⟩ := one_of r
    cases r1
    exact call_int1 pins s σ H _ us Q I rs (.inl ⟨_, rfl, Pst.pure p st (.int _)⟩)
  · obtain ⟨x, rfl, r1⟩ := one_of r
    cases r1
    exact call_int1 pins s σ H _ us Q I rs (.inr ⟨_, rfl, Pst.pure p st (.int _)⟩)
  · obtain ⟨x, rfl, r1⟩ := one_of r
    cases r1
    split at p
    · rename_i n hn
      split at p
      · rename_i hz
        exact call_int_str pins s σ H _ us Q I rs ⟨_, n, rfl, hn, hz, Pst.pure p st (.int _)⟩
      · exact p.elim
    · exact p.elim
  · exact p.elim
theorem p_bool : CallR X (.type "bool") (rN X.K T W oBool) := by
  intro pins s σ H xs us Q I rs ⟨ρ, σ', μ, g, ds, st, r, p⟩
  unfold oBool at p
  split at p
  · obtain ⟨x, rfl, r1⟩ := one_of r
    cases r1
    exact call_bool1 pins s σ H _ us Q I rs (.inl ⟨_, rfl, Pst.pure p st (.bl _)⟩)
  · obtain ⟨x, rfl, r1⟩ := one_of r
    cases r1
    exact call_bool1 pins s σ H _ us Q I rs (.inr ⟨_, rfl, Pst.pure p st (.bl _)⟩)
  · exact p.elim
theorem p_str : CallR X (.type "str") (rN X.K T W oStr) := by
  intro pins s σ H xs us Q I rs ⟨ρ, σ', μ, g, ds, st, r, p⟩
  unfold oStr at p
  split at p
  · split at p
    · rename_i i hz
      obtain ⟨x, rfl, r1⟩ := one_of r
      cases r1
      exact call_str_int pins s σ H _ us Q I rs ⟨_, rfl, by have := big_lt hz; omega, Pst.pure p st (.str _)⟩
    · exact p.elim
  · exact p.elim
/-! ### isinstance with a built-in type -/
def tyOf : D → Gs → Option String
  | .non, _ => some "NoneType"
  | .bl _, _ => some "bool"
  | .int _, _ => some "int"
  | .str _, _ => some "str"
  | .tup _, _ => some "tuple"
  | .lst _, _ => some "list"
  | .loc l, g => match getLs g l with
    | some _ => some "list"
    | none => none
  | .fn _, _ => none
  | .dic _ _, _ => none
def isTy (t c : String) : Bool := t == c || (t == "bool" && c == "int")
def oIsT (c : String) : D → Gs → Res D := fun d g => match tyOf d g with
  | some t => .ok (.bl (isTy t c)) g
  | none => .bad
def okTy (c : String) : Prop := ∀ t ∈ ["NoneType", "bool", "int", "str", "tuple", "list"], kitB t c = some (isTy t c)
theorem ty_int : okTy "int" := by unfold okTy; decide +kernel
theorem ty_bool : okTy "bool" := by unfold okTy; decide +kernel
theorem ty_str : okTy "str" := by unfold okTy; decide +kernel
theorem ty_list : okTy "list" := by unfold okTy; decide +kernel
theorem ty_tuple : okTy "tuple" := by unfold okTy; decide +kernel
theorem tyX_of {K : PySem.W.Frag} {μ : List Addr} {g : Gs} {ρ : En} {σ : L2.St} {H : Hp} (s : StR K T μ g ρ σ H) {d : D} {x : V} {t : String} (r : Rp K H μ (ow T ρ σ) d x) (h : tyOf d g = some t) : TyX K H x (.type t) ∧ t ∈ ["NoneType", "bool", "int", "str", "tuple", "list"] := by
  cases d with
  | non => cases r; cases h; exact ⟨.base .non, by simp⟩
  | bl b => cases r; cases h; exact ⟨.base (.bl b), by simp⟩
  | int b => cases r; cases h; exact ⟨.base (.int b), by simp⟩
  | str b => cases r; cases h; exact ⟨.base (.str b), by simp⟩
  | tup xs =>
    cases h
    refine ⟨?_, by simp⟩
    cases r with
    | tup t q =>
      rcases t with ⟨e, _⟩ | ⟨o, its, n, e, c, _⟩
      · exact .base (.tup e)
      · exact .kTuple e c
  | lst xs =>
    cases h
    refine ⟨?_, by simp⟩
    cases r with
    | lst t q =>
      rcases t with ⟨(e | ⟨o, e⟩), _⟩ | ⟨o, its, n, e, c, _⟩
      · exact .base (.lst e)
      · exact .base (.frz e)
      · exact .kList e c
  | loc l =>
    unfold tyOf at h
    simp only at h
    cases hl : getLs g l with
    | none => rw [hl] at h; cases h
    | some xs =>
      rw [hl] at h
      cases h
      obtain ⟨a, vs, rfl, _, ea, _⟩ := s.lst hl r
      exact ⟨.base (.lst ea), by simp⟩
  | fn n => cases h
  | dic _ _ => cases h
theorem me_isT {c : String} {x y : Str} {p1 : Pos} (hc : okTy c) (hx : x = "isinstance") (hg : Gl X x) (hm : X.mg x = none) (hv : bootBuiltins x = some (.builtin "isinstance")) (hg2 : Gl X y) (hm2 : X.mg y = none) (hv2 : bootBuiltins y = some (.type c)) (ha : ME X T W e ma)
    (hn : x ≠ "__name__" := by decide) (hdb : (x == ("__debug__" : Str)) = false := by decide) (hn2 : y ≠ "__name__" := by decide) (hdb2 : (y == ("__debug__" : Str)) = false := by decide)
    (hs : starEach [e, .Name y p1] X.env = (false, eval e X.env) :: starEach [.Name y p1] X.env := by rfl) (he : starEach [e, .Name y p1] X.env = (false, eval e X.env) :: starEach [.Name y p1] X.env := by rfl) (hpl : (backTo pos (starEach [.Name y p1] X.env)).any (·.1) = false := by rfl) :
    ME X T W (.Call (.Name x p) [e, .Name y p1] [] pos) (mU (oIsT c) ma) :=
  PE.weak (pe_callB call_isi hg hm hv (pa_cons ha (pa_cons (pe_bltn (v := .ty c) hg2 hm2 hv2 rfl hn2 hdb2) pa_nil) hs) hn hdb he hpl) fun σ H Q h => by
    obtain ⟨ρ, μ, g, s, p⟩ := h
    refine ⟨ρ, μ, g, s, (Pst.bind p).imp fun x H1 ⟨d, μ1, g1, s1, e1, r1, p1⟩ => ?_⟩
    unfold oIsT at p1
    cases ht : tyOf d g1 with
    | none => rw [ht] at p1; exact p1.elim
    | some t =>
      rw [ht] at p1
      obtain ⟨k1, k2⟩ := tyX_of s1 r1 ht
      exact ⟨x, .ty c, .type t, .type c, _, rfl, .ty c, k1, kit_ty (hc t k2), Pst.pure p1 s1 (.bl _)⟩
end
end Sh

set_option Elab.async false
set_option linter.all false
set_option maxRecDepth 100000
set_option maxHeartbeats 2000000
namespace Sh
open PySem PySem.Spec L2
/-! ### statements -/
inductive SRes where
  | nx (ρ : En) (g : Gs) | rt (d : D) (g : Gs) | bk (ρ : En) (g : Gs) | ct (ρ : En) (g : Gs) | ex (e : Xn) (g : Gs) | bad
abbrev SM := En → Gs → SRes
/-- what a statement keeps -/
structure ExS (μ : List Addr) (o : Addr → Prop) (H : Hp) (μ' : List Addr) (o' : Addr → Prop) (H' : Hp) : Prop where
  pre : ∃ more, μ' = μ ++ more
  keep : ∀ a u, H a = some u → (∀ ps, u ≠ .tbl ps) → a ∉ μ → ¬ o a → H' a = some u ∧ a ∉ μ' ∧ ¬ o' a
  th : ∀ a o, H a = some o → (∀ ps, o ≠ .tbl ps) → ∃ u, H' a = some u ∧ ∀ ps, u ≠ .tbl ps
theorem ExS.refl (μ : List Addr) (o : Addr → Prop) (H : Hp) : ExS μ o H μ o H := ⟨⟨[], by simp⟩, fun _ _ h _ n m => ⟨h, n, m⟩, fun _ _ h n => ⟨_, h, n⟩⟩
theorem ExS.trans {μ μ1 μ2 : List Addr} {o o1 o2 : Addr → Prop} {H H1 H2 : Hp} (a : ExS μ o H μ1 o1 H1) (b : ExS μ1 o1 H1 μ2 o2 H2) : ExS μ o H μ2 o2 H2 := by
  obtain ⟨m1, e1⟩ := a.pre
  obtain ⟨m2, e2⟩ := b.pre
  refine ⟨⟨m1 ++ m2, by rw [e2, e1, List.append_assoc]⟩, fun c u h n hn ho => ?_, fun c u h n => ?_⟩
  · obtain ⟨h1, n1, m1⟩ := a.keep c u h n hn ho
    exact b.keep c u h1 n n1 m1
  · obtain ⟨v, h1, n1⟩ := a.th c u h n
    exact b.th c v h1 n1
theorem ExS.of {μ μ' : List Addr} {o : Addr → Prop} {H H' : Hp} (e : Ex μ H μ' H') : ExS μ o H μ' o H' := ⟨e.pre, fun a u h n hn ho => ⟨(e.keep a u h n hn).1, (e.keep a u h n hn).2, ho⟩, e.th⟩
theorem ExS.mono {μ μ' : List Addr} {o o' p p' : Addr → Prop} {H H' : Hp} (e : ExS μ o H μ' o' H') (h : ∀ a, o a → p a) (h' : ∀ a, p' a → o' a) : ExS μ p H μ' p' H' :=
  ⟨e.pre, fun a u q n hn ho => let ⟨x, y, z⟩ := e.keep a u q n hn fun w => ho (h a w); ⟨x, y, fun w => z (h' a w)⟩, e.th⟩
theorem ExS.ex {μ μ' : List Addr} {o o' : Addr → Prop} {H H' : Hp} (e : ExS μ o H μ' o' H') (h : ∀ a, ¬ o a) : Ex μ H μ' H' := ⟨e.pre, fun a u q n hn => let ⟨x, y, _⟩ := e.keep a u q n hn (h a); ⟨x, y⟩, e.th⟩
section
variable (K : PySem.W.Frag) (T : Tb) (W : WX)
def SPst (ρ : En) (σ : L2.St) (μ : List Addr) (H : Hp) (D : Ends) : SRes → Prop
  | .nx ρ' g' => ∀ σ' μ' H', StR K T μ' g' ρ' σ' H' → ExS μ (sl ρ σ) H μ' (sl ρ' σ') H' → D.nx σ' H'
  | .bk ρ' g' => ∀ σ' μ' H', StR K T μ' g' ρ' σ' H' → ExS μ (sl ρ σ) H μ' (sl ρ' σ') H' → D.bk σ' H'
  | .ct ρ' g' => ∀ σ' μ' H', StR K T μ' g' ρ' σ' H' → ExS μ (sl ρ σ) H μ' (sl ρ' σ') H' → D.ct σ' H'
  | .rt d g' => ∀ v ρ' σ' μ' H', StR K T μ' g' ρ' σ' H' → ExS μ (sl ρ σ) H μ' (sl ρ' σ') H' → Rp K H' μ' (ow T ρ' σ') d v → D.rt v H'
  | .ex e g' => ∀ d ρ' σ' μ' H', StR K T μ' g' ρ' σ' H' → ExS μ (sl ρ σ) H μ' (sl ρ' σ') H' → XnR K H' μ' (ow T ρ' σ') e d → W (.ref (He.ga K e.c)) d σ' H'
  | .bad => False
def tS (m : SM) : TS := fun D σ H => ∃ ρ μ g, StR K T μ g ρ σ H ∧ SPst K T W ρ σ μ H D (m ρ g)
end
abbrev MS (X : Cx) (T : Tb) (W : WX) (st : Stmt) (m : SM) : Prop := PS X st (tS X.K T W m)
abbrev MSs (X : Cx) (T : Tb) (W : WX) (st : List Stmt) (m : SM) : Prop := PSs X st (tS X.K T W m)
theorem PS.weak {X : Cx} {st : Stmt} {t t' : TS} (h : PS X st t) (w : ∀ D σ H, t' D σ H → t D σ H) : PS X st t' := ⟨fun pins s σ H D I q => h.run pins s σ H D I (w D σ H q)⟩
theorem PSs.weak {X : Cx} {st : List Stmt} {t t' : TS} (h : PSs X st t) (w : ∀ D σ H, t' D σ H → t D σ H) : PSs X st t' := ⟨fun pins s σ H D I q => h.run pins s σ H D I (w D σ H q)⟩
section
variable {K : PySem.W.Frag} {T : Tb} {W : WX} {ρ ρ' ρ0 : En} {σ σ' σ0 : L2.St} {μ μ' μ0 : List Addr} {H H' H0 : Hp} {D : Ends} {g g' : Gs}
theorem SPst.rebase {r : SRes} (h : SPst K T W ρ0 σ0 μ0 H0 D r) (e : ExS μ0 (sl ρ0 σ0) H0 μ (sl ρ σ) H) : SPst K T W ρ σ μ H D r := by
  cases r with
  | nx ρ' g' => exact fun σ' μ' H' s x => h σ' μ' H' s (e.trans x)
  | bk ρ' g' => exact fun σ' μ' H' s x => h σ' μ' H' s (e.trans x)
  | ct ρ' g' => exact fun σ' μ' H' s x => h σ' μ' H' s (e.trans x)
  | rt d g' => exact fun v ρ' σ' μ' H' s x => h v ρ' σ' μ' H' s (e.trans x)
  | ex x g' => exact fun d ρ' σ' μ' H' s x => h d ρ' σ' μ' H' s (e.trans x)
  | bad => exact h
theorem SPst.imp {D' : Ends} {r : SRes} (h : SPst K T W ρ σ μ H D r) (h1 : ∀ σ H, D.nx σ H → D'.nx σ H) (h2 : ∀ σ H, D.bk σ H → D'.bk σ H) (h3 : ∀ σ H, D.ct σ H → D'.ct σ H) (h4 : ∀ v H, D.rt v H → D'.rt v H) : SPst K T W ρ σ μ H D' r := by
  cases r with
  | nx ρ' g' => exact fun σ' μ' H' s x => h1 _ _ (h σ' μ' H' s x)
  | bk ρ' g' => exact fun σ' μ' H' s x => h2 _ _ (h σ' μ' H' s x)
  | ct ρ' g' => exact fun σ' μ' H' s x => h3 _ _ (h σ' μ' H' s x)
  | rt d g' => exact fun v ρ' σ' μ' H' s x r => h4 _ _ (h v ρ' σ' μ' H' s x r)
  | ex x g' => exact h
  | bad => exact h
/-- from an expression on -/
def eS (r : Res α) (k : α → Gs → SRes) : SRes := match r with
  | .ok a g => k a g
  | .ex e g => .ex e g
  | .bad => .bad
@[simp] theorem eS_ok {α : Type} (a : α) (g : Gs) (k : α → Gs → SRes) : eS (.ok a g) k = k a g := rfl
@[simp] theorem eS_ex {α : Type} (a : Xn) (g : Gs) (k : α → Gs → SRes) : eS (.ex a g) k = .ex a g := rfl
@[simp] theorem eS_bad {α : Type} (k : α → Gs → SRes) : eS .bad k = .bad := rfl
theorem SPst.bindE {α β : Type} {rel : RL α β} {r : Res α} {k : α → Gs → SRes} (h : SPst K T W ρ σ μ H D (eS r k)) :
    Pst K T rel W ρ σ μ H (fun b H1 => ∃ a μ1 g1, StR K T μ1 g1 ρ σ H1 ∧ Ex μ H μ1 H1 ∧ rel K H1 μ1 (ow T ρ σ) a b ∧ SPst K T W ρ σ μ1 H1 D (k a g1)) r := by
  cases r with
  | ok a g' => exact fun b μ1 H1 s e q => ⟨a, μ1, g', s, e, q, SPst.rebase h (.of e)⟩
  | ex x g' => exact fun d μ1 H1 s e q => h d ρ σ μ1 H1 s (.of e) q
  | bad => exact h
end
section
variable {X : Cx} {T : Tb} {W : WX} {e a b c : Expr} {es : List Expr} {pos p p2 : Pos} {ma mb mc : EM} {ml : LM} {ba : BM} {st : Stmt} {sts rest : List Stmt} {m m1 m2 : SM}
/-! ### blocks -/
def sNil : SM := fun ρ g => .nx ρ g
def sSeq (m1 m2 : SM) : SM := fun ρ g => match m1 ρ g with
  | .nx ρ' g' => m2 ρ' g'
  | r => r
theorem mss_nil : MSs X T W [] sNil := PSs.weak pss_nil fun D σ H ⟨ρ, μ, g, s, p⟩ => p σ μ H s (.refl _ _ _)
theorem mss_one (h : MS X T W st m) : MSs X T W [st] m := pss_one h
theorem mss_cons (h1 : MS X T W st m1) (h2 : MSs X T W rest m2) : MSs X T W (st :: rest) (sSeq m1 m2) := PSs.weak (pss_cons h1 h2) fun D σ H ⟨ρ, μ, g, s, p⟩ => by
  refine ⟨ρ, μ, g, s, ?_⟩
  unfold sSeq at p
  cases q : m1 ρ g with
  | nx ρ' g' =>
    rw [q] at p
    exact fun σ' μ' H' s' x => ⟨ρ', μ', g', s', p.rebase x⟩
  | rt d g' => rw [q] at p; exact p
  | bk ρ' g' => rw [q] at p; exact p
  | ct ρ' g' => rw [q] at p; exact p
  | ex e g' => rw [q] at p; exact p
  | bad => rw [q] at p; exact p
/-! ### changes of what is known -/
/-- f forgets -/
structure Wk (f : En → En) : Prop where
  st : ∀ {K T μ g ρ σ H}, StR K T μ g ρ σ H → StR K T μ g (f ρ) σ H
  sl : ∀ {ρ σ a}, sl (f ρ) σ a → sl ρ σ a
def sPre (f : En → En) (m : SM) : SM := fun ρ g => m (f ρ) g
def sPost (f : En → En) (m : SM) : SM := fun ρ g => match m ρ g with
  | .nx ρ' g' => .nx (f ρ') g'
  | .ct ρ' g' => .ct (f ρ') g'
  | r => r
theorem w_pre {K : PySem.W.Frag} {f : En → En} (w : Wk f) {D : Ends} {σ : L2.St} {H : Hp} (h : tS K T W (sPre f m) D σ H) : tS K T W m D σ H := by
  obtain ⟨ρ, μ, g, s, p⟩ := h
  exact ⟨f ρ, μ, g, w.st s, SPst.rebase p ((ExS.refl _ _ _).mono (fun _ h => h) fun _ h => w.sl h)⟩
theorem w_post {K : PySem.W.Frag} {f : En → En} (w : Wk f) {D : Ends} {σ : L2.St} {H : Hp} (h : tS K T W (sPost f m) D σ H) : tS K T W m D σ H := by
  obtain ⟨ρ, μ, g, s, p⟩ := h
  refine ⟨ρ, μ, g, s, ?_⟩
  unfold sPost at p
  cases q : m ρ g with
  | nx ρ' g' =>
    rw [q] at p
    exact fun σ' μ' H' s' x => p σ' μ' H' (w.st s') (x.mono (fun _ h => h) fun _ h => w.sl h)
  | ct ρ' g' =>
    rw [q] at p
    exact fun σ' μ' H' s' x => p σ' μ' H' (w.st s') (x.mono (fun _ h => h) fun _ h => w.sl h)
  | rt d g' => rw [q] at p; exact p
  | bk ρ' g' => rw [q] at p; exact p
  | ex e g' => rw [q] at p; exact p
  | bad => rw [q] at p; exact p
theorem ms_pre {f : En → En} (w : Wk f) (h : MS X T W st m) : MS X T W st (sPre f m) := PS.weak h fun _ _ _ q => w_pre w q
theorem ms_post {f : En → En} (w : Wk f) (h : MS X T W st m) : MS X T W st (sPost f m) := PS.weak h fun _ _ _ q => w_post w q
theorem mss_pre {f : En → En} (w : Wk f) (h : MSs X T W sts m) : MSs X T W sts (sPre f m) := PSs.weak h fun _ _ _ q => w_pre w q
theorem mss_post {f : En → En} (w : Wk f) (h : MSs X T W sts m) : MSs X T W sts (sPost f m) := PSs.weak h fun _ _ _ q => w_post w q
/-- slots forgotten -/
def forget (is : List Nat) (ρ : En) : En := is.foldl (fun ρ i => ρ.set i .no) ρ
/-- a slot's own list becomes a value -/
def freeze (i : Nat) (ρ : En) : En := match ρ[i]? with
  | some (.ml xs) => ρ.set i (.d (.lst xs))
  | _ => ρ
theorem Rp.less {K : PySem.W.Frag} {H : Hp} {μ : List Addr} {o o' : Addr → Prop} (h : ∀ a, o' a → o a) {x : D} {v : V} (r : Rp K H μ o x v) : Rp K H μ o' x v :=
  Rp.mapP (fun _ _ t => t.imp (fun ⟨x, y, z⟩ => ⟨x, y, fun w => z (h _ w)⟩) id) (fun _ _ t => t.imp (fun ⟨x, y, z⟩ => ⟨x, y, fun w => z (h _ w)⟩) id) (fun _ _ h => h) (fun _ _ _ ⟨x, y, z, r⟩ => ⟨x, y, fun w => z (h _ w), r⟩) x v r
theorem Rps.less {K : PySem.W.Frag} {H : Hp} {μ : List Addr} {o o' : Addr → Prop} (h : ∀ a, o' a → o a) {x : List D} {v : List V} (r : Rps K H μ o x v) : Rps K H μ o' x v :=
  Rps.mapP (fun _ _ t => t.imp (fun ⟨x, y, z⟩ => ⟨x, y, fun w => z (h _ w)⟩) id) (fun _ _ t => t.imp (fun ⟨x, y, z⟩ => ⟨x, y, fun w => z (h _ w)⟩) id) (fun _ _ h => h) (fun _ _ _ ⟨x, y, z, r⟩ => ⟨x, y, fun w => z (h _ w), r⟩) x v r
theorem ObR.less {K : PySem.W.Frag} {H : Hp} {μ : List Addr} {o o' : Addr → Prop} (h : ∀ a, o' a → o a) {a : Addr} {x : Ob} (r : ObR K H μ o a x) : ObR K H μ o' a x :=
  r.mapP (fun _ e _ => e) (fun _ _ r => r.less h) (fun _ _ r => r.less h) fun dx n1 n2 q => ⟨q, n1, fun w => n2 (h _ w)⟩
/-- other slots, the same heap, less owned -/
theorem StR.slots {K : PySem.W.Frag} {μ : List Addr} {g : Gs} {ρ ρ' : En} {σ σ' : L2.St} {H : Hp} (s : StR K T μ g ρ σ H) (hs : ∀ a, sl ρ' σ' a → sl ρ σ a) (el : ρ'.length = σ'.length)
    (en : ∀ (i : Nat) x, ρ'[i]? = some (.d x) → ∃ v, σ'[i]? = some (some v) ∧ Rp K H μ (ow T ρ' σ') x v)
    (em : ∀ (i : Nat) xs, ρ'[i]? = some (.ml xs) → ∃ ys, ρ[i]? = some (.ml xs) ∧ σ[i]? = σ'[i]? ∧ ys = xs) : StR K T μ g ρ' σ' H := by
  have ho : ∀ a, ow T ρ' σ' a → ow T ρ σ a := fun a h => h.imp id (hs a)
  refine ⟨s.len, s.nd, fun l a o e1 e2 => (s.gl l a o e1 e2).less ho, el, en, fun i xs e => ?_, fun i j xs ys a e1 e2 e3 e4 => ?_, s.ob, fun i xs a e1 e2 => ?_, s.tb⟩
  · obtain ⟨_, e1, e2, _⟩ := em i xs e
    obtain ⟨a, vs, q1, q2, q3, q4⟩ := s.em i xs e1
    exact ⟨a, vs, by rw [← e2]; exact q1, q2, q3, q4.less ho⟩
  · obtain ⟨_, f1, f2, _⟩ := em i xs e1
    obtain ⟨_, f3, f4, _⟩ := em j ys e3
    exact s.sep i j xs ys a f1 (by rw [f2]; exact e2) f3 (by rw [f4]; exact e4)
  · obtain ⟨_, f1, f2, _⟩ := em i xs e1
    exact s.os i xs a f1 (by rw [f2]; exact e2)
theorem set_get {α : Type} {l : List α} {i j : Nat} {x y : α} (h : (l.set i x)[j]? = some y) : (i = j ∧ y = x) ∨ (i ≠ j ∧ l[j]? = some y) := by
  rw [List.getElem?_set] at h
  by_cases e : i = j
  · rw [if_pos e] at h
    split at h
    · cases h
      exact .inl ⟨e, rfl⟩
    · cases h
  · rw [if_neg e] at h
    exact .inr ⟨e, h⟩
theorem wk_no (i : Nat) : Wk (fun ρ => ρ.set i .no) := by
  have hs : ∀ {ρ : En} {σ : L2.St} {a : Addr}, sl (ρ.set i .no) σ a → sl ρ σ a := fun ⟨j, xs, h1, h2⟩ => by
    rcases set_get h1 with ⟨_, e⟩ | ⟨_, e⟩
    · cases e
    · exact ⟨j, xs, e, h2⟩
  refine ⟨fun {K T μ g ρ σ H} s => s.slots (fun a h => hs h) (by rw [List.length_set]; exact s.el) (fun j x e => ?_) fun j xs e => ?_, hs⟩
  · rcases set_get e with ⟨_, e⟩ | ⟨_, e⟩
    · cases e
    · obtain ⟨v, q1, q2⟩ := s.en j x e
      exact ⟨v, q1, q2.less fun a h => h.imp id hs⟩
  · rcases set_get e with ⟨_, e⟩ | ⟨_, e⟩
    · cases e
    · exact ⟨_, e, rfl, rfl⟩
theorem Wk.id : Wk (fun ρ => ρ) := ⟨fun s => s, fun h => h⟩
theorem Wk.comp {f f' : En → En} (h : Wk f) (h' : Wk f') : Wk (fun ρ => f' (f ρ)) := ⟨fun s => h'.st (h.st s), fun q => h.sl (h'.sl q)⟩
theorem wk_forget (is : List Nat) : Wk (forget is) := by
  induction is with
  | nil => exact Wk.id
  | cons i is ih => exact Wk.comp (f := fun ρ => ρ.set i .no) (f' := forget is) (wk_no i) ih
theorem wk_freeze (i : Nat) : Wk (freeze i) := by
  have hs : ∀ {ρ : En} {σ : L2.St} {a : Addr}, sl (freeze i ρ) σ a → sl ρ σ a := fun {ρ σ a} ⟨j, xs, h1, h2⟩ => by
    unfold freeze at h1
    split at h1
    · rcases set_get h1 with ⟨_, e⟩ | ⟨_, e⟩
      · cases e
      · exact ⟨j, xs, e, h2⟩
    · exact ⟨j, xs, h1, h2⟩
  refine ⟨fun {K T μ g ρ σ H} s => ?_, hs⟩
  cases q : ρ[i]? with
  | none =>
    have e : freeze i ρ = ρ := by unfold freeze; rw [q]
    rw [e]; exact s
  | some z =>
    cases z with
    | no =>
      have e : freeze i ρ = ρ := by unfold freeze; rw [q]
      rw [e]; exact s
    | d x =>
      have e : freeze i ρ = ρ := by unfold freeze; rw [q]
      rw [e]; exact s
    | ml ys =>
      have e : freeze i ρ = ρ.set i (.d (.lst ys)) := by unfold freeze; rw [q]
      have hs' : ∀ a, sl (ρ.set i (.d (.lst ys))) σ a → sl ρ σ a := fun a h => by rw [← e] at h; exact hs h
      rw [e]
      obtain ⟨a, vs, q1, q2, q3, q4⟩ := s.em i ys q
      refine s.slots hs' (by rw [List.length_set]; exact s.el) (fun j x f => ?_) fun j xs f => ?_
      · rcases set_get f with ⟨ej, f⟩ | ⟨_, f⟩
        · cases f
          subst ej
          refine ⟨.ref a, q1, .lst (.inl ⟨.inl q2, q3, fun z => ?_⟩) (q4.less fun a h => h.imp id fun h => hs' a h)⟩
          rcases z with z | ⟨k, zs, z1, z2⟩
          · -- owned by a caller and by this slot
            have := s.os i ys a q q1
            exact this z
          · rcases set_get z1 with ⟨_, z1⟩ | ⟨ne, z1⟩
            · cases z1
            · exact ne (s.sep i k ys zs a q q1 z1 z2)
        · obtain ⟨v, r1, r2⟩ := s.en j x f
          exact ⟨v, r1, r2.less fun a h => h.imp id fun h => hs' a h⟩
      · rcases set_get f with ⟨_, f⟩ | ⟨_, f⟩
        · cases f
        · exact ⟨_, f, rfl, rfl⟩
end
end Sh

set_option Elab.async false
set_option linter.all false
set_option maxRecDepth 100000
set_option maxHeartbeats 2000000
namespace Sh
open PySem PySem.Spec L2
section
variable {X : Cx} {T : Tb} {W : WX} {e a b c : Expr} {es : List Expr} {pos p p2 : Pos} {ma mb mc : EM} {ml : LM} {ba : BM} {st : Stmt} {sts sts' rest : List Stmt} {m m1 m2 : SM}
/-! ### return, if, expression statements -/
def sRet (a : EM) : SM := fun ρ g => eS (a ρ g) fun d g' => .rt d g'
theorem ms_ret (h : ME X T W e ma) : MS X T W (.Return (some e) pos) (sRet ma) := PS.weak (ps_ret h) fun D σ H ⟨ρ, μ, g, s, p⟩ =>
  ⟨ρ, μ, g, s, (SPst.bindE p).imp fun v H1 ⟨d, μ1, g1, s1, e1, r1, q⟩ => q v ρ σ μ1 H1 s1 (.refl _ _ _) r1⟩
def sRetN : SM := fun ρ g => .rt .non g
theorem ms_retN : MS X T W (.Return none pos) sRetN := PS.weak ps_retN fun D σ H ⟨ρ, μ, g, s, p⟩ => p .non ρ σ μ H s (.refl _ _ _) .non
def sIf (c : BM) (a b : SM) : SM := fun ρ g => eS (c ρ g) fun k g1 => match k with
  | true => a ρ g1
  | false => b ρ g1
theorem ms_if {c : Expr} (hc : MT X T W c ba) (h1 : MSs X T W sts m1) (h2 : MSs X T W sts' m2) : MS X T W (.If c sts sts' pos) (sIf ba m1 m2) := PS.weak (ps_if hc h1 h2) fun D σ H ⟨ρ, μ, g, s, p⟩ =>
  ⟨ρ, μ, g, s, (SPst.bindE (rel := rB) p).imp fun k H1 ⟨k', μ1, g1, s1, e1, r1, q⟩ => by
    obtain rfl : k' = k := r1
    cases k' with
    | true => exact iteT ⟨ρ, μ1, g1, s1, q⟩
    | false => exact iteF ⟨ρ, μ1, g1, s1, q⟩⟩
def sExpr (a : EM) : SM := fun ρ g => eS (a ρ g) fun _ g' => .nx ρ g'
theorem ms_expr (h : ME X T W e ma) (hs : swapsWith e none pos.line X.env = pure false := by rfl) : MS X T W (.Expr e pos) (sExpr ma) := PS.weak (ps_expr h hs) fun D σ H ⟨ρ, μ, g, s, p⟩ =>
  ⟨ρ, μ, g, s, (SPst.bindE p).imp fun v H1 ⟨d, μ1, g1, s1, e1, r1, q⟩ => q σ μ1 H1 s1 (.refl _ _ _)⟩
theorem ms_pass : MS X T W (.Pass pos) sNil := PS.weak ps_pass fun D σ H ⟨ρ, μ, g, s, p⟩ => p σ μ H s (.refl _ _ _)
/-! ### raise -/
def sRaise (c : Str) : SM := fun _ g => .ex ⟨c, []⟩ g
theorem ms_raise {c x : Str} {t : Str} {j : Nat} {p3 : Pos} (hc : X.calm = true) (tk : L2N.Takes X W) (hx : x = c) (hk : (He.Fa.exc c).ok X.K = true) (hm : X.mg x = some (.ref (He.ga X.K c))) (hg : Gl X x) (hdb : (x == ("__debug__" : Str)) = false := by decide) :
    MS X T W (.Raise (some (.Call (.Name x p) [.Constant (.str t) j p2] [] p3)) none pos) (sRaise c) := by
  obtain ⟨h1, h2, h3, h4⟩ := He.exc_ok hk
  exact PS.weak (L2N.ps_raise hc tk (L2N.pmk_own PySem.F.excBase_ValueError h1 hm h2 (raises_own h3 h4) hg hdb)) fun D σ H ⟨ρ, μ, g, s, p⟩ => p none ρ σ μ H s (.refl _ _ _) (.inl ⟨rfl, rfl⟩)
/-! ### targets -/
abbrev GM := D → En → Option En
/-- what a target leaves: only the slots of `is` are written -/
def Only (is : List Nat) (σ σ' : L2.St) : Prop := σ'.length = σ.length ∧ ∀ j, j ∉ is → σ'[j]? = σ[j]?
def tgM (K : PySem.W.Frag) (T : Tb) (is : List Nat) (f : GM) : TG := fun v σ H Q => ∃ ρ μ g d, StR K T μ g ρ σ H ∧ Rp K H μ (ow T ρ σ) d v ∧ ∃ ρ', f d ρ = some ρ' ∧ ∀ σ', StR K T μ g ρ' σ' H → (∀ a, sl ρ' σ' a → sl ρ σ a) → Only is σ σ' → Q σ' H
def GOk (is : List Nat) (f : GM) : Prop := ∀ d ρ ρ', f d ρ = some ρ' → ∀ j, j ∉ is → ρ'[j]? = ρ[j]?
structure MG (X : Cx) (T : Tb) (tg : Expr) (is : List Nat) (f : GM) : Prop where
  pg : PG X tg (tgM X.K T is f)
  ok : GOk is f
abbrev GMs := List D → En → Option En
def tgMs (K : PySem.W.Frag) (T : Tb) (is : List Nat) (f : GMs) : TGs := fun vs σ H Q => ∃ ρ μ g ds, StR K T μ g ρ σ H ∧ Rps K H μ (ow T ρ σ) ds vs ∧ ∃ ρ', f ds ρ = some ρ' ∧ ∀ σ', StR K T μ g ρ' σ' H → (∀ a, sl ρ' σ' a → sl ρ σ a) → Only is σ σ' → Q σ' H
def GsOk (is : List Nat) (f : GMs) : Prop := ∀ d ρ ρ', f d ρ = some ρ' → ∀ j, j ∉ is → ρ'[j]? = ρ[j]?
structure MGs (X : Cx) (T : Tb) (tgs : List Expr) (is : List Nat) (f : GMs) : Prop where
  pg : PGs X tgs (tgMs X.K T is f)
  ok : GsOk is f
theorem PG.weak {tg : Expr} {t t' : TG} (h : PG X tg t) (w : ∀ v σ H Q, t' v σ H Q → t v σ H Q) : PG X tg t' := ⟨fun pins s σ H v u Q I r q => h.run pins s σ H v u Q I r (w v σ H Q q)⟩
theorem PGs.weak {tg : List Expr} {t t' : TGs} (h : PGs X tg t) (w : ∀ v σ H Q, t' v σ H Q → t v σ H Q) : PGs X tg t' := ⟨fun pins s σ H v u Q I r q => h.run pins s σ H v u Q I r (w v σ H Q q)⟩
theorem sl_set {ρ : En} {σ : L2.St} {i : Nat} {d : D} {v : V} {a : Addr} (h : sl (ρ.set i (.d d)) (σ.set i (some v)) a) : sl ρ σ a := by
  obtain ⟨j, xs, h1, h2⟩ := h
  rcases set_get h1 with ⟨_, e⟩ | ⟨n1, e⟩
  · cases e
  · rcases set_get h2 with ⟨n2, _⟩ | ⟨_, e2⟩
    · exact absurd n2 n1
    · exact ⟨j, xs, e, e2⟩
theorem StR.set {K : PySem.W.Frag} {μ : List Addr} {g : Gs} {ρ : En} {σ : L2.St} {H : Hp} (s : StR K T μ g ρ σ H) (i : Nat) {d : D} {v : V} (r : Rp K H μ (ow T ρ σ) d v) : StR K T μ g (ρ.set i (.d d)) (σ.set i (some v)) H := by
  refine s.slots (fun a h => sl_set h) (by rw [List.length_set, List.length_set]; exact s.el) (fun j x e => ?_) fun j xs e => ?_
  · have less : ∀ a, ow T (ρ.set i (.d d)) (σ.set i (some v)) a → ow T ρ σ a := fun a h => h.imp id sl_set
    rcases set_get e with ⟨ei, e⟩ | ⟨ne, e⟩
    · cases e
      subst ei
      have hi : i < σ.length := by
        rw [← s.el]
        have := (List.getElem?_eq_some_iff.mp (by assumption : (ρ.set i (.d d))[i]? = some (.d d))).1
        rw [List.length_set] at this
        exact this
      exact ⟨v, by rw [List.getElem?_set_self hi], r.less less⟩
    · obtain ⟨w, e1, e2⟩ := s.en j x e
      exact ⟨w, by rw [List.getElem?_set_ne ne]; exact e1, e2.less less⟩
  · rcases set_get e with ⟨_, e⟩ | ⟨ne, e⟩
    · cases e
    · exact ⟨_, e, by rw [List.getElem?_set_ne ne], rfl⟩
def gNm (i : Nat) : GM := fun d ρ => some (ρ.set i (.d d))
theorem mg_name {i : Nat} {x : Str} (hN : X.N.Nodup) (hi : X.N[i]? = some x := by rfl) (hx : Loc X.env.scope x := by first | exact Or.inl rfl | exact Or.inr rfl) (hf : X.fn x = true ∨ X.env.scope.names.lookup x = some .local := by first | exact .inl rfl | exact .inr rfl | assumption) : MG X T (.Name x pos) [i] (gNm i) := by
  refine ⟨?_, fun d ρ ρ' e j hj => by cases e; exact List.getElem?_set_ne fun z => hj (by simp [z])⟩
  exact PG.weak (pg_name hN hi hx hf) fun v σ H Q ⟨ρ, μ, g, d, s, r, ρ', e, q⟩ => by
    cases e
    exact q _ (s.set i r) (fun a h => sl_set h) ⟨by rw [List.length_set], fun j hj => List.getElem?_set_ne fun z => hj (by simp [z])⟩
def gNl : GMs := fun ds ρ => match ds with
  | [] => some ρ
  | _ => none
def gCn (f : GM) (r : GMs) : GMs := fun ds ρ => match ds with
  | d :: ds => (f d ρ).bind (r ds)
  | [] => none
theorem mgs_nil : MGs X T [] [] gNl := by
  refine ⟨?_, fun d ρ ρ' e j hj => by unfold gNl at e; split at e <;> cases e; rfl⟩
  exact PGs.weak pgs_nil fun vs σ H Q ⟨ρ, μ, g, ds, s, r, ρ', e, q⟩ => by
    cases ds with
    | nil =>
      cases r
      cases e
      exact ⟨rfl, q _ s (fun _ h => h) ⟨rfl, fun _ _ => rfl⟩⟩
    | cons _ _ => cases e
theorem mgs_cons {f : GM} {fr : GMs} {is is' : List Nat} (h1 : MG X T e is f) (h2 : MGs X T es is' fr) (hs : (assignEach (e :: es) X.env).map (·.2) = assign e X.env :: (assignEach es X.env).map (·.2) := by rfl) : MGs X T (e :: es) (is ++ is') (gCn f fr) := by
  refine ⟨?_, fun d ρ ρ' e j hj => by
    cases d with
    | nil => cases e
    | cons d ds =>
      cases e1 : f d ρ with
      | none =>
        simp only [gCn, e1] at e
        cases e
      | some ρ1 =>
        simp only [gCn, e1, Option.bind_some] at e
        exact (h2.ok _ _ _ e j fun z => hj (List.mem_append_right _ z)).trans (h1.ok _ _ _ e1 j fun z => hj (List.mem_append_left _ z))⟩
  exact PGs.weak (pgs_cons h1.pg h2.pg hs) fun vs σ H Q ⟨ρ, μ, g, ds, s, r, ρ', e, q⟩ => by
    cases ds with
    | nil => cases e
    | cons d ds =>
      cases r with
      | cons r1 r2 =>
        cases e1 : f d ρ with
        | none =>
          simp only [gCn, e1] at e
          cases e
        | some ρ1 =>
          simp only [gCn, e1, Option.bind_some] at e
          exact ⟨_, _, rfl, ρ, μ, g, d, s, r1, ρ1, e1, fun σ1 s1 l1 o1 => ⟨ρ1, μ, g, ds, s1, r2.less fun a h => h.imp id (l1 a), ρ', e, fun σ2 s2 l2 o2 => q σ2 s2 (fun a h => l1 a (l2 a h)) ⟨o2.1.trans o1.1, fun j hj => (o2.2 j fun z => hj (List.mem_append_right _ z)).trans (o1.2 j fun z => hj (List.mem_append_left _ z))⟩⟩⟩
def gTp (n : Nat) (f : GMs) : GM := fun d ρ => match d with
  | .tup xs => if xs.length = n then f xs ρ else none
  | _ => none
theorem mg_tup {k n : Nat} {f : GMs} {is : List Nat} (hc : X.calm = true) (h : MGs X T es is f) (hn : (assignEach es X.env).length = n := by rfl) (hst : (assignEach es X.env).findIdx? (·.1) = none := by rfl) : MG X T (.Tuple es k pos) is (gTp n f) := by
  refine ⟨?_, fun d ρ ρ' e j hj => by
    cases d with
    | tup xs =>
      simp only [gTp] at e
      split at e
      · exact h.ok _ _ _ e j hj
      · cases e
    | _ => cases e⟩
  exact PG.weak (pg_tup hc h.pg hn hst) fun v σ H Q ⟨ρ, μ, g, d, s, r, ρ', e, q⟩ => by
    cases d with
    | tup xs =>
      cases r with
      | tup t rs =>
        simp only [gTp] at e
        split at e
        · rename_i hl
          exact ⟨_, _, rfl, t.sq, by rw [← rs.len]; exact hl, ρ, μ, g, xs, s, rs, ρ', e, q⟩
        · cases e
    | _ => cases e
/-! ### assignments -/
def sSet (i : Nat) (a : EM) : SM := fun ρ g => eS (a ρ g) fun d g' => .nx (ρ.set i (.d d)) g'
theorem w_set {K : PySem.W.Frag} {i : Nat} {D : Ends} {σ : L2.St} {H : Hp} (h : tS K T W (sSet i ma) D σ H) : tAsg (tE K T W ma) (gName i) D σ H := by
  obtain ⟨ρ, μ, g, s, p⟩ := h
  exact ⟨ρ, μ, g, s, (SPst.bindE p).imp fun v H1 ⟨d, μ1, g1, s1, e1, r1, q⟩ => q _ μ1 H1 (s1.set i r1) ((ExS.refl _ _ _).mono (fun _ h => h) fun _ h => sl_set h)⟩
theorem ms_set {i : Nat} {x : Str} {pos' : Pos} (hN : X.N.Nodup) (he : ME X T W e ma) (hi : X.N[i]? = some x := by rfl) (hx : Loc X.env.scope x := by first | exact Or.inl rfl | exact Or.inr rfl) (hs : swapsWith e (some (.Name x pos')) pos.line X.env = pure false := by rfl)
    (hf : X.fn x = true ∨ X.env.scope.names.lookup x = some .local := by first | exact .inl rfl | exact .inr rfl | assumption) : MS X T W (.Assign [.Name x pos'] e pos) (sSet i ma) := PS.weak (ps_set hN hi hx he hs hf) fun _ _ _ h => w_set h
def sAsg (f : GM) (a : EM) : SM := fun ρ g => eS (a ρ g) fun d g' => match f d ρ with
  | some ρ' => .nx ρ' g'
  | none => .bad
theorem ms_asg {tg : Expr} {f : GM} {is : List Nat} (he : ME X T W e ma) (hg : MG X T tg is f) (hs : swapsWithSole [tg] e pos.line X.env = pure false := by rfl) (hw : swappedStores [tg] e X.env = pure none := by rfl)
    (h1 : (assignEach [tg] X.env).map (·.2) = [assign tg X.env] := by rfl) : MS X T W (.Assign [tg] e pos) (sAsg f ma) := PS.weak (ps_asg he hg.pg hs hw h1) fun D σ H ⟨ρ, μ, g, s, p⟩ =>
  ⟨ρ, μ, g, s, (SPst.bindE p).imp fun v H1 ⟨d, μ1, g1, s1, e1, r1, q⟩ => by
    cases hf : f d ρ with
    | none => rw [hf] at q; exact q.elim
    | some ρ' =>
      rw [hf] at q
      exact ⟨ρ, μ1, g1, d, s1, r1, ρ', hf, fun σ' s' l _ => q σ' μ1 H1 s' ((ExS.refl _ _ _).mono (fun _ h => h) fun _ h => l _ h)⟩⟩
/-! ### slots that get values, or lists of their own -/
inductive Arg where
  | v (m : EM) | f (m : LM)
def evA : List Arg → En → Gs → Res (List Sl)
  | [], _, g => .ok [] g
  | .v m :: r, ρ, g => (m ρ g).bind fun d g1 => (evA r ρ g1).bind fun l g2 => .ok (.d d :: l) g2
  | .f m :: r, ρ, g => (m ρ g).bind fun xs g1 => if xs.length ≤ 1000000 then (evA r ρ g1).bind fun l g2 => .ok (.ml xs :: l) g2 else .bad
def rdA (K : PySem.W.Frag) (t : List (Addr × Str)) (W : WX) : Arg → TE
  | .v m => fun σ H Q => ∃ O, tE K ⟨t, O⟩ W m σ H Q
  | .f m => tLst fun σ H Q => ∃ O, tL K ⟨t, O⟩ W m σ H Q
def tAr (K : PySem.W.Frag) (t : List (Addr × Str)) (W : WX) : List Arg → TA
  | [] => tNil
  | a :: r => tCons (rdA K t W a) (tAr K t W r)
/-- what has come: values; lists that nobody else knows, all in O, none in O0 -/
inductive SvR (K : PySem.W.Frag) (H : Hp) (μ : List Addr) (O s : Addr → Prop) : (Addr → Prop) → List Sl → List V → Prop
  | nil {O0 : Addr → Prop} : SvR K H μ O s O0 [] []
  | d {O0 : Addr → Prop} {d : D} {v : V} {l : List Sl} {vs : List V} : Rp K H μ (fun a => O a ∨ s a) d v → SvR K H μ O s O0 l vs → SvR K H μ O s O0 (.d d :: l) (v :: vs)
  | ml {O0 : Addr → Prop} {xs : List D} {p : Addr} {ws : List V} {l : List Sl} {vs : List V} : H p = some (.lst ws) → Rps K H μ (fun a => O a ∨ s a) xs ws → p ∉ μ → O p → ¬ O0 p → ¬ s p → SvR K H μ O s (fun a => O0 a ∨ a = p) l vs → SvR K H μ O s O0 (.ml xs :: l) (.ref p :: vs)
section
variable {K : PySem.W.Frag} {t : List (Addr × Str)} {O O' : Addr → Prop} {ρ : En} {σ : L2.St} {μ μ' : List Addr} {H H' : Hp} {g : Gs}
theorem TupAt.up {o o' : Addr → Prop} (h : ∀ a, o' a → o a ∨ Nn H a) {a : Addr} {vs : List V} (x : TupAt K H μ o a vs) : TupAt K H μ o' a vs :=
  x.imp (fun ⟨x, y, z⟩ => ⟨x, y, fun w => (h a w).elim z fun w => by obtain ⟨ps, e⟩ := w _ x; cases e⟩) id
theorem LstAt.up {o o' : Addr → Prop} (h : ∀ a, o' a → o a ∨ Nn H a) {a : Addr} {vs : List V} (x : LstAt K H μ o a vs) : LstAt K H μ o' a vs :=
  x.imp (fun ⟨x, y, z⟩ => ⟨x, y, fun w => (h a w).elim z fun w => by rcases x with x | ⟨ob, x⟩ <;> (obtain ⟨ps, e⟩ := w _ x; cases e)⟩) id
theorem DicAt.up {o o' : Addr → Prop} (h : ∀ a, o' a → o a ∨ Nn H a) {a : Addr} {ks : List Str} {vs : List V} (x : DicAt H μ o a ks vs) : DicAt H μ o' a ks vs := by
  obtain ⟨x, y, z, r⟩ := x
  exact ⟨x, y, (fun w => (h a w).elim z fun w => by obtain ⟨ps, e⟩ := w _ x; cases e), r⟩
theorem Rp.up {o o' : Addr → Prop} (h : ∀ a, o' a → o a ∨ Nn H a) {d : D} {v : V} (r : Rp K H μ o d v) : Rp K H μ o' d v := Rp.mapP (fun _ _ x => x.up h) (fun _ _ x => x.up h) (fun _ _ h => h) (fun _ _ _ x => x.up h) d v r
theorem Rps.up {o o' : Addr → Prop} (h : ∀ a, o' a → o a ∨ Nn H a) {d : List D} {v : List V} (r : Rps K H μ o d v) : Rps K H μ o' d v := Rps.mapP (fun _ _ x => x.up h) (fun _ _ x => x.up h) (fun _ _ h => h) (fun _ _ _ x => x.up h) d v r
/-- a new list, held back from all others -/
theorem StR.hold {vs : List V} {p : Addr} (s : StR K ⟨t, O⟩ μ g ρ σ H) (hp : H p = none) : StR K ⟨t, fun a => O a ∨ a = p⟩ μ g ρ σ (upd H p (.lst vs)) := by
  have sm : ∀ b u, H b = some u → upd H p (.lst vs) b = some u := fun b u e => by rw [upd_ne (ne_of_none e hp)]; exact e
  have no : ∀ b u, H b = some u → ¬ ow ⟨t, O⟩ ρ σ b → ¬ ow ⟨t, fun a => O a ∨ a = p⟩ ρ σ b := fun b u e n z => by
    rcases z with (z | z) | z
    · exact n (.inl z)
    · rw [z, hp] at e
      cases e
    · exact n (.inr z)
  have ht : ∀ a vs', TupAt K H μ (ow ⟨t, O⟩ ρ σ) a vs' → TupAt K (upd H p (.lst vs)) μ (ow ⟨t, fun a => O a ∨ a = p⟩ ρ σ) a vs' := fun a vs' t => t.imp (fun ⟨e, n, o⟩ => ⟨sm _ _ e, n, no _ _ e o⟩) id
  have hl : ∀ a vs', LstAt K H μ (ow ⟨t, O⟩ ρ σ) a vs' → LstAt K (upd H p (.lst vs)) μ (ow ⟨t, fun a => O a ∨ a = p⟩ ρ σ) a vs' := fun a vs' t => by
    rcases t with ⟨r, n, o⟩ | k
    · rcases r with e | ⟨ob, e⟩
      · exact .inl ⟨.inl (sm _ _ e), n, no _ _ e o⟩
      · exact .inl ⟨.inr ⟨ob, sm _ _ e⟩, n, no _ _ e o⟩
    · exact .inr k
  have hdc : ∀ a ks vs', DicAt H μ (ow ⟨t, O⟩ ρ σ) a ks vs' → DicAt (upd H p (.lst vs)) μ (ow ⟨t, fun a => O a ∨ a = p⟩ ρ σ) a ks vs' := fun a ks vs' ⟨e, n, o, r⟩ => ⟨sm _ _ e, n, no _ _ e o, r⟩
  have hr := Rp.mapP ht hl (fun _ _ h => h) hdc
  have hrs := Rps.mapP ht hl (fun _ _ h => h) hdc
  refine ⟨s.len, s.nd, fun l a o e1 e2 => (s.gl l a o e1 e2).mapP (fun u e _ => sm _ _ e) hr hrs fun dx n1 n2 q => ⟨sm _ _ q, n1, no _ _ q n2⟩, s.el, fun i x e => ?_, fun i xs e => ?_, s.sep, fun a q => ?_, fun i xs a e1 e2 z => ?_, s.tb.ext sm⟩
  · obtain ⟨v, e1, r⟩ := s.en i x e
    exact ⟨v, e1, hr _ _ r⟩
  · obtain ⟨a, ws, e1, e2, n, r⟩ := s.em i xs e
    exact ⟨a, ws, e1, sm _ _ e2, n, hrs _ _ r⟩
  · rcases q with q | q
    · exact ⟨(s.ob a q).1.imp fun vs e => sm _ _ e, (s.ob a q).2⟩
    · rw [q]
      exact ⟨⟨vs, upd_same⟩, s.freeM hp⟩
  · rcases z with z | z
    · exact s.os i xs a e1 e2 z
    · obtain ⟨b, ws, q1, q2, _⟩ := s.em i xs e1
      rw [e2] at q1
      cases q1
      rw [z, hp] at q2
      cases q2
end
theorem evA_ok {K : PySem.W.Frag} {t : List (Addr × Str)} {ρ : En} {σ : L2.St} : ∀ {args : List Arg} {O : Addr → Prop} {μ : List Addr} {g : Gs} {H : Hp} {Q : List V → Hp → Prop}, StR K ⟨t, O⟩ μ g ρ σ H →
    (match evA args ρ g with
      | .ok l g' => ∀ vs μ' H' O', StR K ⟨t, O'⟩ μ' g' ρ σ H' → Ex μ H μ' H' → (∀ a, O a → O' a) → (∀ a, O' a → O a ∨ Nn H a) → SvR K H' μ' O' (sl ρ σ) O l vs → Q vs H'
      | .ex e g' => ∀ d O' μ' H', StR K ⟨t, O'⟩ μ' g' ρ σ H' → Ex μ H μ' H' → (∀ a, O a → O' a) → XnR K H' μ' (ow ⟨t, O'⟩ ρ σ) e d → W (.ref (He.ga K e.c)) d σ H'
      | .bad => False) → tAr K t W args σ H Q
  | [], O, μ, g, H, Q, s, p => p [] μ H O s (.refl _ _) (fun _ h => h) (fun _ h => .inl h) .nil
  | .v m :: r, O, μ, g, H, Q, s, p => by
    simp only [evA] at p
    refine ⟨O, ρ, μ, g, s, ?_⟩
    cases q : m ρ g with
    | bad => rw [q] at p; exact p.elim
    | ex e g' =>
      rw [q] at p
      exact fun d μ' H' s' e' x => p d O μ' H' s' e' (fun _ h => h) x
    | ok d g' =>
      rw [q] at p
      intro v μ1 H1 s1 e1 r1
      refine evA_ok s1 ?_
      simp only [Res.bind_ok] at p
      cases q2 : evA r ρ g' with
      | bad => rw [q2] at p; exact p.elim
      | ex e g2 =>
        rw [q2] at p
        exact fun d O' μ' H' s' e' h1 x => p d O' μ' H' s' (e1.trans e') h1 x
      | ok l g2 =>
        rw [q2] at p
        simp only [Res.bind_ok] at p
        intro vs μ2 H2 O' s2 e2 h1 h2 sv
        exact p _ μ2 H2 O' s2 (e1.trans e2) h1 (fun a z => (h2 a z).imp id e1.back) (.d ((r1.up fun a z => z.elim (fun z => (h2 a z).imp .inl id) fun z => .inl (.inr z)).ext e2) sv)
  | .f m :: r, O, μ, g, H, Q, s, p => by
    simp only [evA] at p
    refine ⟨O, ρ, μ, g, s, ?_⟩
    cases q : m ρ g with
    | bad => rw [q] at p; exact p.elim
    | ex e g' =>
      rw [q] at p
      exact fun d μ' H' s' e' x => p d O μ' H' s' e' (fun _ h => h) x
    | ok xs g' =>
      rw [q] at p
      simp only [Res.bind_ok] at p
      intro ws μ1 H1 s1 e1 r1
      by_cases hz : xs.length ≤ 1000000
      rotate_left
      · rw [if_neg hz] at p
        exact p.elim
      rw [if_pos hz] at p
      refine ⟨by rw [← r1.len]; exact lim_ok hz, fun l hl => ?_⟩
      have s2 := s1.hold (vs := ws) hl
      have e2 := Ex.new s1 (o := .lst ws) hl
      refine evA_ok s2 ?_
      cases q2 : evA r ρ g' with
      | bad => rw [q2] at p; exact p.elim
      | ex e g2 =>
        rw [q2] at p
        exact fun d O' μ' H' s' e' h1 x => p d O' μ' H' s' ((e1.trans e2).trans e') (fun a h => h1 a (.inl h)) x
      | ok l' g2 =>
        rw [q2] at p
        simp only [Res.bind_ok] at p
        intro vs μ3 H3 O' s3 e3 h1 h2 sv
        have nl : l ∉ μ1 := s1.freeM hl
        obtain ⟨k1, k2⟩ := e3.keep l _ upd_same (lst_nt ws) nl
        have back : ∀ a, O' a → O a ∨ Nn H1 a := fun a z => by
          rcases h2 a z with (z | z) | z
          · exact .inl z
          · rw [z]
            exact .inr (Nn.of hl)
          · exact .inr (e2.back z)
        refine p _ μ3 H3 O' s3 ((e1.trans e2).trans e3) (fun a h => h1 a (.inl h)) (fun a z => (back a z).imp id e1.back) (.ml k1 (((r1.up fun a z => z.elim (fun z => (back a z).imp .inl id) fun z => .inl (.inr z)).ext e2).ext e3) k2 (h1 l (.inr rfl)) (fun z => ?_) (fun z => ?_) sv)
        · obtain ⟨⟨w, z⟩, _⟩ := s1.ob l z
          rw [hl] at z
          cases z
        · obtain ⟨w, z⟩ := s1.own (.inr z)
          rw [hl] at z
          cases z
end
end Sh

set_option Elab.async false
set_option linter.all false
set_option maxRecDepth 100000
set_option maxHeartbeats 2000000
namespace Sh
open PySem PySem.Spec L2
def setA : List Nat → List Sl → En → En
  | i :: is, s :: l, ρ => setA is l (ρ.set i s)
  | _, _, ρ => ρ
def setV : List Nat → List V → L2.St → L2.St
  | i :: is, s :: l, σ => setV is l (σ.set i (some s))
  | _, _, σ => σ
section
variable {K : PySem.W.Frag} {t : List (Addr × Str)} {O O' : Addr → Prop} {ρ : En} {σ : L2.St} {μ μ' : List Addr} {H H' : Hp} {g : Gs}
theorem StR.lessO (s : StR K ⟨t, O'⟩ μ g ρ σ H) (h : ∀ a, O a → O' a) : StR K ⟨t, O⟩ μ g ρ σ H := by
  have ho : ∀ a, ow ⟨t, O⟩ ρ σ a → ow ⟨t, O'⟩ ρ σ a := fun a z => z.imp (h a) id
  refine ⟨s.len, s.nd, fun l a o e1 e2 => (s.gl l a o e1 e2).less ho, s.el, fun i x e => ?_, fun i xs e => ?_, s.sep, fun a z => s.ob a (h a z), fun i xs a e1 e2 z => s.os i xs a e1 e2 (h a z), s.tb⟩
  · obtain ⟨v, e1, e2⟩ := s.en i x e
    exact ⟨v, e1, e2.less ho⟩
  · obtain ⟨a, vs, e1, e2, e3, e4⟩ := s.em i xs e
    exact ⟨a, vs, e1, e2, e3, e4.less ho⟩
theorem sl_ml {i : Nat} {xs : List D} {p a : Addr} (h : sl (ρ.set i (.ml xs)) (σ.set i (some (.ref p))) a) : sl ρ σ a ∨ a = p := by
  obtain ⟨j, ys, h1, h2⟩ := h
  rcases set_get h1 with ⟨ei, e⟩ | ⟨n1, e⟩
  · rcases set_get h2 with ⟨_, f⟩ | ⟨n, _⟩
    · cases f
      exact .inr rfl
    · exact absurd ei n
  · rcases set_get h2 with ⟨n2, _⟩ | ⟨_, e2⟩
    · exact absurd n2 n1
    · exact .inl ⟨j, ys, e, e2⟩
/-- a slot takes a list that was held back -/
theorem StR.take (s : StR K ⟨t, O⟩ μ g ρ σ H) (i : Nat) {xs : List D} {p : Addr} {ws : List V} (hp : O p) (hH : H p = some (.lst ws)) (hr : Rps K H μ (fun a => O a ∨ sl ρ σ a) xs ws) (hm : p ∉ μ) (hs : ¬ sl ρ σ p) :
    StR K ⟨t, fun a => O a ∧ a ≠ p⟩ μ g (ρ.set i (.ml xs)) (σ.set i (some (.ref p))) H := by
  have ho : ∀ a, ow ⟨t, fun a => O a ∧ a ≠ p⟩ (ρ.set i (.ml xs)) (σ.set i (some (.ref p))) a → ow ⟨t, O⟩ ρ σ a := fun a z => by
    rcases z with z | z
    · exact .inl z.1
    · rcases sl_ml z with z | z
      · exact .inr z
      · rw [z]
        exact .inl hp
  refine ⟨s.len, s.nd, fun l a o e1 e2 => (s.gl l a o e1 e2).less ho, by rw [List.length_set, List.length_set]; exact s.el, fun j x e => ?_, fun j ys e => ?_, fun j k ys zs a e1 e2 e3 e4 => ?_, fun a z => s.ob a z.1, fun j ys a e1 e2 z => ?_, s.tb⟩
  · rcases set_get e with ⟨_, e⟩ | ⟨ne, e⟩
    · cases e
    · obtain ⟨w, e1, e2⟩ := s.en j x e
      exact ⟨w, by rw [List.getElem?_set_ne ne]; exact e1, e2.less ho⟩
  · rcases set_get e with ⟨ei, e'⟩ | ⟨ne, e'⟩
    · cases e'
      subst ei
      have hi : i < σ.length := by
        rw [← s.el]
        have := (List.getElem?_eq_some_iff.mp e).1
        rw [List.length_set] at this
        exact this
      exact ⟨p, ws, by rw [List.getElem?_set_self hi], hH, hm, hr.less ho⟩
    · obtain ⟨a, vs, e1, e2, e3, e4⟩ := s.em j ys e'
      exact ⟨a, vs, by rw [List.getElem?_set_ne ne]; exact e1, e2, e3, e4.less ho⟩
  · rcases set_get e1 with ⟨ej, f1⟩ | ⟨nj, f1⟩
    · rcases set_get e2 with ⟨_, f2⟩ | ⟨n, _⟩
      · cases f2
        rcases set_get e3 with ⟨ek, _⟩ | ⟨nk, f3⟩
        · rw [← ej, ← ek]
        · rcases set_get e4 with ⟨ek, _⟩ | ⟨_, f4⟩
          · exact absurd ek nk
          · exact absurd ⟨k, zs, f3, f4⟩ hs
      · exact absurd ej n
    · rcases set_get e2 with ⟨ej, _⟩ | ⟨_, f2⟩
      · exact absurd ej nj
      · rcases set_get e3 with ⟨ek, f3⟩ | ⟨nk, f3⟩
        · rcases set_get e4 with ⟨_, f4⟩ | ⟨n, _⟩
          · cases f4
            exact absurd ⟨j, ys, f1, f2⟩ hs
          · exact absurd ek n
        · rcases set_get e4 with ⟨ek, _⟩ | ⟨_, f4⟩
          · exact absurd ek nk
          · exact s.sep j k ys zs a f1 f2 f3 f4
  · rcases set_get e1 with ⟨ej, f1⟩ | ⟨nj, f1⟩
    · rcases set_get e2 with ⟨_, f2⟩ | ⟨n, _⟩
      · cases f2
        exact z.2 rfl
      · exact absurd ej n
    · rcases set_get e2 with ⟨ej, _⟩ | ⟨_, f2⟩
      · exact absurd ej nj
      · exact s.os j ys a f1 f2 z.1
theorem SvR.less {o s s' : Addr → Prop} {O0 : Addr → Prop} {l : List Sl} {vs : List V} (r : SvR K H μ o s O0 l vs) {o' : Addr → Prop} (h : ∀ a, o' a ∨ s' a → o a ∨ s a) (h1 : ∀ a, o a → ¬ O0 a → o' a) (h2 : ∀ a, s' a → s a ∨ O0 a) : SvR K H μ o' s' O0 l vs := by
  induction r with
  | nil => exact .nil
  | d x _ ih => exact .d (x.less h) (ih h1 h2)
  | ml e x nm ho n0 ns _ ih => exact .ml e (x.less h) nm (h1 _ ho n0) n0 (fun z => (h2 _ z).elim ns n0) (ih (fun a z n => h1 a z fun w => n (.inl w)) fun a z => (h2 a z).imp id .inl)
/-- the slots are set, one after another -/
theorem StR.sets : ∀ {is : List Nat} {l : List Sl} {vs : List V} {O' O0 : Addr → Prop} {ρ : En} {σ : L2.St}, StR K ⟨t, O'⟩ μ g ρ σ H → SvR K H μ O' (sl ρ σ) O0 l vs → (∀ a, O a → O' a ∧ O0 a) →
    StR K ⟨t, O⟩ μ g (setA is l ρ) (setV is vs σ) H ∧ ∀ a, sl (setA is l ρ) (setV is vs σ) a → sl ρ σ a ∨ (O' a ∧ ¬ O0 a)
  | [], l, vs, O', O0, ρ, σ, s, r, h => by
    have e1 : setA [] l ρ = ρ := by cases l <;> rfl
    have e2 : setV [] vs σ = σ := by cases vs <;> rfl
    rw [e1, e2]
    exact ⟨s.lessO fun a z => (h a z).1, fun a z => .inl z⟩
  | i :: is, _, _, O', O0, ρ, σ, s, .nil, h => ⟨s.lessO fun a z => (h a z).1, fun a z => .inl z⟩
  | i :: is, _, _, O', O0, ρ, σ, s, .d (d := d) (v := v) x r, h => by
    have s2 := s.set i (T := ⟨t, O'⟩) x
    have r2 := r.less (s' := sl (ρ.set i (.d d)) (σ.set i (some v))) (o' := O') (fun a z => z.imp id sl_set) (fun a z _ => z) fun a z => .inl (sl_set z)
    obtain ⟨q1, q2⟩ := StR.sets (is := is) s2 r2 h
    exact ⟨q1, fun a z => (q2 a z).imp sl_set id⟩
  | i :: is, _, _, O', O0, ρ, σ, s, .ml (xs := xs) (p := p) e x nm ho n0 ns r, h => by
    have s2 := s.take i ho e x nm ns
    have r2 := r.less (s' := sl (ρ.set i (.ml xs)) (σ.set i (some (.ref p)))) (o' := fun a => O' a ∧ a ≠ p) (fun a z => by
      rcases z with z | z
      · exact .inl z.1
      · rcases sl_ml z with z | z
        · exact .inr z
        · rw [z]
          exact .inl ho) (fun a z n => ⟨z, fun w => n (.inr w)⟩) fun a z => by
        rcases sl_ml z with z | z
        · exact .inl z
        · exact .inr (.inr z)
    obtain ⟨q1, q2⟩ := StR.sets (is := is) s2 r2 fun a z => ⟨⟨(h a z).1, fun w => n0 (w ▸ (h a z).2)⟩, .inl (h a z).2⟩
    refine ⟨q1, fun a z => ?_⟩
    rcases q2 a z with z | ⟨z1, z2⟩
    · rcases sl_ml z with z | z
      · exact .inl z
      · rw [z]
        exact .inr ⟨ho, n0⟩
    · exact .inr ⟨z1.1, fun w => z2 (.inl w)⟩
end
section
variable {X : Cx} {T : Tb} {W : WX} {e a b c e1 e2 e3 : Expr} {es : List Expr} {pos p p2 : Pos} {ma mb mc : EM} {ml : LM} {ba : BM} {st : Stmt} {sts sts' rest : List Stmt} {m m1 m2 : SM}
/-- slots take what the args give -/
def sPar (is : List Nat) (args : List Arg) : SM := fun ρ g => eS (evA args ρ g) fun l g' => .nx (setA is l ρ) g'
/-- an argument's judgement -/
def MR (X : Cx) (T : Tb) (W : WX) (e : Expr) (a : Arg) : Prop := PE X e (rdA X.K T.t W a)
theorem mr_v (h : ∀ T', T'.t = T.t → ME X T' W e ma) : MR X T W e (.v ma) := ⟨fun pins s σ H Q I ⟨O, q⟩ => (h ⟨T.t, O⟩ rfl).run pins s σ H Q I q⟩
/-- a written list -/
theorem mr_f (h : ∀ T', T'.t = T.t → MA X T' W es ml) : MR X T W (.List es pos) (.f ml) := by
  show PE X _ (tLst fun σ H Q => ∃ O, tL X.K ⟨T.t, O⟩ W ml σ H Q)
  exact pe_lst ⟨fun pos pins s σ H Q I ⟨O, q⟩ => (h ⟨T.t, O⟩ rfl).run pos pins s σ H Q I q⟩
theorem SvR.len {K : PySem.W.Frag} {H : Hp} {μ : List Addr} {O s O0 : Addr → Prop} {l : List Sl} {vs : List V} (r : SvR K H μ O s O0 l vs) : l.length = vs.length := by
  induction r with
  | nil => rfl
  | d _ _ ih => simp [ih]
  | ml _ _ _ _ _ _ _ ih => simp [ih]
theorem evA_len : ∀ {args : List Arg} {ρ : En} {g g' : Gs} {l : List Sl}, evA args ρ g = .ok l g' → l.length = args.length
  | [], _, _, _, _, h => by cases h; rfl
  | .v m :: r, ρ, g, g', l, h => by
    simp only [evA] at h
    cases q : m ρ g with
    | ok d g1 =>
      rw [q] at h
      simp only [Res.bind_ok] at h
      cases q2 : evA r ρ g1 with
      | ok l2 g2 =>
        rw [q2] at h
        cases h
        simp [evA_len q2]
      | ex e g2 => rw [q2] at h; cases h
      | bad => rw [q2] at h; cases h
    | ex e g2 => rw [q] at h; cases h
    | bad => rw [q] at h; cases h
  | .f m :: r, ρ, g, g', l, h => by
    simp only [evA] at h
    cases q : m ρ g with
    | ok d g1 =>
      rw [q] at h
      simp only [Res.bind_ok] at h
      split at h
      · cases q2 : evA r ρ g1 with
        | ok l2 g2 =>
          rw [q2] at h
          cases h
          simp [evA_len q2]
        | ex e g2 => rw [q2] at h; cases h
        | bad => rw [q2] at h; cases h
      · cases h
    | ex e g2 => rw [q] at h; cases h
    | bad => rw [q] at h; cases h
theorem w_par {K : PySem.W.Frag} {is : List Nat} {args : List Arg} {D : Ends} {σ : L2.St} {H : Hp} {Q' : List V → Hp → Prop} (h : tS K T W (sPar is args) D σ H) (hQ : ∀ vs H1, vs.length = args.length → D.nx (setV is vs σ) H1 → Q' vs H1) : tAr K T.t W args σ H Q' := by
  obtain ⟨ρ, μ, g, s, p⟩ := h
  refine evA_ok (O := T.O) s ?_
  unfold sPar at p
  cases q : evA args ρ g with
  | bad => rw [q] at p; exact p
  | ex e g' =>
    rw [q] at p
    exact fun d O' μ' H' s' x h1 r => p d ρ σ μ' H' (s'.lessO (O := T.O) h1) (.of x) (by
      rcases r with r | ⟨dd, fv, r1, r2, r3, r4, r5, r6⟩
      · exact .inl r
      · exact .inr ⟨dd, fv, r1, r2, r3, r4, fun z => r5 (z.imp (h1 _) id), r6.mapP fun _ _ r => r.less fun a z => z.imp (h1 _) id⟩)
  | ok l g' =>
    rw [q] at p
    intro vs μ' H' O' s' x h1 h2 sv
    obtain ⟨q1, q2⟩ := StR.sets (is := is) (O := T.O) s' sv fun a z => ⟨h1 a z, z⟩
    refine hQ vs H' (by rw [← sv.len, evA_len q]) (p _ μ' H' q1 ⟨x.pre, fun a u k1 k2 k3 k4 => ?_, x.th⟩)
    obtain ⟨y1, y2⟩ := x.keep a u k1 k2 k3
    refine ⟨y1, y2, fun z => ?_⟩
    rcases q2 a z with z | ⟨z1, z2⟩
    · exact k4 z
    · rcases h2 a z1 with z | z
      · exact z2 z
      · obtain ⟨ps, e⟩ := z _ k1
        exact (k2 ps e).elim
/-- x = [..], a list of its own -/
theorem ms_new {i : Nat} {x : Str} {pos' : Pos} (hN : X.N.Nodup) (he : ∀ T', T'.t = T.t → MA X T' W es ml) (hi : X.N[i]? = some x := by rfl) (hx : Loc X.env.scope x := by first | exact Or.inl rfl | exact Or.inr rfl) (hs : swapsWith (.List es p) (some (.Name x pos')) pos.line X.env = pure false := by rfl)
    (hf : X.fn x = true ∨ X.env.scope.names.lookup x = some .local := by first | exact .inl rfl | exact .inr rfl | assumption) : MS X T W (.Assign [.Name x pos'] (.List es p) pos) (sPar [i] [.f ml]) :=
  PS.weak (ps_set hN hi hx (mr_f he) hs hf) fun D σ H h => by
    refine w_par (is := [i]) (args := [.f ml]) (Q' := fun vs H1 => match vs with | [v] => D.nx (σ.set i (some v)) H1 | _ => True) h (fun vs H1 hl hn => ?_)
    match vs, hl, hn with
    | [v], _, hn => exact hn
theorem ms_par2 {i j : Nat} {x y : Str} {a1 a2 : Arg} {px py pt : Pos} {kt k2 pt2} (hc : X.calm = true) (hN : X.N.Nodup) (h1 : MR X T W a a1) (h2 : MR X T W b a2)
    (hw : swappedStores [.Tuple [.Name x px, .Name y py] kt pt] (.Tuple [a, b] k2 pt2) X.env = pure (some [x, y])) (hij : i ≠ j := by decide) (hi : X.N[i]? = some x := by rfl) (hj : X.N[j]? = some y := by rfl)
    (hx : X.env.scope.names.lookup x = some .local := by rfl) (hy : X.env.scope.names.lookup y = some .local := by rfl)
    (hs : swapsWithSole [.Tuple [.Name x px, .Name y py] kt pt] (.Tuple [a, b] k2 pt2) pos.line X.env = pure false := by rfl)
    (s1 : starEach [a, b] X.env = (false, eval a X.env) :: starEach [b] X.env := by rfl) (s2 : starEach [b] X.env = (false, eval b X.env) :: starEach [] X.env := by rfl) :
    MS X T W (.Assign [.Tuple [.Name x px, .Name y py] kt pt] (.Tuple [a, b] k2 pt2) pos) (sPar [i, j] [a1, a2]) :=
  PS.weak (ps_par hc hN hi hj hij hx hy (pa_cons h1 (pa_cons h2 pa_nil s2) s1) hw hs) fun D σ H h => by
    refine w_par (is := [i, j]) (args := [a1, a2]) h (fun vs H1 hl hn => ?_)
    match vs, hl, hn with
    | [v, w], _, hn => exact ⟨v, w, rfl, hn⟩
theorem ms_par3 {i j l : Nat} {x y z : Str} {a1 a2 a3 : Arg} {px py pz pt : Pos} {kt k2 pt2} (hc : X.calm = true) (hN : X.N.Nodup) (h1 : MR X T W a a1) (h2 : MR X T W b a2) (h3 : MR X T W c a3)
    (hw : swappedStores [.Tuple [.Name x px, .Name y py, .Name z pz] kt pt] (.Tuple [a, b, c] k2 pt2) X.env = pure (some [x, y, z])) (hij : i ≠ j := by decide) (hil : i ≠ l := by decide) (hjl : j ≠ l := by decide) (hi : X.N[i]? = some x := by rfl) (hj : X.N[j]? = some y := by rfl) (hl : X.N[l]? = some z := by rfl)
    (hx : X.env.scope.names.lookup x = some .local := by rfl) (hy : X.env.scope.names.lookup y = some .local := by rfl) (hz : X.env.scope.names.lookup z = some .local := by rfl)
    (hs : swapsWithSole [.Tuple [.Name x px, .Name y py, .Name z pz] kt pt] (.Tuple [a, b, c] k2 pt2) pos.line X.env = pure false := by rfl)
    (s1 : starEach [a, b, c] X.env = (false, eval a X.env) :: starEach [b, c] X.env := by rfl) (s2 : starEach [b, c] X.env = (false, eval b X.env) :: starEach [c] X.env := by rfl) (s3 : starEach [c] X.env = (false, eval c X.env) :: starEach [] X.env := by rfl) :
    MS X T W (.Assign [.Tuple [.Name x px, .Name y py, .Name z pz] kt pt] (.Tuple [a, b, c] k2 pt2) pos) (sPar [i, j, l] [a1, a2, a3]) :=
  PS.weak (ps_par3 hc hN hi hj hl hij hil hjl hx hy hz (pa_cons h1 (pa_cons h2 (pa_cons h3 pa_nil s3) s2) s1) hw hs) fun D σ H h => by
    refine w_par (is := [i, j, l]) (args := [a1, a2, a3]) h (fun vs H1 hl hn => ?_)
    match vs, hl, hn with
    | [u, v, w], _, hn => exact ⟨u, v, w, rfl, hn⟩
end
end Sh

set_option Elab.async false
set_option linter.all false
set_option maxRecDepth 100000
set_option maxHeartbeats 2000000
namespace Sh
open PySem PySem.Spec L2
section
variable {K : PySem.W.Frag} {T : Tb} {t : List (Addr × Str)} {O O' : Addr → Prop} {ρ : En} {σ : L2.St} {μ μ' : List Addr} {H H' : Hp} {g : Gs}
def isMut : HO → Prop
  | .lst _ => True
  | .ins _ _ _ => True
  | _ => False
theorem tabs_at {L : List (Addr × Str)} (tb : LamX.Tabs L H) (h : ∀ b o, H b = some o → ¬ isMut o → H' b = some o) : LamX.Tabs L H' := fun p hp => by
  obtain ⟨ps, h1, h2, h3⟩ := tb p hp
  refine ⟨ps, h _ _ h1 (fun z => z), h2, fun pos cv hc => ?_⟩
  obtain ⟨c, e1, e2⟩ := h3 pos cv hc
  exact ⟨c, e1, h _ _ e2 (fun z => by unfold LamX.CodeO at z; exact z)⟩
/-- something of the state's own is changed: what values say stays -/
structure Apart (K : PySem.W.Frag) (T : Tb) (μ : List Addr) (g : Gs) (ρ : En) (σ : L2.St) (H : Hp) (a : Addr) (o : HO) : Prop where
  st : StR K T μ g ρ σ H
  mt : ∃ u, H a = some u ∧ isMut u
  own : a ∈ μ ∨ sl ρ σ a
theorem Apart.ne {a b : Addr} {o : HO} (A : Apart K T μ g ρ σ H a o) (h1 : b ∉ μ) (h2 : ¬ sl ρ σ b) : b ≠ a := fun e => by
  rw [e] at h1 h2
  exact A.own.elim h1 h2
theorem Apart.ht {a : Addr} {o : HO} (A : Apart K T μ g ρ σ H a o) : ∀ b vs, TupAt K H μ (ow T ρ σ) b vs → TupAt K (upd H a o) μ (ow T ρ σ) b vs := fun b vs t =>
  t.imp (fun ⟨e, n, m⟩ => ⟨by rw [upd_ne (A.ne n fun z => m (.inr z))]; exact e, n, m⟩) id
theorem Apart.hl {a : Addr} {o : HO} (A : Apart K T μ g ρ σ H a o) : ∀ b vs, LstAt K H μ (ow T ρ σ) b vs → LstAt K (upd H a o) μ (ow T ρ σ) b vs := fun b vs t =>
  t.imp (fun ⟨r, n, m⟩ => ⟨r.imp (fun e => by rw [upd_ne (A.ne n fun z => m (.inr z))]; exact e) fun ⟨ob, e⟩ => ⟨ob, by rw [upd_ne (A.ne n fun z => m (.inr z))]; exact e⟩, n, m⟩) id
theorem Apart.hd {a : Addr} {o : HO} (A : Apart K T μ g ρ σ H a o) : ∀ b ks vs, DicAt H μ (ow T ρ σ) b ks vs → DicAt (upd H a o) μ (ow T ρ σ) b ks vs := fun b ks vs ⟨e, n, m, r⟩ =>
  ⟨by rw [upd_ne (A.ne n fun z => m (.inr z))]; exact e, n, m, r⟩
theorem Apart.r {a : Addr} {o : HO} (A : Apart K T μ g ρ σ H a o) {d : D} {v : V} (r : Rp K H μ (ow T ρ σ) d v) : Rp K (upd H a o) μ (ow T ρ σ) d v := Rp.mapP A.ht A.hl (fun _ _ h => h) A.hd d v r
theorem Apart.rs {a : Addr} {o : HO} (A : Apart K T μ g ρ σ H a o) {d : List D} {v : List V} (r : Rps K H μ (ow T ρ σ) d v) : Rps K (upd H a o) μ (ow T ρ σ) d v := Rps.mapP A.ht A.hl (fun _ _ h => h) A.hd d v r
theorem Apart.tb {a : Addr} {o : HO} (A : Apart K T μ g ρ σ H a o) : LamX.Tabs T.t (upd H a o) := tabs_at A.st.tb fun b u e n => by
  have nb : b ≠ a := fun z => by
    obtain ⟨w, hw, hm⟩ := A.mt
    rw [z, hw] at e
    cases e
    exact n hm
  rw [upd_ne nb]
  exact e
/-- a slot's own list is written -/
theorem StR.wml (s : StR K T μ g ρ σ H) {i : Nat} {xs ys : List D} {p : Addr} {vs ws : List V} (hi : ρ[i]? = some (.ml xs)) (hp : σ[i]? = some (some (.ref p))) (hH : H p = some (.lst vs)) (r : Rps K H μ (ow T ρ σ) ys ws) :
    StR K T μ g (ρ.set i (.ml ys)) σ (upd H p (.lst ws)) ∧ ExS μ (sl ρ σ) H μ (sl (ρ.set i (.ml ys)) σ) (upd H p (.lst ws)) := by
  have A : Apart K T μ g ρ σ H p (.lst ws) := ⟨s, ⟨_, hH, trivial⟩, .inr ⟨i, xs, hi, hp⟩⟩
  have hsl : ∀ a, sl (ρ.set i (.ml ys)) σ a → sl ρ σ a := fun a ⟨j, zs, h1, h2⟩ => by
    rcases set_get h1 with ⟨ei, _⟩ | ⟨_, e⟩
    · rw [← ei] at h2
      exact ⟨i, xs, hi, h2⟩
    · exact ⟨j, zs, e, h2⟩
  have ho : ∀ a, ow T (ρ.set i (.ml ys)) σ a → ow T ρ σ a := fun a h => h.imp id (hsl a)
  obtain ⟨b, ws0, q1, q2, pm, q4⟩ := s.em i xs hi
  rw [hp] at q1
  cases q1
  have hm : ∀ (j : Nat) zs, (ρ.set i (.ml ys))[j]? = some (.ml zs) → ∃ ws, ρ[j]? = some (.ml ws) := fun j zs e => by
    rcases set_get e with ⟨ei, _⟩ | ⟨_, e⟩
    · rw [← ei]
      exact ⟨xs, hi⟩
    · exact ⟨zs, e⟩
  refine ⟨⟨s.len, s.nd, fun l a o e1 e2 => ?_, by rw [List.length_set]; exact s.el, fun j x e => ?_, fun j zs e => ?_, fun j k zs ws' a e1 e2 e3 e4 => ?_, fun a z => ?_, fun j zs a e1 e2 => ?_, A.tb⟩, ⟨⟨[], by simp⟩, fun a u k1 _ k3 k4 => ⟨by rw [upd_ne (A.ne k3 k4)]; exact k1, k3, fun z => k4 (hsl a z)⟩, fun a u k kn => ?_⟩⟩
  · have ha : a ∈ μ := List.mem_of_getElem? e1
    exact ((s.gl l a o e1 e2).mapP (fun u e _ => by rw [upd_ne (show a ≠ p from fun z => pm (z ▸ ha))]; exact e) (fun _ _ r => A.r r) (fun _ _ r => A.rs r) fun dx n1 n2 q => ⟨by rw [upd_ne (A.ne n1 fun z => n2 (.inr z))]; exact q, n1, n2⟩).less ho
  · rcases set_get e with ⟨_, e⟩ | ⟨_, e⟩
    · cases e
    · obtain ⟨w, e1, e2⟩ := s.en j x e
      exact ⟨w, e1, (A.r e2).less ho⟩
  · rcases set_get e with ⟨ei, e⟩ | ⟨ne, e⟩
    · cases e
      rw [← ei]
      exact ⟨p, ws, hp, upd_same, pm, (A.rs r).less ho⟩
    · obtain ⟨a, us, e1, e2, e3, e4⟩ := s.em j zs e
      refine ⟨a, us, e1, ?_, e3, (A.rs e4).less ho⟩
      rw [upd_ne (show a ≠ p from fun z => ne (s.sep i j xs zs p hi hp e (by rw [← z]; exact e1)))]
      exact e2
  · obtain ⟨_, f1⟩ := hm j zs e1
    obtain ⟨_, f2⟩ := hm k ws' e3
    exact s.sep j k _ _ a f1 e2 f2 e4
  · obtain ⟨⟨us, e⟩, n⟩ := s.ob a z
    exact ⟨⟨us, by rw [upd_ne (show a ≠ p from fun w => s.os i xs p hi hp (w ▸ z))]; exact e⟩, n⟩
  · obtain ⟨_, f1⟩ := hm j zs e1
    exact s.os j _ a f1 e2
  · by_cases e : a = p
    · rw [e]
      exact ⟨_, upd_same, lst_nt _⟩
    · exact ⟨u, by rw [upd_ne e]; exact k, kn⟩
/-- an object of the state is written -/
theorem StR.wg (s : StR K T μ g ρ σ H) {l : Nat} {a : Addr} {o : HO} {ob : Ob} (hl : μ[l]? = some a) (hu : ∃ u, H a = some u ∧ isMut u) (hr : Apart K T μ g ρ σ H a o → ObR K (upd H a o) μ (ow T ρ σ) a ob) :
    StR K T μ (g.set l ob) ρ σ (upd H a o) ∧ Ex μ H μ (upd H a o) := by
  have ha : a ∈ μ := List.mem_of_getElem? hl
  have A : Apart K T μ g ρ σ H a o := ⟨s, hu, .inl ha⟩
  refine ⟨⟨by rw [List.length_set]; exact s.len, s.nd, fun k b x e1 e2 => ?_, s.el, fun j x e => ?_, fun j zs e => ?_, s.sep, fun b z => ?_, s.os, A.tb⟩, ⟨⟨[], by simp⟩, fun b u k1 _ k3 => ⟨by rw [upd_ne (show b ≠ a from fun z => k3 (z ▸ ha))]; exact k1, k3⟩, fun b u k kn => ?_⟩⟩
  · rcases set_get e2 with ⟨ek, ex⟩ | ⟨ne, e2⟩
    · subst ek
      rw [hl] at e1
      cases e1
      rw [ex]
      exact hr A
    · have nb : b ≠ a := fun z => by
        rw [z] at e1
        have h1 := (List.getElem?_eq_some_iff.mp hl)
        have h2 := (List.getElem?_eq_some_iff.mp e1)
        obtain ⟨l1, q1⟩ := h1
        obtain ⟨l2, q2⟩ := h2
        exact ne ((List.getElem_inj s.nd).mp (q1.trans q2.symm))
      exact (s.gl k b x e1 e2).mapP (fun u e _ => by rw [upd_ne nb]; exact e) (fun _ _ r => A.r r) (fun _ _ r => A.rs r) fun dx n1 n2 q => ⟨by rw [upd_ne (show dx ≠ a from fun z => n1 (z ▸ ha))]; exact q, n1, n2⟩
  · obtain ⟨w, e1, e2⟩ := s.en j x e
    exact ⟨w, e1, A.r e2⟩
  · obtain ⟨b, us, e1, e2, e3, e4⟩ := s.em j zs e
    exact ⟨b, us, e1, by rw [upd_ne (show b ≠ a from fun z => e3 (z ▸ ha))]; exact e2, e3, A.rs e4⟩
  · obtain ⟨⟨us, e⟩, n⟩ := s.ob b z
    exact ⟨⟨us, by rw [upd_ne (show b ≠ a from fun w => n (w ▸ ha))]; exact e⟩, n⟩
  · by_cases e : b = a
    · rw [e]
      refine ⟨_, upd_same, fun ps z => ?_⟩
      have q := hr A
      subst z
      cases ob with
      | lst xs =>
        obtain ⟨vs, e1, _⟩ := q
        rw [upd_same] at e1
        cases e1
      | ins c fs =>
        obtain ⟨dx, fv, e1, _⟩ := q
        rw [upd_same] at e1
        cases e1
    · exact ⟨u, by rw [upd_ne e]; exact k, kn⟩
end
section
variable {X : Cx} {T : Tb} {W : WX} {e a b c e1 e2 e3 : Expr} {es : List Expr} {pos p p2 p3 : Pos} {ma mb mc : EM} {ml : LM} {ba : BM} {st : Stmt} {sts sts' rest : List Stmt} {m m1 m2 : SM}
/-! ### a slot's own list: append, reads, stores -/
def mlOf (ρ : En) (i : Nat) : Option (List D) := match ρ[i]? with
  | some (.ml xs) => some xs
  | _ => none
theorem mlOf_eq {ρ : En} {i : Nat} {xs : List D} (h : mlOf ρ i = some xs) : ρ[i]? = some (.ml xs) := by
  unfold mlOf at h
  split at h
  · cases h
    assumption
  · cases h
def sApp (i : Nat) (a : EM) : SM := fun ρ g => match mlOf ρ i with
  | some xs => eS (a ρ g) fun d g' => if xs.length < 1000000 then .nx (ρ.set i (.ml (xs ++ [d]))) g' else .bad
  | none => .bad
theorem lt_ok {n : Nat} (h : n < 1000000) : n < sizeLine := by rw [sizeLine_eq]; omega
theorem ms_app (i : Nat) {x m : Str} (hm : m = "append") (he : ME X T W e ma) (hx : PE X (.Name x p) (tVar i)) (hs : swapsWith (.Call (.Attribute (.Name x p) m p2) [e] [] p3) none pos.line X.env = pure false := by rfl)
    (hb : PE X (.Call (.Attribute (.Name x p) m p2) [e] [] p3) (tBM X.K "list" rAppend (tVar i) (tCons (tE X.K T W ma) tNil))) : MS X T W (.Expr (.Call (.Attribute (.Name x p) m p2) [e] [] p3) pos) (sApp i ma) :=
  PS.weak (ps_expr hb hs) fun D σ H ⟨ρ, μ, g, s, q⟩ => by
    unfold sApp at q
    cases hl : mlOf ρ i with
    | none => rw [hl] at q; exact q.elim
    | some xs =>
      rw [hl] at q
      have hi := mlOf_eq hl
      obtain ⟨p, vs, k1, k2, k3, k4⟩ := s.em i xs hi
      refine ⟨.ref p, k1, .inl ⟨rfl, _, .inl (.inl k2)⟩, ρ, μ, g, s, (SPst.bindE q).imp fun y H1 ⟨d, μ1, g1, s1, x1, r1, q1⟩ => ?_⟩
      split at q1
      · rename_i hz
        obtain ⟨p', vs', k1', k2', k3', k4'⟩ := s1.em i xs hi
        rw [k1] at k1'
        cases k1'
        obtain ⟨s2, x2⟩ := s1.wml (ys := xs ++ [d]) (ws := vs' ++ [y]) hi k1 k2' (k4'.append (.cons r1 .nil))
        exact ⟨p, vs', y, rfl, rfl, k2', by rw [← k4'.len]; exact lt_ok hz, q1 σ μ1 _ s2 x2⟩
      · exact q1.elim
def mMlIx (i : Nat) (b : EM) : EM := fun ρ g => match mlOf ρ i with
  | some xs => (b ρ g).bind fun k g1 => match k with
    | .int k => (match atI xs k with
      | some d => .ok d g1
      | none => .bad)
    | _ => .bad
  | none => .bad
theorem me_mlix (i : Nat) {x : Str} (hx : PE X (.Name x p) (tVar i)) (hb : ME X T W b mb) (hs : PlainIx b := by exact fun _ _ => rfl) : ME X T W (.Subscript (.Name x p) b pos) (mMlIx i mb) := PE.weak (pe_ix ix_list hx hb hs) fun σ H Q ⟨ρ, μ, g, s, q⟩ => by
  unfold mMlIx at q
  cases hl : mlOf ρ i with
  | none => rw [hl] at q; exact q.elim
  | some xs =>
    rw [hl] at q
    have hi := mlOf_eq hl
    obtain ⟨p, vs, k1, k2, k3, k4⟩ := s.em i xs hi
    refine ⟨.ref p, k1, ρ, μ, g, s, (Pst.bind q).imp fun y H1 ⟨d, μ1, g1, s1, x1, r1, q1⟩ => ?_⟩
    cases d <;> try exact q1.elim
    rename_i k
    cases r1
    simp only at q1
    cases hk : atI xs k with
    | none => rw [hk] at q1; exact q1.elim
    | some d =>
      rw [hk] at q1
      obtain ⟨w1, _⟩ := x1.keep p _ k2 (lst_nt vs) k3
      obtain ⟨w, e1, e2⟩ := (k4.ext x1).atI hk
      exact ⟨p, vs, k, w, rfl, rfl, SqL.of w1, e1, Pst.pure q1 s1 e2⟩
def mMlLen (i : Nat) : EM := fun ρ g => match mlOf ρ i with
  | some xs => .ok (.int xs.length) g
  | none => .bad
theorem me_mllen (i : Nat) {x y : Str} (hx : PE X (.Name x p) (tVar i)) (hg : Gl X y) (hm : X.mg y = none) (hv : bootBuiltins y = some (.builtin "len")) (hn : y ≠ "__name__" := by decide) (hdb : (y == ("__debug__" : Str)) = false := by decide)
    (hs : starEach [.Name x p] X.env = (false, eval (.Name x p) X.env) :: starEach [] X.env := by rfl) (hpl : (backTo pos (starEach [] X.env)).any (·.1) = false := by rfl) : ME X T W (.Call (.Name y p2) [.Name x p] [] pos) (mMlLen i) :=
  PE.weak (pe_callB call_len_seq hg hm hv (pa_cons hx pa_nil hs) hn hdb hs hpl) fun σ H Q ⟨ρ, μ, g, s, q⟩ => by
    unfold mMlLen at q
    cases hl : mlOf ρ i with
    | none => rw [hl] at q; exact q.elim
    | some xs =>
      rw [hl] at q
      have hi := mlOf_eq hl
      obtain ⟨p, vs, k1, k2, k3, k4⟩ := s.em i xs hi
      exact ⟨.ref p, k1, p, vs, rfl, .inl (SqL.of k2), by rw [← k4.len]; exact Pst.pure q s (.int _)⟩
/-- x == e, x != e, x a slot's own list -/
def mMlEq (neg : Bool) (i : Nat) (b : EM) : EM := fun ρ g => match mlOf ρ i with
  | some xs => (b ρ g).bind fun y g1 => if plains 49 xs && plain 50 y then .ok (.bl (if neg then !eqD (.lst xs) y else eqD (.lst xs) y)) g1 else .bad
  | none => .bad
def rMl (K : PySem.W.Frag) (T : Tb) (W : WX) (neg : Bool) : R2 := fun x y H Q => ∃ ρ σ μ g xs p vs d, StR K T μ g ρ σ H ∧ x = .ref p ∧ H p = some (.lst vs) ∧ Rps K H μ (ow T ρ σ) xs vs ∧ Rp K H μ (ow T ρ σ) d y ∧ plains 49 xs = true ∧ plain 50 d = true ∧
  Pst K T Rp W ρ σ μ H Q (.ok (.bl (if neg then !eqD (.lst xs) d else eqD (.lst xs) d)) g)
theorem p_mleq {k : Nat} (hr : Room k X.A) : OpR X (compareOp .Eq) (rMl X.K T W false) := by
  intro pins s σ H x y v u Q I rx ry ⟨ρ, σ', μ, g, xs, p, vs, d, st, e1, e2, r1, r2, h1, h2, q⟩
  obtain ⟨as, q1⟩ : ∃ as, Reads s.heap v (toPy (.lst xs)) as := by
    rw [e1] at rx
    exact Dp.reads I _ _ v (by rw [toPy]; exact .lst (SqL.of e2) (r1.dp 49 xs vs h1)) rx
  obtain ⟨bs, q2⟩ := reads2 I r2 ry h2
  have h1' : plain 50 (.lst xs) = true := by simpa [plain] using h1
  obtain ⟨a1, a2⟩ := toPy_plain 50 _ h1'
  obtain ⟨b1, b2⟩ := toPy_plain 50 d h2
  have hu := hr.units
  refine PySem.SeqAt.eq_plain q1 q2 a1 b1 (by omega) ?_
  rw [eqv_toPy 50 50 _ d h1' h2]
  exact ⟨.bl _, H, I, rfl, Pst.pure q st (.bl _)⟩
theorem p_mlne {k : Nat} (hr : Room k X.A) : OpR X (compareOp .NotEq) (rMl X.K T W true) := by
  intro pins s σ H x y v u Q I rx ry ⟨ρ, σ', μ, g, xs, p, vs, d, st, e1, e2, r1, r2, h1, h2, q⟩
  obtain ⟨as, q1⟩ : ∃ as, Reads s.heap v (toPy (.lst xs)) as := by
    rw [e1] at rx
    exact Dp.reads I _ _ v (by rw [toPy]; exact .lst (SqL.of e2) (r1.dp 49 xs vs h1)) rx
  obtain ⟨bs, q2⟩ := reads2 I r2 ry h2
  have h1' : plain 50 (.lst xs) = true := by simpa [plain] using h1
  obtain ⟨a1, a2⟩ := toPy_plain 50 _ h1'
  obtain ⟨b1, b2⟩ := toPy_plain 50 d h2
  have hu := hr.units
  refine PySem.SeqAt.ne_plain q1 q2 a1 b1 (by omega) ?_
  rw [eqv_toPy 50 50 _ d h1' h2]
  exact ⟨.bl _, H, I, rfl, Pst.pure q st (.bl _)⟩
theorem w_mleq {neg : Bool} {i : Nat} {σ : L2.St} {H : Hp} {Q : VK} (h : tE X.K T W (mMlEq neg i mb) σ H Q) : tOp (rMl X.K T W neg) (tVar i) (tE X.K T W mb) σ H Q := by
  obtain ⟨ρ, μ, g, s, q⟩ := h
  unfold mMlEq at q
  cases hl : mlOf ρ i with
  | none => rw [hl] at q; exact q.elim
  | some xs =>
    rw [hl] at q
    have hi := mlOf_eq hl
    obtain ⟨p, vs, k1, k2, k3, k4⟩ := s.em i xs hi
    refine ⟨.ref p, k1, ρ, μ, g, s, (Pst.bind q).imp fun y H1 ⟨d, μ1, g1, s1, x1, r1, q1⟩ => ?_⟩
    by_cases hz : (plains 49 xs && plain 50 d) = true
    · simp only [if_pos hz] at q1
      obtain ⟨h1, h2⟩ := Bool.and_eq_true_iff.mp hz
      obtain ⟨w1, _⟩ := x1.keep p _ k2 (lst_nt vs) k3
      exact ⟨ρ, σ, μ1, g1, xs, p, vs, d, s1, rfl, w1, k4.ext x1, r1, h1, h2, q1⟩
    · simp only [if_neg hz] at q1
      exact q1.elim
theorem me_mleq (i : Nat) {x : Str} {k : Nat} (hr : Room k X.A) (hx : PE X (.Name x p) (tVar i)) (hb : ME X T W b mb) : ME X T W (.Compare (.Name x p) [.Eq] [b] pos) (mMlEq false i mb) := PE.weak (pe_cmpR (p_mleq hr) hx hb (nomark _)) fun _ _ _ h => w_mleq h
theorem me_mlne (i : Nat) {x : Str} {k : Nat} (hr : Room k X.A) (hx : PE X (.Name x p) (tVar i)) (hb : ME X T W b mb) : ME X T W (.Compare (.Name x p) [.NotEq] [b] pos) (mMlEq true i mb) := PE.weak (pe_cmpR (p_mlne hr) hx hb (nomark _)) fun _ _ _ h => w_mleq h
theorem mt_mleq (i : Nat) {x : Str} {k : Nat} (hr : Room k X.A) (hx : PE X (.Name x p) (tVar i)) (hb : ME X T W b mb) : MT X T W (.Compare (.Name x p) [.Eq] [b] pos) (mB (mMlEq false i mb)) := PT.weak (pt_cmpR (p_mleq hr) hx hb (nomark _)) fun _ _ _ h => by
  obtain ⟨ρ, μ, g, s, q⟩ := w_b h
  exact w_mleq ⟨ρ, μ, g, s, q⟩
theorem mt_mlne (i : Nat) {x : Str} {k : Nat} (hr : Room k X.A) (hx : PE X (.Name x p) (tVar i)) (hb : ME X T W b mb) : MT X T W (.Compare (.Name x p) [.NotEq] [b] pos) (mB (mMlEq true i mb)) := PT.weak (pt_cmpR (p_mlne hr) hx hb (nomark _)) fun _ _ _ h => by
  obtain ⟨ρ, μ, g, s, q⟩ := w_b h
  exact w_mleq ⟨ρ, μ, g, s, q⟩
/-! ### o[i] = e, o a list of the state -/
def sSub (a o i : EM) : SM := fun ρ g => eS (a ρ g) fun d g1 => eS (o ρ g1) fun od g2 => eS (i ρ g2) fun k g3 => match od, k with
  | .loc l, .int k => (match getLs g3 l with
    | some xs => (match ixN xs.length k with
      | some j => .nx ρ (g3.set l (.lst (xs.set j d)))
      | none => .bad)
    | none => .bad)
  | _, _ => .bad
theorem ms_sub {o i : Expr} {mo mi : EM} (ha : ME X T W a ma) (ho : ME X T W o mo) (hi : ME X T W i mi)
    (hsub : ∀ v, assign (.Subscript o i p) X.env v = (do
      let ov ← holding [v] (eval o X.env)
      let iv ← holding [v, ov] (eval i X.env)
      standAt p
      holding [v, ov, iv] (setItem ov iv v)
      release [v, ov, iv] []) := by intro _; rfl)
    (hs : swapsWithSole [.Subscript o i p] a pos.line X.env = pure false := by rfl) (hw : swappedStores [.Subscript o i p] a X.env = pure none := by rfl)
    (h1 : (assignEach [.Subscript o i p] X.env).map (·.2) = [assign (.Subscript o i p) X.env] := by rfl) : MS X T W (.Assign [.Subscript o i p] a pos) (sSub ma mo mi) :=
  PS.weak (ps_asg ha (pg_sub ho hi set_list hsub) hs hw h1) fun D σ H ⟨ρ, μ, g, s, q⟩ => by
    refine ⟨ρ, μ, g, s, (SPst.bindE q).imp fun v H1 ⟨d, μ1, g1, s1, x1, r1, q1⟩ => ⟨ρ, μ1, g1, s1, (SPst.bindE q1).imp fun ov H2 ⟨od, μ2, g2, s2, x2, r2, q2⟩ => ⟨ρ, μ2, g2, s2, (SPst.bindE q2).imp fun iv H3 ⟨k, μ3, g3, s3, x3, r3, q3⟩ => ?_⟩⟩⟩
    match od, k, r2, r3, q3 with
    | .loc l, .int k, r2, r3, q3 =>
    cases r3
    simp only at q3
    cases hl : getLs g3 l with
    | none => rw [hl] at q3; exact q3.elim
    | some xs =>
      rw [hl] at q3
      simp only at q3
      cases hk : ixN xs.length k with
      | none => rw [hk] at q3; exact q3.elim
      | some j =>
        rw [hk] at q3
        obtain ⟨a, vs, rfl, em, ea, rs⟩ := s3.lst hl (r2.ext x3)
        obtain ⟨s4, x4⟩ := s3.wg (o := .lst (vs.set j v)) (ob := .lst (xs.set j d)) em ⟨_, ea, trivial⟩ fun A => ⟨_, upd_same, A.rs (rs.set ((r1.ext x2).ext x3) j)⟩
        exact ⟨a, vs, k, j, rfl, rfl, ea, by rw [← rs.len]; exact hk, q3 σ μ3 _ s4 (.of x4)⟩
/-! ### x += e -/
def oAddI : D → D → Gs → Res D
  | .int i, .int j, g => .ok (.int (i + j)) g
  | _, _, _ => .bad
theorem p_iadd : OpR X (inplaceOp .Add) (rO X.K T W oAddI) := by
  intro pins s σ H x y v u Q I rx ry ⟨ρ, σ', μ, g, d, e, st, r1, r2, p⟩
  cases d <;> cases e <;> try exact p.elim
  cases r1; cases r2
  exact iop_add pins s σ H _ _ v u Q I rx ry ⟨_, _, rfl, rfl, Pst.pure p st (.int _)⟩
theorem p_isub : OpR X (inplaceOp .Sub) (rO X.K T W oSub) := by
  intro pins s σ H x y v u Q I rx ry ⟨ρ, σ', μ, g, d, e, st, r1, r2, p⟩
  cases d <;> cases e <;> try exact p.elim
  cases r1; cases r2
  exact iop_sub pins s σ H _ _ v u Q I rx ry ⟨_, _, rfl, rfl, Pst.pure p st (.int _)⟩
def sAug (i : Nat) (op : D → D → Gs → Res D) (a : EM) : SM := fun ρ g => eS (mV i ρ g) fun x _ => eS (a ρ g) fun y g1 => eS (op x y g1) fun z g2 => .nx (ρ.set i (.d z)) g2
theorem ms_aug {i : Nat} {x : Str} {o : Operator} {op : D → D → Gs → Res D} (ho : OpR X (inplaceOp o) (rO X.K T W op)) (hN : X.N.Nodup) (ha : ME X T W a ma) (hi : X.N[i]? = some x := by rfl) (hx : Loc X.env.scope x := by first | exact Or.inl rfl | exact Or.inr rfl)
    (hf : X.fn x = true ∨ X.env.scope.names.lookup x = some .local := by first | exact .inl rfl | exact .inr rfl | assumption) : MS X T W (.AugAssign (.Name x p) o a pos) (sAug i op ma) :=
  PS.weak (ps_aug hN hi hx ha ho hf) fun D σ H ⟨ρ, μ, g, s, q⟩ => by
    unfold sAug mV at q
    cases hr : ρ[i]? with
    | none => rw [hr] at q; exact q.elim
    | some z =>
      rw [hr] at q
      cases z with
      | no => exact q.elim
      | ml _ => exact q.elim
      | d x =>
        simp only [eS_ok] at q
        obtain ⟨v, k1, k2⟩ := s.en i x hr
        refine ⟨v, k1, ρ, μ, g, s, (SPst.bindE q).imp fun y H1 ⟨d, μ1, g1, s1, x1, r1, q1⟩ => ⟨ρ, σ, μ1, g1, x, d, s1, k2.ext x1, r1, (SPst.bindE q1).imp fun w H2 ⟨d2, μ2, g2, s2, x2, r2, q2⟩ => ?_⟩⟩
        exact q2 _ μ2 H2 (s2.set i r2) ((ExS.refl _ _ _).mono (fun _ h => h) fun _ h => sl_set h)
end
end Sh

set_option Elab.async false
set_option linter.all false
set_option maxRecDepth 100000
set_option maxHeartbeats 2000000
namespace Sh
open PySem PySem.Spec L2
/-! ### what is kept, by addresses -/
structure Kp (μ : List Addr) (o : Addr → Prop) (H : Hp) (μ' : List Addr) (o' : Addr → Prop) (H' : Hp) : Prop where
  ix : ∀ (l : Nat) a, μ[l]? = some a → μ'[l]? = some a
  keep : ∀ a u, H a = some u → (∀ ps, u ≠ .tbl ps) → a ∉ μ → ¬ o a → H' a = some u ∧ a ∉ μ' ∧ ¬ o' a
  fm : ∀ a, H' a = none → a ∉ μ'
  fo : ∀ a, H' a = none → ¬ o' a
section
variable {K : PySem.W.Frag} {T T2 : Tb} {t : List (Addr × Str)} {O O' : Addr → Prop} {ρ ρ' ρ2 : En} {σ σ' σ2 : L2.St} {μ μ' μ1 : List Addr} {H H' H1 : Hp} {g g' g1 g2 : Gs} {o o' : Addr → Prop}
theorem TupAt.kp {a : Addr} {vs : List V} (r : TupAt K H μ o a vs) (k : Kp μ o H μ' o' H') : TupAt K H' μ' o' a vs := r.imp (fun ⟨x, y, z⟩ => k.keep _ _ x (tup_nt _) y z) id
theorem LstAt.kp {a : Addr} {vs : List V} (r : LstAt K H μ o a vs) (k : Kp μ o H μ' o' H') : LstAt K H' μ' o' a vs := by
  rcases r with ⟨x | ⟨ob, x⟩, y, z⟩ | r
  · obtain ⟨h1, h2, h3⟩ := k.keep _ _ x (lst_nt _) y z
    exact .inl ⟨.inl h1, h2, h3⟩
  · obtain ⟨h1, h2, h3⟩ := k.keep _ _ x (frz_nt _ _) y z
    exact .inl ⟨.inr ⟨ob, h1⟩, h2, h3⟩
  · exact .inr r
theorem DicAt.kp {a : Addr} {ks : List Str} {vs : List V} (r : DicAt H μ o a ks vs) (k : Kp μ o H μ' o' H') : DicAt H' μ' o' a ks vs := by
  obtain ⟨x, y, z, r⟩ := r
  obtain ⟨h1, h2, h3⟩ := k.keep _ _ x (dK_nt _) y z
  exact ⟨h1, h2, h3, r⟩
theorem Rp.kp {d : D} {x : V} (r : Rp K H μ o d x) (k : Kp μ o H μ' o' H') : Rp K H' μ' o' d x := Rp.mapP (fun _ _ r => r.kp k) (fun _ _ r => r.kp k) k.ix (fun _ _ _ r => r.kp k) d x r
theorem Rps.kp {d : List D} {x : List V} (r : Rps K H μ o d x) (k : Kp μ o H μ' o' H') : Rps K H' μ' o' d x := Rps.mapP (fun _ _ r => r.kp k) (fun _ _ r => r.kp k) k.ix (fun _ _ _ r => r.kp k) d x r
theorem StR.fm (s : StR K T μ g ρ σ H) (a : Addr) (h : H a = none) : a ∉ μ := s.freeM h
theorem Kp.of (s : StR K T μ g ρ σ H) (s' : StR K T μ' g' ρ' σ' H') (e : ExS μ (sl ρ σ) H μ' (sl ρ' σ') H') : Kp μ (ow T ρ σ) H μ' (ow T ρ' σ') H' := by
  refine ⟨fun l a h => ?_, fun a u h n hn ho => ?_, fun a h => s'.freeM h, fun a h => s'.freeO h⟩
  · obtain ⟨m, e⟩ := e.pre
    rw [e, List.getElem?_append_left (List.getElem?_eq_some_iff.mp h).1]
    exact h
  · obtain ⟨h1, h2, h3⟩ := e.keep a u h n hn fun z => ho (.inr z)
    exact ⟨h1, h2, fun z => z.elim (fun z => ho (.inl z)) h3⟩
theorem Rp.extS (s : StR K T μ g ρ σ H) (s' : StR K T μ' g' ρ' σ' H') (e : ExS μ (sl ρ σ) H μ' (sl ρ' σ') H') {d : D} {x : V} (r : Rp K H μ (ow T ρ σ) d x) : Rp K H' μ' (ow T ρ' σ') d x := r.kp (Kp.of s s' e)
/-- back in the frame -/
theorem StR.back (s1 : StR K T μ1 g1 ρ σ H1) (e : Ex μ1 H1 μ H) (s2 : StR K T2 μ g2 ρ2 σ2 H) (ho : ∀ a, ow T ρ σ a → ow T2 ρ2 σ2 a) (ht : T2.t = T.t) : StR K T μ g2 ρ σ H := by
  refine ⟨s2.len, s2.nd, fun l a x e1 e2 => (s2.gl l a x e1 e2).less ho, s1.el, fun i x q => ?_, fun i xs q => ?_, s1.sep, fun a q => ?_, s1.os, ht ▸ s2.tb⟩
  · obtain ⟨v, q1, q2⟩ := s1.en i x q
    exact ⟨v, q1, q2.ext e⟩
  · obtain ⟨a, vs, q1, q2, q3, q4⟩ := s1.em i xs q
    obtain ⟨k1, k2⟩ := e.keep a _ q2 (lst_nt _) q3
    exact ⟨a, vs, q1, k1, k2, q4.ext e⟩
  · obtain ⟨⟨vs, q2⟩, q3⟩ := s1.ob a q
    obtain ⟨k1, k2⟩ := e.keep a _ q2 (lst_nt _) q3
    exact ⟨⟨vs, k1⟩, k2⟩
/-- something owned is written: values do not see it -/
theorem TupAt.wr {a b : Addr} {u : HO} {vs : List V} (h : o a) (r : TupAt K H μ o b vs) : TupAt K (upd H a u) μ o b vs := r.imp (fun ⟨x, y, z⟩ => ⟨by rw [upd_ne (fun e => z (by rw [e]; exact h))]; exact x, y, z⟩) id
theorem LstAt.wr {a b : Addr} {u : HO} {vs : List V} (h : o a) (r : LstAt K H μ o b vs) : LstAt K (upd H a u) μ o b vs := r.imp (fun ⟨x, y, z⟩ => ⟨x.imp (fun x => by rw [upd_ne (fun e => z (by rw [e]; exact h))]; exact x) fun ⟨ob, x⟩ => ⟨ob, by rw [upd_ne (fun e => z (by rw [e]; exact h))]; exact x⟩, y, z⟩) id
theorem DicAt.wr {a b : Addr} {u : HO} {ks : List Str} {vs : List V} (h : o a) (r : DicAt H μ o b ks vs) : DicAt (upd H a u) μ o b ks vs := by
  obtain ⟨x, y, z, r⟩ := r
  exact ⟨by rw [upd_ne (fun e => z (by rw [e]; exact h))]; exact x, y, z, r⟩
theorem Rp.wr {a : Addr} {u : HO} {d : D} {x : V} (h : o a) (r : Rp K H μ o d x) : Rp K (upd H a u) μ o d x := Rp.mapP (fun _ _ r => r.wr h) (fun _ _ r => r.wr h) (fun _ _ h => h) (fun _ _ _ r => r.wr h) d x r
theorem Rps.wr {a : Addr} {u : HO} {d : List D} {x : List V} (h : o a) (r : Rps K H μ o d x) : Rps K (upd H a u) μ o d x := Rps.mapP (fun _ _ r => r.wr h) (fun _ _ r => r.wr h) (fun _ _ h => h) (fun _ _ _ r => r.wr h) d x r
theorem StR.wO {p : Addr} {vs ws : List V} (s : StR K T μ g ρ σ H) (hp : T.O p) (hH : H p = some (.lst vs)) : StR K T μ g ρ σ (upd H p (.lst ws)) := by
  have po : ow T ρ σ p := .inl hp
  have pm : p ∉ μ := (s.ob p hp).2
  refine ⟨s.len, s.nd, fun l a x e1 e2 => ?_, s.el, fun i x e => ?_, fun i xs e => ?_, s.sep, fun a q => ?_, s.os, ?_⟩
  · have ha : a ∈ μ := List.mem_of_getElem? e1
    exact (s.gl l a x e1 e2).mapP (fun u e _ => by rw [upd_ne (show a ≠ p from fun z => pm (z ▸ ha))]; exact e) (fun _ _ r => r.wr po) (fun _ _ r => r.wr po) fun dx n1 n2 q => ⟨by rw [upd_ne (fun z => n2 (by rw [z]; exact po))]; exact q, n1, n2⟩
  · obtain ⟨v, q1, q2⟩ := s.en i x e
    exact ⟨v, q1, q2.wr po⟩
  · obtain ⟨a, us, q1, q2, q3, q4⟩ := s.em i xs e
    refine ⟨a, us, q1, ?_, q3, q4.wr po⟩
    rw [upd_ne (fun z => s.os i xs a e q1 (by rw [z]; exact hp))]
    exact q2
  · obtain ⟨⟨us, q1⟩, q2⟩ := s.ob a q
    by_cases ea : a = p
    · rw [ea]
      exact ⟨⟨ws, upd_same⟩, pm⟩
    · exact ⟨⟨us, by rw [upd_ne ea]; exact q1⟩, q2⟩
  · exact tabs_at s.tb fun b u e n => by
      rw [upd_ne (fun z => by rw [z, hH] at e; cases e; exact n trivial)]
      exact e
end
/-! ### what is walked -/
def rIt : RL (List D) It := fun K H μ ow ds J => ∀ μ' ow' H', Kp μ ow H μ' ow' H' → ∀ i, (i < ds.length → J.go i H' ∧ ∀ x H2, J.yld i H' x H2 → (H2 = H' ∨ ∃ p u, H' p = none ∧ H2 = upd H' p u) ∧ ∃ d, ds[i]? = some d ∧ Rp K H2 μ' ow' d x) ∧ (ds.length ≤ i → i ≤ ds.length → J.stop i H')
abbrev MI (X : Cx) (T : Tb) (W : WX) (tg it : Expr) (m : LM) : Prop := PI X tg it (tG X.K T rIt W m)
theorem PI.weak {X : Cx} {tg it : Expr} {t t' : TI} (h : PI X tg it t) (w : ∀ σ H R, t' σ H R → t σ H R) : PI X tg it t' := ⟨fun pins s σ H R I q => h.run pins s σ H R I (w σ H R q)⟩
section
variable {X : Cx} {T : Tb} {W : WX} {e a b c tg it : Expr} {es : List Expr} {pos p p2 : Pos} {ma mb mc me : EM} {ml mi : LM} {ba : BM} {st : Stmt} {sts sts' rest : List Stmt} {m m1 m2 : SM}
theorem yld_new {K : PySem.W.Frag} {μ : List Addr} {g : Gs} {ρ : En} {σ : L2.St} {H H2 : Hp} (s : StR K T μ g ρ σ H) (h : H2 = H ∨ ∃ p u, H p = none ∧ H2 = upd H p u) : StR K T μ g ρ σ H2 ∧ Ex μ H μ H2 := by
  rcases h with h | ⟨p, u, hp, h⟩
  · rw [h]
    exact ⟨s, .refl _ _⟩
  · rw [h]
    exact ⟨s.new hp, Ex.new s hp⟩
def forGo (f : GM) (body : SM) : List D → SM
  | [], ρ, g => .nx ρ g
  | d :: ds, ρ, g => match f d ρ with
    | some ρ1 => (match body ρ1 g with
      | .nx ρ2 g2 => forGo f body ds ρ2 g2
      | .ct ρ2 g2 => forGo f body ds ρ2 g2
      | .bk ρ2 g2 => .nx ρ2 g2
      | .rt d g2 => .rt d g2
      | .ex e g2 => .ex e g2
      | .bad => .bad)
    | none => .bad
def sFor (it : LM) (f : GM) (body : SM) : SM := fun ρ g => eS (it ρ g) fun ds g1 => forGo f body ds ρ g1
theorem ms_for {is : List Nat} {f : GM} (hp : PassesOwn (model X.prog X.w) X.A X.env X.xe) (hc : X.calm = true) (hi : MI X T W tg it mi) (hg : MG X T tg is f) (hb : MSs X T W sts m)
    (hs : ∀ x, foldedSetIterable it X.env x = pure x := by intro _; rfl) : MS X T W (.For tg it sts [] pos) (sFor mi f m) := PS.weak (ps_for hp hc hi hg.pg hb hs) fun D σ H ⟨ρ, μ, g, s, q⟩ => by
  refine ⟨ρ, μ, g, s, (SPst.bindE (rel := rIt) q).imp fun J H1 ⟨ds, μ1, g1, s1, e1, r1, q1⟩ => ?_⟩
  refine ⟨fun i m' σ' H' => (m' = ds.length - i ∧ i ≤ ds.length) ∧ ∃ ρ' μ' g', StR X.K T μ' g' ρ' σ' H' ∧ ExS μ1 (sl ρ σ) H1 μ' (sl ρ' σ') H' ∧ SPst X.K T W ρ' σ' μ' H' D (forGo f m (ds.drop i) ρ' g'), ⟨_, ⟨rfl, Nat.zero_le _⟩, ρ, μ1, g1, s1, .refl _ _ _, q1⟩, ?_⟩
  rintro i m' σ' H' ⟨⟨rfl, hle⟩, ρ', μ', g', s', e', q'⟩
  obtain ⟨h1, h2⟩ := r1 μ' _ H' (Kp.of s1 s' e') i
  by_cases hlt : i < ds.length
  · refine .inr ⟨(h1 hlt).1, fun σ2 H2 => ∃ ρ2 μ2 g2, StR X.K T μ2 g2 ρ2 σ2 H2 ∧ ExS μ1 (sl ρ σ) H1 μ2 (sl ρ2 σ2) H2 ∧ SPst X.K T W ρ2 σ2 μ2 H2 D (forGo f m (ds.drop (i + 1)) ρ2 g2), fun σ2 H2 ⟨ρ2, μ2, g2, z⟩ => ⟨_, by omega, ⟨rfl, hlt⟩, ρ2, μ2, g2, z⟩, fun x H2 hy => ?_⟩
    obtain ⟨hh, d, hd, rd⟩ := (h1 hlt).2 x H2 hy
    obtain ⟨s2, e2⟩ := yld_new s' hh
    rw [List.drop_eq_getElem_cons hlt] at q'
    have ed : ds[i] = d := by rw [List.getElem?_eq_getElem hlt] at hd; exact Option.some.inj hd
    rw [ed] at q'
    unfold forGo at q'
    cases hf : f d ρ' with
    | none => rw [hf] at q'; exact q'.elim
    | some ρ1 =>
      rw [hf] at q'
      simp only at q'
      refine ⟨ρ', μ', g', d, s2, rd, ρ1, hf, fun σ3 s3 l3 _ => ⟨ρ1, μ', g', s3, ?_⟩⟩
      have e3 : ExS μ' (sl ρ' σ') H' μ' (sl ρ1 σ3) H2 := (ExS.of (o := sl ρ' σ') e2).mono (fun _ h => h) l3
      cases hm : m ρ1 g' with
      | nx ρ2 g2 =>
        rw [hm] at q'
        exact fun σ4 μ4 H4 s4 e4 => ⟨ρ2, μ4, g2, s4, e'.trans (e3.trans e4), SPst.rebase q' (e3.trans e4)⟩
      | ct ρ2 g2 =>
        rw [hm] at q'
        exact fun σ4 μ4 H4 s4 e4 => ⟨ρ2, μ4, g2, s4, e'.trans (e3.trans e4), SPst.rebase q' (e3.trans e4)⟩
      | bk ρ2 g2 =>
        rw [hm] at q'
        exact fun σ4 μ4 H4 s4 e4 => q' σ4 μ4 H4 s4 (e3.trans e4)
      | rt d2 g2 =>
        rw [hm] at q'
        exact fun v ρ4 σ4 μ4 H4 s4 e4 => q' v ρ4 σ4 μ4 H4 s4 (e3.trans e4)
      | ex x2 g2 =>
        rw [hm] at q'
        exact fun v ρ4 σ4 μ4 H4 s4 e4 => q' v ρ4 σ4 μ4 H4 s4 (e3.trans e4)
      | bad => rw [hm] at q'; exact q'.elim
  · refine .inl ⟨h2 (Nat.le_of_not_lt hlt) hle, ?_⟩
    rw [List.drop_of_length_le (Nat.le_of_not_lt hlt)] at q'
    exact q' σ' μ' H' s' (.refl _ _ _)
/-! ### comprehensions -/
theorem forget_len (is : List Nat) (ρ : En) : (forget is ρ).length = ρ.length := by
  unfold forget
  induction is generalizing ρ with
  | nil => rfl
  | cons i is ih => rw [List.foldl_cons, ih, List.length_set]
theorem forget_out {is : List Nat} {ρ : En} {i : Nat} (h : i ∉ is) : (forget is ρ)[i]? = ρ[i]? := by
  unfold forget
  induction is generalizing ρ with
  | nil => rfl
  | cons j is ih =>
    rw [List.foldl_cons, ih (fun z => h (List.mem_cons_of_mem _ z)), List.getElem?_set_ne fun z => h (by simp [z])]
theorem forget_in {is : List Nat} {ρ : En} {i : Nat} {z : Sl} (h : (forget is ρ)[i]? = some z) (hz : z ≠ .no) : i ∉ is := by
  unfold forget at h
  induction is generalizing ρ with
  | nil => simp
  | cons j is ih =>
    rw [List.foldl_cons] at h
    intro hm
    rcases List.mem_cons.mp hm with rfl | hm
    · by_cases hi : i ∈ is
      · exact ih h hi
      · have q := forget_out (ρ := ρ.set i .no) hi
        unfold forget at q
        rw [q] at h
        rcases set_get h with ⟨_, q⟩ | ⟨q, _⟩
        · exact hz q
        · exact q rfl
    · exact ih h hm
theorem StR.wiped {K : PySem.W.Frag} {μ : List Addr} {g : Gs} {ρ : En} {σ : L2.St} {H : Hp} (s : StR K T μ g ρ σ H) (vs : List Nat) : StR K T μ g (forget vs ρ) (wipe σ vs) H ∧ ∀ a, sl (forget vs ρ) (wipe σ vs) a → sl ρ σ a := by
  have hs : ∀ a, sl (forget vs ρ) (wipe σ vs) a → sl ρ σ a := fun a ⟨i, xs, h1, h2⟩ => by
    have hi := forget_in h1 (fun z => by cases z)
    rw [forget_out hi] at h1
    rw [wipe_out hi] at h2
    exact ⟨i, xs, h1, h2⟩
  refine ⟨s.slots hs (by rw [forget_len, wipe_length]; exact s.el) (fun i x e => ?_) fun i xs e => ?_, hs⟩
  · have hi := forget_in e (fun z => by cases z)
    rw [forget_out hi] at e
    obtain ⟨v, q1, q2⟩ := s.en i x e
    exact ⟨v, by rw [wipe_out hi]; exact q1, q2.less fun a h => h.imp id (hs a)⟩
  · have hi := forget_in e (fun z => by cases z)
    rw [forget_out hi] at e
    exact ⟨_, e, (wipe_out hi).symm, rfl⟩
def noMl (own : List Nat) (ρ : En) : Bool := own.all fun i => match ρ[i]? with
  | some (.ml _) => false
  | _ => true
theorem sl_wiped {own : List Nat} {ρ : En} {σ : L2.St} {a : Addr} (h : noMl own ρ = true) (z : sl ρ σ a) : sl (forget own ρ) (wipe σ own) a := by
  obtain ⟨i, xs, h1, h2⟩ := z
  have hi : i ∉ own := fun hm => by
    have q := List.all_eq_true.mp h i hm
    rw [h1] at q
    cases q
  exact ⟨i, xs, by rw [forget_out hi]; exact h1, by rw [wipe_out hi]; exact h2⟩
theorem wipe_eq {own is : List Nat} {σ σ' : L2.St} (h : ∀ i ∈ is, i ∈ own) (o : Only is (wipe σ own) σ') : wipe σ' own = wipe σ own := by
  have wi : ∀ (σ : L2.St) (i : Nat), i ∈ own → i < σ.length → (wipe σ own)[i]? = some none := by
    intro σ i hm hl
    cases q : (wipe σ own)[i]? with
    | none =>
      rw [List.getElem?_eq_none_iff, wipe_length] at q
      omega
    | some z =>
      cases z with
      | none => rfl
      | some v => exact absurd hm (wipe_some q).2
  apply List.ext_getElem?
  intro i
  by_cases hi : i ∈ own
  · by_cases hl : i < σ.length
    · rw [wi σ i hi hl, wi σ' i hi (by rw [o.1, wipe_length]; exact hl)]
    · rw [List.getElem?_eq_none (by rw [wipe_length, o.1, wipe_length]; omega), List.getElem?_eq_none (by rw [wipe_length]; omega)]
  · rw [wipe_out hi, o.2 i fun z => hi (h i z)]
def WF : WX := fun _ _ _ _ => False
def lcGo (f : GM) (c : BM) (e : EM) (ρ : En) : List D → Gs → Res (List D)
  | [], g => .ok [] g
  | d :: ds, g => match f d ρ with
    | some ρ1 => (c ρ1 g).bind fun b g1 => match b with
      | true => (e ρ1 g1).bind fun x g2 => (lcGo f c e ρ ds g2).bind fun xs g3 => .ok (x :: xs) g3
      | false => lcGo f c e ρ ds g1
    | none => .bad
def mLc (own : List Nat) (it : LM) (f : GM) (c : BM) (e : EM) : EM := fun ρ g => (it ρ g).bind fun ds g1 => if noMl own ρ = true then (match lcGo f c e (forget own ρ) ds g1 with
  | .ok xs g2 => if xs.length ≤ 1000000 then .ok (.lst xs) g2 else .bad
  | _ => .bad) else .bad
def bYes : BM := fun _ g => .ok true g
theorem mpts_nil : PTs X [] (tT X.K T W bYes) := ⟨fun pins s σ H Q I ⟨ρ, μ, g, st, q⟩ => pts_nil.run pins s σ H Q I (Pst.pure q st rfl)⟩
theorem mpts_one (h : MT X T W e ba) : PTs X [e] (tT X.K T W ba) := pts_one h
theorem Res.ok_of {α β : Type} {r : Res α} {k : α → Gs → Res β} {b : β} {g : Gs} (h : r.bind k = .ok b g) : ∃ a g1, r = .ok a g1 ∧ k a g1 = .ok b g := by
  cases r with
  | ok a g1 => exact ⟨a, g1, rfl, h⟩
  | ex _ _ => cases h
  | bad => cases h
theorem w_lc {f : GM} {own is : List Nat} {wi : TI} {ifs : List Expr} (hsub : ∀ i ∈ is, i ∈ own) (hok : GOk is f) {σ : L2.St} {H : Hp} {Q : VK} (h : tE X.K T W (mLc own mi f ba me) σ H Q) :
    tLc (tG X.K T rIt W mi) (fun v σ H Q => ∃ O, tgM X.K ⟨T.t, O⟩ is f v σ H Q) (fun σ H Q => ∃ O, tT X.K ⟨T.t, O⟩ WF ba σ H Q) (fun σ H Q => ∃ O, tE X.K ⟨T.t, O⟩ WF me σ H Q) own σ H Q := by
  obtain ⟨ρ, μ, g, s, q⟩ := h
  refine ⟨ρ, μ, g, s, (Pst.bind (rel := rIt) q).imp fun J H1 ⟨ds, μ1, g1, s1, e1, r1, q1⟩ P hP => ?_⟩
  replace q1 : Pst X.K T Rp W ρ σ μ1 H1 Q (if noMl own ρ = true then (match lcGo f ba me (forget own ρ) ds g1 with
    | .ok xs g2 => if xs.length ≤ 1000000 then .ok (.lst xs) g2 else .bad
    | _ => .bad) else .bad) := q1
  by_cases hn : noMl own ρ = true
  rotate_left
  · rw [if_neg hn] at q1
    exact q1.elim
  rw [if_pos hn] at q1
  cases hl : lcGo f ba me (forget own ρ) ds g1 with
  | bad => rw [hl] at q1; exact q1.elim
  | ex _ _ => rw [hl] at q1; exact q1.elim
  | ok tot gE =>
  rw [hl] at q1
  simp only at q1
  by_cases hz : tot.length ≤ 1000000
  rotate_left
  · rw [if_neg hz] at q1
    exact q1.elim
  rw [if_pos hz] at q1
  obtain ⟨s1w, l1w⟩ := s1.wiped own
  have nO : ¬ ow T ρ σ P := s1.freeO hP
  refine ⟨fun i m' H' => (m' = ds.length - i ∧ i ≤ ds.length) ∧ ∃ μ' g' acc dacc rest, H' P = some (.lst acc) ∧ StR X.K ⟨T.t, fun a => T.O a ∨ a = P⟩ μ' g' (forget own ρ) (wipe σ own) H' ∧ Ex μ1 H1 μ' H' ∧
    Rps X.K H' μ' (ow ⟨T.t, fun a => T.O a ∨ a = P⟩ (forget own ρ) (wipe σ own)) dacc acc ∧ lcGo f ba me (forget own ρ) (ds.drop i) g' = .ok rest gE ∧ dacc ++ rest = tot, ⟨_, ⟨rfl, Nat.zero_le _⟩, μ1, g1, [], [], tot, upd_same, s1w.hold (O := T.O) hP, Ex.new s1 hP, .nil, hl, rfl⟩, ?_⟩
  rintro i m' H' ⟨⟨rfl, hle⟩, μ', g', acc, dacc, rest, hD, s', e', rs, hgo, happ⟩
  have kp : Kp μ1 (ow T ρ σ) H1 μ' (ow ⟨T.t, fun a => T.O a ∨ a = P⟩ (forget own ρ) (wipe σ own)) H' := by
    refine ⟨fun l a h => e'.at h, fun a u h n hm ho => ?_, fun a h => s'.freeM h, fun a h => s'.freeO h⟩
    obtain ⟨k1, k2⟩ := e'.keep a u h n hm
    refine ⟨k1, k2, fun z => ?_⟩
    rcases z with (z | z) | z
    · exact ho (.inl z)
    · rw [z, hP] at h
      cases h
    · exact ho (.inr (l1w a z))
  obtain ⟨h1, h2⟩ := r1 μ' _ H' kp i
  have up : ∀ a, ow T ρ σ a → ow ⟨T.t, fun a => T.O a ∨ a = P⟩ (forget own ρ) (wipe σ own) a := fun a z => z.elim (fun z => .inl (.inl z)) fun z => .inr (sl_wiped hn z)
  by_cases hlt : i < ds.length
  · refine .inr ⟨(h1 hlt).1, fun H2 => ∃ μ' g' acc dacc rest, H2 P = some (.lst acc) ∧ StR X.K ⟨T.t, fun a => T.O a ∨ a = P⟩ μ' g' (forget own ρ) (wipe σ own) H2 ∧ Ex μ1 H1 μ' H2 ∧
      Rps X.K H2 μ' (ow ⟨T.t, fun a => T.O a ∨ a = P⟩ (forget own ρ) (wipe σ own)) dacc acc ∧ lcGo f ba me (forget own ρ) (ds.drop (i + 1)) g' = .ok rest gE ∧ dacc ++ rest = tot, fun H2 z => ⟨_, by omega, ⟨rfl, hlt⟩, z⟩, fun x H2 hy => ?_⟩
    obtain ⟨hh, d, hd, rd⟩ := (h1 hlt).2 x H2 hy
    obtain ⟨s2, e2⟩ := yld_new s' hh
    rw [List.drop_eq_getElem_cons hlt] at hgo
    have ed : ds[i] = d := by rw [List.getElem?_eq_getElem hlt] at hd; exact Option.some.inj hd
    rw [ed] at hgo
    unfold lcGo at hgo
    cases hf : f d (forget own ρ) with
    | none => rw [hf] at hgo; cases hgo
    | some ρ1 =>
    rw [hf] at hgo
    simp only at hgo
    refine ⟨_, _, μ', g', d, s2, rd, ρ1, hf, fun σ3 s3 l3 o3 => ⟨wipe_eq hsub o3, _, ρ1, μ', g', s3, ?_⟩⟩
    have sb : ∀ a, ow ⟨T.t, fun a => T.O a ∨ a = P⟩ (forget own ρ) (wipe σ own) a → ow ⟨T.t, fun a => T.O a ∨ a = P⟩ ρ1 σ3 a := fun a z => z.imp id fun ⟨j, xs, k1, k2⟩ => by
      have hj : j ∉ own := forget_in k1 (fun z => by cases z)
      have hj' : j ∉ is := fun z => hj (hsub j z)
      exact ⟨j, xs, by rw [hok _ _ _ hf j hj']; exact k1, by rw [o3.2 j hj']; exact k2⟩
    obtain ⟨b, ga, hba, hgo⟩ := Res.ok_of hgo
    rw [hba]
    intro b' μ3 H3 s4 e4 rb
    obtain rfl : b = b' := rb
    cases b with
    | false =>
      refine iteF ?_
      refine ⟨μ3, ga, acc, dacc, rest, ?_, s2.back e4 s4 sb rfl, (e'.trans e2).trans e4, (rs.ext e2).ext e4, hgo, happ⟩
      exact ((e2.trans e4).keep P _ hD (lst_nt _) (s'.ob P (.inr rfl)).2).1
    | true =>
      refine iteT ⟨_, ρ1, μ3, ga, s4, ?_⟩
      obtain ⟨x2, gb, hex, hgo⟩ := Res.ok_of hgo
      obtain ⟨xs, gc, hrec, hgo⟩ := Res.ok_of hgo
      cases hgo
      rw [hex]
      intro y μ4 H4 s5 e5 ry
      have eall : Ex μ' H' μ4 H4 := (e2.trans e4).trans e5
      have hD4 : H4 P = some (.lst acc) := (eall.keep P _ hD (lst_nt _) (s'.ob P (.inr rfl)).2).1
      have s6 := s2.back (e4.trans e5) s5 sb rfl
      have rs6 := rs.ext eall
      have hl1 : acc.length < 1000000 := by
        have := rs.len
        have q := congrArg List.length happ
        rw [List.length_append, List.length_cons] at q
        omega
      have po : ow ⟨T.t, fun a => T.O a ∨ a = P⟩ (forget own ρ) (wipe σ own) P := .inl (.inr rfl)
      refine ⟨acc, hD4, lt_ok hl1, μ4, gb, acc ++ [y], dacc ++ [x2], xs, upd_same, s6.wO (T := ⟨T.t, fun a => T.O a ∨ a = P⟩) (.inr rfl) hD4, ?_, (rs6.append (.cons (ry.less sb) .nil)).wr po, hrec, by rw [List.append_assoc]; exact happ⟩
      have e6 := e'.trans eall
      refine ⟨e6.pre, fun a u k1 k2 k3 => ?_, fun a u k1 kn => ?_⟩
      · have na : a ≠ P := fun z => by rw [z, hP] at k1; cases k1
        rw [upd_ne na]
        exact e6.keep a u k1 k2 k3
      · have na : a ≠ P := fun z => by rw [z, hP] at k1; cases k1
        rw [upd_ne na]
        exact e6.th a u k1 kn
  · refine .inl ⟨h2 (Nat.le_of_not_lt hlt) hle, ?_⟩
    rw [List.drop_of_length_le (Nat.le_of_not_lt hlt)] at hgo
    cases hgo
    rw [List.append_nil] at happ
    subst happ
    exact q1 _ μ' H' (s1.back e' s' up rfl) e' (.lst (.inl ⟨.inl hD, (s'.ob P (.inr rfl)).2, nO⟩) (rs.less up))
theorem me_lc {own : List (Str × Nat)} {is : List Nat} {f : GM} {ifs : List Expr} {scope : Scope} (hc : X.calm = true) (hN : X.N.Nodup) (hi : MI X T W tg it mi) (ok : BlkOk X.N X.env.scope scope own)
    (hsub : ∀ i ∈ is, i ∈ own.map (·.2))
    (hg : ∀ T' : Tb, T'.t = T.t → ∀ (s : Shared) (H : Hp) (C : Addr) (cl : List (Str × Addr)) (fp : List Addr), MG (X.blk s H scope (compEnvC scope cl C X.env) fp) T' tg is f)
    (ht : ∀ T' : Tb, T'.t = T.t → ∀ (s : Shared) (H : Hp) (C : Addr) (cl : List (Str × Addr)) (fp : List Addr), PTs (X.blk s H scope (compEnvC scope cl C X.env) fp) ifs (tT X.K T' WF ba))
    (he : ∀ T' : Tb, T'.t = T.t → ∀ (s : Shared) (H : Hp) (C : Addr) (cl : List (Str × Addr)) (fp : List Addr), PE (X.blk s H scope (compEnvC scope cl C X.env) fp) e (tE X.K T' WF me))
    (hs : ∀ x, foldedSetIterable it X.env x = pure x := by intro _; rfl) : ME X T W (.ListComp e [⟨tg, it, ifs, 0⟩] scope pos) (mLc (own.map (·.2)) mi f ba me) :=
  PE.weak (pe_lc hc hN hi ok (g := fun v σ H Q => ∃ O, tgM X.K ⟨T.t, O⟩ is f v σ H Q) (tt := fun σ H Q => ∃ O, tT X.K ⟨T.t, O⟩ WF ba σ H Q) (te := fun σ H Q => ∃ O, tE X.K ⟨T.t, O⟩ WF me σ H Q)
    (fun s H C cl fp => ⟨fun pins s1 σ H v u Q I r ⟨O, q⟩ => (hg ⟨T.t, O⟩ rfl s _ C cl fp).pg.run pins s1 σ H v u Q I r q⟩)
    (fun s H C cl fp => ⟨fun pins s1 σ H Q I ⟨O, q⟩ => (ht ⟨T.t, O⟩ rfl s _ C cl fp).run pins s1 σ H Q I q⟩)
    (fun s H C cl fp => ⟨fun pins s1 σ H Q I ⟨O, q⟩ => (he ⟨T.t, O⟩ rfl s _ C cl fp).run pins s1 σ H Q I q⟩) hs) fun σ H Q h => w_lc (wi := tG X.K T rIt W mi) (ifs := ifs) hsub (hg ⟨T.t, fun _ => False⟩ rfl X.s_0 X.H_0 0 [] []).ok h
/-- y = [..], on one line, y a plain local -/
theorem ms_setLc {y : Str} {py spos : Pos} {i : Nat} {own : List (Str × Nat)} {is : List Nat} {f : GM} {ifs : List Expr} {scope : Scope} (hN : X.N.Nodup) (hy : X.N[i]? = some y) (hc : X.calm = true) (hN' : X.N.Nodup) (hi : MI X T W tg it mi) (ok : BlkOk X.N X.env.scope scope own)
    (hsub : ∀ i ∈ is, i ∈ own.map (·.2))
    (hg : ∀ T' : Tb, T'.t = T.t → ∀ (s : Shared) (H : Hp) (C : Addr) (cl : List (Str × Addr)) (fp : List Addr), MG (X.blk s H scope (compEnvC scope cl C X.env) fp) T' tg is f)
    (ht : ∀ T' : Tb, T'.t = T.t → ∀ (s : Shared) (H : Hp) (C : Addr) (cl : List (Str × Addr)) (fp : List Addr), PTs (X.blk s H scope (compEnvC scope cl C X.env) fp) ifs (tT X.K T' WF ba))
    (he : ∀ T' : Tb, T'.t = T.t → ∀ (s : Shared) (H : Hp) (C : Addr) (cl : List (Str × Addr)) (fp : List Addr), PE (X.blk s H scope (compEnvC scope cl C X.env) fp) e (tE X.K T' WF me))
    (hyl : X.env.scope.names.lookup y = some .local := by rfl) (hk : X.env.scope.kind = .function := by rfl) (hl : (py.line == pos.line) = true := by rfl) (ha : (scope.names.any fun (n, k) => n == y && (k == .local || k == .cell)) = false := by rfl)
    (hs : ∀ x, foldedSetIterable it X.env x = pure x := by intro _; rfl) : MS X T W (.Assign [.Name y py] (.ListComp e [⟨tg, it, ifs, 0⟩] scope pos) spos) (sSet i (mLc (own.map (·.2)) mi f ba me)) :=
  PS.weak (ps_setLc (pos := pos) hc hN hy hyl (sw_true hk hyl hl ha) hi ok (g := fun v σ H Q => ∃ O, tgM X.K ⟨T.t, O⟩ is f v σ H Q) (tt := fun σ H Q => ∃ O, tT X.K ⟨T.t, O⟩ WF ba σ H Q) (te := fun σ H Q => ∃ O, tE X.K ⟨T.t, O⟩ WF me σ H Q)
    (fun s H C cl fp => ⟨fun pins s1 σ H v u Q I r ⟨O, q⟩ => (hg ⟨T.t, O⟩ rfl s _ C cl fp).pg.run pins s1 σ H v u Q I r q⟩)
    (fun s H C cl fp => ⟨fun pins s1 σ H Q I ⟨O, q⟩ => (ht ⟨T.t, O⟩ rfl s _ C cl fp).run pins s1 σ H Q I q⟩)
    (fun s H C cl fp => ⟨fun pins s1 σ H Q I ⟨O, q⟩ => (he ⟨T.t, O⟩ rfl s _ C cl fp).run pins s1 σ H Q I q⟩) hs) fun D σ H h => by
    have h2 := w_set h
    exact w_lc (wi := tG X.K T rIt W mi) (ifs := ifs) hsub (hg ⟨T.t, fun _ => False⟩ rfl X.s_0 X.H_0 0 [] []).ok h2
end
end Sh

set_option Elab.async false
set_option linter.all false
set_option maxRecDepth 100000
set_option maxHeartbeats 2000000
namespace Sh
open PySem PySem.Spec L2 PyProof.Rows
section
variable {X : Cx} {T : Tb} {W : WX} {e a b c tg it : Expr} {es : List Expr} {pos p p2 : Pos} {ma mb mc me : EM} {ml mi : LM} {ba : BM} {st : Stmt} {sts sts' rest : List Stmt} {m m1 m2 : SM}
/-! ### a tuple or a list -/
def SqA (K : PySem.W.Frag) (H : Hp) (μ : List Addr) (o : Addr → Prop) (d : D) (v : V) (xs : List D) : Prop := ∃ a vs, v = .ref a ∧ Rps K H μ o xs vs ∧ ((d = .lst xs ∧ LstAt K H μ o a vs) ∨ (d = .tup xs ∧ TupAt K H μ o a vs))
def seqD : D → Option (List D)
  | .lst xs => some xs
  | .tup xs => some xs
  | _ => none
theorem Rp.seq {K : PySem.W.Frag} {H : Hp} {μ : List Addr} {o : Addr → Prop} {d : D} {v : V} {xs : List D} (r : Rp K H μ o d v) (h : seqD d = some xs) : SqA K H μ o d v xs := by
  cases r <;> simp only [seqD] at h <;> cases h
  · exact ⟨_, _, rfl, by assumption, .inr ⟨rfl, by assumption⟩⟩
  · exact ⟨_, _, rfl, by assumption, .inl ⟨rfl, by assumption⟩⟩
def mIt (a : EM) : LM := fun ρ g => (a ρ g).bind fun d g1 => match seqD d with
  | some xs => .ok xs g1
  | none => .bad
def iSeq (K : PySem.W.Frag) (tl : TE) : TI := fun σ H R => tl σ H fun x H1 => ∃ a, x = .ref a ∧ (((∃ xs, SqL K H1 a xs) ∧ R (Itl K a) H1) ∨ ((∃ xs, SqT K H1 a xs) ∧ R (Itt K a) H1))
theorem pi_seq {l : Expr} {tl : TE} (hl : PE X l tl) : PI X tg l (iSeq X.K tl) := by
  refine ⟨fun pins s σ H R I h => ?_⟩
  refine thn (hl.run pins s σ H _ I h) fun v s1 ⟨x, H1, I1, r1, q1⟩ => ?_
  obtain ⟨a, e, q1⟩ := q1
  subst e
  cases r1
  have fr : ∀ b ∈ [s1.heap.objs.size], FpOk X pins H1 b := fun b hb => by
    have e : b = s1.heap.objs.size := by simpa using hb
    subst e
    exact I1.fpOk (Nat.le_refl _) (I1.hok.fresh (Nat.le_refl _))
  rcases q1 with ⟨⟨xs, hq⟩, q⟩ | ⟨⟨xs, hq⟩, q⟩
  · obtain ⟨its, rv, p, hz⟩ := I1.list hq
    refine wpAny_pyIter_list p.isList ?_
    exact ⟨s1.heap.objs.size, [s1.heap.objs.size], _, _, H1, rfl, I1.kept (t' := s1.toks) fun b o e => Heap.get?_push_of_some _ e, turn_list a _, ⟨_, Heap.get?_push_size _ rfl, rfl, rfl⟩, fr, q⟩
  · obtain ⟨its, rv, p, hz⟩ := I1.tuple hq
    refine wpAny_pyIter_tuple (show s1.heap.IsTuple a its.toArray from p) ?_
    exact ⟨s1.heap.objs.size, [s1.heap.objs.size], _, _, H1, rfl, I1.kept (t' := s1.toks) fun b o e => Heap.get?_push_of_some _ e, turn_tuple a _, ⟨_, Heap.get?_push_size _ rfl, rfl, rfl⟩, fr, q⟩
theorem rit_list {K : PySem.W.Frag} {H : Hp} {μ : List Addr} {o : Addr → Prop} {a : Addr} {xs : List D} {vs : List V} (h : LstAt K H μ o a vs) (r : Rps K H μ o xs vs) : rIt K H μ o xs (Itl K a) := fun μ' o' H' kp i => by
  have h' := h.kp kp
  have r' := r.kp kp
  refine ⟨fun hi => ?_, fun hi _ => ⟨vs, h'.sq, by rw [← r'.len]; exact hi⟩⟩
  obtain ⟨v, hv, rv⟩ := r'.get (List.getElem?_eq_getElem hi)
  refine ⟨⟨vs, v, h'.sq, hv⟩, fun x H2 ⟨e, k⟩ => ?_⟩
  rw [e]
  have e2 := k vs h'.sq
  rw [hv] at e2
  cases e2
  exact ⟨.inl rfl, _, List.getElem?_eq_getElem hi, rv⟩
theorem rit_tup {K : PySem.W.Frag} {H : Hp} {μ : List Addr} {o : Addr → Prop} {a : Addr} {xs : List D} {vs : List V} (h : TupAt K H μ o a vs) (r : Rps K H μ o xs vs) : rIt K H μ o xs (Itt K a) := fun μ' o' H' kp i => by
  have h' := h.kp kp
  have r' := r.kp kp
  refine ⟨fun hi => ?_, fun hi _ => ⟨vs, h'.sq, by rw [← r'.len]; exact hi⟩⟩
  obtain ⟨v, hv, rv⟩ := r'.get (List.getElem?_eq_getElem hi)
  refine ⟨⟨vs, v, h'.sq, hv⟩, fun x H2 ⟨e, k⟩ => ?_⟩
  rw [e]
  have e2 := k vs h'.sq
  rw [hv] at e2
  cases e2
  exact ⟨.inl rfl, _, List.getElem?_eq_getElem hi, rv⟩
theorem mi_seq (h : ME X T W it ma) : MI X T W tg it (mIt ma) := PI.weak (pi_seq h) fun σ H R q =>
  tG_bind (k := fun _ d g1 => match seqD d with
    | some xs => .ok xs g1
    | none => .bad) q fun d x ρ μ g H1 s r p => by
    cases hs : seqD d with
    | none => rw [hs] at p; exact p.elim
    | some xs =>
      rw [hs] at p
      obtain ⟨a, vs, rfl, rs, ⟨_, hl⟩ | ⟨_, hl⟩⟩ := r.seq hs
      · exact ⟨a, rfl, .inl ⟨⟨vs, hl.sq⟩, Pst.pure p s (rit_list hl rs)⟩⟩
      · exact ⟨a, rfl, .inr ⟨⟨vs, hl.sq⟩, Pst.pure p s (rit_tup hl rs)⟩⟩
/-! ### range -/
def rngD (lo : Int) (n : Nat) : List D := (List.range n).map fun (i : Nat) => .int (lo + (i : Int))
def okR (i : Int) : Bool := decide (-(2 ^ 62) ≤ i ∧ i < 2 ^ 62)
def kRng1 (xs : List D) (g : Gs) : Res (List D) := match xs with
  | [.int j] => if okR j = true then .ok (rngD 0 j.toNat) g else .bad
  | _ => .bad
def kRng2 (xs : List D) (g : Gs) : Res (List D) := match xs with
  | [.int i, .int j] => if okR i = true then (if okR j = true then .ok (rngD i (j - i).toNat) g else .bad) else .bad
  | _ => .bad
def mRng1 (l : LM) : LM := fun ρ g => (l ρ g).bind kRng1
def mRng2 (l : LM) : LM := fun ρ g => (l ρ g).bind kRng2
theorem rit_rng {K : PySem.W.Frag} {H : Hp} {μ : List Addr} {o : Addr → Prop} {lo : Int} {n : Nat} : rIt K H μ o (rngD lo n) (Itr lo n) := fun μ' o' H' kp i => by
  have hl : (rngD lo n).length = n := by simp [rngD]
  rw [hl]
  refine ⟨fun hi => ⟨hi, fun x H2 ⟨e, k⟩ => ⟨.inl e, .int (lo + i), by simp [rngD, hi], by rw [k]; exact .int _⟩⟩, fun hi _ => hi⟩
theorem mi_rng1 {x : Str} (hx : x = "range") (hg : Gl X x) (hm : X.mg x = none) (ha : MA X T W [a] ml) (hs : starEach [a] X.env = [(false, eval a X.env)] := by rfl) : MI X T W tg (.Call (.Name x p) [a] [] pos) (mRng1 ml) := by
  subst hx
  refine PI.weak (pi_range1 hg hm ha hs) fun σ H R q => tG_bind (k := fun _ => kRng1) q fun xs vs ρ μ g H1 s r q => ?_
  match xs, r, q with
  | [.int j], .cons r1 .nil, q =>
  cases r1
  unfold kRng1 at q
  simp only at q
  by_cases hj : okR j = true
  · rw [if_pos hj] at q
    have hj' := of_decide_eq_true hj
    exact ⟨j, rfl, hj'.1, hj'.2, Pst.pure q s rit_rng⟩
  · rw [if_neg hj] at q
    exact q.elim
theorem mi_rng2 {x : Str} (hx : x = "range") (hg : Gl X x) (hm : X.mg x = none) (ha : MA X T W [a, b] ml) (hs : starEach [a, b] X.env = [(false, eval a X.env), (false, eval b X.env)] := by rfl) (hs2 : starEach [b] X.env = [(false, eval b X.env)] := by rfl) : MI X T W tg (.Call (.Name x p) [a, b] [] pos) (mRng2 ml) := by
  subst hx
  refine PI.weak (pi_range2 hg hm ha hs hs2) fun σ H R q => tG_bind (k := fun _ => kRng2) q fun xs vs ρ μ g H1 s r q => ?_
  match xs, r, q with
  | [.int i, .int j], .cons r1 (.cons r2 .nil), q =>
  cases r1
  cases r2
  unfold kRng2 at q
  simp only at q
  by_cases hi : okR i = true
  · rw [if_pos hi] at q
    by_cases hj : okR j = true
    · rw [if_pos hj] at q
      have hj' := of_decide_eq_true hj
      have hi' := of_decide_eq_true hi
      exact ⟨i, j, rfl, ⟨hi'.1, hi'.2, hj'.1, hj'.2⟩, Pst.pure q s rit_rng⟩
    · rw [if_neg hj] at q
      exact q.elim
  · rw [if_neg hi] at q
    exact q.elim
/-! ### zip of two lists, of two tuples -/
def zipD : List D → List D → List D
  | x :: xs, y :: ys => .tup [x, y] :: zipD xs ys
  | _, _ => []
theorem zipD_len : ∀ xs ys : List D, (zipD xs ys).length = min xs.length ys.length
  | [], ys => by simp [zipD]
  | x :: xs, [] => by simp [zipD]
  | x :: xs, y :: ys => by simp [zipD, zipD_len xs ys]
theorem zipD_get : ∀ (xs ys : List D) (i : Nat) (x y : D), xs[i]? = some x → ys[i]? = some y → (zipD xs ys)[i]? = some (.tup [x, y])
  | [], ys, i, x, y, h, k => by simp at h
  | _ :: xs, [], i, x, y, h, k => by simp at k
  | _ :: xs, _ :: ys, 0, x, y, h, k => by simp at h k; simp [zipD, h, k]
  | _ :: xs, _ :: ys, i + 1, x, y, h, k => by
    simp only [zipD, List.getElem?_cons_succ] at h k ⊢
    exact zipD_get xs ys i x y h k
def kZip (xs : List D) (g : Gs) : Res (List D) := match xs with
  | [.lst xs, .lst ys] => .ok (zipD xs ys) g
  | [.tup xs, .tup ys] => .ok (zipD xs ys) g
  | _ => .bad
def mZip (l : LM) : LM := fun ρ g => (l ρ g).bind kZip
theorem new_pair {K : PySem.W.Frag} {H : Hp} {μ : List Addr} {o : Addr → Prop} {p : Addr} {dx dy : D} {x y : V} (hp : H p = none) (fm : p ∉ μ) (fo : ¬ o p) (r1 : Rp K H μ o dx x) (r2 : Rp K H μ o dy y) :
    Rp K (upd H p (.tup [x, y])) μ o (.tup [dx, dy]) (.ref p) := by
  have up : ∀ (d : D) (v : V), Rp K H μ o d v → Rp K (upd H p (.tup [x, y])) μ o d v := fun d v r => Rp.mapP (fun _ _ r => r.imp (fun ⟨a, b⟩ => ⟨by rw [upd_ne (ne_of_none a hp)]; exact a, b⟩) id)
    (fun _ _ r => r.imp (fun ⟨a, b⟩ => ⟨a.imp (fun a => by rw [upd_ne (ne_of_none a hp)]; exact a) fun ⟨ob, a⟩ => ⟨ob, by rw [upd_ne (ne_of_none a hp)]; exact a⟩, b⟩) id) (fun _ _ h => h) (fun _ _ _ ⟨a, b⟩ => ⟨by rw [upd_ne (ne_of_none a hp)]; exact a, b⟩) d v r
  exact .tup (.inl ⟨upd_same, fm, fo⟩) (.cons (up _ _ r1) (.cons (up _ _ r2) .nil))
theorem rit_zipL {K : PySem.W.Frag} {H : Hp} {μ : List Addr} {o : Addr → Prop} {a b : Addr} {xs ys : List D} {vs ws : List V} (h : LstAt K H μ o a vs) (r : Rps K H μ o xs vs) (h2 : LstAt K H μ o b ws) (r2 : Rps K H μ o ys ws) : rIt K H μ o (zipD xs ys) (Itz K a b) := fun μ' o' H' kp i => by
  have h' := h.kp kp
  have r' := r.kp kp
  have h2' := h2.kp kp
  have r2' := r2.kp kp
  rw [zipD_len]
  have l1 := r'.len
  have l2 := r2'.len
  refine ⟨fun hi => ?_, fun hi _ => ⟨vs, ws, h'.sq, h2'.sq, by omega⟩⟩
  have i1 : i < xs.length := by omega
  have i2 : i < ys.length := by omega
  obtain ⟨v, hv, rv⟩ := r'.get (List.getElem?_eq_getElem i1)
  obtain ⟨w, hw, rw'⟩ := r2'.get (List.getElem?_eq_getElem i2)
  refine ⟨⟨vs, ws, v, w, h'.sq, h2'.sq, hv, hw⟩, fun x H2 ⟨P, x1, y1, e1, e2, e3, k1, k2⟩ => ?_⟩
  have q1 := k1 vs h'.sq
  have q2 := k2 ws h2'.sq
  rw [hv] at q1
  rw [hw] at q2
  cases q1
  cases q2
  rw [e1, e3]
  exact ⟨.inr ⟨P, _, e2, rfl⟩, _, zipD_get _ _ _ _ _ (List.getElem?_eq_getElem i1) (List.getElem?_eq_getElem i2), new_pair e2 (kp.fm _ e2) (kp.fo _ e2) rv rw'⟩
theorem rit_zipT {K : PySem.W.Frag} {H : Hp} {μ : List Addr} {o : Addr → Prop} {a b : Addr} {xs ys : List D} {vs ws : List V} (h : TupAt K H μ o a vs) (r : Rps K H μ o xs vs) (h2 : TupAt K H μ o b ws) (r2 : Rps K H μ o ys ws) : rIt K H μ o (zipD xs ys) (RZ.ItzT K a b) := fun μ' o' H' kp i => by
  have h' := h.kp kp
  have r' := r.kp kp
  have h2' := h2.kp kp
  have r2' := r2.kp kp
  rw [zipD_len]
  have l1 := r'.len
  have l2 := r2'.len
  refine ⟨fun hi => ?_, fun hi _ => ⟨vs, ws, h'.sq, h2'.sq, by omega⟩⟩
  have i1 : i < xs.length := by omega
  have i2 : i < ys.length := by omega
  obtain ⟨v, hv, rv⟩ := r'.get (List.getElem?_eq_getElem i1)
  obtain ⟨w, hw, rw'⟩ := r2'.get (List.getElem?_eq_getElem i2)
  refine ⟨⟨vs, ws, v, w, h'.sq, h2'.sq, hv, hw⟩, fun x H2 ⟨P, x1, y1, e1, e2, e3, k1, k2⟩ => ?_⟩
  have q1 := k1 vs h'.sq
  have q2 := k2 ws h2'.sq
  rw [hv] at q1
  rw [hw] at q2
  cases q1
  cases q2
  rw [e1, e3]
  exact ⟨.inr ⟨P, _, e2, rfl⟩, _, zipD_get _ _ _ _ _ (List.getElem?_eq_getElem i1) (List.getElem?_eq_getElem i2), new_pair e2 (kp.fm _ e2) (kp.fo _ e2) rv rw'⟩
theorem mi_zip {x : Str} {elts : List Expr} {kk : Nat} {tpos : Pos} (hx : x = "zip") (hg : Gl X x) (hm : X.mg x = none) (ha : MA X T W [a, b] ml)
    (hs : starEach [a, b] X.env = (false, eval a X.env) :: starEach [b] X.env := by rfl) (hpl : (backTo pos (starEach [b] X.env)).any (·.1) = false := by rfl) : MI X T W (.Tuple elts kk tpos) (.Call (.Name x p) [a, b] [] pos) (mZip ml) := by
  subst hx
  refine PI.weak (RZ.pi_zipA hg hm ha hs hpl) fun σ H R q => tG_bind (k := fun _ => kZip) q fun xs vs ρ μ g H1 s r q => ?_
  match xs, r, q with
  | [.lst xs, .lst ys], .cons (.lst t1 r1) (.cons (.lst t2 r2) .nil), q => exact ⟨_, _, _, _, rfl, .inl ⟨t1.sq, t2.sq, Pst.pure q s (rit_zipL t1 r1 t2 r2)⟩⟩
  | [.tup xs, .tup ys], .cons (.tup t1 r1) (.cons (.tup t2 r2) .nil), q => exact ⟨_, _, _, _, rfl, .inr ⟨t1.sq, t2.sq, Pst.pure q s (rit_zipT t1 r1 t2 r2)⟩⟩
/-! ### enumerate of a list, of a tuple -/
end
section
open PySem.Sem (wp)
open AutoSeq1 (wpAny_loadPart')
theorem meets_enumerate_newT (l : Addr) (items : Array Value) :
    Meets (Builtin.«enumerate.__new__» ⟨[.type "enumerate", .ref l], []⟩) (fun _ R s => s.heap.IsTuple l items ∧
      R (.ok (.ret (.ref (s.heap.push { cls := .type "tuple_iterator", data := .fields #[.ref l, .int 0 0] }).objs.size)))
        { s with heap := (s.heap.push { cls := .type "tuple_iterator", data := .fields #[.ref l, .int 0 0] }).push { cls := .type "enumerate", data := .fields #[.none, .bool false, .ref s.heap.objs.size, rawInt 0, .none, .none] } }) :=
  .of_wp fun prog w A R s h => by
    obtain ⟨hp, g, d, tk, os⟩ := s; obtain ⟨hl, h⟩ := h
    have hsub := sub_enumerate
    have hL : Heap.IsTuple (Shared.heap ⟨hp, g, d, tk, os⟩) l items := hl
    wp_walk
    refine wpAny_stack_any fun st => wpAny_pure ?_
    split
    · rename_i c _ _ _ _ _
      cases (c == Value.type "enumerate")
      · wp_walk using wpAny_pyIter_tuple hL
        exact ⟨_, rfl, h⟩
      · wp_walk using wpAny_pyIter_tuple hL
        exact ⟨_, rfl, h⟩
    · wp_walk using wpAny_pyIter_tuple hL
      exact ⟨_, rfl, h⟩
variable {prog : Program} {w : World} {A : Around} {E : Value → Shared → Prop} {s : Shared}
theorem call_enumerate_tuple {l : Addr} {items : Array Value} {Q : Value → Shared → Prop} (hL : s.heap.IsTuple l items)
    (h : ∀ h', IsEnum h' (s.heap.objs.size + 1) s.heap.objs.size 0 .none → h'.IsTupleIter s.heap.objs.size l 0 → h'.objs.size = s.heap.objs.size + 2 →
      (∀ b o, s.heap.get? b = some o → h'.get? b = some o) → Q (.ref (s.heap.objs.size + 1)) { s with heap := h' }) :
    wpAny (model prog w) A (call (.type "enumerate") [.ref l]) Q E s := by
  refine callType_new F.called_enumerate (by decide) (F.typeCall_enumerate_1 _) (F.newCall_enumerate_1 _) (fun obj => F.args_object_init_2 obj _) F.entry_enumerate_new
    (meets_enumerate_newT l items) ⟨hL, ?_⟩
  have hz : (s.heap.push { cls := .type "tuple_iterator", data := .fields #[.ref l, .int 0 0] }).objs.size = s.heap.objs.size + 1 := Heap.size_push ..
  show _ ∧ _
  rw [hz]
  have he : IsEnum ((s.heap.push { cls := .type "tuple_iterator", data := .fields #[.ref l, .int 0 0] }).push
      { cls := .type "enumerate", data := .fields #[.none, .bool false, .ref s.heap.objs.size, rawInt 0, .none, .none] }) (s.heap.objs.size + 1) s.heap.objs.size 0 .none := by
    have := Heap.get?_push_size (s.heap.push { cls := .type "tuple_iterator", data := .fields #[.ref l, .int 0 0] })
      (o := { cls := .type "enumerate", data := .fields #[.none, .bool false, .ref s.heap.objs.size, rawInt 0, .none, .none] }) rfl
    rw [hz] at this; exact this
  refine ⟨⟨_, he, rfl⟩, h _ he ⟨_, Heap.get?_push_of_some _ (Heap.get?_push_size _ rfl), rfl, rfl⟩ (by rw [Heap.size_push, hz]) fun b o x => Heap.get?_push_of_some _ (Heap.get?_push_of_some _ x)⟩
end
/-- the tuple at a as it stands at each turn, each item in a new pair -/
def IteT (K : PySem.W.Frag) (a : Addr) : It :=
  ⟨fun i H => ∃ (xs : List V) (x : V), SqT K H a xs ∧ xs[i]? = some x, fun i H v H' => ∃ P x, v = .ref P ∧ H P = none ∧ H' = upd H P (.tup [.int (i : Nat), x]) ∧ ∀ xs, SqT K H a xs → xs[i]? = some x, fun i H => ∃ xs : List V, SqT K H a xs ∧ xs.length ≤ i⟩
theorem turn_enumT {P : Program} {w : World} {K : PySem.W.Frag} {elts : List Expr} {kk : Nat} {tpos : Pos} (a e it : Addr) (hea : a ≠ e) (hia : a ≠ it) :
    Turn P w K (.Tuple elts kk tpos) (IteT K a) [e, it] e (fun i h => (∃ old, IsEnum h e it ((i : Nat) : Int) old) ∧ h.IsTupleIter it a i ∧ e ≠ it) where
  mem := by simp
  obj := fun i h st b hb => by
    obtain ⟨⟨old, he⟩, ⟨o, ho, hc, hd⟩, _⟩ := st
    have e' : b = e ∨ b = it := by simpa using hb
    rcases e' with z | z
    · rw [z]; exact ⟨_, he, fun v q => nomatch q⟩
    · rw [z]; exact ⟨o, ho, fun v q => by rw [hd] at q; cases q⟩
  keep := fun i h h' st k => let ⟨⟨old, he⟩, hi, hne⟩ := st; ⟨⟨old, k e (by simp) _ he⟩, hi.at fun o q => k it (by simp) o q, hne⟩
  item := by
    intro X hP hw hK hc i pins s σ H E I hf st hg
    subst hP hw hK
    obtain ⟨⟨old, he⟩, hit, hne⟩ := st
    obtain ⟨xs, x, hq, hx⟩ := hg
    obtain ⟨its, rv, p, hz⟩ := I.tuple hq
    obtain ⟨u, hu, ru⟩ := rv.get hx
    have hel : e < s.heap.objs.size := Heap.lt_size he
    have hil : it < s.heap.objs.size := by obtain ⟨_, q, _⟩ := hit; exact Heap.lt_size q
    have hlt : i < its.toArray.size := by
      have := (List.getElem?_eq_some_iff.mp hu).1
      simpa using this
    refine wpAny_pyNext_enum_itemD (Draws.tuple (show X.A.in1.handled = none from I.ok.hd hc) it a hia its.toArray) he ⟨hit, (show s.heap.IsTuple a its.toArray from p)⟩ hlt hne (by simp only [List.mem_cons, List.not_mem_nil, or_false, not_or]; exact ⟨hne, Ne.symm hea⟩) fun x' h' tk hx' ho hit' hT hsz hk => ?_
    have ex : x' = u := by
      have : its.toArray[i]? = some u := by simpa using hu
      rw [this] at hx'
      exact (Option.some.inj hx').symm
    subst ex
    refine ⟨_, rfl, wpAny_letOwnedTupleGo_enum (s := { s with heap := h', toks := tk + 1 }) ho fun h'' he' sb => ?_⟩
    have hT2 : h''.get? s.heap.objs.size = some { cls := .type "tuple", data := .seq #[.int i tk, x'] } := (sb.2 _ (Nat.ne_of_gt hel)).trans hT
    have new : ObjOk X.prog X.w (upd H s.heap.objs.size (.tup [.int (i : Nat), x])) h'' s.heap.objs.size (.tup [.int (i : Nat), x]) :=
      ⟨by show 2 ≤ sizeLine; decide, [.int i tk, x'], .cons ⟨_, rfl⟩ (.cons ru .nil), ⟨_, hT2, rfl, _, rfl⟩⟩
    have I1 : Inv X pins σ (upd H s.heap.objs.size (.tup [.int (i : Nat), x])) { s with heap := h'', toks := tk + 1 } :=
      I.turnedNew (ch := [e, it]) (fun b ob hb q => (sb.2 b (fun z => hb (by simp [z]))).trans (hk b ob (fun z => hb (by simp [z])) (fun z => hb (by simp [z])) q)) hf (Nat.le_refl _) new
    refine ⟨.ref s.heap.objs.size, _, I1, rfl, ⟨_, x, rfl, I.hok.fresh (Nat.le_refl _), rfl, fun ys hy => by rw [I.tuple_inj hy hq]; exact hx⟩, ⟨⟨x', ?_⟩, hit'.1.at fun o q => (sb.2 it (Ne.symm hne)).trans q, hne⟩, fun b hb => ?_⟩
    · have e1 : ((i + 1 : Nat) : Int) = (i : Int) + 1 := by omega
      rw [e1]; exact he'
    · have hb' : b < s.heap.objs.size := by
        have e' : b = e ∨ b = it := by simpa using hb
        rcases e' with z | z
        · rw [z]; exact hel
        · rw [z]; exact hil
      rw [upd_ne (Nat.ne_of_lt hb')]
      exact (hf b hb).1
  done := by
    intro X hP hw hK hc i pins s σ H E I hf st hg
    subst hP hw hK
    obtain ⟨⟨old, he⟩, hit, hne⟩ := st
    obtain ⟨xs, hq, hx⟩ := hg
    obtain ⟨its, rv, p, hz⟩ := I.tuple hq
    have hl := rv.length
    obtain ⟨f0, f1, f2, f3, f4, f5⟩ := hf it (by simp)
    -- past the end: at the end itself the iterator stops
    have hT : s.TypeIs (.ref e) "enumerate" := ⟨_, he, rfl⟩
    unfold pyNext
    refine wpAny_bind (wpAny_attempt (wpAny_callSpecial?_slot (name := Str.ofString "__next__") hT F.slot_enumerate_next
      (wpAny_call_entry F.slot_enumerate_next hT F.entry_enumerate_next ?_ (F.args_enumerate_next_1 _))))
    show wpAny _ _ (field (.ref e) 2 >>= _) _ _ _
    refine wpAny_bind (wpAny_field he rfl (x := .ref it) rfl ?_)
    refine wpAny_bind (RZ.nextOf_tuple_end (A := X.A.in1) (I.ok.hd hc) hit (show s.heap.IsTuple a its.toArray from p) (by simp; omega) fun h' x he' hx' => ?_)
    obtain ⟨o, ho, hc'⟩ := hx'
    refine wpAny_bind (wpAny_isInstance (T := "StopIteration") (b := true) ⟨o, ho, hc'⟩ isSubtype_stop ?_)
    exact wpAny_pure ⟨rfl, I.turned (t' := s.toks) (fun b o hb q => he' b o hb q) f0 f1 f3 f4 f5⟩
  self := fun A i s Q E st h => let ⟨⟨_, he⟩, _⟩ := st; wpAny_pyIter_enum he h
section
variable {X : Cx} {T : Tb} {W : WX} {e a b c tg it : Expr} {es : List Expr} {pos p p2 : Pos} {ma mb mc me : EM} {ml mi : LM} {ba : BM} {st : Stmt} {sts sts' rest : List Stmt} {m m1 m2 : SM}
def iEnumA (K : PySem.W.Frag) (ta : TA) : TI := fun σ H R => ta σ H fun vs H1 => ∃ a xs, vs = [.ref a] ∧ ((SqL K H1 a xs ∧ R (Ite K a) H1) ∨ (SqT K H1 a xs ∧ R (IteT K a) H1))
theorem pi_enumA {X : Cx} {e : Expr} {ta : TA} {p pos tpos : Pos} {elts : List Expr} {kk : Nat} (hg : Gl X "enumerate") (hm : X.mg "enumerate" = none) (ha : PA X [e] ta) (hs : starEach [e] X.env = [(false, eval e X.env)] := by rfl) :
    PI X (.Tuple elts kk tpos) (.Call (.Name "enumerate" p) [e] [] pos) (iEnumA X.K ta) := by
  refine ⟨fun pins s σ H R I h => ?_⟩
  refine Call_ (ld_blt I hg hm boot_enumerate (PyProof.Rows.callWith_type1 (thn (ha.run pos pins s σ H _ I h) fun us s1 ⟨vs, H1, I1, r1, q1⟩ => ?_) hs rfl))
  obtain ⟨a, xs, ex, q1⟩ := q1
  subst ex
  cases r1 with
  | cons r rr =>
    cases rr
    cases r
    have fr : ∀ b ∈ [s1.heap.objs.size + 1, s1.heap.objs.size], FpOk X pins H1 b := fun b hb => by
      have e' : b = s1.heap.objs.size + 1 ∨ b = s1.heap.objs.size := by simpa using hb
      have hle : s1.heap.objs.size ≤ b := by
        rcases e' with z | z
        · rw [z]; exact Nat.le_add_right _ _
        · rw [z]; exact Nat.le_refl _
      exact I1.fpOk hle (I1.hok.fresh hle)
    rcases q1 with ⟨hq, q⟩ | ⟨hq, q⟩
    · obtain ⟨its, rv, p', hz⟩ := I1.list hq
      refine call_enumerate_list p'.isList fun h' he hit hsz hk => wpAny_pyIter_enum he ?_
      have I2 : Inv X pins σ H1 { s1 with heap := h' } := I1.kept (t' := s1.toks) hk
      exact ⟨s1.heap.objs.size + 1, [s1.heap.objs.size + 1, s1.heap.objs.size], _, _, H1, rfl, I2, turn_enum a (s1.heap.objs.size + 1) s1.heap.objs.size, ⟨⟨.none, he⟩, hit, Nat.succ_ne_self _⟩, fr, q⟩
    · obtain ⟨its, rv, p', hz⟩ := I1.tuple hq
      have la : a < s1.heap.objs.size := by
        obtain ⟨o, ho, _⟩ := id p'
        exact Heap.lt_size ho
      refine call_enumerate_tuple (show s1.heap.IsTuple a its.toArray from p') fun h' he hit hsz hk => wpAny_pyIter_enum he ?_
      have I2 : Inv X pins σ H1 { s1 with heap := h' } := I1.kept (t' := s1.toks) hk
      exact ⟨s1.heap.objs.size + 1, [s1.heap.objs.size + 1, s1.heap.objs.size], _, _, H1, rfl, I2, turn_enumT a (s1.heap.objs.size + 1) s1.heap.objs.size (Nat.ne_of_lt (Nat.lt_succ_of_lt la)) (Nat.ne_of_lt la), ⟨⟨.none, he⟩, hit, Nat.succ_ne_self _⟩, fr, q⟩
def enumD : Nat → List D → List D
  | _, [] => []
  | k, x :: xs => .tup [.int k, x] :: enumD (k + 1) xs
theorem enumD_len : ∀ (k : Nat) (xs : List D), (enumD k xs).length = xs.length
  | _, [] => rfl
  | k, x :: xs => by simp [enumD, enumD_len (k + 1) xs]
theorem enumD_get : ∀ (k : Nat) (xs : List D) (i : Nat) (x : D), xs[i]? = some x → (enumD k xs)[i]? = some (.tup [.int ((k + i : Nat) : Int), x])
  | _, [], i, x, h => by simp at h
  | k, y :: xs, 0, x, h => by simp at h; simp [enumD, h]
  | k, y :: xs, i + 1, x, h => by
    simp only [enumD, List.getElem?_cons_succ] at h ⊢
    rw [enumD_get (k + 1) xs i x h]
    congr 5
    omega
def kEnum (xs : List D) (g : Gs) : Res (List D) := match xs with
  | [.lst xs] => .ok (enumD 0 xs) g
  | [.tup xs] => .ok (enumD 0 xs) g
  | _ => .bad
def mEnum (l : LM) : LM := fun ρ g => (l ρ g).bind kEnum
theorem rit_enumL {K : PySem.W.Frag} {H : Hp} {μ : List Addr} {o : Addr → Prop} {a : Addr} {xs : List D} {vs : List V} (h : LstAt K H μ o a vs) (r : Rps K H μ o xs vs) : rIt K H μ o (enumD 0 xs) (Ite K a) := fun μ' o' H' kp i => by
  have h' := h.kp kp
  have r' := r.kp kp
  rw [enumD_len]
  refine ⟨fun hi => ?_, fun hi _ => ⟨vs, h'.sq, by rw [← r'.len]; exact hi⟩⟩
  obtain ⟨v, hv, rv⟩ := r'.get (List.getElem?_eq_getElem hi)
  refine ⟨⟨vs, v, h'.sq, hv⟩, fun x H2 ⟨P, x1, e1, e2, e3, k1⟩ => ?_⟩
  have q1 := k1 vs h'.sq
  rw [hv] at q1
  cases q1
  rw [e1, e3]
  refine ⟨.inr ⟨P, _, e2, rfl⟩, _, enumD_get 0 _ _ _ (List.getElem?_eq_getElem hi), ?_⟩
  rw [Nat.zero_add]
  exact new_pair e2 (kp.fm _ e2) (kp.fo _ e2) (.int _) rv
theorem rit_enumT {K : PySem.W.Frag} {H : Hp} {μ : List Addr} {o : Addr → Prop} {a : Addr} {xs : List D} {vs : List V} (h : TupAt K H μ o a vs) (r : Rps K H μ o xs vs) : rIt K H μ o (enumD 0 xs) (IteT K a) := fun μ' o' H' kp i => by
  have h' := h.kp kp
  have r' := r.kp kp
  rw [enumD_len]
  refine ⟨fun hi => ?_, fun hi _ => ⟨vs, h'.sq, by rw [← r'.len]; exact hi⟩⟩
  obtain ⟨v, hv, rv⟩ := r'.get (List.getElem?_eq_getElem hi)
  refine ⟨⟨vs, v, h'.sq, hv⟩, fun x H2 ⟨P, x1, e1, e2, e3, k1⟩ => ?_⟩
  have q1 := k1 vs h'.sq
  rw [hv] at q1
  cases q1
  rw [e1, e3]
  refine ⟨.inr ⟨P, _, e2, rfl⟩, _, enumD_get 0 _ _ _ (List.getElem?_eq_getElem hi), ?_⟩
  rw [Nat.zero_add]
  exact new_pair e2 (kp.fm _ e2) (kp.fo _ e2) (.int _) rv
theorem mi_enum {x : Str} {elts : List Expr} {kk : Nat} {tpos : Pos} (hx : x = "enumerate") (hg : Gl X x) (hm : X.mg x = none) (ha : MA X T W [a] ml) (hs : starEach [a] X.env = [(false, eval a X.env)] := by rfl) : MI X T W (.Tuple elts kk tpos) (.Call (.Name x p) [a] [] pos) (mEnum ml) := by
  subst hx
  refine PI.weak (pi_enumA hg hm ha hs) fun σ H R q => tG_bind (k := fun _ => kEnum) q fun xs vs ρ μ g H1 s r q => ?_
  match xs, r, q with
  | [.lst xs], .cons (.lst t1 r1) .nil, q => exact ⟨_, _, rfl, .inl ⟨t1.sq, Pst.pure q s (rit_enumL t1 r1)⟩⟩
  | [.tup xs], .cons (.tup t1 r1) .nil, q => exact ⟨_, _, rfl, .inr ⟨t1.sq, Pst.pure q s (rit_enumT t1 r1)⟩⟩
end
end Sh

set_option Elab.async false
set_option linter.all false
set_option maxRecDepth 100000
set_option maxHeartbeats 2000000
namespace Sh
open PySem PySem.Spec L2 PyProof.Rows
/-! ### defs -/
def runB (m : SM) (ρ : En) (g : Gs) : Res D := match m ρ g with
  | .nx _ g' => .ok .non g'
  | .rt d g' => .ok d g'
  | .ex e g' => .ex e g'
  | _ => .bad
def stE (N : Nat) (ds : List D) : En := ds.map .d ++ List.replicate (N - ds.length) .no
def mFn (n N : Nat) (m : SM) (ds : List D) (g : Gs) : Res D := if ds.length = n then runB m (stE N ds) g else .bad
def spF (K : PySem.W.Frag) (t : List (Addr × Str)) (F : List D → Gs → Res D) : Sp := fun vs H Q E => ∃ O ρ σ μ g ds, StR K ⟨t, O⟩ μ g ρ σ H ∧ Rps K H μ (ow ⟨t, O⟩ ρ σ) ds vs ∧ Pst K ⟨t, O⟩ Rp (fun c d _ H => E c d H) ρ σ μ H Q (F ds g)
structure Fn (P : Program) (w : World) (K : PySem.W.Frag) (mg : Str → Option Value) (base : Heap) (t : List (Addr × Str)) (k : Nat) (x : Str) (ps : List Str) (F : List D → Gs → Res D) : Prop where
  run : ∃ fd, FnOk P w K mg base (L2N.CX P w) k (He.ga K x) fd ps (spF K t F) ∧ Binds K fd ps []
  mg : mg x = some (.ref (He.ga K x))
  kp : PySem.W.keepIn K (.ref (He.ga K x)) = true
theorem Fn.mono {P : Program} {w : World} {K : PySem.W.Frag} {mg : Str → Option Value} {base : Heap} {t : List (Addr × Str)} {j k : Nat} {x : Str} {ps : List Str} {F : List D → Gs → Res D} (h : Fn P w K mg base t j x ps F) (hk : j ≤ k) : Fn P w K mg base t k x ps F :=
  ⟨h.run.imp fun fd q => ⟨q.1.mono hk, q.2⟩, h.mg, h.kp⟩
section
variable {K : PySem.W.Frag} {T : Tb} {t : List (Addr × Str)} {O : Addr → Prop} {ρ ρ' : En} {σ σ' : L2.St} {μ μ' : List Addr} {H H' : Hp} {g g' : Gs} {N : List Str}
theorem stE_get {N : Nat} {ds : List D} {i : Nat} {z : Sl} (h : (stE N ds)[i]? = some z) : z = .no ∨ ∃ d, ds[i]? = some d ∧ z = .d d := by
  unfold stE at h
  by_cases hi : i < ds.length
  · rw [List.getElem?_append_left (by simpa using hi)] at h
    rw [List.getElem?_map, List.getElem?_eq_getElem hi] at h
    cases h
    exact .inr ⟨_, List.getElem?_eq_getElem hi, rfl⟩
  · rw [List.getElem?_append_right (by simpa using Nat.le_of_not_lt hi)] at h
    rw [List.getElem?_replicate] at h
    split at h
    · cases h
      exact .inl rfl
    · cases h
theorem start_get {N : List Str} {vs : List V} {i : Nat} {v : V} (h : vs[i]? = some v) : (L2.start N vs)[i]? = some (some v) := by
  unfold L2.start
  have hi := (List.getElem?_eq_some_iff.mp h).1
  rw [List.getElem?_append_left (by simpa using hi), List.getElem?_map, h]
  rfl
theorem stE_nosl {N : Nat} {ds : List D} {σ : L2.St} {a : Addr} : ¬ sl (stE N ds) σ a := fun ⟨i, xs, h, _⟩ => by
  rcases stE_get h with z | ⟨d, _, z⟩ <;> cases z
/-- at a def's entry -/
theorem StR.enter (s : StR K ⟨t, O⟩ μ g ρ σ H) {ds : List D} {vs : List V} (r : Rps K H μ (ow ⟨t, O⟩ ρ σ) ds vs) : StR K ⟨t, ow ⟨t, O⟩ ρ σ⟩ μ g (stE N.length ds) (L2.start N vs) H := by
  have ho : ∀ a, ow ⟨t, ow ⟨t, O⟩ ρ σ⟩ (stE N.length ds) (L2.start N vs) a → ow ⟨t, O⟩ ρ σ a := fun a z => z.elim id fun z => (stE_nosl z).elim
  refine ⟨s.len, s.nd, fun l a x e1 e2 => (s.gl l a x e1 e2).less ho, ?_, fun i x e => ?_, fun i xs e => ?_, fun i j xs ys a e => ?_, fun a z => ?_, fun i xs a e => ?_, s.tb⟩
  · have := r.len
    unfold stE L2.start
    simp [this]
  · rcases stE_get e with z | ⟨d, hd, z⟩
    · cases z
    · cases z
      obtain ⟨v, hv, rv⟩ := r.get hd
      exact ⟨v, start_get hv, rv.less ho⟩
  · rcases stE_get e with z | ⟨d, _, z⟩ <;> cases z
  · rcases stE_get e with z | ⟨d, _, z⟩ <;> cases z
  · refine ⟨s.own z, ?_⟩
    rcases z with z | ⟨i, xs, h1, h2⟩
    · exact (s.ob a z).2
    · obtain ⟨b, vs, q1, q2, q3, _⟩ := s.em i xs h1
      rw [h2] at q1
      cases q1
      exact q3
  · rcases stE_get e with z | ⟨d, _, z⟩ <;> cases z
theorem XnR.less {o o' : Addr → Prop} (h : ∀ a, o' a → o a) {e : Xn} {d : Option Addr} (r : XnR K H μ o e d) : XnR K H μ o' e d := by
  rcases r with r | ⟨dd, fv, r1, r2, r3, r4, r5, r6⟩
  · exact .inl r
  · exact .inr ⟨dd, fv, r1, r2, r3, r4, fun z => r5 (h _ z), r6.mapP fun _ _ r => r.less h⟩
theorem enter_run {W : WX} {Q : VK} {m : SM} {ds : List D} {vs : List V} (s : StR K ⟨t, O⟩ μ g ρ σ H) (r : Rps K H μ (ow ⟨t, O⟩ ρ σ) ds vs) (hW : ∀ c d σ1 σ2 H, W c d σ1 H → W c d σ2 H) (p : Pst K ⟨t, O⟩ Rp W ρ σ μ H Q (runB m (stE N.length ds) g)) :
    tS K ⟨t, ow ⟨t, O⟩ ρ σ⟩ W m { nx := fun _ H' => Q .non H', rt := Q } (L2.start N vs) H := by
  refine ⟨stE N.length ds, μ, g, s.enter r, ?_⟩
  unfold runB at p
  have hb : ∀ {ρ' σ' : _} {μ' g' H'}, StR K ⟨t, ow ⟨t, O⟩ ρ σ⟩ μ' g' ρ' σ' H' → ExS μ (sl (stE N.length ds) (L2.start N vs)) H μ' (sl ρ' σ') H' → StR K ⟨t, O⟩ μ' g' ρ σ H' ∧ Ex μ H μ' H' := fun {ρ' σ' μ' g' H'} s' e => by
    have ex := e.ex fun a => stE_nosl
    exact ⟨s.back ex s' (fun a z => .inl z) rfl, ex⟩
  cases hm : m (stE N.length ds) g with
  | nx ρ' g' =>
    rw [hm] at p
    exact fun σ' μ' H' s' e => let ⟨q1, q2⟩ := hb s' e; p .non μ' H' q1 q2 .non
  | rt d g' =>
    rw [hm] at p
    exact fun v ρ' σ' μ' H' s' e rv => let ⟨q1, q2⟩ := hb s' e; p v μ' H' q1 q2 (rv.less fun a z => .inl z)
  | ex x g' =>
    rw [hm] at p
    exact fun d ρ' σ' μ' H' s' e rv => let ⟨q1, q2⟩ := hb s' e; hW _ _ _ _ _ (p d μ' H' q1 q2 (rv.less fun a z => .inl z))
  | bk _ _ => rw [hm] at p; exact p.elim
  | ct _ _ => rw [hm] at p; exact p.elim
  | bad => rw [hm] at p; exact p.elim
end
theorem spF_len {K : PySem.W.Frag} {t : List (Addr × Str)} {n N : Nat} {m : SM} {vs : List V} {H : Hp} {Q : VK} {E : XK} (h : spF K t (mFn n N m) vs H Q E) : vs.length = n := by
  obtain ⟨O, ρ, σ, μ, g, ds, s, r, p⟩ := h
  unfold mFn at p
  by_cases e : ds.length = n
  · rw [← r.len, e]
  · rw [if_neg e] at p
    exact p.elim
theorem fn_ok {P : Program} {w : World} {K : PySem.W.Frag} {mg : Str → Option Value} {base : Heap} {t : List (Addr × Str)} {x qual : Str} {params : Arguments} {body : List Stmt} {scope : Scope} {f : Addr} {fd : FuncData} {N ps : List Str} {k n : Nat} {m : SM}
    (F : FunD K x qual params body scope [] [] f fd) (S : FnScope N ps scope) (hn : ps.length = n) (der : ∀ (cdv : Value) (A : Around) (outer : List Env) (s : Shared) (H : Hp) (E : XK) (T : Tb), T.t = t → Room k (A.deeper (envOfC qual scope s.heap.objs.size f cdv)) →
      MSs (cxOf (L2N.CX P w) P w K mg base N qual scope f cdv A outer s H E) T (fun c d _ H => E c d H) body m) : FnOk P w K mg base (L2N.CX P w) (k + 1) f fd ps (spF K t (mFn n N.length m)) := by
  refine F.ok S (fun vs H Q E h => by rw [hn]; exact spF_len h) fun cdv A outer s H vs Q E hr h => ?_
  obtain ⟨O, ρ, σ, μ, g, ds, st, r, p⟩ := h
  refine ⟨_, der cdv A outer s H E ⟨t, ow ⟨t, O⟩ ρ σ⟩ rfl hr, ?_⟩
  unfold mFn at p
  by_cases e : ds.length = n
  · rw [if_pos e] at p
    exact enter_run st r (fun _ _ _ _ _ h => h) p
  · rw [if_neg e] at p
    exact p.elim
theorem fn_of {P : Program} {w : World} {K : PySem.W.Frag} {mg : Str → Option Value} {base : Heap} {t : List (Addr × Str)} {x qual : Str} {params : Arguments} {body : List Stmt} {scope : Scope} {fd : FuncData} {N ps : List Str} {k n : Nat} {m : SM}
    (F : FunD K x qual params body scope [] [] (He.ga K x) fd) (S : FnScope N ps scope) (hmg : mg x = some (.ref (He.ga K x))) (hn : ps.length = n) (hb : Binds K fd ps []) (der : ∀ (cdv : Value) (A : Around) (outer : List Env) (s : Shared) (H : Hp) (E : XK) (T : Tb), T.t = t → Room k (A.deeper (envOfC qual scope s.heap.objs.size (He.ga K x) cdv)) →
      MSs (cxOf (L2N.CX P w) P w K mg base N qual scope (He.ga K x) cdv A outer s H E) T (fun c d _ H => E c d H) body m) : Fn P w K mg base t (k + 1) x ps (mFn n N.length m) :=
  ⟨⟨fd, fn_ok F S hn der, hb⟩, hmg, F.kp⟩
/-! ### the law -/
def spLaw (K : PySem.W.Frag) (t : List (Addr × Str)) : Sp := fun vs H Q _ => ∃ (a : Addr) (ns : List Int), vs = [.ref a] ∧ ns.length ≤ 63 ∧ SqL K H a (ns.map V.int) ∧ LamX.Tabs t H ∧ ∀ H', Q (.bl true) H'
theorem law_ok {P : Program} {w : World} {K : PySem.W.Frag} {mg : Str → Option Value} {base : Heap} {t : List (Addr × Str)} {x qual a : Str} {params : Arguments} {body : List Stmt} {scope : Scope} {f : Addr} {fd : FuncData} {N : List Str} {k : Nat} {m : SM}
    (F : FunD K x qual params body scope [] [] f fd) (S : FnScope N [a] scope) (der : ∀ (cdv : Value) (A : Around) (outer : List Env) (s : Shared) (H : Hp) (E : XK) (T : Tb), T.t = t → Room k (A.deeper (envOfC qual scope s.heap.objs.size f cdv)) →
      MSs (cxOf CX0 P w K mg base N qual scope f cdv A outer s H E) T WF body m) (pure : ∀ ns : List Int, ns.length ≤ 63 → ∃ g, mFn 1 N.length m [.lst (ns.map .int)] [] = .ok (.bl true) g) : FnOk P w K mg base CX0 (k + 1) f fd [a] (spLaw K t) := by
  refine F.ok S (fun vs H Q E h => ?_) fun cdv A outer s H vs Q E hr h => ?_
  · obtain ⟨a, ns, rfl, _⟩ := h
    rfl
  obtain ⟨a, ns, rfl, hl, hS, ht, hQ⟩ := h
  have s0 : StR K ⟨t, fun _ => False⟩ [] [] [] [] H := ⟨rfl, .nil, fun l a x e => by simp at e, rfl, fun i x e => by simp at e, fun i x e => by simp at e, fun i j x y a e => by simp at e, fun a z => z.elim, fun i x a e => by simp at e, ht⟩
  have no : ∀ a, ¬ ow ⟨t, fun _ => False⟩ [] [] a := fun a z => z.elim id fun ⟨i, xs, e, _⟩ => by simp at e
  have r0 : Rps K H [] (ow ⟨t, fun _ => False⟩ [] []) [.lst (ns.map .int)] [.ref a] := by
    refine .cons (.lst ?_ (Rps.ints ns)) .nil
    rcases hS with h | h
    · exact .inl ⟨h, by simp, no a⟩
    · exact .inr h
  refine ⟨_, der cdv A outer s H E ⟨t, ow ⟨t, fun _ => False⟩ [] []⟩ rfl hr, enter_run s0 r0 (W := WF) (fun _ _ _ _ _ h => h) ?_⟩
  obtain ⟨g, e⟩ := pure ns hl
  unfold mFn at e
  rw [if_pos (show [D.lst (ns.map D.int)].length = 1 from rfl)] at e
  rw [e]
  intro v μ' H' s' x r
  cases r
  exact hQ _
/-! ### calls -/
section
variable {X : Cx} {T : Tb} {W : WX} {e a b c tg it : Expr} {es : List Expr} {pos p p2 : Pos} {ma mb mc me : EM} {ml mi : LM} {ba : BM} {k : Nat} {x : Str} {ps : List Str} {F : List D → Gs → Res D}
theorem Pst.atW {K : PySem.W.Frag} {ρ : En} {σ : L2.St} {μ : List Addr} {H : Hp} {Q : VK} {r : Res D} (p : Pst K T Rp W ρ σ μ H Q r) : Pst K T Rp (fun c d _ H => W c d σ H) ρ σ μ H Q r := by
  cases r with
  | ok _ _ => exact p
  | ex _ _ => exact p
  | bad => exact p
theorem w_call {σ : L2.St} {H : Hp} {Q : VK} (h : tE X.K T W (mN F ml) σ H Q) : tCallS (spF X.K T.t F) (WE W) (tL X.K T W ml) σ H Q :=
  tG_bind (k := fun _ => F) h fun d x ρ μ g H1 s r p => ⟨T.O, ρ, σ, μ, g, d, s, r, p.atW⟩
theorem me_call (h : Fn X.prog X.w X.K X.mg X.base T.t k x ps F) (hr : Room k X.A) (tk : L2N.Takes X W) (hg : Gl X x) (ha : MA X T W (e :: es) ml) (hdb : (x == ("__debug__" : Str)) = false := by decide)
    (he : starEach (e :: es) X.env = (false, eval e X.env) :: starEach es X.env := by rfl) (hpl : (backTo pos (starEach es X.env)).any (·.1) = false := by rfl) : ME X T W (.Call (.Name x p) (e :: es) [] pos) (mN F ml) := by
  obtain ⟨⟨fd, h1, h2⟩, h3, h4⟩ := h
  exact PE.weak (pe_callS h1 hr hg h3 h4 h2 (L2N.passAt tk) ha hdb he hpl) fun _ _ _ q => w_call q
theorem pe_call0S {CX : CXT} {f : Addr} {fd : FuncData} {sp : Sp} {E : L2.St → XK} (F : FnOk X.prog X.w X.K X.mg X.base CX k f fd ps sp) (hr : Room k X.A) (hg : Gl X x) (hm : X.mg x = some (.ref f)) (hk : PySem.W.keepIn X.K (.ref f) = true) (hb : Binds X.K fd ps []) (hx : ∀ σ, PassesAt CX X σ (E σ))
    (hdb : (x == ("__debug__" : Str)) = false := by decide) : PE X (.Call (.Name x p) [] [] pos) (tCallS sp E tNil) := by
  refine ⟨fun pins s σ H Q I h => ?_⟩
  refine wpAny_Call_Name_kw (ld_glob I hg hm ?_ hdb)
  exact PySem.W.callWith_K0 I.kIn hk (run_fnS (us := []) F hr hb (hx σ) I .nil h)
theorem me_call0 (h : Fn X.prog X.w X.K X.mg X.base T.t k x ps F) (hr : Room k X.A) (tk : L2N.Takes X W) (hg : Gl X x) (hdb : (x == ("__debug__" : Str)) = false := by decide) : ME X T W (.Call (.Name x p) [] [] pos) (mN F mNil) := by
  obtain ⟨⟨fd, h1, h2⟩, h3, h4⟩ := h
  exact PE.weak (pe_call0S (pos := pos) (p := p) h1 hr hg h3 h4 h2 (L2N.passAt tk) hdb) fun σ H Q q => by
    obtain ⟨ρ, μ, g, s, p⟩ := q
    exact ⟨T.O, ρ, σ, μ, g, [], s, .nil, p.atW⟩
end
end Sh

set_option Elab.async false
set_option linter.all false
set_option maxRecDepth 100000
set_option maxHeartbeats 2000000
namespace Sh
open PySem PySem.Spec L2 PyProof.Rows
theorem pvr {X : Cx} {pos : Pos} (i : Nat) {x : Str} (hN : X.N[i]? = some x := by rfl) (hv : Vis X.env.scope x := by first | exact Or.inl rfl | exact Or.inr (Or.inl rfl) | exact Or.inr (Or.inr rfl)) (hd : (x == ("__debug__" : Str)) = false := by decide)
    (hcd : (x == ("__classdict__" : Str)) = false := by decide) : PE X (.Name x pos) (tVar i) := pe_var hN hv hd hcd
theorem tk0 {X : Cx} : L2N.Takes X WF := fun _ _ x => by
  obtain ⟨_, _, _, _, _, _, _, _, _, _, _, _, _, _, _, _, z⟩ := x
  exact z.elim
theorem Fn.at_ {P : Program} {w : World} {K : PySem.W.Frag} {mg : Str → Option Value} {base : Heap} {t t' : List (Addr × Str)} {k : Nat} {x : Str} {ps : List Str} {F : List D → Gs → Res D} (h : Fn P w K mg base t k x ps F) (e : t' = t) : Fn P w K mg base t' k x ps F := e ▸ h
theorem fn_bad {P : Program} {w : World} {K : PySem.W.Frag} {mg : Str → Option Value} {base : Heap} {t : List (Addr × Str)} {x qual : Str} {params : Arguments} {body : List Stmt} {scope : Scope} {fd : FuncData} {N ps : List Str} {k : Nat}
    (F : FunD K x qual params body scope [] [] (He.ga K x) fd) (S : FnScope N ps scope) (hmg : mg x = some (.ref (He.ga K x))) (hb : Binds K fd ps []) : Fn P w K mg base t k x ps fun _ _ => .bad :=
  ⟨⟨fd, ⟨fun vs H Q E ⟨_, _, _, _, _, _, _, _, p⟩ => p.elim, fun A outer s H args us vs Q E _ _ _ _ ⟨_, _, _, _, _, _, _, _, p⟩ => p.elim⟩, hb⟩, hmg, F.kp⟩
end Sh

set_option Elab.async false
set_option linter.all false
set_option maxRecDepth 100000
set_option maxHeartbeats 2000000
namespace Sh
open PySem PySem.Spec L2
/-! ### what a denotation gives -/
def wp {α : Type} (r : Res α) (Q : α → Gs → Prop) : Prop := match r with
  | .ok a g => Q a g
  | _ => False
def wpS (r : SRes) (N : En → Gs → Prop) (R : D → Gs → Prop) : Prop := match r with
  | .nx ρ g => N ρ g
  | .rt d g => R d g
  | _ => False
theorem wp.to {α : Type} {r : Res α} {Q : α → Gs → Prop} (h : wp r Q) : ∃ a g, r = .ok a g ∧ Q a g := by
  cases r with
  | ok a g => exact ⟨a, g, rfl, h⟩
  | ex _ _ => exact h.elim
  | bad => exact h.elim
theorem wp.mono {α : Type} {r : Res α} {Q Q' : α → Gs → Prop} (h : wp r Q) (hq : ∀ a g, Q a g → Q' a g) : wp r Q' := by
  cases r with
  | ok a g => exact hq _ _ h
  | ex _ _ => exact h.elim
  | bad => exact h.elim
theorem wpS.mono {r : SRes} {N N' : En → Gs → Prop} {R R' : D → Gs → Prop} (h : wpS r N R) (hn : ∀ a g, N a g → N' a g) (hr : ∀ a g, R a g → R' a g) : wpS r N' R' := by
  cases r with
  | nx a g => exact hn _ _ h
  | ct _ _ => exact h.elim
  | rt a g => exact hr _ _ h
  | bk _ _ => exact h.elim
  | ex _ _ => exact h.elim
  | bad => exact h.elim
section
variable {α β : Type} {Q : α → Gs → Prop} {QD : D → Gs → Prop} {QB : Bool → Gs → Prop} {QL : List D → Gs → Prop} {N : En → Gs → Prop} {R : D → Gs → Prop} {ρ : En} {g : Gs} {a b : EM} {ba bb : BM} {l : LM} {m1 m2 : SM}
@[simp] theorem wp_ok {x : α} : wp (.ok x g) Q = Q x g := rfl
@[simp] theorem wp_bind {r : Res β} {k : β → Gs → Res α} : wp (r.bind k) Q = wp r fun x g1 => wp (k x g1) Q := by cases r <;> rfl
@[simp] theorem wp_mC {d : D} : wp (mC d ρ g) QD = QD d g := rfl
@[simp] theorem wp_mNil : wp (mNil ρ g) QL = QL [] g := rfl
@[simp] theorem wp_mCons : wp (mCons a l ρ g) QL = wp (a ρ g) fun x g1 => wp (l ρ g1) fun xs g2 => QL (x :: xs) g2 := by
  unfold mCons
  rw [wp_bind]
  congr 1
  funext x g1
  rw [wp_bind]
  rfl
@[simp] theorem wp_mN {op : List D → Gs → Res D} : wp (mN op l ρ g) QD = wp (l ρ g) fun xs g1 => wp (op xs g1) QD := wp_bind
@[simp] theorem wp_mU {op : D → Gs → Res D} : wp (mU op a ρ g) QD = wp (a ρ g) fun x g1 => wp (op x g1) QD := wp_bind
@[simp] theorem wp_mO {op : D → D → Gs → Res D} : wp (mO op a b ρ g) QD = wp (a ρ g) fun x g1 => wp (b ρ g1) fun y g2 => wp (op x y g2) QD := by
  unfold mO
  rw [wp_bind]
  congr 1
  funext x g1
  rw [wp_bind]
/-- a truth -/
def tb (d : D) (g : Gs) : Res Bool := match d with
  | .bl k => .ok k g
  | _ => .bad
@[simp] theorem tb_bl {k : Bool} : tb (.bl k) g = .ok k g := rfl
@[simp] theorem wp_mB : wp (mB a ρ g) QB = wp (a ρ g) fun x g1 => wp (tb x g1) QB := by
  unfold mB
  rw [wp_bind]
  rfl
@[simp] theorem wp_bAnd : wp (bAnd ba bb ρ g) QB = wp (ba ρ g) fun k g1 => if k = true then wp (bb ρ g1) QB else QB false g1 := by
  unfold bAnd
  rw [wp_bind]
  congr 1
  funext k g1
  cases k <;> rfl
@[simp] theorem wp_bOr : wp (bOr ba bb ρ g) QB = wp (ba ρ g) fun k g1 => if k = true then QB true g1 else wp (bb ρ g1) QB := by
  unfold bOr
  rw [wp_bind]
  congr 1
  funext k g1
  cases k <;> rfl
@[simp] theorem wp_bNot : wp (bNot ba ρ g) QB = wp (ba ρ g) fun k g1 => QB (!k) g1 := by
  unfold bNot
  rw [wp_bind]
  rfl
@[simp] theorem wp_mAnd : wp (mAnd a b ρ g) QD = wp (a ρ g) fun x g1 => wp (tb x g1) fun k g2 => if k = true then wp (b ρ g2) QD else QD (.bl false) g2 := by
  unfold mAnd
  rw [wp_bind]
  congr 1
  funext x g1
  cases x with
  | bl k => cases k <;> rfl
  | _ => rfl
@[simp] theorem wp_mOr : wp (mOr a b ρ g) QD = wp (a ρ g) fun x g1 => wp (tb x g1) fun k g2 => if k = true then QD (.bl true) g2 else wp (b ρ g2) QD := by
  unfold mOr
  rw [wp_bind]
  congr 1
  funext x g1
  cases x with
  | bl k => cases k <;> rfl
  | _ => rfl
@[simp] theorem wp_mNot : wp (mNot a ρ g) QD = wp (a ρ g) fun x g1 => wp (tb x g1) fun k g2 => QD (.bl (!k)) g2 := by
  unfold mNot
  rw [wp_bind]
  congr 1
  funext x g1
  cases x <;> rfl
@[simp] theorem wp_mIf : wp (mIf ba a b ρ g) QD = wp (ba ρ g) fun k g1 => if k = true then wp (a ρ g1) QD else wp (b ρ g1) QD := by
  unfold mIf
  rw [wp_bind]
  congr 1
  funext k g1
  cases k <;> rfl
@[simp] theorem wp_mCh {op op' : D → D → Gs → Res D} {c : EM} : wp (mCh op op' a b c ρ g) QD = wp (a ρ g) fun x g1 => wp (b ρ g1) fun y g2 => wp (op x y g2) fun k g3 => wp (tb k g3) fun k g4 => if k = true then wp (c ρ g4) fun z g5 => wp (op' y z g5) QD else QD (.bl false) g4 := by
  unfold mCh
  rw [wp_bind]
  congr 1
  funext x g1
  rw [wp_bind]
  congr 1
  funext y g2
  rw [wp_bind]
  congr 1
  funext k g3
  cases k with
  | bl k =>
    cases k
    · rfl
    · show wp ((c ρ g3).bind _) QD = wp (c ρ g3) _
      rw [wp_bind]
  | _ => rfl
def sqR (d : D) (g : Gs) : Res (List D) := match seqD d with
  | some xs => .ok xs g
  | none => .bad
@[simp] theorem sqR_tup {xs : List D} : sqR (.tup xs) g = .ok xs g := rfl
@[simp] theorem sqR_lst {xs : List D} : sqR (.lst xs) g = .ok xs g := rfl
@[simp] theorem wp_mIt : wp (mIt a ρ g) QL = wp (a ρ g) fun x g1 => wp (sqR x g1) QL := by
  unfold mIt
  rw [wp_bind]
  rfl
@[simp] theorem wp_mRng1 : wp (mRng1 l ρ g) QL = wp (l ρ g) fun x g1 => wp (kRng1 x g1) QL := wp_bind
@[simp] theorem wp_mRng2 : wp (mRng2 l ρ g) QL = wp (l ρ g) fun x g1 => wp (kRng2 x g1) QL := wp_bind
@[simp] theorem wp_mZip : wp (mZip l ρ g) QL = wp (l ρ g) fun x g1 => wp (kZip x g1) QL := wp_bind
@[simp] theorem wp_mEnum : wp (mEnum l ρ g) QL = wp (l ρ g) fun x g1 => wp (kEnum x g1) QL := wp_bind
@[simp] theorem wp_mSl {lo hi : PM} : wp (mSl a lo hi ρ g) QD = wp (a ρ g) fun x g1 => wp (lo ρ g1) fun l g2 => wp (hi ρ g2) fun h g3 => wp (oSl x l h g3) QD := by
  unfold mSl
  rw [wp_bind]
  congr 1
  funext x g1
  rw [wp_bind]
  congr 1
  funext y g2
  exact wp_bind
def ixR (d : D) (g : Gs) : Res (Option Int) := match d with
  | .int i => .ok (some i) g
  | _ => .bad
@[simp] theorem ixR_int {i : Int} : ixR (.int i) g = .ok (some i) g := rfl
@[simp] theorem wp_pNo {Q : Option Int → Gs → Prop} : wp (pNo ρ g) Q = Q none g := rfl
@[simp] theorem wp_pAt {Q : Option Int → Gs → Prop} : wp (pAt a ρ g) Q = wp (a ρ g) fun x g1 => wp (ixR x g1) Q := by
  unfold pAt
  rw [wp_bind]
  congr 1
@[simp] theorem wp_mLc {own : List Nat} {f : GM} : wp (mLc own l f ba a ρ g) QD = wp (l ρ g) fun ds g1 => noMl own ρ = true ∧ wp (lcGo f ba a (forget own ρ) ds g1) fun xs g2 => xs.length ≤ 1000000 ∧ QD (.lst xs) g2 := by
  unfold mLc
  rw [wp_bind]
  congr 1
  funext ds g1
  by_cases h : noMl own ρ = true
  · rw [if_pos h]
    cases q : lcGo f ba a (forget own ρ) ds g1 with
    | ok xs g2 =>
      by_cases hz : xs.length ≤ 1000000
      · simp [wp, h, hz]
      · simp [h, hz, wp]
    | ex _ _ => simp [wp]
    | bad => simp [wp]
  · rw [if_neg h]
    simp [h, wp]
/-! statements -/
@[simp] theorem wpS_nx : wpS (.nx ρ g) N R = N ρ g := rfl
@[simp] theorem wpS_rt {d : D} : wpS (.rt d g) N R = R d g := rfl
@[simp] theorem wpS_e {r : Res α} {k : α → Gs → SRes} : wpS (eS r k) N R = wp r fun x g1 => wpS (k x g1) N R := by cases r <;> rfl
@[simp] theorem wpS_nil : wpS (sNil ρ g) N R = N ρ g := rfl
@[simp] theorem wpS_seq : wpS (sSeq m1 m2 ρ g) N R = wpS (m1 ρ g) (fun ρ' g' => wpS (m2 ρ' g') N R) R := by
  unfold sSeq
  cases m1 ρ g <;> rfl
@[simp] theorem wpS_ret : wpS (sRet a ρ g) N R = wp (a ρ g) R := wpS_e
@[simp] theorem wpS_retN : wpS (sRetN ρ g) N R = R .non g := rfl
@[simp] theorem wpS_if : wpS (sIf ba m1 m2 ρ g) N R = wp (ba ρ g) fun k g1 => if k = true then wpS (m1 ρ g1) N R else wpS (m2 ρ g1) N R := by
  unfold sIf
  rw [wpS_e]
  congr 1
  funext k g1
  cases k <;> rfl
@[simp] theorem wpS_expr : wpS (sExpr a ρ g) N R = wp (a ρ g) fun _ g1 => N ρ g1 := wpS_e
@[simp] theorem wpS_set {i : Nat} : wpS (sSet i a ρ g) N R = wp (a ρ g) fun d g1 => N (ρ.set i (.d d)) g1 := wpS_e
def gmR (f : GM) (d : D) (ρ : En) (N : En → Gs → Prop) (g : Gs) : Prop := match f d ρ with
  | some ρ' => N ρ' g
  | none => False
@[simp] theorem wpS_asg {f : GM} : wpS (sAsg f a ρ g) N R = wp (a ρ g) fun d g1 => gmR f d ρ N g1 := by
  unfold sAsg
  rw [wpS_e]
  congr 1
  funext d g1
  unfold gmR
  cases f d ρ <;> rfl
@[simp] theorem wpS_par {is : List Nat} {args : List Arg} : wpS (sPar is args ρ g) N R = wp (evA args ρ g) fun l g1 => N (setA is l ρ) g1 := wpS_e
@[simp] theorem wp_evA0 {Q : List Sl → Gs → Prop} : wp (evA [] ρ g) Q = Q [] g := rfl
@[simp] theorem wp_evAv {Q : List Sl → Gs → Prop} {r : List Arg} : wp (evA (.v a :: r) ρ g) Q = wp (a ρ g) fun d g1 => wp (evA r ρ g1) fun l g2 => Q (.d d :: l) g2 := by
  rw [evA, wp_bind]
  congr 1
  funext d g1
  rw [wp_bind]
  rfl
@[simp] theorem wp_evAf {Q : List Sl → Gs → Prop} {r : List Arg} : wp (evA (.f l :: r) ρ g) Q = wp (l ρ g) fun xs g1 => xs.length ≤ 1000000 ∧ wp (evA r ρ g1) fun l g2 => Q (.ml xs :: l) g2 := by
  rw [evA, wp_bind]
  congr 1
  funext d g1
  by_cases h : d.length ≤ 1000000
  · rw [if_pos h, wp_bind]
    simp only [wp_ok, h, true_and]
  · rw [if_neg h]
    simp only [wp, h, false_and]
theorem wpS_app {i : Nat} {xs : List D} (h : mlOf ρ i = some xs) : wpS (sApp i a ρ g) N R = wp (a ρ g) fun d g1 => xs.length < 1000000 ∧ N (ρ.set i (.ml (xs ++ [d]))) g1 := by
  unfold sApp
  rw [h]
  show wpS (eS _ _) N R = _
  rw [wpS_e]
  congr 1
  funext d g1
  by_cases hl : xs.length < 1000000
  · rw [if_pos hl]
    simp only [wpS_nx, hl, true_and]
  · rw [if_neg hl]
    simp only [wpS, hl, false_and]
def sbR (od k d : D) (ρ : En) (N : En → Gs → Prop) (g : Gs) : Prop := match od, k with
  | .loc l, .int k => (match getLs g l with
    | some xs => (match ixN xs.length k with
      | some j => N ρ (g.set l (.lst (xs.set j d)))
      | none => False)
    | none => False)
  | _, _ => False
@[simp] theorem wpS_sub {o i : EM} : wpS (sSub a o i ρ g) N R = wp (a ρ g) fun d g1 => wp (o ρ g1) fun od g2 => wp (i ρ g2) fun k g3 => sbR od k d ρ N g3 := by
  unfold sSub
  rw [wpS_e]
  congr 1
  funext d g1
  rw [wpS_e]
  congr 1
  funext od g2
  rw [wpS_e]
  congr 1
  funext k g3
  unfold sbR
  cases od <;> try rfl
  cases k <;> try rfl
  rename_i l k
  simp only
  cases h1 : getLs g3 l with
  | none => rfl
  | some xs =>
    simp only
    cases h2 : ixN xs.length k <;> rfl
@[simp] theorem wpS_aug {i : Nat} {op : D → D → Gs → Res D} : wpS (sAug i op a ρ g) N R = wp (mV i ρ g) fun x _ => wp (a ρ g) fun y g1 => wp (op x y g1) fun z g2 => N (ρ.set i (.d z)) g2 := by
  unfold sAug
  rw [wpS_e]
  congr 1
  funext x _
  rw [wpS_e]
  congr 1
  funext y g1
  rw [wpS_e]
  rfl
@[simp] theorem wpS_for {f : GM} {body : SM} : wpS (sFor l f body ρ g) N R = wp (l ρ g) fun ds g1 => wpS (forGo f body ds ρ g1) N R := wpS_e
@[simp] theorem wpS_pre {f : En → En} {m : SM} : wpS (sPre f m ρ g) N R = wpS (m (f ρ) g) N R := rfl
@[simp] theorem wpS_post {f : En → En} {m : SM} : wpS (sPost f m ρ g) N R = wpS (m ρ g) (fun ρ' g' => N (f ρ') g') R := by
  unfold sPost
  cases m ρ g <;> rfl
theorem wp_fn {n M : Nat} {m : SM} {ds : List D} (hl : ds.length = n) : wp (mFn n M m ds g) QD = wpS (m (stE M ds) g) (fun _ g' => QD .non g') QD := by
  unfold mFn
  rw [if_pos hl]
  unfold runB
  cases m (stE M ds) g <;> rfl
/-! ### loops -/
@[simp] theorem wp_lcNil {f : GM} : wp (lcGo f ba a ρ [] g) QL = QL [] g := rfl
@[simp] theorem wp_lcCons {f : GM} {d : D} {ds : List D} : wp (lcGo f ba a ρ (d :: ds) g) QL = gmR f d ρ (fun ρ1 g => wp (ba ρ1 g) fun k g1 => if k = true then wp (a ρ1 g1) fun x g2 => wp (lcGo f ba a ρ ds g2) fun xs g3 => QL (x :: xs) g3 else wp (lcGo f ba a ρ ds g1) QL) g := by
  rw [lcGo]
  unfold gmR
  cases f d ρ with
  | none => rfl
  | some ρ1 =>
    simp only
    rw [wp_bind]
    congr 1
    funext k g1
    cases k with
    | false => rfl
    | true =>
      simp only [if_true]
      rw [wp_bind]
      congr 1
      funext x g2
      rw [wp_bind]
      rfl
@[simp] theorem wpS_forNil {f : GM} {body : SM} : wpS (forGo f body [] ρ g) N R = N ρ g := rfl
theorem wpS_forCons {f : GM} {body : SM} {d : D} {ds : List D} (hb : ∀ ρ g ρ' g', body ρ g ≠ .ct ρ' g' ∧ body ρ g ≠ .bk ρ' g') : wpS (forGo f body (d :: ds) ρ g) N R = gmR f d ρ (fun ρ1 g => wpS (body ρ1 g) (fun ρ2 g2 => wpS (forGo f body ds ρ2 g2) N R) R) g := by
  rw [forGo]
  unfold gmR
  cases f d ρ with
  | none => rfl
  | some ρ1 =>
    simp only
    cases q : body ρ1 g with
    | ct _ _ => exact ((hb _ _ _ _).1 q).elim
    | bk _ _ => exact ((hb _ _ _ _).2 q).elim
    | _ => rfl
/-- a loop turn, one way -/
theorem wpS_forTurn {f : GM} {body : SM} {d : D} {ds : List D} (h : gmR f d ρ (fun ρ1 g => wpS (body ρ1 g) (fun ρ2 g2 => wpS (forGo f body ds ρ2 g2) N R) R) g) : wpS (forGo f body (d :: ds) ρ g) N R := by
  rw [forGo]
  unfold gmR at h
  cases hf : f d ρ with
  | none => rw [hf] at h; exact h.elim
  | some ρ1 =>
    rw [hf] at h
    simp only at h ⊢
    cases q : body ρ1 g with
    | ct _ _ => rw [q] at h; exact h.elim
    | bk _ _ => rw [q] at h; exact h.elim
    | ex _ _ => rw [q] at h; exact h.elim
    | bad => rw [q] at h; exact h.elim
    | nx _ _ => rw [q] at h; exact h
    | rt _ _ => rw [q] at h; exact h
theorem wpS_turn {f : GM} {B body : SM} {d : D} {ds : List D} (e : B = body) (h : gmR f d ρ (fun ρ1 g => wpS (body ρ1 g) (fun ρ2 g2 => wpS (forGo f B ds ρ2 g2) N R) R) g) : wpS (forGo f B (d :: ds) ρ g) N R := by
  subst e
  exact wpS_forTurn h
/-- an invariant by the turn -/
theorem wpS_forInv {f : GM} {body : SM} {ds : List D} (I : Nat → En → Gs → Prop) (h0 : I 0 ρ g) (step : ∀ k d ρ g, ds[k]? = some d → I k ρ g → gmR f d ρ (fun ρ1 g => wpS (body ρ1 g) (fun ρ2 g2 => I (k + 1) ρ2 g2) R) g) (hQ : ∀ ρ' g', I ds.length ρ' g' → N ρ' g') : wpS (forGo f body ds ρ g) N R := by
  have go : ∀ (ds2 : List D) (k : Nat) (ρ : En) (g : Gs), ds.drop k = ds2 → k ≤ ds.length → I k ρ g → wpS (forGo f body ds2 ρ g) N R := by
    intro ds2
    induction ds2 with
    | nil =>
      intro k ρ g hd hk hI
      have hk2 : k = ds.length := by
        have := congrArg List.length hd
        rw [List.length_drop] at this
        simp at this
        omega
      rw [hk2] at hI
      exact hQ _ _ hI
    | cons d ds2 ih =>
      intro k ρ g hd hk hI
      have hlt : k < ds.length := by
        have := congrArg List.length hd
        rw [List.length_drop] at this
        simp at this
        omega
      rw [List.drop_eq_getElem_cons hlt] at hd
      injection hd with h1 h2
      have hget : ds[k]? = some d := by rw [List.getElem?_eq_getElem hlt, h1]
      refine wpS_forTurn ?_
      have st := step k d ρ g hget hI
      unfold gmR at st ⊢
      cases hf : f d ρ with
      | none => rw [hf] at st; exact st.elim
      | some ρ1 =>
        rw [hf] at st
        exact st.mono (fun ρ2 g2 h => ih (k + 1) ρ2 g2 h2 hlt h) fun _ _ h => h
  exact go ds 0 ρ g (by simp) (Nat.zero_le _) h0
/-- a comprehension without tests, an invariant by the turn, what each item is -/
theorem wp_lcInv {f : GM} {ds : List D} (I : Nat → Gs → Prop) (P : Nat → D → Prop) (h0 : I 0 g) (step : ∀ k d g, ds[k]? = some d → I k g → gmR f d ρ (fun ρ1 g => wp (a ρ1 g) fun x g2 => P k x ∧ I (k + 1) g2) g)
    (hQ : ∀ xs g', xs.length = ds.length → (∀ k x, xs[k]? = some x → P k x) → I ds.length g' → QL xs g') : wp (lcGo f bYes a ρ ds g) QL := by
  have go : ∀ (ds2 : List D) (k : Nat) (g : Gs) (Q : List D → Gs → Prop), ds.drop k = ds2 → k ≤ ds.length → I k g → (∀ xs g', xs.length = ds2.length → (∀ j x, xs[j]? = some x → P (k + j) x) → I ds.length g' → Q xs g') → wp (lcGo f bYes a ρ ds2 g) Q := by
    intro ds2
    induction ds2 with
    | nil =>
      intro k g Q hd hk hI hQ
      have hk2 : k = ds.length := by
        have := congrArg List.length hd
        rw [List.length_drop] at this
        simp at this
        omega
      rw [hk2] at hI
      exact hQ [] g rfl (fun j x h => by simp at h) hI
    | cons d ds2 ih =>
      intro k g Q hd hk hI hQ
      have hlt : k < ds.length := by
        have := congrArg List.length hd
        rw [List.length_drop] at this
        simp at this
        omega
      rw [List.drop_eq_getElem_cons hlt] at hd
      injection hd with h1 h2
      have hget : ds[k]? = some d := by rw [List.getElem?_eq_getElem hlt, h1]
      rw [wp_lcCons]
      have st := step k d g hget hI
      unfold gmR at st ⊢
      cases hf : f d ρ with
      | none => rw [hf] at st; exact st.elim
      | some ρ1 =>
        rw [hf] at st
        show wp (a ρ1 g) _
        refine st.mono fun x g2 ⟨hx, hI2⟩ => ih (k + 1) g2 _ h2 hlt hI2 fun xs g' hl hp hI3 => ?_
        refine hQ (x :: xs) g' (by simp [hl]) (fun j y hj => ?_) hI3
        cases j with
        | zero =>
          simp at hj
          rw [← hj]
          exact hx
        | succ j =>
          have := hp j y (by simpa using hj)
          rw [show k + (j + 1) = k + 1 + j by omega]
          exact this
  exact go ds 0 g QL (by simp) (Nat.zero_le _) h0 fun xs g' hl hp hI => hQ xs g' hl (fun j x h => by simpa using hp j x h) hI
/-- a comprehension that maps, the state left as it is -/
theorem wp_lcMap {f : GM} {ds : List D} (F : D → D) (step : ∀ d ∈ ds, gmR f d ρ (fun ρ1 g' => wp (a ρ1 g') fun x g2 => x = F d ∧ g2 = g) g) (h : QL (ds.map F) g) : wp (lcGo f bYes a ρ ds g) QL := by
  induction ds generalizing QL with
  | nil => exact h
  | cons d ds ih =>
    rw [wp_lcCons]
    have st := step d (List.mem_cons_self ..)
    unfold gmR at st ⊢
    cases hf : f d ρ with
    | none => rw [hf] at st; exact st.elim
    | some ρ1 =>
      rw [hf] at st
      show wp (a ρ1 g) _
      refine st.mono fun x g2 ⟨hx, hg⟩ => ?_
      subst hg
      subst hx
      exact ih (fun d hd => step d (List.mem_cons_of_mem _ hd)) h
@[simp] theorem wp_bYes : wp (bYes ρ g) QB = QB true g := rfl
/-! ### bodies that neither go on nor break -/
def NC (m : SM) : Prop := ∀ ρ g ρ' g', m ρ g ≠ .ct ρ' g' ∧ m ρ g ≠ .bk ρ' g'
theorem nc_nil : NC sNil := fun ρ g ρ' g' => ⟨nofun, nofun⟩
theorem nc_e {r : Res α} {k : α → Gs → SRes} (h : ∀ a g ρ' g', k a g ≠ .ct ρ' g' ∧ k a g ≠ .bk ρ' g') : ∀ ρ' g', eS r k ≠ .ct ρ' g' ∧ eS r k ≠ .bk ρ' g' := fun ρ' g' => by
  cases r with
  | ok a g => exact h a g ρ' g'
  | ex _ _ => exact ⟨nofun, nofun⟩
  | bad => exact ⟨nofun, nofun⟩
theorem nc_seq (h1 : NC m1) (h2 : NC m2) : NC (sSeq m1 m2) := fun ρ g ρ' g' => by
  have a := h1 ρ g
  unfold sSeq
  cases q : m1 ρ g with
  | nx ρ2 g2 => exact h2 ρ2 g2 ρ' g'
  | ct x y => exact ((a x y).1 q).elim
  | bk x y => exact ((a x y).2 q).elim
  | rt _ _ => exact ⟨nofun, nofun⟩
  | ex _ _ => exact ⟨nofun, nofun⟩
  | bad => exact ⟨nofun, nofun⟩
theorem nc_ret : NC (sRet a) := fun ρ g => nc_e fun a g ρ' g' => ⟨nofun, nofun⟩
theorem nc_retN : NC sRetN := fun ρ g ρ' g' => ⟨nofun, nofun⟩
theorem nc_if (h1 : NC m1) (h2 : NC m2) : NC (sIf ba m1 m2) := fun ρ g => nc_e fun k g1 ρ' g' => by
  cases k
  · exact h2 ρ g1 ρ' g'
  · exact h1 ρ g1 ρ' g'
theorem nc_expr : NC (sExpr a) := fun ρ g => nc_e fun a g ρ' g' => ⟨nofun, nofun⟩
theorem nc_raise {c : Str} : NC (sRaise c) := fun ρ g ρ' g' => ⟨nofun, nofun⟩
theorem nc_set {i : Nat} : NC (sSet i a) := fun ρ g => nc_e fun a g ρ' g' => ⟨nofun, nofun⟩
theorem nc_asg {f : GM} : NC (sAsg f a) := fun ρ g => nc_e fun a g ρ' g' => by
  cases f a ρ
  · exact ⟨nofun, nofun⟩
  · exact ⟨nofun, nofun⟩
theorem nc_par {is : List Nat} {args : List Arg} : NC (sPar is args) := fun ρ g => nc_e fun a g ρ' g' => ⟨nofun, nofun⟩
theorem nc_app {i : Nat} : NC (sApp i a) := fun ρ g ρ' g' => by
  unfold sApp
  cases mlOf ρ i with
  | none => exact ⟨nofun, nofun⟩
  | some xs =>
    refine nc_e (fun d g ρ' g' => ?_) ρ' g'
    split
    · exact ⟨nofun, nofun⟩
    · exact ⟨nofun, nofun⟩
theorem nc_sub {o i : EM} : NC (sSub a o i) := fun ρ g => nc_e fun d g1 => nc_e fun od g2 => nc_e fun k g3 ρ' g' => by
  split
  · split
    · split
      · exact ⟨nofun, nofun⟩
      · exact ⟨nofun, nofun⟩
    · exact ⟨nofun, nofun⟩
  · exact ⟨nofun, nofun⟩
theorem nc_aug {i : Nat} {op : D → D → Gs → Res D} : NC (sAug i op a) := fun ρ g => nc_e fun x _ => nc_e fun y g1 => nc_e fun z g2 ρ' g' => ⟨nofun, nofun⟩
theorem nc_go {f : GM} {body : SM} : ∀ (ds : List D) ρ g ρ' g', forGo f body ds ρ g ≠ .ct ρ' g' ∧ forGo f body ds ρ g ≠ .bk ρ' g'
  | [], _, _, _, _ => ⟨nofun, nofun⟩
  | d :: ds, ρ, g, ρ', g' => by
    rw [forGo]
    cases f d ρ with
    | none => exact ⟨nofun, nofun⟩
    | some ρ1 =>
      simp only
      cases body ρ1 g with
      | nx ρ2 g2 => exact nc_go ds ρ2 g2 ρ' g'
      | ct ρ2 g2 => exact nc_go ds ρ2 g2 ρ' g'
      | _ => exact ⟨nofun, nofun⟩
theorem nc_for {f : GM} {body : SM} : NC (sFor l f body) := fun ρ g => nc_e fun ds g1 => nc_go ds ρ g1
theorem nc_pre {f : En → En} (h : NC m1) : NC (sPre f m1) := fun ρ g => h (f ρ) g
theorem nc_post {f : En → En} (h : NC m1) : NC (sPost f m1) := fun ρ g ρ' g' => by
  have a := h ρ g
  unfold sPost
  cases q : m1 ρ g with
  | ct x y => exact ((a x y).1 q).elim
  | bk x y => exact ((a x y).2 q).elim
  | _ => exact ⟨nofun, nofun⟩
theorem wpS_nc {f : GM} {body : SM} {d : D} {ds : List D} (hb : NC body) : wpS (forGo f body (d :: ds) ρ g) N R = gmR f d ρ (fun ρ1 g => wpS (body ρ1 g) (fun ρ2 g2 => wpS (forGo f body ds ρ2 g2) N R) R) g := wpS_forCons hb
/-! ### what simp is to know -/
def dR (z : Option Sl) (Q : D → Gs → Prop) (g : Gs) : Prop := match z with
  | some (.d x) => Q x g
  | _ => False
@[simp] theorem dR_d {x : D} : dR (some (.d x)) QD g = QD x g := rfl
@[simp] theorem wp_mV {i : Nat} : wp (mV i ρ g) QD = dR ρ[i]? QD g := by
  unfold mV dR
  cases ρ[i]? with
  | none => rfl
  | some z => cases z <;> rfl
@[simp] theorem gmR_nm {i : Nat} {d : D} : gmR (gNm i) d ρ N g = N (ρ.set i (.d d)) g := rfl
def gmRs (f : GMs) (d : List D) (ρ : En) (N : En → Gs → Prop) (g : Gs) : Prop := match f d ρ with
  | some ρ' => N ρ' g
  | none => False
@[simp] theorem gmR_tp {n : Nat} {f : GMs} {xs : List D} : gmR (gTp n f) (.tup xs) ρ N g = (xs.length = n ∧ gmRs f xs ρ N g) := by
  unfold gmR gTp gmRs
  by_cases h : xs.length = n
  · simp [h]
  · simp [h]
@[simp] theorem gmRs_nl : gmRs gNl [] ρ N g = N ρ g := rfl
@[simp] theorem gmRs_cn {f : GM} {r : GMs} {d : D} {ds : List D} : gmRs (gCn f r) (d :: ds) ρ N g = gmR f d ρ (fun ρ1 g => gmRs r ds ρ1 N g) g := by
  unfold gmR gCn gmRs
  simp only
  cases f d ρ <;> rfl
@[simp] theorem setA_nil {ρ : En} {l : List Sl} : setA [] l ρ = ρ := by cases l <;> rfl
@[simp] theorem setA_cons {ρ : En} {i : Nat} {is : List Nat} {s : Sl} {l : List Sl} : setA (i :: is) (s :: l) ρ = setA is l (ρ.set i s) := rfl
@[simp] theorem forget_nil {ρ : En} : forget [] ρ = ρ := rfl
@[simp] theorem forget_cons {ρ : En} {i : Nat} {is : List Nat} : forget (i :: is) ρ = forget is (ρ.set i .no) := rfl
def noM : Option Sl → Bool
  | some (.ml _) => false
  | _ => true
@[simp] theorem noM_none : noM none = true := rfl
@[simp] theorem noM_d {d : D} : noM (some (.d d)) = true := rfl
@[simp] theorem noM_no : noM (some .no) = true := rfl
@[simp] theorem noMl_nil {ρ : En} : noMl [] ρ = true := rfl
@[simp] theorem noMl_cons {ρ : En} {i : Nat} {is : List Nat} : noMl (i :: is) ρ = (noM ρ[i]? && noMl is ρ) := by
  unfold noMl
  rw [List.all_cons]
  rfl
def frz (z : Option Sl) (i : Nat) (ρ : En) : En := match z with
  | some (.ml xs) => ρ.set i (.d (.lst xs))
  | _ => ρ
@[simp] theorem frz_ml {i : Nat} {xs : List D} {ρ : En} : frz (some (.ml xs)) i ρ = ρ.set i (.d (.lst xs)) := rfl
@[simp] theorem frz_d {i : Nat} {d : D} {ρ : En} : frz (some (.d d)) i ρ = ρ := rfl
@[simp] theorem frz_no {i : Nat} {ρ : En} : frz (some .no) i ρ = ρ := rfl
@[simp] theorem freeze_eq {i : Nat} {ρ : En} : freeze i ρ = frz ρ[i]? i ρ := by
  unfold freeze frz
  cases ρ[i]? with
  | none => rfl
  | some z => cases z <;> rfl
def mlR (z : Option Sl) (Q : List D → Prop) : Prop := match z with
  | some (.ml xs) => Q xs
  | _ => False
@[simp] theorem mlR_ml {xs : List D} {P : List D → Prop} : mlR (some (.ml xs)) P = P xs := rfl
@[simp] theorem wpS_app' {i : Nat} : wpS (sApp i a ρ g) N R = mlR ρ[i]? fun xs => wp (a ρ g) fun d g1 => xs.length < 1000000 ∧ N (ρ.set i (.ml (xs ++ [d]))) g1 := by
  cases h : ρ[i]? with
  | none =>
    have : mlOf ρ i = none := by unfold mlOf; rw [h]
    unfold sApp mlR
    rw [this]
    rfl
  | some z =>
    cases z with
    | ml xs => exact wpS_app (by unfold mlOf; rw [h])
    | _ =>
      have : mlOf ρ i = none := by unfold mlOf; rw [h]
      unfold sApp mlR
      rw [this]
      rfl
def atR (z : Option D) (Q : D → Gs → Prop) (g : Gs) : Prop := match z with
  | some x => Q x g
  | none => False
@[simp] theorem atR_some {x : D} : atR (some x) QD g = QD x g := rfl
@[simp] theorem wp_mMlIx {i : Nat} : wp (mMlIx i a ρ g) QD = mlR ρ[i]? fun xs => wp (a ρ g) fun k g1 => wp (ixR k g1) fun k g2 => atR (k.bind (atI xs)) QD g2 := by
  unfold mMlIx
  cases h : ρ[i]? with
  | none =>
    have : mlOf ρ i = none := by unfold mlOf; rw [h]
    rw [this]
    rfl
  | some z =>
    cases z with
    | ml xs =>
      have : mlOf ρ i = some xs := by unfold mlOf; rw [h]
      rw [this]
      show wp ((a ρ g).bind _) QD = _
      rw [wp_bind]
      show _ = wp (a ρ g) _
      congr 1
      funext k g1
      cases k <;> try rfl
      rename_i k
      show wp (match atI xs k with
        | some d => Res.ok d g1
        | none => Res.bad) QD = atR (atI xs k) QD g1
      cases atI xs k <;> rfl
    | _ =>
      have : mlOf ρ i = none := by unfold mlOf; rw [h]
      rw [this]
      rfl
@[simp] theorem wp_mMlLen {i : Nat} : wp (mMlLen i ρ g) QD = mlR ρ[i]? fun xs => QD (.int xs.length) g := by
  unfold mMlLen
  cases h : ρ[i]? with
  | none =>
    have : mlOf ρ i = none := by unfold mlOf; rw [h]
    rw [this]
    rfl
  | some z =>
    cases z with
    | ml xs =>
      have : mlOf ρ i = some xs := by unfold mlOf; rw [h]
      rw [this]
      rfl
    | _ =>
      have : mlOf ρ i = none := by unfold mlOf; rw [h]
      rw [this]
      rfl
@[simp] theorem wp_mMlEq {i : Nat} {n : Bool} : wp (mMlEq n i a ρ g) QD = mlR ρ[i]? fun xs => wp (a ρ g) fun y g1 => (plains 49 xs = true ∧ plain 50 y = true) ∧ QD (.bl (if n then !eqD (.lst xs) y else eqD (.lst xs) y)) g1 := by
  unfold mMlEq
  cases h : ρ[i]? with
  | none =>
    have : mlOf ρ i = none := by unfold mlOf; rw [h]
    rw [this]
    rfl
  | some z =>
    cases z with
    | ml xs =>
      have : mlOf ρ i = some xs := by unfold mlOf; rw [h]
      rw [this]
      show wp ((a ρ g).bind _) QD = wp (a ρ g) _
      rw [wp_bind]
      congr 1
      funext y g1
      by_cases h1 : plains 49 xs = true
      · by_cases h2 : plain 50 y = true
        · simp [h1, h2]
        · simp [h1, h2, wp]
      · simp [h1, wp]
    | _ =>
      have : mlOf ρ i = none := by unfold mlOf; rw [h]
      rw [this]
      rfl
@[simp] theorem sbR_eq {l : Nat} {k : Int} {d : D} : sbR (.loc l) (.int k) d ρ N g = (∃ xs j, getLs g l = some xs ∧ ixN xs.length k = some j ∧ N ρ (g.set l (.lst (xs.set j d)))) := by
  unfold sbR
  simp only
  cases h1 : getLs g l with
  | none => simp
  | some xs =>
    simp only
    cases h2 : ixN xs.length k with
    | none => simp [h2]
    | some j => simp [h2]
/-- truths about ints, without instances -/
def eqI (i j : Int) : Bool := decide (i = j)
def ltI (i j : Int) : Bool := decide (i < j)
def leI (i j : Int) : Bool := decide (i ≤ j)
@[simp] theorem eqI_t {i j : Int} : (eqI i j = true) = (i = j) := by unfold eqI; simp
@[simp] theorem eqI_f {i j : Int} : (eqI i j = false) = ¬ (i = j) := by unfold eqI; simp
@[simp] theorem ltI_t {i j : Int} : (ltI i j = true) = (i < j) := by unfold ltI; simp
@[simp] theorem ltI_f {i j : Int} : (ltI i j = false) = ¬ (i < j) := by unfold ltI; simp
@[simp] theorem leI_t {i j : Int} : (leI i j = true) = (i ≤ j) := by unfold leI; simp
@[simp] theorem leI_f {i j : Int} : (leI i j = false) = ¬ (i ≤ j) := by unfold leI; simp
@[simp] theorem eqD_int {i j : Int} : eqD (.int i) (.int j) = eqI i j := by
  unfold eqD
  rfl
@[simp] theorem plain_int {n : Nat} {i : Int} : Sh.plain n (.int i) = true := by unfold Sh.plain; rfl
@[simp] theorem plain_bl {n : Nat} {i : Bool} : Sh.plain n (.bl i) = true := by unfold Sh.plain; rfl
@[simp] theorem eqI_self {i : Int} : eqI i i = true := by simp
theorem leI_of {i j : Int} (h : i ≤ j) : leI i j = true := by simp [h]
theorem ltI_of {i j : Int} (h : i < j) : ltI i j = true := by simp [h]
theorem eqI_of {i j : Int} (h : i = j) : eqI i j = true := by simp [h]
theorem leI_no {i j : Int} (h : ¬ i ≤ j) : leI i j = false := by simp; omega
theorem ltI_no {i j : Int} (h : ¬ i < j) : ltI i j = false := by simp; omega
theorem eqI_no {i j : Int} (h : ¬ i = j) : eqI i j = false := by simp [h]
def b2i (k : Bool) : Int := if k then 1 else 0
/-! the operations -/
variable {i j : Int} {xs ys : List D} {x y : D} {s t : Str}
@[simp] theorem oAdd_int : wp (oAdd (.int i) (.int j) g) QD = QD (.int (i + j)) g := rfl
@[simp] theorem oAdd_tup : wp (oAdd (.tup xs) (.tup ys) g) QD = (xs.length + ys.length ≤ 1000000 ∧ QD (.tup (xs ++ ys)) g) := by
  unfold oAdd
  simp only
  by_cases h : xs.length + ys.length ≤ 1000000
  · simp [h]
  · simp [h, wp]
@[simp] theorem oAdd_lst : wp (oAdd (.lst xs) (.lst ys) g) QD = (xs.length + ys.length ≤ 1000000 ∧ QD (.lst (xs ++ ys)) g) := by
  unfold oAdd
  simp only
  by_cases h : xs.length + ys.length ≤ 1000000
  · simp [h]
  · simp [h, wp]
@[simp] theorem oAddI_int : wp (oAddI (.int i) (.int j) g) QD = QD (.int (i + j)) g := rfl
@[simp] theorem oSub_int : wp (oSub (.int i) (.int j) g) QD = QD (.int (i - j)) g := rfl
@[simp] theorem oMul_int : wp (oMul (.int i) (.int j) g) QD = ((big i = true ∧ big j = true) ∧ QD (.int (i * j)) g) := by
  unfold oMul
  simp only
  by_cases h : big i = true <;> by_cases h2 : big j = true <;> simp [h, h2, wp]
@[simp] theorem oMod_int : wp (oMod (.int i) (.int j) g) QD = (0 < j ∧ QD (.int (i % j)) g) := by
  unfold oMod
  simp only
  by_cases h : 0 < j <;> simp [h, wp]
@[simp] theorem oDiv_int : wp (oDiv (.int i) (.int j) g) QD = ((0 < j ∧ big j = true) ∧ QD (.int (i / j)) g) := by
  unfold oDiv
  simp only
  by_cases h : 0 < j <;> by_cases h2 : big j = true <;> simp [h, h2, wp]
@[simp] theorem oPow_int : wp (oPow (.int i) (.int j) g) QD = ((0 ≤ j ∧ j ≤ 1000 ∧ i.natAbs < 2 ^ 64) ∧ QD (.int (i ^ j.toNat)) g) := by
  unfold oPow
  simp only
  by_cases h : 0 ≤ j <;> by_cases h2 : j ≤ 1000 <;> by_cases h3 : i.natAbs < 2 ^ 64 <;> simp [h, h2, h3, wp]
@[simp] theorem oNeg_int : wp (oNeg (.int i) g) QD = QD (.int (-i)) g := rfl
@[simp] theorem oLt_int : wp (oLt (.int i) (.int j) g) QD = QD (.bl (ltI i j)) g := rfl
@[simp] theorem oLe_int : wp (oLe (.int i) (.int j) g) QD = QD (.bl (leI i j)) g := rfl
@[simp] theorem oGt_int : wp (oGt (.int i) (.int j) g) QD = QD (.bl (ltI j i)) g := rfl
@[simp] theorem oGe_int : wp (oGe (.int i) (.int j) g) QD = QD (.bl (leI j i)) g := rfl
@[simp] theorem oEq_wp : wp (oEq x y g) QD = ((plain 50 x = true ∧ plain 50 y = true) ∧ QD (.bl (eqD x y)) g) := by
  unfold oEq
  by_cases h : plain 50 x = true <;> by_cases h2 : plain 50 y = true <;> simp [h, h2, wp]
@[simp] theorem oNe_wp : wp (oNe x y g) QD = ((plain 50 x = true ∧ plain 50 y = true) ∧ QD (.bl (!eqD x y)) g) := by
  unfold oNe
  by_cases h : plain 50 x = true <;> by_cases h2 : plain 50 y = true <;> simp [h, h2, wp]
@[simp] theorem oTup_wp : wp (oTup xs g) QD = (xs.length ≤ 1000000 ∧ QD (.tup xs) g) := by
  unfold oTup
  by_cases h : xs.length ≤ 1000000 <;> simp [h, wp]
@[simp] theorem oLst_wp : wp (oLst xs g) QD = (xs.length ≤ 1000000 ∧ QD (.lst xs) g) := by
  unfold oLst
  by_cases h : xs.length ≤ 1000000 <;> simp [h, wp]
@[simp] theorem oNew_wp : wp (oNew xs g) QD = (xs.length ≤ 1000000 ∧ QD (.loc g.length) (g ++ [.lst xs])) := by
  unfold oNew
  by_cases h : xs.length ≤ 1000000 <;> simp [h, wp]
@[simp] theorem oIx_tup : wp (oIx (.tup xs) (.int i) g) QD = atR (atI xs i) QD g := by
  unfold oIx
  simp only
  cases atI xs i <;> rfl
@[simp] theorem oIx_lst : wp (oIx (.lst xs) (.int i) g) QD = atR (atI xs i) QD g := by
  unfold oIx
  simp only
  cases atI xs i <;> rfl
def locR (z : Option (List D)) (Q : List D → Prop) : Prop := match z with
  | some xs => Q xs
  | none => False
@[simp] theorem locR_some {P : List D → Prop} : locR (some xs) P = P xs := rfl
@[simp] theorem oIx_loc {l : Nat} : wp (oIx (.loc l) (.int i) g) QD = locR (getLs g l) fun xs => atR (atI xs i) QD g := by
  unfold oIx
  simp only
  cases getLs g l with
  | none => rfl
  | some xs =>
    simp only
    cases h : atI xs i <;> simp [locR, atR, h, wp]
@[simp] theorem oLen_tup : wp (oLen [.tup xs] g) QD = QD (.int xs.length) g := rfl
@[simp] theorem oLen_lst : wp (oLen [.lst xs] g) QD = QD (.int xs.length) g := rfl
@[simp] theorem oInt_int : wp (oInt [.int i] g) QD = QD (.int i) g := rfl
@[simp] theorem oInt_bl {k : Bool} : wp (oInt [.bl k] g) QD = QD (.int (b2i k)) g := rfl
@[simp] theorem oTuple_lst : wp (oTuple [.lst xs] g) QD = QD (.tup xs) g := rfl
@[simp] theorem oTuple_tup : wp (oTuple [.tup xs] g) QD = QD (.tup xs) g := rfl
@[simp] theorem oMax2_int : wp (oMax2 [.int i, .int j] g) QD = QD (.int (max i j)) g := by
  show QD (.int (if j > i then j else i)) g = _
  have : (if j > i then j else i) = max i j := by split <;> omega
  rw [this]
@[simp] theorem oMin2_int : wp (oMin2 [.int i, .int j] g) QD = QD (.int (min i j)) g := by
  show QD (.int (if j < i then j else i)) g = _
  have : (if j < i then j else i) = min i j := by split <;> omega
  rw [this]
@[simp] theorem oAbs_int : wp (oAbs [.int i] g) QD = QD (.int (if i < 0 then -i else i)) g := rfl
@[simp] theorem oSl_lst {lo hi : Option Int} : wp (oSl (.lst xs) lo hi g) QD = QD (.lst (cutD xs lo hi)) g := rfl
@[simp] theorem oSl_tup {lo hi : Option Int} : wp (oSl (.tup xs) lo hi g) QD = QD (.tup (cutD xs lo hi)) g := rfl
@[simp] theorem oAll_lst {bs : List Bool} : wp (oAll [.lst (bs.map .bl)] g) QD = QD (.bl (bs.all id)) g := by
  unfold oAll
  simp only [bools_map]
  rfl
@[simp] theorem oAny_lst {bs : List Bool} : wp (oAny [.lst (bs.map .bl)] g) QD = QD (.bl (bs.any id)) g := by
  unfold oAny
  simp only [bools_map]
  rfl
theorem atI_nat {α : Type} (xs : List α) (k : Nat) : atI xs (k : Int) = xs[k]? := by
  unfold atI ixN
  rw [if_pos (by omega)]
  by_cases h : k < xs.length
  · rw [if_pos (by omega)]
    simp
  · rw [if_neg (by omega)]
    simp [List.getElem?_eq_none (Nat.le_of_not_lt h)]
@[simp] theorem atI_0 {α : Type} (x : α) (xs : List α) : atI (x :: xs) 0 = some x := by
  have := atI_nat (x :: xs) 0
  simpa using this
@[simp] theorem atI_1 {α : Type} (x y : α) (xs : List α) : atI (x :: y :: xs) 1 = some y := by
  have := atI_nat (x :: y :: xs) 1
  simpa using this
@[simp] theorem atI_2 {α : Type} (x y z : α) (xs : List α) : atI (x :: y :: z :: xs) 2 = some z := by
  have := atI_nat (x :: y :: z :: xs) 2
  simpa using this
@[simp] theorem atI_3 {α : Type} (x y z u : α) (xs : List α) : atI (x :: y :: z :: u :: xs) 3 = some u := by
  have := atI_nat (x :: y :: z :: u :: xs) 3
  simpa using this
@[simp] theorem atI_m1 {α : Type} (x : α) : atI [x] (-1) = some x := rfl
@[simp] theorem atI_m2 {α : Type} (x y : α) : atI [x, y] (-1) = some y := rfl
@[simp] theorem atI_m3 {α : Type} (x y z : α) : atI [x, y, z] (-1) = some z := rfl
@[simp] theorem rngD_0 : rngD 0 0 = [] := rfl
@[simp] theorem rngD_1 : rngD 0 1 = [.int 0] := rfl
@[simp] theorem rngD_2 : rngD 0 2 = [.int 0, .int 1] := rfl
@[simp] theorem rngD_3 : rngD 0 3 = [.int 0, .int 1, .int 2] := rfl
@[simp] theorem atI_last {α : Type} (xs : List α) (x : α) : atI (xs ++ [x]) (-1) = some x := by
  unfold atI ixN
  rw [if_neg (by omega), if_pos (by simp; omega)]
  have e : (-1 + ((xs ++ [x]).length : Int)).toNat = xs.length := by simp; omega
  show (xs ++ [x])[(-1 + ((xs ++ [x]).length : Int)).toNat]? = some x
  rw [e]
  simp
@[simp] theorem kRng1_int : wp (kRng1 [.int j] g) QL = (okR j = true ∧ QL (rngD 0 j.toNat) g) := by
  unfold kRng1
  by_cases h : okR j = true <;> simp [h, wp]
@[simp] theorem kRng2_int : wp (kRng2 [.int i, .int j] g) QL = ((okR i = true ∧ okR j = true) ∧ QL (rngD i (j - i).toNat) g) := by
  unfold kRng2
  by_cases h : okR i = true <;> by_cases h2 : okR j = true <;> simp [h, h2, wp]
@[simp] theorem kZip_lst : wp (kZip [.lst xs, .lst ys] g) QL = QL (zipD xs ys) g := rfl
@[simp] theorem kZip_tup : wp (kZip [.tup xs, .tup ys] g) QL = QL (zipD xs ys) g := rfl
@[simp] theorem kEnum_lst : wp (kEnum [.lst xs] g) QL = QL (enumD 0 xs) g := rfl
@[simp] theorem kEnum_tup : wp (kEnum [.tup xs] g) QL = QL (enumD 0 xs) g := rfl
@[simp] theorem isT_non {c : String} : wp (oIsT c .non g) QD = QD (.bl (isTy "NoneType" c)) g := rfl
@[simp] theorem isT_bl {k : Bool} {c : String} : wp (oIsT c (.bl k) g) QD = QD (.bl (isTy "bool" c)) g := rfl
@[simp] theorem isT_int {c : String} : wp (oIsT c (.int i) g) QD = QD (.bl (isTy "int" c)) g := rfl
@[simp] theorem isT_str {c : String} : wp (oIsT c (.str s) g) QD = QD (.bl (isTy "str" c)) g := rfl
@[simp] theorem isT_tup {c : String} : wp (oIsT c (.tup xs) g) QD = QD (.bl (isTy "tuple" c)) g := rfl
@[simp] theorem isT_lst {c : String} : wp (oIsT c (.lst xs) g) QD = QD (.bl (isTy "list" c)) g := rfl
@[simp] theorem stE_def {n : Nat} {ds : List D} : stE n ds = ds.map .d ++ List.replicate (n - ds.length) .no := rfl
end
end Sh

set_option Elab.async false
set_option linter.all false
set_option maxRecDepth 100000
set_option maxHeartbeats 2000000
namespace Sh
open PySem PySem.Spec L2 PyProof.Rows
/-! ### sum, max, min of a list or a tuple of ints -/
section
variable {prog : Program} {w : World} {A : Around} {E : Value → Shared → Prop} {s : Shared} {l : Addr} {xs : Array (Int × Tok)}
theorem iter_intTup {Q : Value → Shared → Prop} (hl : s.heap.IsTuple l (intItems xs))
    (h : ∀ s₂ : Shared, s₂ = { s with heap := s.heap.push { cls := .type "tuple_iterator", data := .fields #[.ref l, .int 0 0] } } →
      (s₂.heap.IsTupleIter s.heap.objs.size l 0 ∧ s₂.heap.IsTuple l (intItems xs)) → (∀ b ∈ [s.heap.objs.size, l], b < s₂.heap.objs.size) → l ≠ s.heap.objs.size → Q (.ref s.heap.objs.size) s₂) :
    wpAny (model prog w) A (pyIter (.ref l)) Q E s := by
  have hlt : l < s.heap.objs.size := by obtain ⟨_, e, _⟩ := hl; exact Heap.lt_size e
  refine wpAny_pyIter_tuple hl (h _ rfl ⟨⟨_, Heap.get?_push_size _ rfl, rfl, rfl⟩, hl.push _⟩ (fun b hb => ?_) (Nat.ne_of_lt hlt))
  show b < (s.heap.push _).objs.size
  rw [Heap.size_push]
  rcases List.mem_cons.mp hb with rfl | hb
  · exact Nat.lt_succ_self _
  · rcases List.mem_cons.mp hb with rfl | hb
    · exact Nat.lt_succ_of_lt hlt
    · cases hb
theorem old_keptT {h' : Heap} {o' : Obj} (hk : ∀ b o, b ∉ [s.heap.objs.size] → (s.heap.push o').get? b = some o → h'.get? b = some o) :
    ∀ b o, s.heap.get? b = some o → h'.get? b = some o := fun b o e => by
  refine hk b o (fun hm => ?_) (Heap.get?_push_of_some _ e)
  rcases List.mem_cons.mp hm with e1 | hm
  · exact absurd (e1 ▸ Heap.lt_size e) (Nat.lt_irrefl _)
  · cases hm
theorem sum_intTup {Q : Value → Shared → Prop} (hh : A.handled = none) (hl : s.heap.IsTuple l (intItems xs))
    (h : ∀ h' tk t', (∀ b o, s.heap.get? b = some o → h'.get? b = some o) → Q (.int (preSum (numAt xs) xs.size) t') { s with heap := h', toks := tk }) :
    wpAny (model prog w) A (call (.builtin "sum") [.ref l]) Q E s := by
  refine call_sum_walkG (iter_intTup hl fun s₂ e st hfp hlI => ?_)
  subst e
  refine ⟨_, _, _, _, _, _, numAt xs, rfl, Walks.tuple (A := A.in1) hh _ l hlI (intItems xs), st, hfp, (fun _ _ => intItems_at), fun h' tk t' hk => ?_⟩
  have := h h' tk t' (old_keptT hk)
  simpa [intItems] using this
theorem max_intTup {Q : Value → Shared → Prop} (hh : A.handled = none) (hl : s.heap.IsTuple l (intItems xs)) (hne : 0 < xs.size)
    (h : ∀ v h' tk, (intItems xs)[argBest (fun i j => decide (numAt xs i > numAt xs j)) (xs.size - 1)]? = some v → (∀ b o, s.heap.get? b = some o → h'.get? b = some o) → Q v { s with heap := h', toks := tk }) :
    wpAny (model prog w) A (call (.builtin "max") [.ref l]) Q E s := by
  refine call_max_walk (iter_intTup hl fun s₂ e st hfp hlI => ?_)
  subst e
  refine ⟨_, _, _, _, _, _, _, rfl, Walks.tuple (A := A.in1) hh _ l hlI (intItems xs), st, hfp, by simpa [intItems] using hne, CmpOf.ints_gt (numAt xs) (fun _ _ => intItems_at), fun v h' tk hP hk => ?_⟩
  exact h v h' tk (by simpa [intItems] using hP) (old_keptT hk)
theorem min_intTup {Q : Value → Shared → Prop} (hh : A.handled = none) (hl : s.heap.IsTuple l (intItems xs)) (hne : 0 < xs.size)
    (h : ∀ v h' tk, (intItems xs)[argBest (fun i j => decide (numAt xs i < numAt xs j)) (xs.size - 1)]? = some v → (∀ b o, s.heap.get? b = some o → h'.get? b = some o) → Q v { s with heap := h', toks := tk }) :
    wpAny (model prog w) A (call (.builtin "min") [.ref l]) Q E s := by
  refine call_min_walk (iter_intTup hl fun s₂ e st hfp hlI => ?_)
  subst e
  refine ⟨_, _, _, _, _, _, _, rfl, Walks.tuple (A := A.in1) hh _ l hlI (intItems xs), st, hfp, by simpa [intItems] using hne, CmpOf.ints_lt (numAt xs) (fun _ _ => intItems_at), fun v h' tk hP hk => ?_⟩
  exact h v h' tk (by simpa [intItems] using hP) (old_keptT hk)
variable {its : List Value} {ns : List Int} {Q : Value → Shared → Prop}
theorem sum_rawT (hh : A.handled = none) (hl : s.heap.IsTuple l its.toArray) (hi : IntsAre its ns)
    (h : ∀ h' tk t', (∀ b o, s.heap.get? b = some o → h'.get? b = some o) → Q (.int ns.sum t') { s with heap := h', toks := tk }) : wpAny (model prog w) A (call (.builtin "sum") [.ref l]) Q E s := by
  obtain ⟨xs, e⟩ := hi.allInts.items
  have hn : numsOf (intItems xs).toList = ns := by rw [← e]; exact hi.numsOf
  rw [nums_intItems] at hn
  rw [e] at hl
  refine sum_intTup hh hl fun h' tk t' hk => ?_
  have := h h' tk t' hk
  rw [preSum_eq, List.take_of_length_le (by simp), hn]; exact this
theorem max_rawT (hh : A.handled = none) (hl : s.heap.IsTuple l its.toArray) (hi : IntsAre its ns) (hne : 0 < ns.length)
    (h : ∀ h' tk M t', (∀ b o, s.heap.get? b = some o → h'.get? b = some o) → M ∈ ns → (∀ a, a ∈ ns → a ≤ M) → Q (.int M t') { s with heap := h', toks := tk }) : wpAny (model prog w) A (call (.builtin "max") [.ref l]) Q E s := by
  obtain ⟨xs, e⟩ := hi.allInts.items
  have hn : numsOf (intItems xs).toList = ns := by rw [← e]; exact hi.numsOf
  rw [nums_intItems] at hn
  subst hn
  rw [e] at hl
  have hsz : 0 < xs.size := by simpa using hne
  refine max_intTup hh hl hsz fun v h' tk hv hk => ?_
  obtain ⟨t, rfl⟩ := intItems_at hv
  obtain ⟨h1, h2⟩ := argBest_gt (numAt xs) (xs.size - 1)
  refine h h' tk _ t hk ?_ fun a ha => ?_
  · rw [numAt_eq]; exact PySem.getD_mem (by rw [List.length_map, Array.length_toList]; omega)
  · obtain ⟨j, hj, rfl⟩ := mem_getD ha
    rw [List.length_map, Array.length_toList] at hj
    rw [← numAt_eq]; exact h2 j (by omega)
theorem min_rawT (hh : A.handled = none) (hl : s.heap.IsTuple l its.toArray) (hi : IntsAre its ns) (hne : 0 < ns.length)
    (h : ∀ h' tk M t', (∀ b o, s.heap.get? b = some o → h'.get? b = some o) → M ∈ ns → (∀ a, a ∈ ns → M ≤ a) → Q (.int M t') { s with heap := h', toks := tk }) : wpAny (model prog w) A (call (.builtin "min") [.ref l]) Q E s := by
  obtain ⟨xs, e⟩ := hi.allInts.items
  have hn : numsOf (intItems xs).toList = ns := by rw [← e]; exact hi.numsOf
  rw [nums_intItems] at hn
  subst hn
  rw [e] at hl
  have hsz : 0 < xs.size := by simpa using hne
  refine min_intTup hh hl hsz fun v h' tk hv hk => ?_
  obtain ⟨t, rfl⟩ := intItems_at hv
  obtain ⟨h1, h2⟩ := argBest_lt (numAt xs) (xs.size - 1)
  refine h h' tk _ t hk ?_ fun a ha => ?_
  · rw [numAt_eq]; exact PySem.getD_mem (by rw [List.length_map, Array.length_toList]; omega)
  · obtain ⟨j, hj, rfl⟩ := mem_getD ha
    rw [List.length_map, Array.length_toList] at hj
    rw [← numAt_eq]; exact h2 j (by omega)
end
section
variable {X : Cx} {T : Tb} {W : WX}
def maxL : List Int → Option Int
  | [] => none
  | [x] => some x
  | x :: xs => (maxL xs).map (max x)
def minL : List Int → Option Int
  | [] => none
  | [x] => some x
  | x :: xs => (minL xs).map (min x)
theorem maxL_some : ∀ {xs : List Int} {m : Int}, maxL xs = some m → m ∈ xs ∧ ∀ y ∈ xs, y ≤ m
  | [x], m, h => by cases h; simp
  | x :: y :: xs, m, h => by
    simp only [maxL] at h
    cases q : maxL (y :: xs) with
    | none => rw [q] at h; cases h
    | some k =>
      rw [q] at h
      cases h
      obtain ⟨h1, h2⟩ := maxL_some q
      refine ⟨?_, fun z hz => ?_⟩
      · by_cases hk : x ≤ k
        · rw [Int.max_eq_right hk]; exact List.mem_cons_of_mem _ h1
        · rw [Int.max_eq_left (by omega)]; exact List.mem_cons_self
      · rcases List.mem_cons.mp hz with rfl | hz
        · omega
        · have := h2 z hz; omega
theorem minL_some : ∀ {xs : List Int} {m : Int}, minL xs = some m → m ∈ xs ∧ ∀ y ∈ xs, m ≤ y
  | [x], m, h => by cases h; simp
  | x :: y :: xs, m, h => by
    simp only [minL] at h
    cases q : minL (y :: xs) with
    | none => rw [q] at h; cases h
    | some k =>
      rw [q] at h
      cases h
      obtain ⟨h1, h2⟩ := minL_some q
      refine ⟨?_, fun z hz => ?_⟩
      · by_cases hk : x ≤ k
        · rw [Int.min_eq_left hk]; exact List.mem_cons_self
        · rw [Int.min_eq_right (by omega)]; exact List.mem_cons_of_mem _ h1
      · rcases List.mem_cons.mp hz with rfl | hz
        · omega
        · have := h2 z hz; omega
def intsR (d : List D) (g : Gs) (k : List Int → Gs → Res D) : Res D := match d with
  | [x] => (match (seqD x).bind ints? with
    | some ns => k ns g
    | none => .bad)
  | _ => .bad
def oSum (d : List D) (g : Gs) : Res D := intsR d g fun ns g => .ok (.int ns.sum) g
def oMax1 (d : List D) (g : Gs) : Res D := intsR d g fun ns g => match maxL ns with
  | some m => .ok (.int m) g
  | none => .bad
def oMin1 (d : List D) (g : Gs) : Res D := intsR d g fun ns g => match minL ns with
  | some m => .ok (.int m) g
  | none => .bad
theorem intsR_of {K : PySem.W.Frag} {k : List Int → Gs → Res D} {ρ : En} {σ : L2.St} {μ : List Addr} {H : Hp} {Q : VK} {ds : List D} {g : Gs} {xs : List V} (p : Pst K T Rp W ρ σ μ H Q (intsR ds g k)) (r : Rps K H μ (ow T ρ σ) ds xs) :
    ∃ a ns, xs = [.ref a] ∧ (SqL K H a (ns.map V.int) ∨ SqT K H a (ns.map V.int)) ∧ Pst K T Rp W ρ σ μ H Q (k ns g) := by
  unfold intsR at p
  match ds, r, p with
  | [x], .cons r1 .nil, p =>
  simp only at p
  cases hs : seqD x with
  | none => rw [hs] at p; exact p.elim
  | some ys =>
    rw [hs] at p
    simp only [Option.bind_some] at p
    cases hi : ints? ys with
    | none => rw [hi] at p; exact p.elim
    | some ns =>
      rw [hi] at p
      have e := ints_of hi
      subst e
      obtain ⟨a, vs, rfl, rs, h⟩ := r1.seq hs
      have ev := rs.to_ints
      subst ev
      exact ⟨a, ns, rfl, h.imp (fun h => h.2.sq) fun h => h.2.sq, p⟩
theorem p_sum (hc : X.calm = true) : CallR X (.builtin "sum") (rN X.K T W oSum) := by
  intro pins s σ H vs us Q I r ⟨ρ, σ', μ, g, ds, st, rs, p⟩
  obtain ⟨a, ns, rfl, h, p⟩ := intsR_of p rs
  have q : Q (.int ns.sum) H := Pst.pure p st (.int _)
  rw [Vals.ref1 r]
  rcases h with h | h
  · obtain ⟨its, rv, hl, _⟩ := I.list h
    exact sum_raw (I.ok.hd hc) hl.isList rv.ints fun h' tk t' hk => ⟨.int _, H, I.kept hk, ⟨_, rfl⟩, q⟩
  · obtain ⟨its, rv, hl, _⟩ := I.tuple h
    exact sum_rawT (I.ok.hd hc) (show s.heap.IsTuple a its.toArray from hl) rv.ints fun h' tk t' hk => ⟨.int _, H, I.kept hk, ⟨_, rfl⟩, q⟩
theorem p_max1 (hc : X.calm = true) : CallR X (.builtin "max") (rN X.K T W oMax1) := by
  intro pins s σ H vs us Q I r ⟨ρ, σ', μ, g, ds, st, rs, p⟩
  obtain ⟨a, ns, rfl, h, p⟩ := intsR_of p rs
  cases hm : maxL ns with
  | none => rw [hm] at p; exact p.elim
  | some m =>
  rw [hm] at p
  have q : Q (.int m) H := Pst.pure p st (.int _)
  obtain ⟨m1, m2⟩ := maxL_some hm
  have hne : 0 < ns.length := List.length_pos_of_mem m1
  have eqm : ∀ M, M ∈ ns → (∀ a, a ∈ ns → a ≤ M) → M = m := fun M h1 h2 => Int.le_antisymm (m2 M h1) (h2 m m1)
  rw [Vals.ref1 r]
  rcases h with h | h
  · obtain ⟨its, rv, hl, _⟩ := I.list h
    exact max_raw (I.ok.hd hc) hl.isList rv.ints hne fun h' tk M t' hk h1 h2 => ⟨.int _, H, I.kept hk, ⟨_, rfl⟩, by rw [eqm M h1 h2]; exact q⟩
  · obtain ⟨its, rv, hl, _⟩ := I.tuple h
    exact max_rawT (I.ok.hd hc) (show s.heap.IsTuple a its.toArray from hl) rv.ints hne fun h' tk M t' hk h1 h2 => ⟨.int _, H, I.kept hk, ⟨_, rfl⟩, by rw [eqm M h1 h2]; exact q⟩
theorem p_min1 (hc : X.calm = true) : CallR X (.builtin "min") (rN X.K T W oMin1) := by
  intro pins s σ H vs us Q I r ⟨ρ, σ', μ, g, ds, st, rs, p⟩
  obtain ⟨a, ns, rfl, h, p⟩ := intsR_of p rs
  cases hm : minL ns with
  | none => rw [hm] at p; exact p.elim
  | some m =>
  rw [hm] at p
  have q : Q (.int m) H := Pst.pure p st (.int _)
  obtain ⟨m1, m2⟩ := minL_some hm
  have hne : 0 < ns.length := List.length_pos_of_mem m1
  have eqm : ∀ M, M ∈ ns → (∀ a, a ∈ ns → M ≤ a) → M = m := fun M h1 h2 => Int.le_antisymm (h2 m m1) (m2 M h1)
  rw [Vals.ref1 r]
  rcases h with h | h
  · obtain ⟨its, rv, hl, _⟩ := I.list h
    exact min_raw (I.ok.hd hc) hl.isList rv.ints hne fun h' tk M t' hk h1 h2 => ⟨.int _, H, I.kept hk, ⟨_, rfl⟩, by rw [eqm M h1 h2]; exact q⟩
  · obtain ⟨its, rv, hl, _⟩ := I.tuple h
    exact min_rawT (I.ok.hd hc) (show s.heap.IsTuple a its.toArray from hl) rv.ints hne fun h' tk M t' hk h1 h2 => ⟨.int _, H, I.kept hk, ⟨_, rfl⟩, by rw [eqm M h1 h2]; exact q⟩
variable {QD : D → Gs → Prop} {g : Gs} {ns : List Int}
@[simp] theorem oSum_lst : wp (oSum [.lst (ns.map .int)] g) QD = QD (.int ns.sum) g := by
  unfold oSum intsR
  simp [seqD, wp_ok]
@[simp] theorem oSum_tup : wp (oSum [.tup (ns.map .int)] g) QD = QD (.int ns.sum) g := by
  unfold oSum intsR
  simp [seqD, wp_ok]
end
end Sh

set_option Elab.async false
set_option linter.all false
set_option maxRecDepth 100000
set_option maxHeartbeats 2000000
namespace Sh
open PySem PySem.Spec L2 PyProof.Rows
/-! ### list(zip(a, b)) -/
theorem zip_no_len : typeLookup (.type "zip") "__len__" = pure none := am_miss_of_fast (by decide +kernel)
theorem zip_no_hint : typeLookup (.type "zip") "__length_hint__" = pure none := am_miss_of_fast (by decide +kernel)
section
variable {prog : Program} {w : World} {A : Around} {s : Shared} {R : Result → Shared → Prop}
abbrev IsL (h : Heap) (S : Addr) (its : Array Value) (c : Nat) : Prop := h.get? S = some { cls := .type "list", dict := none, data := .seq its c, slots := #[] }
theorem wpAny_extend_zip {z S : Addr} {oz : Obj} (hz : s.heap.get? z = some oz) (hc : oz.cls = .type "zip") (hfree : oz.isFreed = false) (hSz : S ≠ z) (res : Value) (c₀ : Nat) (hS : IsL s.heap S #[] c₀)
    (loop : ∀ h' c', (∀ b o, b ≠ S → s.heap.get? b = some o → h'.get? b = some o) → h'.objs.size = s.heap.objs.size → IsL h' S #[] c' → codeAny (model prog w) A (.builtin "list.extend.loop" ⟨[.ref S, .ref z, res], []⟩) R { s with heap := h' })
    (hself : ∀ (Q : Value → Shared → Prop) (E : Value → Shared → Prop), Q (.ref z) s → wpAny (model prog w) A.in1 (pyIter (.ref z)) Q E s) :
    wpAny (model prog w) A.in1 (Builtin.List.listExtendWith (.ref S) (.ref z) res)
      (fun fin s' => match fin with | .done f => R (.ok f) s' | .again c' => c'.quiet = true ∧ codeAny (model prog w) A c' R s') (fun e s' => R (.error e) s') s := by
  have hT : s.TypeIs (.ref z) "zip" := ⟨oz, hz, hc⟩
  unfold Builtin.List.listExtendWith
  refine wpAny_bind (wpAny_typeOf hT ?_)
  have h1 : Builtin.List.listSameRef (.ref S) (.ref z) = false := by simp [Builtin.List.listSameRef, hSz]
  have h2 : (Value.type "zip" == Value.type "list") = false := by decide
  have h3 : (Value.type "zip" == Value.type "tuple") = false := by decide
  simp only [h1, h2, h3, Bool.or_false, Bool.false_eq_true, if_false]
  refine wpAny_bind (hself _ _ ?_)
  refine wpAny_bind (wpAny_holding ?_)
  unfold Builtin.List.listLengthHint
  refine wpAny_bind (wpAny_specialOf hT zip_no_len ?_)
  show wpAny _ A.in1 (specialOf (Value.ref z) (Str.ofString "__length_hint__") >>= _) _ _ _
  refine wpAny_bind (wpAny_specialOf hT zip_no_hint ?_)
  refine wpAny_pure ?_
  show wpAny _ A.in1 (rule "list.extend.makes-room" >>= fun _ => Builtin.List.listTouch (.ref S) >>= fun _ =>
    again (.builtin "list.extend.loop" ⟨[.ref S, .ref z, res], []⟩)) _ _ _
  refine wpAny_bind (wpAny_rule ?_)
  refine wpAny_bind ?_
  show wpAny _ A.in1 (updateSeq S (·.push .none) >>= fun _ => updateSeq S (·.pop)) _ _ _
  refine wpAny_bind (wpAny_updateSeq hS rfl ?_)
  have hS₂ := Heap.get?_update_self (Obj.mapSeq (·.push Value.none)) hS rfl
  refine wpAny_updateSeq (hz := by seq_fits) hS₂ rfl ?_
  have hS₃ := Heap.get?_update_self (Obj.mapSeq (·.pop)) hS₂ rfl
  have oth : ∀ b o, b ≠ S → s.heap.get? b = some o → ((s.heap.update S (Obj.mapSeq (·.push Value.none))).update S (Obj.mapSeq (·.pop))).get? b = some o :=
    fun b o hb e => (Heap.get?_update_other _ _ (Ne.symm hb)).trans ((Heap.get?_update_other _ _ (Ne.symm hb)).trans e)
  exact wpAny_pure ⟨plainId_quiet F.plain_extend_loop _, loop _ _ oth (by simp) hS₃⟩
theorem wpAny_list_init_zip {z S : Addr} {oz : Obj} (hz : s.heap.get? z = some oz) (hc : oz.cls = .type "zip") (hfree : oz.isFreed = false) (hSz : S ≠ z) (hS : IsL s.heap S #[] 0)
    (loop : ∀ h' c', (∀ b o, b ≠ S → s.heap.get? b = some o → h'.get? b = some o) → h'.objs.size = s.heap.objs.size → IsL h' S #[] c' → codeAny (model prog w) A (.builtin "list.extend.loop" ⟨[.ref S, .ref z, .none], []⟩) R { s with heap := h' })
    (hself : ∀ (s : Shared) (Q : Value → Shared → Prop) (E : Value → Shared → Prop), s.heap.get? z = some oz → Q (.ref z) s → wpAny (model prog w) A.in1 (pyIter (.ref z)) Q E s) :
    wpAny (model prog w) A.in1 (Builtin.«list.__init__» ⟨[.ref S, .ref z], []⟩)
      (fun fin s' => match fin with | .done f => R (.ok f) s' | .again c' => c'.quiet = true ∧ codeAny (model prog w) A c' R s') (fun e s' => R (.error e) s') s := by
  show wpAny _ A.in1 (do let old ← Builtin.List.listItems (.ref S); Builtin.List.listUpdate (.ref S) (fun _ => #[]); letGo old.toList.reverse; Builtin.List.listExtendWith (.ref S) (.ref z) .none) _ _ s
  refine wpAny_bind ?_
  unfold Builtin.List.listItems
  refine wpAny_bind (wpAny_seqItems hS rfl (wpAny_pure ?_))
  show wpAny _ A.in1 (updateSeq S (fun _ => #[]) >>= fun _ => letGo (#[] : Array Value).toList.reverse >>= fun _ => Builtin.List.listExtendWith (.ref S) (.ref z) .none) _ _ s
  refine wpAny_bind (wpAny_updateSeq hS rfl ?_)
  have hS₂ := Heap.get?_update_self (Obj.mapSeq (fun _ => (#[] : Array Value))) hS rfl
  have oth : ∀ b o, b ≠ S → s.heap.get? b = some o → (s.heap.update S (Obj.mapSeq (fun _ => (#[] : Array Value)))).get? b = some o :=
    fun b o hb e => (Heap.get?_update_other _ _ (Ne.symm hb)).trans e
  refine wpAny_bind (wpAny_letGo ?_)
  exact wpAny_extend_zip (s := { s with heap := s.heap.update S (Obj.mapSeq (fun _ => (#[] : Array Value))) }) (oth z _ (Ne.symm hSz) hz) hc hfree hSz .none _ hS₂
    (fun h' c' hk hs hS' => loop h' c' (fun b o hb e => hk b o hb (oth b o hb e)) (hs.trans (by simp)) hS') fun Q E hq => hself _ Q E (oth z _ (Ne.symm hSz) hz) hq
end
theorem call_list_zip {prog : Program} {w : World} {A : Around} {E : Value → Shared → Prop} {s : Shared} {Q : Value → Shared → Prop} {z : Addr} {oz : Obj} (hz : s.heap.get? z = some oz) (hc : oz.cls = .type "zip") (hfree : oz.isFreed = false)
    (hself : ∀ (A : Around) (s : Shared) (Q : Value → Shared → Prop) (E : Value → Shared → Prop), s.heap.get? z = some oz → Q (.ref z) s → wpAny (model prog w) A (pyIter (.ref z)) Q E s)
    (loop : ∀ h' c' (R : Result → Shared → Prop), (∀ b o, s.heap.get? b = some o → h'.get? b = some o) → IsL h' s.heap.objs.size #[] c' → (∀ s', Q (.ref s.heap.objs.size) s' → R (.ok (.ret .none)) s') → h'.objs.size = s.heap.objs.size + 1 →
      codeAny (model prog w) A.in1 (.builtin "list.extend.loop" ⟨[.ref s.heap.objs.size, .ref z, .none], []⟩) R { s with heap := h' }) :
    wpAny (model prog w) A (call (.type "list") [.ref z]) Q E s := by
  have hne : s.heap.objs.size ≠ z := fun e => Nat.lt_irrefl _ (e ▸ Heap.lt_size hz)
  refine callType_codes (Q₁ := fun obj s₁ => obj = .ref s.heap.objs.size ∧ s₁ = { s with heap := s.heap.push { cls := .type "list", data := .seq #[] } }) F.called_list (F.typeCall_list_1 _) F.entry_list_init
    (code_list_new _ ⟨rfl, rfl⟩) fun obj s₁ h₁ => ?_
  obtain ⟨rfl, rfl⟩ := h₁
  have hS : (s.heap.push { cls := .type "list", data := .seq #[] }).get? s.heap.objs.size = some { cls := .type "list", data := .seq #[] } := Heap.get?_push_size _ rfl
  refine ⟨⟨_, hS, rfl⟩, F.args_list_init_2 _ _, wpAny_list_init_zip (A := A.in1) (Heap.get?_push_of_some _ hz) hc hfree hne hS (fun h' c' hk hsz hS' => ?_) fun s Q E => hself _ s Q E⟩
  exact loop h' c' _ (fun b o e => hk b o (Nat.ne_of_lt (Heap.lt_size e)) (Heap.get?_push_of_some _ e)) hS' (fun s' hq => ⟨rfl, hq⟩) (hsz.trans (by simp))
end Sh

set_option Elab.async false
set_option linter.all false
set_option maxRecDepth 100000
set_option maxHeartbeats 2000000
namespace Sh
open PySem PySem.Spec L2 PyProof.Rows
section
variable {prog : Program} {w : World} {A : Around} {E : Value → Shared → Prop} {s : Shared} {z TI TO T i1 i2 : Addr} {fp1 fp2 : List Addr} {n1 n2 i : Nat} {P1 P2 : Nat → Value → Prop} {St1 St2 : Nat → Heap → Prop} {f : Bool} {oT : Obj}
theorem zipD2_item_held {Q : Value → Shared → Prop} (S : ZipSep2 z TI TO i1 i2 fp1 fp2) (D1 : Draws prog w A i1 fp1 n1 P1 St1) (D2 : Draws prog w A i2 fp2 n2 P2 St2)
    (hz : IsZipHeld s.heap z TI TO T f) (hT : s.heap.get? T = some oT) (hTI : IsTupOf2 s.heap TI (.ref i1) (.ref i2)) (st1 : St1 i s.heap) (st2 : St2 i s.heap) (hlt1 : i < n1) (hlt2 : i < n2)
    (hQ : ∀ x1 x2 h' tk, P1 i x1 → P2 i x2 → IsZipHeld h' z TI TO T true → St1 (i + 1) h' → St2 (i + 1) h' → IsTupOf2 h' s.heap.objs.size x1 x2 → h'.objs.size = s.heap.objs.size + 1 →
      (∀ c o, c ≠ z → c ≠ i1 → c ≠ i2 → s.heap.get? c = some o → h'.get? c = some o) → Q (.ref s.heap.objs.size) { s with heap := h', toks := tk }) :
    wpAny (model prog w) A (Builtin.«zip.__next__» ⟨[.ref z], []⟩) (fun fin s' => ∃ v, fin = .done (.ret v) ∧ Q v s') E s := by
  obtain ⟨hp, g, d, tk0, os⟩ := s
  show wpAny _ _ (field (.ref z) 2 >>= _) _ _ _
  refine wpAny_bind (wpAny_field hz rfl (x := .bool false) rfl ?_)
  show wpAny _ _ (field (.ref z) 3 >>= _) _ _ _
  refine wpAny_bind (wpAny_field hz rfl (x := .ref TI) rfl ?_)
  refine wpAny_bind (wpAny_seqItems hTI rfl ?_)
  show wpAny _ _ (Builtin.SmallTypes.ownedTupleIsFree (.ref z) >>= _) _ _ _
  refine wpAny_bind (wpAny_tupleHeld_zip hz hT fun h₁ hz₁ hs₁ => ?_)
  simp only [Bool.false_eq_true, if_false]
  refine wpAny_bind ?_
  rw [← Array.forIn_toList]
  simp only [List.forIn_cons, List.forIn_nil]
  refine wpAny_bind (wpAny_bind (wpAny_holding ?_))
  show wpAny _ _ (Builtin.SmallTypes.nextOf (.ref i1) >>= _) _ _ _
  refine wpAny_bind (D1.item i ⟨h₁, g, d, tk0, os⟩ _ _ hlt1 (D1.over st1 hs₁ S.zf1) fun x h₂ tk2 hx st1₂ hs₂ => wpAny_pure ?_)
  replace hs₂ : Heap.SameBut i1 h₁ h₂ := hs₂
  refine wpAny_pure ?_
  refine wpAny_bind (wpAny_bind (wpAny_holding ?_))
  show wpAny _ _ (Builtin.SmallTypes.nextOf (.ref i2) >>= _) _ _ _
  refine wpAny_bind (D2.item i ⟨h₂, g, d, tk2, os⟩ _ _ hlt2 (D2.over (D2.over st2 hs₁ S.zf2) hs₂ S.sep1_2) fun y h₃ tk3 hy st2₃ hs₃ => wpAny_pure ?_)
  replace hs₃ : Heap.SameBut i2 h₂ h₃ := hs₃
  refine wpAny_pure (wpAny_pure ?_)
  show wpAny _ _ (newTuple [x, y] >>= _) _ _ _
  refine wpAny_bind (wpAny_newTuple ?_)
  have hsz : h₃.objs.size = hp.objs.size := by rw [hs₃.1, hs₂.1, hs₁.1]
  have hz₃ : IsZipHeld h₃ z TI TO T true := hs₃.extBut _ _ S.zi2 (hs₂.extBut _ _ S.zi1 hz₁)
  have hk : ∀ c o, c ≠ z → c ≠ i1 → c ≠ i2 → hp.get? c = some o → h₃.get? c = some o := fun c o c1 c2 c3 e => hs₃.extBut _ _ c3 (hs₂.extBut _ _ c2 (hs₁.extBut _ _ c1 e))
  have st1₃ := D1.over st1₂ hs₃ S.sep2_1
  refine wpAny_pure ⟨_, rfl, ?_⟩
  show Q (.ref h₃.objs.size) _
  have hp4 : IsTupOf2 (h₃.push { cls := .type "tuple", data := .seq #[x, y] }) h₃.objs.size x y := Heap.get?_push_size _ rfl
  have hz4 : (h₃.push { cls := .type "tuple", data := .seq #[x, y] }).objs.size = h₃.objs.size + 1 := Heap.size_push ..
  rw [hsz] at hp4 hz4 ⊢
  exact hQ x y _ tk3 hx hy (Heap.get?_push_of_some _ hz₃) (D1.frame _ _ _ st1₃ fun b _ o e => Heap.get?_push_of_some _ e) (D2.frame _ _ _ st2₃ fun b _ o e => Heap.get?_push_of_some _ e) hp4 hz4 fun c o c1 c2 c3 e => Heap.get?_push_of_some _ (hk c o c1 c2 c3 e)
theorem zipD2_end_held {Q : Fin → Shared → Prop} (S : ZipSep2 z TI TO i1 i2 fp1 fp2) (D1 : Draws prog w A i1 fp1 n1 P1 St1) (D2 : Draws prog w A i2 fp2 n2 P2 St2)
    (hz : IsZipHeld s.heap z TI TO T f) (hT : s.heap.get? T = some oT) (hTI : IsTupOf2 s.heap TI (.ref i1) (.ref i2)) (st1 : St1 i s.heap) (st2 : St2 i s.heap) (hle1 : i ≤ n1) (hle2 : i ≤ n2) (hend : i = n1 ∨ i = n2)
    (hE : ∀ h' tk e, (∀ c o, c ≠ z → c ≠ i1 → c ≠ i2 → s.heap.get? c = some o → h'.get? c = some o) → (∃ o, h'.get? e = some o ∧ o.cls = .type "StopIteration") → E (.ref e) { s with heap := h', toks := tk }) :
    wpAny (model prog w) A (Builtin.«zip.__next__» ⟨[.ref z], []⟩) Q E s := by
  obtain ⟨hp, g, d, tk0, os⟩ := s
  show wpAny _ _ (field (.ref z) 2 >>= _) _ _ _
  refine wpAny_bind (wpAny_field hz rfl (x := .bool false) rfl ?_)
  show wpAny _ _ (field (.ref z) 3 >>= _) _ _ _
  refine wpAny_bind (wpAny_field hz rfl (x := .ref TI) rfl ?_)
  refine wpAny_bind (wpAny_seqItems hTI rfl ?_)
  show wpAny _ _ (Builtin.SmallTypes.ownedTupleIsFree (.ref z) >>= _) _ _ _
  refine wpAny_bind (wpAny_tupleHeld_zip hz hT fun h₁ hz₁ hs₁ => ?_)
  simp only [Bool.false_eq_true, if_false]
  refine wpAny_bind ?_
  rw [← Array.forIn_toList]
  simp only [List.forIn_cons, List.forIn_nil]
  refine wpAny_bind (wpAny_bind (wpAny_holding ?_))
  show wpAny _ _ (Builtin.SmallTypes.nextOf (.ref i1) >>= _) _ _ _
  by_cases h1 : i = n1
  · subst h1
    refine wpAny_bind (D1.done ⟨h₁, g, d, tk0, os⟩ _ _ (D1.over st1 hs₁ S.zf1) fun h₂ e hs₂ he => ?_)
    exact hE h₂ tk0 e (fun c o c1 c2 _ x => hs₂ _ _ c2 (hs₁.extBut _ _ c1 x)) he
  · have h2 : i = n2 := hend.resolve_left h1
    subst h2
    refine wpAny_bind (D1.item i ⟨h₁, g, d, tk0, os⟩ _ _ (by omega) (D1.over st1 hs₁ S.zf1) fun x h₂ tk2 hx st1₂ hs₂ => wpAny_pure ?_)
    replace hs₂ : Heap.SameBut i1 h₁ h₂ := hs₂
    refine wpAny_pure ?_
    refine wpAny_bind (wpAny_bind (wpAny_holding ?_))
    show wpAny _ _ (Builtin.SmallTypes.nextOf (.ref i2) >>= _) _ _ _
    refine wpAny_bind (D2.done ⟨h₂, g, d, tk2, os⟩ _ _ (D2.over (D2.over st2 hs₁ S.zf2) hs₂ S.sep1_2) fun h₃ e hs₃ he => ?_)
    exact hE h₃ tk2 e (fun c o c1 c2 c3 x => hs₃ _ _ c3 (hs₂.extBut _ _ c2 (hs₁.extBut _ _ c1 x))) he
theorem pyNext_zipD2_held {Q : Option Value → Shared → Prop} (S : ZipSep2 z TI TO i1 i2 fp1 fp2) (D1 : Draws prog w A.in1 i1 fp1 n1 P1 St1) (D2 : Draws prog w A.in1 i2 fp2 n2 P2 St2)
    (hz : IsZipHeld s.heap z TI TO T f) (hT : s.heap.get? T = some oT) (hTI : IsTupOf2 s.heap TI (.ref i1) (.ref i2)) (st1 : St1 i s.heap) (st2 : St2 i s.heap) (hlt1 : i < n1) (hlt2 : i < n2)
    (hQ : ∀ x1 x2 h' tk, P1 i x1 → P2 i x2 → IsZipHeld h' z TI TO T true → St1 (i + 1) h' → St2 (i + 1) h' → IsTupOf2 h' s.heap.objs.size x1 x2 → h'.objs.size = s.heap.objs.size + 1 →
      (∀ c o, c ≠ z → c ≠ i1 → c ≠ i2 → s.heap.get? c = some o → h'.get? c = some o) → Q (some (.ref s.heap.objs.size)) { s with heap := h', toks := tk }) : wpAny (model prog w) A (pyNext (.ref z)) Q E s := by
  have hTy : s.TypeIs (.ref z) "zip" := ⟨_, hz, rfl⟩
  unfold pyNext
  exact wpAny_bind (wpAny_attempt (wpAny_callSpecial?_slot (name := Str.ofString "__next__") hTy F.slot_zip_next
    (wpAny_call_entry F.slot_zip_next hTy F.entry_zip_next
      (zipD2_item_held S D1 D2 hz hT hTI st1 st2 hlt1 hlt2 fun x1 x2 h' tk y1 y2 a1 a3 a4 a5 a6 a7 => wpAny_pure (hQ x1 x2 h' tk y1 y2 a1 a3 a4 a5 a6 a7)) (F.args_zip_next_1 _))))
theorem pyNext_zipD2_heldEnd {Q : Option Value → Shared → Prop} (S : ZipSep2 z TI TO i1 i2 fp1 fp2) (D1 : Draws prog w A.in1 i1 fp1 n1 P1 St1) (D2 : Draws prog w A.in1 i2 fp2 n2 P2 St2)
    (hz : IsZipHeld s.heap z TI TO T f) (hT : s.heap.get? T = some oT) (hTI : IsTupOf2 s.heap TI (.ref i1) (.ref i2)) (st1 : St1 i s.heap) (st2 : St2 i s.heap) (hle1 : i ≤ n1) (hle2 : i ≤ n2) (hend : i = n1 ∨ i = n2)
    (hQ : ∀ h' tk, (∀ c o, c ≠ z → c ≠ i1 → c ≠ i2 → s.heap.get? c = some o → h'.get? c = some o) → Q none { s with heap := h', toks := tk }) : wpAny (model prog w) A (pyNext (.ref z)) Q E s := by
  have hTy : s.TypeIs (.ref z) "zip" := ⟨_, hz, rfl⟩
  unfold pyNext
  refine wpAny_bind (wpAny_attempt (wpAny_callSpecial?_slot (name := Str.ofString "__next__") hTy F.slot_zip_next
    (wpAny_call_entry F.slot_zip_next hTy F.entry_zip_next (zipD2_end_held S D1 D2 hz hT hTI st1 st2 hle1 hle2 hend fun h' tk e hk he => ?_) (F.args_zip_next_1 _))))
  obtain ⟨o, ho, hc⟩ := he
  refine wpAny_bind (wpAny_isInstance (T := "StopIteration") (b := true) ⟨o, ho, hc⟩ isSubtype_stop ?_)
  exact wpAny_pure (hQ _ _ hk)
end
end Sh

set_option Elab.async false
set_option linter.all false
set_option maxRecDepth 100000
set_option maxHeartbeats 2000000
namespace Sh
open PySem PySem.Spec L2 PyProof.Rows
def ItK : Bool → Heap → Addr → Addr → Nat → Prop
  | true, h, it, a, i => h.IsListIter it a i
  | false, h, it, a, i => h.IsTupleIter it a i
def HsK : Bool → Heap → Addr → Array Value → Prop
  | true, h, a, v => h.IsList a v
  | false, h, a, v => h.IsTuple a v
def SqK : Bool → PySem.W.Frag → Hp → Addr → List V → Prop
  | true, K, H, a, xs => SqL K H a xs
  | false, K, H, a, xs => SqT K H a xs
theorem ItK.at {k : Bool} {h h' : Heap} {it a : Addr} {i : Nat} (x : ItK k h it a i) (e : ∀ o, h.get? it = some o → h'.get? it = some o) : ItK k h' it a i := by
  cases k
  · exact Heap.IsTupleIter.at x e
  · exact Heap.IsListIter.at x e
theorem ItK.lt {k : Bool} {h : Heap} {it a : Addr} {i : Nat} (x : ItK k h it a i) : it < h.objs.size := by
  cases k
  · obtain ⟨_, e, _⟩ := x; exact Heap.lt_size e
  · obtain ⟨_, e, _⟩ := x; exact Heap.lt_size e
theorem ItK.ne {k : Bool} {h : Heap} {it a b : Addr} {i : Nat} {items : Array Value} (x : ItK k h it a i) (y : HsK k h b items) : b ≠ it := fun e => by
  subst e
  cases k
  · obtain ⟨o, e1, e2, _⟩ := x
    obtain ⟨o', e3, e4, _⟩ := y
    rw [e1] at e3
    cases e3
    rw [e2] at e4
    injection e4 with e5
    exact absurd e5 (by decide)
  · obtain ⟨o, e1, e2, _⟩ := x
    obtain ⟨o', e3, e4, _⟩ := y
    rw [e1] at e3
    cases e3
    rw [e2] at e4
    injection e4 with e5
    exact absurd e5 (by decide)
theorem sqK_of {X : Cx} {pins : List (Addr × Obj)} {σ : L2.St} {H : Hp} {s : Shared} {k : Bool} {a : Addr} {xs : List V} (I : Inv X pins σ H s) (h : SqK k X.K H a xs) : ∃ its, Vals xs its ∧ HsK k s.heap a its.toArray := by
  cases k
  · obtain ⟨its, rv, p, _⟩ := I.tuple h
    exact ⟨its, rv, p⟩
  · obtain ⟨its, rv, p, _⟩ := I.list h
    exact ⟨its, rv, p.isList⟩
theorem drawsK {prog : Program} {w : World} {A : Around} (k : Bool) (hh : A.handled = none) (it a : Addr) (hne : a ≠ it) (items : Array Value) :
    Draws prog w A it [it, a] items.size (fun i v => items[i]? = some v) (fun i h => ItK k h it a i ∧ HsK k h a items) := by
  cases k
  · exact Draws.tuple hh it a hne items
  · exact Draws.list hh it a hne items
structure Zs (k1 k2 : Bool) (z TI TO i1 i2 a b S : Addr) (i : Nat) (h : Heap) : Prop where
  ti : IsTupOf2 h TI (.ref i1) (.ref i2)
  t1 : ItK k1 h i1 a i
  t2 : ItK k2 h i2 b i
  zz : (i = 0 ∧ IsZip h z TI TO .none ∧ ∃ u v, IsTupOf2 h TO u v) ∨ ∃ (T : Addr) (f : Bool) (oT : Obj), IsZipHeld h z TI TO T f ∧ h.get? T = some oT ∧ T ∉ [z, TI, TO, i1, i2, S]
  zl : z < h.objs.size
  ol : TO < h.objs.size
section
variable {X : Cx} {pins : List (Addr × Obj)} {σ : L2.St} {H : Hp} {s : Shared} {k1 k2 : Bool} {z TI TO i1 i2 a b S : Addr} {A : Around} {E : Value → Shared → Prop} {xs ys : List V} {i : Nat}
/-- the objects of a walk stay -/
theorem Zs.keep {h h' : Heap} (x : Zs k1 k2 z TI TO i1 i2 a b S i h) (hk : ∀ c o, c ≠ S → h.get? c = some o → h'.get? c = some o) (hS : S ∉ [z, TI, TO, i1, i2]) (hsz : h.objs.size ≤ h'.objs.size) : Zs k1 k2 z TI TO i1 i2 a b S i h' := by
  have n : ∀ c ∈ [z, TI, TO, i1, i2], c ≠ S := fun c hc e => hS (e ▸ hc)
  refine ⟨hk _ _ (n TI (by simp)) x.ti, x.t1.at fun o e => hk _ _ (n i1 (by simp)) e, x.t2.at fun o e => hk _ _ (n i2 (by simp)) e, ?_, Nat.lt_of_lt_of_le x.zl hsz, Nat.lt_of_lt_of_le x.ol hsz⟩
  rcases x.zz with ⟨h0, h1, u, v, h2⟩ | ⟨T, f, oT, h1, h2, h3⟩
  · exact .inl ⟨h0, hk _ _ (n z (by simp)) h1, u, v, hk _ _ (n TO (by simp)) h2⟩
  · exact .inr ⟨T, f, oT, hk _ _ (n z (by simp)) h1, hk _ _ (fun e => h3 (by simp [e])) h2, h3⟩
theorem zs_item {Q : Option Value → Shared → Prop} (hh : A.handled = none) (I : Inv X pins σ H s) (Sep : ZipSep2 z TI TO i1 i2 [i1, a] [i2, b]) (zs : Zs k1 k2 z TI TO i1 i2 a b S i s.heap) (q1 : SqK k1 X.K H a xs) (q2 : SqK k2 X.K H b ys) {x y : V} (hx : xs[i]? = some x) (hy : ys[i]? = some y)
    (hSl : S < s.heap.objs.size) (hT : TI < s.heap.objs.size)
    (hQ : ∀ (u v : Value) h' tk, RelV x u → RelV y v → Zs k1 k2 z TI TO i1 i2 a b S (i + 1) h' → IsTupOf2 h' s.heap.objs.size u v → h'.objs.size = s.heap.objs.size + 1 →
      (∀ c o, c ∉ [z, TI, TO, i1, i2] → s.heap.get? c = some o → h'.get? c = some o) → Q (some (.ref s.heap.objs.size)) { s with heap := h', toks := tk }) : wpAny (model X.prog X.w) A (pyNext (.ref z)) Q E s := by
  obtain ⟨its1, rv1, p1⟩ := sqK_of I q1
  obtain ⟨its2, rv2, p2⟩ := sqK_of I q2
  obtain ⟨u, hu, ru⟩ := rv1.get hx
  obtain ⟨v, hv, rv⟩ := rv2.get hy
  have hlt1 : i < its1.toArray.size := by have := (List.getElem?_eq_some_iff.mp hu).1; simpa using this
  have hlt2 : i < its2.toArray.size := by have := (List.getElem?_eq_some_iff.mp hv).1; simpa using this
  have ne1 : a ≠ i1 := zs.t1.ne p1
  have ne2 : b ≠ i2 := zs.t2.ne p2
  have D1 := drawsK (prog := X.prog) (w := X.w) (A := A.in1) k1 hh i1 a ne1 its1.toArray
  have D2 := drawsK (prog := X.prog) (w := X.w) (A := A.in1) k2 hh i2 b ne2 its2.toArray
  have fin : ∀ (x1 x2 : Value) (h' : Heap) (tk : Nat) (f : Bool), its1.toArray[i]? = some x1 → its2.toArray[i]? = some x2 → IsZipHeld h' z TI TO s.heap.objs.size f → (ItK k1 h' i1 a (i + 1) ∧ HsK k1 h' a its1.toArray) → (ItK k2 h' i2 b (i + 1) ∧ HsK k2 h' b its2.toArray) → IsTupOf2 h' TI (.ref i1) (.ref i2) →
      IsTupOf2 h' s.heap.objs.size x1 x2 → h'.objs.size = s.heap.objs.size + 1 → (∀ c o, c ∉ [z, TI, TO, i1, i2] → s.heap.get? c = some o → h'.get? c = some o) → Q (some (.ref s.heap.objs.size)) { s with heap := h', toks := tk } := fun x1 x2 h' tk f e1 e2 hz s1 s2 hti hp hsz hk => by
    have eu : x1 = u := by rw [show its1.toArray[i]? = some u by simpa using hu] at e1; exact (Option.some.inj e1).symm
    have ev : x2 = v := by rw [show its2.toArray[i]? = some v by simpa using hv] at e2; exact (Option.some.inj e2).symm
    subst eu
    subst ev
    refine hQ x1 x2 h' tk ru rv ⟨hti, s1.1, s2.1, .inr ⟨_, f, _, hz, hp, ?_⟩, by rw [hsz]; exact Nat.lt_succ_of_lt zs.zl, by rw [hsz]; exact Nat.lt_succ_of_lt zs.ol⟩ hp hsz hk
    simp only [List.mem_cons, List.not_mem_nil, or_false, not_or]
    exact ⟨Nat.ne_of_gt zs.zl, Nat.ne_of_gt hT, Nat.ne_of_gt zs.ol, Nat.ne_of_gt zs.t1.lt, Nat.ne_of_gt zs.t2.lt, Nat.ne_of_gt hSl⟩
  have nm : ∀ c, c ∉ [z, TI, TO, i1, i2] → c ≠ z ∧ c ≠ TI ∧ c ≠ TO ∧ c ≠ i1 ∧ c ≠ i2 := fun c h => by simpa using h
  rcases zs.zz with ⟨h0, hz, u0, v0, hTO⟩ | ⟨T, f, oT, hz, hoT, nT⟩
  · refine wpAny_pyNext_zipD2_item Sep D1 D2 hz zs.ti hTO ⟨zs.t1, p1⟩ ⟨zs.t2, p2⟩ hlt1 hlt2 fun x1 x2 h' tk e1 e2 b1 b2 s1 s2 b5 b6 b7 => fin x1 x2 h' tk false e1 e2 b1 s1 s2 (b7 TI _ Sep.TIz Sep.TITO Sep.TIi1 Sep.TIi2 zs.ti) b5 b6 fun c o hc e => ?_
    obtain ⟨c1, _, c3, c4, c5⟩ := nm c hc
    exact b7 c o c1 c3 c4 c5 e
  · refine pyNext_zipD2_held Sep D1 D2 hz hoT zs.ti ⟨zs.t1, p1⟩ ⟨zs.t2, p2⟩ hlt1 hlt2 fun x1 x2 h' tk e1 e2 b1 s1 s2 b5 b6 b7 => ?_
    obtain ⟨t1, t2, t3, t4, t5, t6⟩ : T ≠ z ∧ T ≠ TI ∧ T ≠ TO ∧ T ≠ i1 ∧ T ≠ i2 ∧ T ≠ S := by simpa using nT
    have eu : x1 = u := by rw [show its1.toArray[i]? = some u by simpa using hu] at e1; exact (Option.some.inj e1).symm
    have ev : x2 = v := by rw [show its2.toArray[i]? = some v by simpa using hv] at e2; exact (Option.some.inj e2).symm
    subst eu
    subst ev
    refine hQ x1 x2 h' tk ru rv ⟨b7 TI _ Sep.TIz Sep.TIi1 Sep.TIi2 zs.ti, s1.1, s2.1, .inr ⟨T, true, oT, b1, b7 T _ t1 t4 t5 hoT, nT⟩, by rw [b6]; exact Nat.lt_succ_of_lt zs.zl, by rw [b6]; exact Nat.lt_succ_of_lt zs.ol⟩ b5 b6 fun c o hc e => ?_
    obtain ⟨c1, _, c3, c4, c5⟩ := nm c hc
    exact b7 c o c1 c4 c5 e
theorem zs_end {Q : Option Value → Shared → Prop} (hh : A.handled = none) (I : Inv X pins σ H s) (Sep : ZipSep2 z TI TO i1 i2 [i1, a] [i2, b]) (zs : Zs k1 k2 z TI TO i1 i2 a b S i s.heap) (q1 : SqK k1 X.K H a xs) (q2 : SqK k2 X.K H b ys) (hi : i = min xs.length ys.length)
    (hQ : ∀ h' tk, (∀ c o, c ∉ [z, TI, TO, i1, i2] → s.heap.get? c = some o → h'.get? c = some o) → Q none { s with heap := h', toks := tk }) : wpAny (model X.prog X.w) A (pyNext (.ref z)) Q E s := by
  obtain ⟨its1, rv1, p1⟩ := sqK_of I q1
  obtain ⟨its2, rv2, p2⟩ := sqK_of I q2
  have l1 := rv1.length
  have l2 := rv2.length
  have ne1 : a ≠ i1 := zs.t1.ne p1
  have ne2 : b ≠ i2 := zs.t2.ne p2
  have D1 := drawsK (prog := X.prog) (w := X.w) (A := A.in1) k1 hh i1 a ne1 its1.toArray
  have D2 := drawsK (prog := X.prog) (w := X.w) (A := A.in1) k2 hh i2 b ne2 its2.toArray
  have hs1 : its1.toArray.size = xs.length := by simp [l1]
  have hs2 : its2.toArray.size = ys.length := by simp [l2]
  have nm : ∀ c, c ∉ [z, TI, TO, i1, i2] → c ≠ z ∧ c ≠ TI ∧ c ≠ TO ∧ c ≠ i1 ∧ c ≠ i2 := fun c h => by simpa using h
  rcases zs.zz with ⟨h0, hz, u0, v0, hTO⟩ | ⟨T, f, oT, hz, hoT, nT⟩
  · refine wpAny_pyNext_zipD2_end Sep D1 D2 hz zs.ti hTO ⟨zs.t1, p1⟩ ⟨zs.t2, p2⟩ (by omega) (by omega) (by omega) fun h' tk b7 => hQ h' tk fun c o hc e => ?_
    obtain ⟨c1, _, c3, c4, c5⟩ := nm c hc
    exact b7 c o c1 c3 c4 c5 e
  · refine pyNext_zipD2_heldEnd Sep D1 D2 hz hoT zs.ti ⟨zs.t1, p1⟩ ⟨zs.t2, p2⟩ (by omega) (by omega) (by omega) fun h' tk b7 => hQ h' tk fun c o hc e => ?_
    obtain ⟨c1, _, c3, c4, c5⟩ := nm c hc
    exact b7 c o c1 c4 c5 e
end
end Sh

set_option Elab.async false
set_option linter.all false
set_option maxRecDepth 100000
set_option maxHeartbeats 2000000
namespace Sh
open PySem PySem.Spec L2 PyProof.Rows
section
variable {X : Cx} {pins : List (Addr × Obj)} {σ : L2.St} {k1 k2 : Bool} {z TI TO i1 i2 a b S : Addr} {A : Around} {xs ys : List V} {R : Result → Shared → Prop}
theorem lzip_loop (hh : A.handled = none) (Sep : ZipSep2 z TI TO i1 i2 [i1, a] [i2, b]) (hSn : S ∉ [z, TI, TO, i1, i2]) (Wt : Nat → List V → Hp → Prop)
    (turn : ∀ i acc H, Wt i acc H → H S = some (.lst acc) ∧ acc.length < sizeLine ∧ SqK k1 X.K H a xs ∧ SqK k2 X.K H b ys ∧
      ∀ x y T, xs[i]? = some x → ys[i]? = some y → H T = none → Wt (i + 1) (acc ++ [.ref T]) (upd (upd H T (.tup [x, y])) S (.lst (acc ++ [.ref T])))) :
    ∀ (m i : Nat) (acc : List V) (H : Hp) (s : Shared), min xs.length ys.length - i = m → i ≤ min xs.length ys.length → Inv X pins σ H s → (∀ c ∈ [z, TI, TO, i1, i2], FpOk X pins H c ∧ c < s.heap.objs.size) → Zs k1 k2 z TI TO i1 i2 a b S i s.heap → Wt i acc H →
      (∀ acc H' s', Inv X pins σ H' s' → Wt (min xs.length ys.length) acc H' → R (.ok (.ret .none)) s') → codeAny (model X.prog X.w) A (.builtin "list.extend.loop" ⟨[.ref S, .ref z, .none], []⟩) R s := by
  intro m
  induction m with
  | zero =>
    intro i acc H s hm hi I hf zs w hR
    obtain ⟨hS, hz, q1, q2, _⟩ := turn i acc H w
    have he : i = min xs.length ys.length := by omega
    refine codeAny_builtin F.entry_extend_loop ?_
    rw [Around.under_plainId F.plain_extend_loop _]
    show wpAny _ A.in1 (pyNext (.ref z) >>= _) _ _ s
    refine wpAny_bind (zs_end (A := A.in1) hh I Sep zs q1 q2 he fun h' tk hk => ?_)
    refine wpAny_pure (hR acc H _ (I.turnedL (t' := tk) (ch := [z, TI, TO, i1, i2]) (fun c o hc e => hk c o hc e) fun c hc => (hf c hc).1) (he ▸ w))
  | succ m ih =>
    intro i acc H s hm hi I hf zs w hR
    obtain ⟨hS, hz, q1, q2, step⟩ := turn i acc H w
    have l1 : i < xs.length := by omega
    have l2 : i < ys.length := by omega
    have hx := List.getElem?_eq_getElem l1
    have hy := List.getElem?_eq_getElem l2
    have hSl : S < s.heap.objs.size := by
      obtain ⟨_, _, _, _, e⟩ := I.hok S _ hS
      exact Heap.lt_size e
    refine codeAny_builtin F.entry_extend_loop ?_
    rw [Around.under_plainId F.plain_extend_loop _]
    show wpAny _ A.in1 (pyNext (.ref z) >>= _) _ _ s
    refine wpAny_bind (zs_item (A := A.in1) hh I Sep zs q1 q2 hx hy hSl (hf TI (by simp)).2 fun u v h' tk ru rv zs' hp hsz hk => ?_)
    have hT : H s.heap.objs.size = none := I.hok.fresh (Nat.le_refl _)
    have new : ObjOk X.prog X.w (upd H s.heap.objs.size (.tup [xs[i], ys[i]])) h' s.heap.objs.size (.tup [xs[i], ys[i]]) :=
      ⟨by show 2 ≤ sizeLine; decide, [u, v], .cons ru (.cons rv .nil), ⟨_, hp, rfl, _, rfl⟩⟩
    have I1 : Inv X pins σ (upd H s.heap.objs.size (.tup [xs[i], ys[i]])) { s with heap := h', toks := tk } := I.turnedNew (t' := tk) (ch := [z, TI, TO, i1, i2]) (fun c o hc e => hk c o hc e) (fun c hc => (hf c hc).1) (Nat.le_refl _) new
    have hS1 : (upd H s.heap.objs.size (.tup [xs[i], ys[i]])) S = some (.lst acc) := by rw [upd_ne (ne_of_none hS hT)]; exact hS
    obtain ⟨hz', its, n, ri, e⟩ := I1.hok S _ hS1
    have hl := ri.length
    show wpAny _ A.in1 (updateSeq S (·.push (.ref s.heap.objs.size)) >>= _) _ _ _
    refine wpAny_bind ?_
    have e2 := Heap.get?_update_self (Obj.mapSeq (·.push (Value.ref s.heap.objs.size))) e rfl
    have oth : ∀ c o, c ≠ S → h'.get? c = some o → (h'.update S (Obj.mapSeq (·.push (Value.ref s.heap.objs.size)))).get? c = some o := fun c o hc e => (Heap.get?_update_other _ _ (Ne.symm hc)).trans e
    have I2 : Inv X pins σ (upd (upd H s.heap.objs.size (.tup [xs[i], ys[i]])) S (.lst (acc ++ [.ref s.heap.objs.size]))) { s with heap := h'.update S (Obj.mapSeq (·.push (Value.ref s.heap.objs.size))), toks := tk } :=
      I1.write (t' := tk) (by rw [hS1]; trivial) (.inl rfl) (fun c o hc q => oth c o hc q) ⟨_, e2⟩ ⟨by rw [List.length_append]; exact hz, its ++ [.ref s.heap.objs.size], _, ri.append (.cons (show RelV (V.ref s.heap.objs.size) (Value.ref s.heap.objs.size) from rfl) .nil), by
        rw [e2]
        simp [Obj.mapSeq]
        rfl⟩
    refine wpAny_updateSeq e rfl (wpAny_pure ⟨plainId_quiet F.plain_extend_loop _, ih (i + 1) _ _ _ (by omega) (by omega) I2 (fun c hc => ?_) (zs'.keep oth hSn (by simp)) (step _ _ _ hx hy hT) hR⟩) (by simp; omega) (by simp; omega)
    obtain ⟨⟨f0, fr⟩, fl⟩ := hf c hc
    have cS : c ≠ S := fun e => hSn (e ▸ hc)
    refine ⟨⟨?_, fr⟩, ?_⟩
    · rw [upd_ne cS, upd_ne (Nat.ne_of_lt fl)]
      exact f0
    · have e5 : (h'.update S (Obj.mapSeq (·.push (Value.ref s.heap.objs.size)))).objs.size = h'.objs.size := by simp
      show c < (h'.update S (Obj.mapSeq (·.push (Value.ref s.heap.objs.size)))).objs.size
      rw [e5, hsz]
      exact Nat.lt_succ_of_lt fl
end
end Sh

set_option Elab.async false
set_option linter.all false
set_option maxRecDepth 100000
set_option maxHeartbeats 2000000
namespace Sh
open PySem PySem.Spec L2 PyProof.Rows
theorem five (n c : Nat) (h : c ∈ [n + 4, n + 2, n + 3, n, n + 1]) : n ≤ c ∧ c < n + 5 := by
  simp at h
  omega
section
variable {X : Cx} {T : Tb} {W : WX} {e e2 : Expr} {p p0 pos pos0 : Pos} {ml : LM}
def tLZ (K : PySem.W.Frag) (ta : TA) : TE := fun σ H Q => ta σ H fun vs H1 => ∃ (k : Bool) (a b : Addr) (xs ys : List V), vs = [.ref a, .ref b] ∧ SqK k K H1 a xs ∧ SqK k K H1 b ys ∧ ∀ S, H1 S = none → ∃ Wt : Nat → List V → Hp → Prop, Wt 0 [] (upd H1 S (.lst [])) ∧
  (∀ i acc H, Wt i acc H → H S = some (.lst acc) ∧ acc.length < sizeLine ∧ SqK k K H a xs ∧ SqK k K H b ys ∧
      ∀ x y T, xs[i]? = some x → ys[i]? = some y → H T = none → Wt (i + 1) (acc ++ [.ref T]) (upd (upd H T (.tup [x, y])) S (.lst (acc ++ [.ref T])))) ∧ ∀ acc H, Wt (min xs.length ys.length) acc H → Q (.ref S) H
theorem pe_lzip {ta : TA} {x y : Str} (hc : X.calm = true) (hx : x = "list") (hy : y = "zip") (hgl : Gl X x) (hml : X.mg x = none) (hg : Gl X y) (hm : X.mg y = none) (ha : PA X [e, e2] ta)
    (hs : starEach [e, e2] X.env = (false, eval e X.env) :: starEach [e2] X.env := by rfl) (hpl : (backTo pos (starEach [e2] X.env)).any (·.1) = false := by rfl)
    (hs0 : starEach [.Call (.Name y p) [e, e2] [] pos] X.env = (false, eval (.Call (.Name y p) [e, e2] [] pos) X.env) :: starEach [] X.env := by rfl) (hpl0 : (backTo pos0 (starEach [] X.env)).any (·.1) = false := by rfl) :
    PE X (.Call (.Name x p0) [.Call (.Name y p) [e, e2] [] pos] [] pos0) (tLZ X.K ta) := by
  subst hx hy
  refine ⟨fun pins s σ H Q I h => ?_⟩
  refine Call_ (ld_blt I hgl hml boot_list (callWith_type1 ?_ hs0 hpl0))
  rw [hs0]
  show wpAny _ _ (spliced ((false, eval (.Call (.Name "zip" p) [e, e2] [] pos) X.env) :: backTo pos0 (starEach [] X.env))) _ _ s
  refine Calls.spliced_cons ?_
  refine Call_ (ld_blt I hg hm PyProof.Rows.boot_zip (callWith_type1 (thn (ha.run pos pins s σ H _ I h) fun us s1 ⟨vs, H1, I1, r1, q1⟩ => ?_) hs hpl))
  obtain ⟨k, a, b, xs, ys, ex, qa, qb, q⟩ := q1
  subst ex
  cases r1 with
  | cons r rr =>
  cases rr with
  | cons r' rr =>
  cases rr
  cases r
  cases r'
  obtain ⟨its, rv, p1⟩ := sqK_of I1 qa
  obtain ⟨its2, rv2, p2⟩ := sqK_of I1 qb
  have la : a < s1.heap.objs.size := by
    cases k
    · obtain ⟨_, z, _⟩ := id p1; exact Heap.lt_size z
    · obtain ⟨_, z, _⟩ := id p1; exact Heap.lt_size z
  have lb : b < s1.heap.objs.size := by
    cases k
    · obtain ⟨_, z, _⟩ := id p2; exact Heap.lt_size z
    · obtain ⟨_, z, _⟩ := id p2; exact Heap.lt_size z
  have go : ∀ h', IsZip h' (s1.heap.objs.size + 4) (s1.heap.objs.size + 2) (s1.heap.objs.size + 3) .none → IsPair h' (s1.heap.objs.size + 2) (.ref s1.heap.objs.size) (.ref (s1.heap.objs.size + 1)) →
      IsPair h' (s1.heap.objs.size + 3) .none .none → ItK k h' s1.heap.objs.size a 0 → ItK k h' (s1.heap.objs.size + 1) b 0 → h'.objs.size = s1.heap.objs.size + 5 →
      (∀ c o, s1.heap.get? c = some o → h'.get? c = some o) → wpAny (model X.prog X.w) X.A (call (.type "list") [.ref (s1.heap.objs.size + 4)]) (EP X pins σ Q) X.xe { s1 with heap := h' } := by
    intro h' hz hTI hTO t1 t2 hsz hk
    have I2 : Inv X pins σ H1 { s1 with heap := h' } := I1.kept (t' := s1.toks) hk
    refine call_list_zip (s := { s1 with heap := h' }) hz rfl rfl (fun A s Q E hz hq => wpAny_pyIter_zip hz hq) fun h2 c' R hk2 hS hR hsz2 => ?_
    have hSn : H1 h'.objs.size = none := I2.hok.fresh (Nat.le_refl _)
    have I3 : Inv X pins σ (upd H1 h'.objs.size (.lst [])) { s1 with heap := h2 } := I2.laid (t' := s1.toks) hk2 (Nat.le_refl _) ⟨Nat.zero_le _, [], c', .nil, hS⟩
    obtain ⟨Wt, w0, turn, fin⟩ := q h'.objs.size hSn
    have Sep : ZipSep2 (s1.heap.objs.size + 4) (s1.heap.objs.size + 2) (s1.heap.objs.size + 3) s1.heap.objs.size (s1.heap.objs.size + 1) [s1.heap.objs.size, a] [s1.heap.objs.size + 1, b] :=
      zip_sep2 (fp1 := [a]) (fp2 := [b]) (fun c hc => by rw [List.mem_singleton.mp hc]; exact la) fun c hc => by rw [List.mem_singleton.mp hc]; exact lb
    refine lzip_loop (A := X.A.in1) (k1 := k) (k2 := k) (I.ok.hd hc) Sep (fun hm5 => by have h5 := (five s1.heap.objs.size h'.objs.size hm5).2; omega) Wt turn _ 0 [] _ _ rfl (Nat.zero_le _) I3 (fun c hcm => ?_) ⟨hk2 _ _ hTI, t1.at fun o z => hk2 _ _ z, t2.at fun o z => hk2 _ _ z, .inl ⟨rfl, hk2 _ _ hz, _, _, hk2 _ _ hTO⟩, ?_, ?_⟩ w0 fun acc H' s' I' w' => hR s' ⟨.ref h'.objs.size, H', I', rfl, fin acc H' w'⟩
    · have hcb : s1.heap.objs.size ≤ c ∧ c < s1.heap.objs.size + 5 := five s1.heap.objs.size c hcm
      have hnat : (c : Nat) < h'.objs.size := by rw [hsz]; exact hcb.2
      have f1 : FpOk X pins H1 c := I1.fpOk hcb.1 (I1.hok.fresh hcb.1)
      refine ⟨⟨?_, f1.2⟩, ?_⟩
      · rw [upd_ne (Nat.ne_of_lt hnat)]
        exact f1.1
      · have h6 : h2.objs.size = h'.objs.size + 1 := hsz2
        show c < h2.objs.size
        rw [h6]
        exact Nat.lt_succ_of_lt hnat
    · have h6 : h2.objs.size = h'.objs.size + 1 := hsz2
      show (s1.heap.objs.size + 4 : Nat) < h2.objs.size
      omega
    · have h6 : h2.objs.size = h'.objs.size + 1 := hsz2
      show (s1.heap.objs.size + 3 : Nat) < h2.objs.size
      omega
  cases k with
  | true =>
    exact call_zip_2 p1 p2 fun h' hz hTI hTO h1 h2 hsz hk => Calls.spliced_nil (go h' hz hTI hTO h1 h2 hsz hk)
  | false =>
    exact RZ.call_zipT p1 p2 fun h' hz hTI hTO h1 h2 hsz hk => Calls.spliced_nil (go h' hz hTI hTO h1 h2 hsz hk)
def oLZip (xs : List D) (g : Gs) : Res D := match xs with
  | [.lst xs, .lst ys] => if (zipD xs ys).length ≤ 1000000 then .ok (.lst (zipD xs ys)) g else .bad
  | [.tup xs, .tup ys] => if (zipD xs ys).length ≤ 1000000 then .ok (.lst (zipD xs ys)) g else .bad
  | _ => .bad
theorem SqK.of {K : PySem.W.Frag} {H : Hp} {μ : List Addr} {o : Addr → Prop} {k : Bool} {a : Addr} {vs : List V} (h : if k = true then LstAt K H μ o a vs else TupAt K H μ o a vs) : SqK k K H a vs := by
  cases k
  · exact TupAt.sq (show TupAt K H μ o a vs by simpa using h)
  · exact LstAt.sq (show LstAt K H μ o a vs by simpa using h)
theorem lz_core {k : Bool} {ρ : En} {σ : L2.St} {μ : List Addr} {H1 : Hp} {Q : VK} {g : Gs} {a b : Addr} {vs ws : List V} {dx dy : List D} (s : StR X.K T μ g ρ σ H1)
    (h1 : if k = true then LstAt X.K H1 μ (ow T ρ σ) a vs else TupAt X.K H1 μ (ow T ρ σ) a vs) (h2 : if k = true then LstAt X.K H1 μ (ow T ρ σ) b ws else TupAt X.K H1 μ (ow T ρ σ) b ws)
    (r1 : Rps X.K H1 μ (ow T ρ σ) dx vs) (r2 : Rps X.K H1 μ (ow T ρ σ) dy ws) (hz : (zipD dx dy).length ≤ 1000000) (p : Pst X.K T Rp W ρ σ μ H1 Q (.ok (.lst (zipD dx dy)) g)) :
    ∃ (k : Bool) (a' b' : Addr) (xs ys : List V), [V.ref a, V.ref b] = [V.ref a', V.ref b'] ∧ SqK k X.K H1 a' xs ∧ SqK k X.K H1 b' ys ∧ ∀ S, H1 S = none → ∃ Wt : Nat → List V → Hp → Prop, Wt 0 [] (upd H1 S (.lst [])) ∧
  (∀ i acc H, Wt i acc H → H S = some (.lst acc) ∧ acc.length < sizeLine ∧ SqK k X.K H a' xs ∧ SqK k X.K H b' ys ∧
      ∀ x y T, xs[i]? = some x → ys[i]? = some y → H T = none → Wt (i + 1) (acc ++ [.ref T]) (upd (upd H T (.tup [x, y])) S (.lst (acc ++ [.ref T])))) ∧ ∀ acc H, Wt (min xs.length ys.length) acc H → Q (.ref S) H := by
  refine ⟨k, a, b, vs, ws, rfl, SqK.of h1, SqK.of h2, fun S hS => ?_⟩
  have nO : ¬ ow T ρ σ S := s.freeO hS
  have up : ∀ c, ow T ρ σ c → ow ⟨T.t, fun a => T.O a ∨ a = S⟩ ρ σ c := fun c z => z.imp .inl id
  have l1 := r1.len
  have l2 := r2.len
  refine ⟨fun i acc H' => ∃ dacc, H' S = some (.lst acc) ∧ StR X.K ⟨T.t, fun a => T.O a ∨ a = S⟩ μ g ρ σ H' ∧ Ex μ H1 μ H' ∧ Rps X.K H' μ (ow ⟨T.t, fun a => T.O a ∨ a = S⟩ ρ σ) dacc acc ∧ dacc = (zipD dx dy).take i, ⟨[], upd_same, s.hold (O := T.O) hS, Ex.new s hS, .nil, by simp⟩, ?_, ?_⟩
  · rintro i acc H' ⟨dacc, hD, s', e', rs, hd⟩
    have kp : Kp μ (ow T ρ σ) H1 μ (ow ⟨T.t, fun a => T.O a ∨ a = S⟩ ρ σ) H' := by
      refine ⟨fun l a h => h, fun c u h n hm => ?_, fun c h => s'.freeM h, fun c h => s'.freeO h⟩
      obtain ⟨q1, q2⟩ := e'.keep c u h n hm
      exact fun ho => ⟨q1, q2, fun z => by
        rcases z with (z | z) | z
        · exact ho (.inl z)
        · rw [z, hS] at h
          cases h
        · exact ho (.inr z)⟩
    have g1 : if k = true then LstAt X.K H' μ (ow ⟨T.t, fun a => T.O a ∨ a = S⟩ ρ σ) a vs else TupAt X.K H' μ (ow ⟨T.t, fun a => T.O a ∨ a = S⟩ ρ σ) a vs := by
      cases k
      · exact TupAt.kp (show TupAt X.K H1 μ (ow T ρ σ) a vs by simpa using h1) kp
      · exact LstAt.kp (show LstAt X.K H1 μ (ow T ρ σ) a vs by simpa using h1) kp
    have g2 : if k = true then LstAt X.K H' μ (ow ⟨T.t, fun a => T.O a ∨ a = S⟩ ρ σ) b ws else TupAt X.K H' μ (ow ⟨T.t, fun a => T.O a ∨ a = S⟩ ρ σ) b ws := by
      cases k
      · exact TupAt.kp (show TupAt X.K H1 μ (ow T ρ σ) b ws by simpa using h2) kp
      · exact LstAt.kp (show LstAt X.K H1 μ (ow T ρ σ) b ws by simpa using h2) kp
    have hlen : acc.length ≤ 1000000 := by
      rw [← rs.len, hd, List.length_take]
      omega
    refine ⟨hD, by rw [sizeLine_eq]; omega, SqK.of g1, SqK.of g2, fun x y P hx hy hP => ?_⟩
    obtain ⟨cx, hcx, rx⟩ := r1.get2 hx
    obtain ⟨cy, hcy, ry⟩ := r2.get2 hy
    have s2 := s'.new (o := .tup [x, y]) hP
    have hD2 : (upd H' P (.tup [x, y])) S = some (.lst acc) := by rw [upd_ne (ne_of_none hD hP)]; exact hD
    have po : ow ⟨T.t, fun a => T.O a ∨ a = S⟩ ρ σ S := .inl (.inr rfl)
    have np := new_pair (x := x) (y := y) hP (s'.freeM hP) (s'.freeO hP) (rx.kp kp) (ry.kp kp)
    refine ⟨dacc ++ [.tup [cx, cy]], upd_same, s2.wO (T := ⟨T.t, fun a => T.O a ∨ a = S⟩) (.inr rfl) hD2, ?_, ((rs.ext (Ex.new s' hP)).append (.cons np .nil)).wr po, ?_⟩
    · have e6 := e'.trans (Ex.new s' (o := .tup [x, y]) hP)
      refine ⟨e6.pre, fun c u q1 q2 q3 => ?_, fun c u q1 qn => ?_⟩
      · have nc : c ≠ S := fun z => by rw [z, hS] at q1; cases q1
        rw [upd_ne nc]
        exact e6.keep c u q1 q2 q3
      · have nc : c ≠ S := fun z => by rw [z, hS] at q1; cases q1
        rw [upd_ne nc]
        exact e6.th c u q1 qn
    · rw [hd, List.take_add_one, zipD_get _ _ _ _ _ hcx hcy]
      rfl
  · rintro acc H' ⟨dacc, hD, s', e', rs, hd⟩
    have : (zipD dx dy).take (min vs.length ws.length) = zipD dx dy := List.take_of_length_le (by rw [zipD_len, l1, l2]; omega)
    rw [this] at hd
    subst hd
    exact p _ μ H' (s.back e' s' up rfl) e' (.lst (.inl ⟨.inl hD, (s'.ob S (.inr rfl)).2, nO⟩) (rs.less up))
theorem w_lzip {σ : L2.St} {H : Hp} {Q : VK} (h : tE X.K T W (mN oLZip ml) σ H Q) : tLZ X.K (tL X.K T W ml) σ H Q :=
  tG_bind (k := fun _ => oLZip) h fun d x ρ μ g H1 s r p => by
    match d, r, p with
    | [.lst dx, .lst dy], .cons (.lst t1 r1) (.cons (.lst t2 r2) .nil), p =>
      simp only [oLZip] at p
      by_cases hz : (zipD dx dy).length ≤ 1000000
      · rw [if_pos hz] at p
        exact lz_core (k := true) s (by simpa using t1) (by simpa using t2) r1 r2 hz p
      · rw [if_neg hz] at p
        exact p.elim
    | [.tup dx, .tup dy], .cons (.tup t1 r1) (.cons (.tup t2 r2) .nil), p =>
      simp only [oLZip] at p
      by_cases hz : (zipD dx dy).length ≤ 1000000
      · rw [if_pos hz] at p
        exact lz_core (k := false) s (by simpa using t1) (by simpa using t2) r1 r2 hz p
      · rw [if_neg hz] at p
        exact p.elim
theorem me_lzip {x y : Str} (hc : X.calm = true) (hx : x = "list") (hy : y = "zip") (hgl : Gl X x) (hml : X.mg x = none) (hg : Gl X y) (hm : X.mg y = none) (ha : MA X T W [e, e2] ml)
    (hs : starEach [e, e2] X.env = (false, eval e X.env) :: starEach [e2] X.env := by rfl) (hpl : (backTo pos (starEach [e2] X.env)).any (·.1) = false := by rfl)
    (hs0 : starEach [.Call (.Name y p) [e, e2] [] pos] X.env = (false, eval (.Call (.Name y p) [e, e2] [] pos) X.env) :: starEach [] X.env := by rfl) (hpl0 : (backTo pos0 (starEach [] X.env)).any (·.1) = false := by rfl) :
    ME X T W (.Call (.Name x p0) [.Call (.Name y p) [e, e2] [] pos] [] pos0) (mN oLZip ml) := PE.weak (pe_lzip hc hx hy hgl hml hg hm ha hs hpl hs0 hpl0) fun _ _ _ h => w_lzip h
variable {QD : D → Gs → Prop} {g : Gs} {xs ys : List D}
@[simp] theorem oLZip_lst : wp (oLZip [.lst xs, .lst ys] g) QD = ((zipD xs ys).length ≤ 1000000 ∧ QD (.lst (zipD xs ys)) g) := by
  unfold oLZip
  simp only
  by_cases h : (zipD xs ys).length ≤ 1000000 <;> simp [h, wp]
@[simp] theorem oLZip_tup : wp (oLZip [.tup xs, .tup ys] g) QD = ((zipD xs ys).length ≤ 1000000 ∧ QD (.lst (zipD xs ys)) g) := by
  unfold oLZip
  simp only
  by_cases h : (zipD xs ys).length ≤ 1000000 <;> simp [h, wp]
end
end Sh

set_option Elab.async false
set_option linter.all false
set_option maxRecDepth 100000
set_option maxHeartbeats 2000000
namespace Sh
open PySem PySem.Spec L2 PyProof.Rows
/-! ### for .. in zip of a list and a tuple, in any mix -/
def ItzK (k1 k2 : Bool) (K : PySem.W.Frag) (a b : Addr) : It :=
  ⟨fun i H => ∃ (xs ys : List V) (x y : V), SqK k1 K H a xs ∧ SqK k2 K H b ys ∧ xs[i]? = some x ∧ ys[i]? = some y,
    fun i H v H' => ∃ T x y, v = .ref T ∧ H T = none ∧ H' = upd H T (.tup [x, y]) ∧ (∀ xs, SqK k1 K H a xs → xs[i]? = some x) ∧ ∀ ys, SqK k2 K H b ys → ys[i]? = some y,
    fun i H => ∃ xs ys : List V, SqK k1 K H a xs ∧ SqK k2 K H b ys ∧ i = min xs.length ys.length⟩
theorem sqK_inj {X : Cx} {pins : List (Addr × Obj)} {σ : L2.St} {H : Hp} {s : Shared} {k : Bool} {a : Addr} {xs ys : List V} (I : Inv X pins σ H s) (h : SqK k X.K H a xs) (h' : SqK k X.K H a ys) : xs = ys := by
  cases k
  · exact I.tuple_inj h h'
  · exact I.list_inj h h'
theorem turn_zipK {P : Program} {w : World} {K : PySem.W.Frag} {elts : List Expr} {kk : Nat} {tpos : Pos} {k1 k2 : Bool} {a b z TI TO i1 i2 : Addr} (D : ZipSep2 z TI TO i1 i2 [i1, a] [i2, b]) :
    Turn P w K (.Tuple elts kk tpos) (ItzK k1 k2 K a b) [z, TI, TO, i1, i2] z (fun i h => IsZip h z TI TO .none ∧ IsTupOf2 h TI (.ref i1) (.ref i2) ∧ (∃ x y, IsTupOf2 h TO x y) ∧ ItK k1 h i1 a i ∧ ItK k2 h i2 b i) where
  mem := by simp
  obj := fun i h st c hc => by
    obtain ⟨hz, hTI, ⟨x, y, hTO⟩, t1, t2⟩ := st
    have e' : c = z ∨ c = TI ∨ c = TO ∨ c = i1 ∨ c = i2 := by simpa using hc
    rcases e' with q | q | q | q | q
    · rw [q]; exact ⟨_, hz, fun v q => nomatch q⟩
    · rw [q]; exact ⟨_, hTI, fun v q => nomatch q⟩
    · rw [q]; exact ⟨_, hTO, fun v q => nomatch q⟩
    · rw [q]
      cases k1
      · obtain ⟨o1, e1, _, d1⟩ := t1; exact ⟨o1, e1, fun v q => by rw [d1] at q; cases q⟩
      · obtain ⟨o1, e1, _, d1⟩ := t1; exact ⟨o1, e1, fun v q => by rw [d1] at q; cases q⟩
    · rw [q]
      cases k2
      · obtain ⟨o1, e1, _, d1⟩ := t2; exact ⟨o1, e1, fun v q => by rw [d1] at q; cases q⟩
      · obtain ⟨o1, e1, _, d1⟩ := t2; exact ⟨o1, e1, fun v q => by rw [d1] at q; cases q⟩
  keep := fun i h h' st k => by
    obtain ⟨hz, hTI, ⟨x, y, hTO⟩, h1, h2⟩ := st
    exact ⟨k z (by simp) _ hz, k TI (by simp) _ hTI, ⟨x, y, k TO (by simp) _ hTO⟩, h1.at fun o q => k i1 (by simp) o q, h2.at fun o q => k i2 (by simp) o q⟩
  item := by
    intro X hP hw hK hc i pins s σ H E I hf st hg
    subst hP hw hK
    obtain ⟨hz, hTI, ⟨x0, y0, hTO⟩, h1, h2⟩ := st
    obtain ⟨xs, ys, x, y, hqx, hqy, hx, hy⟩ := hg
    obtain ⟨its, rv, p⟩ := sqK_of I hqx
    obtain ⟨its2, rv2, p2⟩ := sqK_of I hqy
    obtain ⟨u, hu, ru⟩ := rv.get hx
    obtain ⟨u2, hu2, ru2⟩ := rv2.get hy
    have hu' : its.toArray[i]? = some u := by simpa using hu
    have hu2' : its2.toArray[i]? = some u2 := by simpa using hu2
    have hlt1 : i < its.toArray.size := by have := (List.getElem?_eq_some_iff.mp hu).1; simpa using this
    have hlt2 : i < its2.toArray.size := by have := (List.getElem?_eq_some_iff.mp hu2).1; simpa using this
    have hzl : z < s.heap.objs.size := Heap.lt_size hz
    have D1 := drawsK (prog := X.prog) (w := X.w) (A := X.A.in1) k1 (I.ok.hd hc) i1 a (h1.ne p) its.toArray
    have D2 := drawsK (prog := X.prog) (w := X.w) (A := X.A.in1) k2 (I.ok.hd hc) i2 b (h2.ne p2) its2.toArray
    refine wpAny_pyNext_zipD2_item D D1 D2 hz hTI hTO ⟨h1, p⟩ ⟨h2, p2⟩ hlt1 hlt2 fun v1 v2 h' tk hv1 hv2 z' TO' s1' s2' hT hsz hk => ?_
    have ev1 : v1 = u := by rw [hu'] at hv1; exact (Option.some.inj hv1).symm
    have ev2 : v2 = u2 := by rw [hu2'] at hv2; exact (Option.some.inj hv2).symm
    subst ev1
    subst ev2
    refine ⟨_, rfl, wpAny_letOwnedTupleGo_zip (s := { s with heap := h', toks := tk }) z' fun h'' z'' sb => ?_⟩
    have hT2 : h''.get? s.heap.objs.size = some { cls := .type "tuple", data := .seq #[v1, v2] } := (sb.2 _ (Nat.ne_of_gt hzl)).trans hT
    have new : ObjOk X.prog X.w (upd H s.heap.objs.size (.tup [x, y])) h'' s.heap.objs.size (.tup [x, y]) :=
      ⟨by show 2 ≤ sizeLine; decide, [v1, v2], .cons ru (.cons ru2 .nil), ⟨_, hT2, rfl, _, rfl⟩⟩
    have I1 : Inv X pins σ (upd H s.heap.objs.size (.tup [x, y])) { s with heap := h'', toks := tk } :=
      I.turnedNew (t' := tk) (ch := [z, TI, TO, i1, i2]) (fun c o hb q => (sb.2 c (fun q' => hb (by simp [q']))).trans (hk c o (fun q' => hb (by simp [q'])) (fun q' => hb (by simp [q'])) (fun q' => hb (by simp [q'])) (fun q' => hb (by simp [q'])) q)) hf (Nat.le_refl _) new
    refine ⟨.ref s.heap.objs.size, _, I1, rfl, ⟨_, x, y, rfl, I.hok.fresh (Nat.le_refl _), rfl, fun l hl => by rw [sqK_inj I hl hqx]; exact hx, fun l hl => by rw [sqK_inj I hl hqy]; exact hy⟩, ⟨z'', ?_, ⟨v1, v2, ?_⟩, ?_, ?_⟩, fun c hcm => ?_⟩
    · exact (sb.2 _ D.TIz).trans (hk _ _ D.TIz D.TITO D.TIi1 D.TIi2 hTI)
    · exact (sb.2 _ D.TOz).trans TO'
    · exact s1'.1.at fun o q => (sb.2 _ D.zi1.symm).trans q
    · exact s2'.1.at fun o q => (sb.2 _ D.zi2.symm).trans q
    · have hlt : c < s.heap.objs.size := by
        have e' : c = z ∨ c = TI ∨ c = TO ∨ c = i1 ∨ c = i2 := by simpa using hcm
        rcases e' with q | q | q | q | q
        · rw [q]; exact hzl
        · rw [q]; exact Heap.lt_size hTI
        · rw [q]; exact Heap.lt_size hTO
        · rw [q]; exact h1.lt
        · rw [q]; exact h2.lt
      rw [upd_ne (Nat.ne_of_lt hlt)]
      exact (hf c hcm).1
  done := by
    intro X hP hw hK hc i pins s σ H E I hf st hg
    subst hP hw hK
    obtain ⟨hz, hTI, ⟨x0, y0, hTO⟩, h1, h2⟩ := st
    obtain ⟨xs, ys, hqx, hqy, hend⟩ := hg
    obtain ⟨its, rv, p⟩ := sqK_of I hqx
    obtain ⟨its2, rv2, p2⟩ := sqK_of I hqy
    have l1 := rv.length
    have l2 := rv2.length
    have hs1 : its.toArray.size = xs.length := by simp [l1]
    have hs2 : its2.toArray.size = ys.length := by simp [l2]
    have D1 := drawsK (prog := X.prog) (w := X.w) (A := X.A.in1) k1 (I.ok.hd hc) i1 a (h1.ne p) its.toArray
    have D2 := drawsK (prog := X.prog) (w := X.w) (A := X.A.in1) k2 (I.ok.hd hc) i2 b (h2.ne p2) its2.toArray
    exact wpAny_pyNext_zipD2_end D D1 D2 hz hTI hTO ⟨h1, p⟩ ⟨h2, p2⟩ (by omega) (by omega) (by omega) fun h' tk hk => ⟨rfl, I.turnedL (t' := tk) (ch := [z, TI, TO, i1, i2]) (fun c o hb q =>
      hk c o (fun q' => hb (by simp [q'])) (fun q' => hb (by simp [q'])) (fun q' => hb (by simp [q'])) (fun q' => hb (by simp [q'])) q) hf⟩
  self := fun A i s Q E st h => wpAny_pyIter_zip st.1 h
def itO (k : Bool) (a : Addr) : Obj := match k with
  | true => { cls := .type "list_iterator", data := .fields #[.ref a, .int 0 0] }
  | false => { cls := .type "tuple_iterator", data := .fields #[.ref a, .int 0 0] }
theorem beginsK (k : Bool) (a : Addr) (items : Array Value) : Begins (.ref a) (itO k a) fun h => HsK k h a items := by
  cases k
  · exact begins_tuple a items
  · exact begins_list a items
theorem itK_new {k : Bool} {h : Heap} {n a : Addr} (e : h.get? n = some (itO k a)) : ItK k h n a 0 := by
  cases k
  · exact ⟨_, e, rfl, rfl⟩
  · exact ⟨_, e, rfl, rfl⟩
section
variable {X : Cx} {T : Tb} {W : WX} {e a b : Expr} {p pos : Pos} {ml : LM}
def iZipK (K : PySem.W.Frag) (ta : TA) : TI := fun σ H R => ta σ H fun vs H1 => ∃ (k1 k2 : Bool) (a b : Addr) (xs ys : List V), vs = [.ref a, .ref b] ∧ SqK k1 K H1 a xs ∧ SqK k2 K H1 b ys ∧ R (ItzK k1 k2 K a b) H1
theorem pi_zipK {e e2 : Expr} {ta : TA} {tpos : Pos} {elts : List Expr} {kk : Nat} (hg : Gl X "zip") (hm : X.mg "zip" = none) (ha : PA X [e, e2] ta)
    (hs : starEach [e, e2] X.env = (false, eval e X.env) :: starEach [e2] X.env := by rfl) (hpl : (backTo pos (starEach [e2] X.env)).any (·.1) = false := by rfl) :
    PI X (.Tuple elts kk tpos) (.Call (.Name "zip" p) [e, e2] [] pos) (iZipK X.K ta) := by
  refine ⟨fun pins s σ H R I h => ?_⟩
  refine Call_ (ld_blt I hg hm PyProof.Rows.boot_zip (PyProof.Rows.callWith_type1 (thn (ha.run pos pins s σ H _ I h) fun us s1 ⟨vs, H1, I1, r1, q1⟩ => ?_) hs hpl))
  obtain ⟨k1, k2, a, b, xs, ys, ex, qa, qb, q⟩ := q1
  subst ex
  cases r1 with
  | cons r rr =>
  cases rr with
  | cons r' rr =>
  cases rr
  cases r
  cases r'
  obtain ⟨its, rv, p1⟩ := sqK_of I1 qa
  obtain ⟨its2, rv2, p2⟩ := sqK_of I1 qb
  have la : a < s1.heap.objs.size := by
    cases k1
    · obtain ⟨_, z, _⟩ := id p1; exact Heap.lt_size z
    · obtain ⟨_, z, _⟩ := id p1; exact Heap.lt_size z
  have lb : b < s1.heap.objs.size := by
    cases k2
    · obtain ⟨_, z, _⟩ := id p2; exact Heap.lt_size z
    · obtain ⟨_, z, _⟩ := id p2; exact Heap.lt_size z
  refine zip_begins2 (beginsK k1 a its.toArray) (beginsK k2 b its2.toArray) p1 p2 fun h' hz hTI hTO h1 h2 hsz hk => wpAny_pyIter_zip hz ?_
  have I2 : Inv X pins σ H1 { s1 with heap := h' } := I1.kept (t' := s1.toks) hk
  exact ⟨s1.heap.objs.size + 4, [s1.heap.objs.size + 4, s1.heap.objs.size + 2, s1.heap.objs.size + 3, s1.heap.objs.size, s1.heap.objs.size + 1], _, _, H1, rfl, I2,
    turn_zipK (zip_sep2 (fp1 := [a]) (fp2 := [b]) (fun c hc => by rw [List.mem_singleton.mp hc]; exact la) fun c hc => by rw [List.mem_singleton.mp hc]; exact lb), ⟨hz, hTI, ⟨_, _, hTO⟩, itK_new h1, itK_new h2⟩,
    fun c hcm => I1.fpOk (five s1.heap.objs.size c hcm).1 (I1.hok.fresh (five s1.heap.objs.size c hcm).1), q⟩
def kZip2 (xs : List D) (g : Gs) : Res (List D) := match xs with
  | [x, y] => (match seqD x, seqD y with
    | some xs, some ys => .ok (zipD xs ys) g
    | _, _ => .bad)
  | _ => .bad
def mZip2 (l : LM) : LM := fun ρ g => (l ρ g).bind kZip2
theorem SqA.kind {K : PySem.W.Frag} {H : Hp} {μ : List Addr} {o : Addr → Prop} {d : D} {v : V} {xs : List D} (h : SqA K H μ o d v xs) : ∃ (k : Bool) (a : Addr) (vs : List V), v = .ref a ∧ Rps K H μ o xs vs ∧ if k = true then LstAt K H μ o a vs else TupAt K H μ o a vs := by
  obtain ⟨a, vs, e, r, ⟨_, h⟩ | ⟨_, h⟩⟩ := h
  · exact ⟨true, a, vs, e, r, by simpa using h⟩
  · exact ⟨false, a, vs, e, r, by simpa using h⟩
theorem atK {K : PySem.W.Frag} {H H' : Hp} {μ μ' : List Addr} {o o' : Addr → Prop} {k : Bool} {a : Addr} {vs : List V} (h : if k = true then LstAt K H μ o a vs else TupAt K H μ o a vs) (kp : Kp μ o H μ' o' H') : SqK k K H' a vs := by
  cases k
  · exact TupAt.sq (TupAt.kp (show TupAt K H μ o a vs by simpa using h) kp)
  · exact LstAt.sq (LstAt.kp (show LstAt K H μ o a vs by simpa using h) kp)
theorem rit_zipK {K : PySem.W.Frag} {H : Hp} {μ : List Addr} {o : Addr → Prop} {k1 k2 : Bool} {a b : Addr} {xs ys : List D} {vs ws : List V} (h : if k1 = true then LstAt K H μ o a vs else TupAt K H μ o a vs) (r : Rps K H μ o xs vs)
    (h2 : if k2 = true then LstAt K H μ o b ws else TupAt K H μ o b ws) (r2 : Rps K H μ o ys ws) : rIt K H μ o (zipD xs ys) (ItzK k1 k2 K a b) := fun μ' o' H' kp i => by
  have r' := r.kp kp
  have r2' := r2.kp kp
  rw [zipD_len]
  have l1 := r'.len
  have l2 := r2'.len
  refine ⟨fun hi => ?_, fun hi hi2 => ⟨vs, ws, atK h kp, atK h2 kp, by omega⟩⟩
  have i1 : i < xs.length := by omega
  have i2 : i < ys.length := by omega
  obtain ⟨v, hv, rv⟩ := r'.get (List.getElem?_eq_getElem i1)
  obtain ⟨w, hw, rw'⟩ := r2'.get (List.getElem?_eq_getElem i2)
  refine ⟨⟨vs, ws, v, w, atK h kp, atK h2 kp, hv, hw⟩, fun x H2 ⟨P, x1, y1, e1, e2, e3, k1, k2⟩ => ?_⟩
  have q1 := k1 vs (atK h kp)
  have q2 := k2 ws (atK h2 kp)
  rw [hv] at q1
  rw [hw] at q2
  cases q1
  cases q2
  rw [e1, e3]
  exact ⟨.inr ⟨P, _, e2, rfl⟩, _, zipD_get _ _ _ _ _ (List.getElem?_eq_getElem i1) (List.getElem?_eq_getElem i2), new_pair e2 (kp.fm _ e2) (kp.fo _ e2) rv rw'⟩
theorem mi_zip2 {x : Str} {elts : List Expr} {kk : Nat} {tpos : Pos} (hx : x = "zip") (hg : Gl X x) (hm : X.mg x = none) (ha : MA X T W [a, b] ml)
    (hs : starEach [a, b] X.env = (false, eval a X.env) :: starEach [b] X.env := by rfl) (hpl : (backTo pos (starEach [b] X.env)).any (·.1) = false := by rfl) : MI X T W (.Tuple elts kk tpos) (.Call (.Name x p) [a, b] [] pos) (mZip2 ml) := by
  subst hx
  refine PI.weak (pi_zipK hg hm ha hs hpl) fun σ H R q => tG_bind (k := fun _ => kZip2) q fun xs vs ρ μ g H1 s r q => ?_
  match xs, r, q with
  | [x, y], .cons r1 (.cons r2 .nil), q =>
  simp only [kZip2] at q
  cases h1 : seqD x with
  | none => rw [h1] at q; exact q.elim
  | some dx =>
    cases h2 : seqD y with
    | none => rw [h1, h2] at q; exact q.elim
    | some dy =>
      rw [h1, h2] at q
      obtain ⟨k1, a1, vs1, rfl, rs1, q1⟩ := (r1.seq h1).kind
      obtain ⟨k2, a2, vs2, rfl, rs2, q2⟩ := (r2.seq h2).kind
      exact ⟨k1, k2, a1, a2, vs1, vs2, rfl, SqK.of q1, SqK.of q2, Pst.pure q s (rit_zipK q1 rs1 q2 rs2)⟩
variable {QL : List D → Gs → Prop} {g : Gs} {xs ys : List D} {ρ : En} {l : LM}
@[simp] theorem wp_mZip2 : wp (mZip2 l ρ g) QL = wp (l ρ g) fun x g1 => wp (kZip2 x g1) QL := wp_bind
@[simp] theorem kZip2_lst : wp (kZip2 [.lst xs, .lst ys] g) QL = QL (zipD xs ys) g := rfl
@[simp] theorem kZip2_tup : wp (kZip2 [.tup xs, .tup ys] g) QL = QL (zipD xs ys) g := rfl
@[simp] theorem kZip2_lt : wp (kZip2 [.lst xs, .tup ys] g) QL = QL (zipD xs ys) g := rfl
@[simp] theorem kZip2_tl : wp (kZip2 [.tup xs, .lst ys] g) QL = QL (zipD xs ys) g := rfl
end
end Sh

set_option Elab.async false
set_option linter.all false
set_option maxRecDepth 100000
set_option maxHeartbeats 2000000
namespace Sh
open PySem PySem.Spec L2 PyProof.Rows
/-! ### range with great bounds -/
def ItrL (lo : Int) (n : Nat) : It := ⟨fun i _ => i < n, fun i H x H' => H' = H ∧ x = .int (lo + i), fun i _ => i = n⟩
theorem turn_long {P : Program} {w : World} {K : PySem.W.Frag} {tg : Expr} (it : Addr) (lo : Int) (n : Nat) : Turn P w K tg (ItrL lo n) [it] it (fun i h => IsLongIter h it (lo + (i : Nat) * 1) ((n : Int) - (i : Nat)) 1) where
  mem := by simp
  obj := fun i h st b hb => by
    have e : b = it := by simpa using hb
    subst e
    exact ⟨_, st, fun v z => nomatch z⟩
  keep := fun i h h' st k => k it (by simp) _ st
  item := by
    intro X hP hw hK hc i pins s σ H E I hf st hg
    subst hP hw hK
    obtain ⟨f0, f1, f2, f3, f4, f5⟩ := hf it (by simp)
    have W := Walks.longrange (prog := X.prog) (w := X.w) (I.ok.hd hc) it lo 1 n
    refine W.item i s _ _ hg st fun v h' tk hv st' kk => ?_
    obtain ⟨t, rfl⟩ := hv
    have I1 : Inv X pins σ H { s with heap := h', toks := tk } := I.turned (fun b o hb e => kk b o (by simpa using hb) e) f0 f1 f3 f4 f5
    refine ⟨_, rfl, go_of (s := { s with heap := h', toks := tk }) (n := "longrange_iterator") st' rfl rfl (by decide) ⟨.int (lo + i), H, I1, ⟨t, ?_⟩, ⟨rfl, rfl⟩, st', fun b hb => (hf b hb).1⟩⟩
    rw [Int.mul_one]
  done := by
    intro X hP hw hK hc i pins s σ H E I hf st hg
    subst hP hw hK
    obtain ⟨f0, f1, f2, f3, f4, f5⟩ := hf it (by simp)
    obtain rfl : i = n := hg
    have W := Walks.longrange (prog := X.prog) (w := X.w) (I.ok.hd hc) it lo 1 i
    exact W.done s _ _ st fun h' tk hk => ⟨rfl, I.turned (t' := tk) (fun b o hb e => hk b o (by simpa using hb) e) f0 f1 f3 f4 f5⟩
  self := fun A i s Q E st h => wpAny_pyIter_longiter st h
theorem range_itL {X : Cx} {tg : Expr} {pins : List (Addr × Obj)} {σ : L2.St} {H : Hp} {s : Shared} {R : It → Hp → Prop} {E : Value → Shared → Prop} {lo hi : Int} {t u v : Tok} {tk : Nat} (I : Inv X pins σ H s)
    (q : R (Itr lo (hi - lo).toNat) H) (q2 : R (ItrL lo (hi - lo).toNat) H) : wpAny (model X.prog X.w) X.A (pyIter (.ref s.heap.objs.size)) (PIE X pins σ tg R) E { s with heap := s.heap.push { cls := .type "range", data := .fields #[.int lo t, .int hi u, .int 1 v] }, toks := tk } := by
  have I1 : Inv X pins σ H { s with heap := s.heap.push { cls := .type "range", data := .fields #[.int lo t, .int hi u, .int 1 v] }, toks := tk } := I.kept fun b o e => Heap.get?_push_of_some _ e
  have e1 : lo + ((0 : Nat) : Int) * 1 = lo := by simp
  have e2 : (((hi - lo).toNat : Nat) : Int) - ((0 : Nat) : Int) = Builtin.Range.rangeSize lo hi 1 := by rw [rangeSize_one]; split <;> omega
  have fp : ∀ b ∈ [(s.heap.push { cls := .type "range", data := .fields #[.int lo t, .int hi u, .int 1 v] }).objs.size], FpOk X pins H b := fun b hb => by
    have e : b = (s.heap.push { cls := .type "range", data := .fields #[.int lo t, .int hi u, .int 1 v] }).objs.size := by simpa using hb
    subst e
    exact I1.fpOk (Nat.le_refl _) (I1.hok.fresh (Nat.le_refl _))
  cases hs : Builtin.Range.small lo hi 1 with
  | true =>
    refine wpAny_pyIter_range (IsRange.new ..) hs ?_
    refine ⟨_, [_], _, _, H, rfl, I1.kept (t' := tk) fun b o e => Heap.get?_push_of_some _ e, turn_range _ lo (hi - lo).toNat, ?_, fp, q⟩
    show IsRangeIter _ _ (lo + ((0 : Nat) : Int) * 1) ((((hi - lo).toNat : Nat) : Int) - ((0 : Nat) : Int)) 1
    rw [e1, e2]
    exact Heap.get?_push_size _ rfl
  | false =>
    refine wpAny_pyIter_longrange (IsRange.new ..) hs ?_
    refine ⟨_, [_], _, _, H, rfl, I1.kept (t' := tk) fun b o e => Heap.get?_push_of_some _ e, turn_long _ lo (hi - lo).toNat, ?_, fp, q2⟩
    show IsLongIter _ _ (lo + ((0 : Nat) : Int) * 1) ((((hi - lo).toNat : Nat) : Int) - ((0 : Nat) : Int)) 1
    rw [e1, e2]
    exact Heap.get?_push_size _ rfl
section
variable {X : Cx} {T : Tb} {W : WX} {tg e a b : Expr} {p pos : Pos} {ml : LM}
def iRgA (ta : TA) : TI := fun σ H R => ta σ H fun vs H1 => ∃ j : Int, vs = [.int j] ∧ R (Itr 0 j.toNat) H1 ∧ R (ItrL 0 j.toNat) H1
def iRgB (ta : TA) : TI := fun σ H R => ta σ H fun vs H1 => ∃ i j : Int, vs = [.int i, .int j] ∧ R (Itr i (j - i).toNat) H1 ∧ R (ItrL i (j - i).toNat) H1
theorem pi_rgA {ta : TA} (hg : Gl X "range") (hm : X.mg "range" = none) (ha : PA X [a] ta) (hs : starEach [a] X.env = [(false, eval a X.env)] := by rfl) : PI X tg (.Call (.Name "range" p) [a] [] pos) (iRgA ta) := by
  refine ⟨fun pins s σ H R I h => ?_⟩
  refine Call_ (ld_blt I hg hm boot_range (PyProof.Rows.callWith_type1 (thn (ha.run pos pins s σ H _ I h) fun us s1 ⟨vs, H1, I1, r1, q1⟩ => ?_) hs rfl))
  obtain ⟨j, e, q, q2⟩ := q1
  subst e
  cases r1 with
  | cons r rr =>
    cases rr
    obtain ⟨t, rfl⟩ := r
    exact call_range_1 (range_itL I1 (by simpa using q) (by simpa using q2))
theorem pi_rgB {ta : TA} (hg : Gl X "range") (hm : X.mg "range" = none) (ha : PA X [a, b] ta) (hs : starEach [a, b] X.env = [(false, eval a X.env), (false, eval b X.env)] := by rfl) (hs2 : starEach [b] X.env = [(false, eval b X.env)] := by rfl) :
    PI X tg (.Call (.Name "range" p) [a, b] [] pos) (iRgB ta) := by
  refine ⟨fun pins s σ H R I h => ?_⟩
  refine Call_ (ld_blt I hg hm boot_range (PyProof.Rows.callWith_type1 (thn (ha.run pos pins s σ H _ I h) fun us s1 ⟨vs, H1, I1, r1, q1⟩ => ?_) (by rw [hs, hs2]) (by rw [hs2]; rfl)))
  obtain ⟨i, j, e, q, q2⟩ := q1
  subst e
  cases r1 with
  | cons r rr =>
    cases rr with
    | cons r' rr =>
      cases rr
      obtain ⟨t, rfl⟩ := r
      obtain ⟨t', rfl⟩ := r'
      exact call_range_2 (range_itL I1 q q2)
def kRgA (xs : List D) (g : Gs) : Res (List D) := match xs with
  | [.int j] => .ok (rngD 0 j.toNat) g
  | _ => .bad
def kRgB (xs : List D) (g : Gs) : Res (List D) := match xs with
  | [.int i, .int j] => .ok (rngD i (j - i).toNat) g
  | _ => .bad
def mRgA (l : LM) : LM := fun ρ g => (l ρ g).bind kRgA
def mRgB (l : LM) : LM := fun ρ g => (l ρ g).bind kRgB
theorem rit_rngL {K : PySem.W.Frag} {H : Hp} {μ : List Addr} {o : Addr → Prop} {lo : Int} {n : Nat} : rIt K H μ o (rngD lo n) (ItrL lo n) := fun μ' o' H' kp i => by
  have hl : (rngD lo n).length = n := by simp [rngD]
  rw [hl]
  refine ⟨fun hi => ⟨hi, fun x H2 ⟨e, k⟩ => ⟨.inl e, .int (lo + i), by simp [rngD, hi], by rw [k]; exact .int _⟩⟩, fun hi hi2 => Nat.le_antisymm hi2 hi⟩
theorem mi_rgA {x : Str} (hx : x = "range") (hg : Gl X x) (hm : X.mg x = none) (ha : MA X T W [a] ml) (hs : starEach [a] X.env = [(false, eval a X.env)] := by rfl) : MI X T W tg (.Call (.Name x p) [a] [] pos) (mRgA ml) := by
  subst hx
  refine PI.weak (pi_rgA hg hm ha hs) fun σ H R q => tG_bind (k := fun _ => kRgA) q fun xs vs ρ μ g H1 s r q => ?_
  match xs, r, q with
  | [.int j], .cons r1 .nil, q =>
  cases r1
  exact ⟨j, rfl, Pst.pure q s rit_rng, Pst.pure q s rit_rngL⟩
theorem mi_rgB {x : Str} (hx : x = "range") (hg : Gl X x) (hm : X.mg x = none) (ha : MA X T W [a, b] ml) (hs : starEach [a, b] X.env = [(false, eval a X.env), (false, eval b X.env)] := by rfl) (hs2 : starEach [b] X.env = [(false, eval b X.env)] := by rfl) : MI X T W tg (.Call (.Name x p) [a, b] [] pos) (mRgB ml) := by
  subst hx
  refine PI.weak (pi_rgB hg hm ha hs hs2) fun σ H R q => tG_bind (k := fun _ => kRgB) q fun xs vs ρ μ g H1 s r q => ?_
  match xs, r, q with
  | [.int i, .int j], .cons r1 (.cons r2 .nil), q =>
  cases r1
  cases r2
  exact ⟨i, j, rfl, Pst.pure q s rit_rng, Pst.pure q s rit_rngL⟩
variable {QL : List D → Gs → Prop} {g : Gs} {i j : Int} {ρ : En} {l : LM}
@[simp] theorem wp_mRgA : wp (mRgA l ρ g) QL = wp (l ρ g) fun x g1 => wp (kRgA x g1) QL := wp_bind
@[simp] theorem wp_mRgB : wp (mRgB l ρ g) QL = wp (l ρ g) fun x g1 => wp (kRgB x g1) QL := wp_bind
@[simp] theorem kRgA_int : wp (kRgA [.int j] g) QL = QL (rngD 0 j.toNat) g := rfl
@[simp] theorem kRgB_int : wp (kRgB [.int i, .int j] g) QL = QL (rngD i (j - i).toNat) g := rfl
end
end Sh

set_option Elab.async false
set_option linter.all false
set_option maxRecDepth 100000
set_option maxHeartbeats 2000000
/-! iterating while an exception is handled -/
namespace Sh
open PySem PySem.Spec PyProof.Rows L2 HotX L2H
section
variable {prog : Program} {w : World} {A : Around} {E : Value → Shared → Prop} {s : Shared}
/-- the end of an iterator, told while x1 is handled -/
theorem stop_hot {α : Type} {x1 : Addr} {Q : α → Shared → Prop} (hot : HotAt A x1 s.heap)
    (hE : ∀ h' e, (∀ b o, s.heap.get? b = some o → h'.get? b = some o) → (∃ o, h'.get? e = some o ∧ o.cls = .type "StopIteration") → E (.ref e) { s with heap := h' }) :
    wpAny (model prog w) A ((newExc (.type "StopIteration") [] >>= raiseNew : Sem α)) Q E s := by
  obtain ⟨hh, o1, vs1, h1, d1, c1⟩ := hot
  refine wpAny_bind ?_
  simp only [newExc, newTuple]
  refine wpAny_bind (wpAny_newObj_type ?_ (by size_fits))
  refine wpAny_bind (m := firstArgMember _ _) (wpAny_of_eq (a := Value.none) (by first | rfl | (simp only [firstArgMember]; rfl)) ?_)
  refine wpAny_newObj_type ?_ (by size_fits)
  have k1 := Heap.get?_push_of_some { cls := .type "tuple", data := .seq ([] : List Value).toArray } h1
  refine raiseNew_hot ⟨hh, o1, vs1, Heap.get?_push_of_some _ k1, d1, c1⟩ (Nat.ne_of_lt (Heap.lt_size k1)) (Heap.get?_push_size _ rfl) rfl (by first | (simp; done) | (simp; omega)) ?_
  refine hE _ _ (fun b o e => ?_) ⟨_, Heap.get?_update_self _ (Heap.get?_push_size _ rfl) rfl, rfl⟩
  have k2 := Heap.get?_push_of_some { cls := .type "tuple", data := .seq ([] : List Value).toArray } e
  rw [Heap.get?_update_other _ _ (Nat.ne_of_gt (Heap.lt_size k2))]
  exact Heap.get?_push_of_some _ k2
/-- a list's iterator at its end, drawn -/
theorem nextOf_listH {it l x1 : Addr} {i : Nat} {items : Array Value} {Q : Value → Shared → Prop} (hot : HotAt A x1 s.heap) (hne : x1 ≠ it)
    (hit : s.heap.IsListIter it l i) (hl : s.heap.IsList l items) (hx : items[i]? = none)
    (hE : ∀ h' e, Heap.ExtBut it s.heap h' → (∃ o, h'.get? e = some o ∧ o.cls = .type "StopIteration") → E (.ref e) { s with heap := h' }) :
    wpAny (model prog w) A (Builtin.SmallTypes.nextOf (.ref it)) Q E s := by
  obtain ⟨o, ho, hc, hd⟩ := id hit
  obtain ⟨ol, hol, _, nl, hdl⟩ := hl
  obtain ⟨hh, o1, vs1, h1, d1, c1⟩ := hot
  unfold Builtin.SmallTypes.nextOf
  refine wpAny_bind (wpAny_callSpecial?_slot (name := Str.ofString "__next__") hit.typeIs slot_listiter_next
    (wpAny_call_entry slot_listiter_next hit.typeIs entry_listiter_next ?_ (args_listiter_next _)))
  show wpAny _ _ (field (.ref it) 0 >>= _) _ _ s
  refine wpAny_bind (wpAny_field ho hd (x := .ref l) rfl ?_)
  show wpAny _ _ (if (Value.ref l == Value.none) = true then _ else _) _ _ s
  rw [if_neg (show ¬ ((Value.ref l == Value.none) = true) from Bool.false_ne_true)]
  show wpAny _ _ (field (.ref it) 1 >>= _) _ _ s
  refine wpAny_bind (wpAny_field ho hd (x := .int i 0) rfl ?_)
  show wpAny _ _ (seqItems? (.ref l) >>= _) _ _ s
  refine wpAny_bind (wpAny_seqItems hol hdl ?_)
  simp only [Int.toNat_natCast, hx]
  refine wpAny_bind (wpAny_rule (wpAny_bind (wpAny_setField ho hd (by simp) ?_)))
  refine stop_hot (x1 := x1) ⟨hh, o1, vs1, ?_, d1, c1⟩ fun h' e k q => ?_
  · rw [Heap.get?_update_other _ _ (Ne.symm hne)]
    exact h1
  · refine hE h' e (fun b o hb q => k b o ?_) q
    rw [Heap.get?_update_other _ _ (Ne.symm hb)]
    exact q
/-- a tuple's iterator at its end -/
theorem pyNext_tupleH {it t x1 : Addr} {i : Nat} {items : Array Value} {Q : Option Value → Shared → Prop} (hot : HotAt A x1 s.heap) (hne : x1 ≠ it)
    (hit : s.heap.IsTupleIter it t i) (ht : s.heap.IsTuple t items) (hx : items[i]? = none)
    (hQ : ∀ h', Heap.ExtBut it s.heap h' → Q none { s with heap := h' }) : wpAny (model prog w) A (pyNext (.ref it)) Q E s := by
  obtain ⟨o, ho, hc, hd⟩ := id hit
  obtain ⟨ol, hol, _, nl, hdl⟩ := ht
  obtain ⟨hh, o1, vs1, h1, d1, c1⟩ := hot
  unfold pyNext
  refine wpAny_bind (wpAny_attempt (wpAny_callSpecial?_slot (name := Str.ofString "__next__") hit.typeIs F.slot_tuple_iterator_next
    (wpAny_call_entry F.slot_tuple_iterator_next hit.typeIs F.entry_tuple_iterator_next ?_ (F.args_tuple_iterator_next_1 _))))
  show wpAny _ _ (field (.ref it) 0 >>= _) _ _ s
  refine wpAny_bind (wpAny_field ho hd (x := .ref t) rfl ?_)
  show wpAny _ _ (if (Value.ref t == Value.none) = true then _ else _) _ _ s
  rw [if_neg (show ¬ ((Value.ref t == Value.none) = true) from Bool.false_ne_true)]
  show wpAny _ _ (field (.ref it) 1 >>= _) _ _ s
  refine wpAny_bind (wpAny_field ho hd (x := .int i 0) rfl ?_)
  show wpAny _ _ (seqItems? (.ref t) >>= _) _ _ s
  refine wpAny_bind (wpAny_seqItems hol hdl ?_)
  simp only [Int.toNat_natCast, hx]
  refine wpAny_bind (wpAny_rule (wpAny_bind (wpAny_setField ho hd (by simp) ?_)))
  refine stop_hot (x1 := x1) ⟨hh, o1, vs1, ?_, d1, c1⟩ fun h' e k ⟨oe, q1, q2⟩ => ?_
  · rw [Heap.get?_update_other _ _ (Ne.symm hne)]
    exact h1
  · refine wpAny_bind (wpAny_isInstance (T := "StopIteration") (b := true) ⟨oe, q1, q2⟩ isSubtype_stop ?_)
    refine wpAny_pure (hQ h' fun b o hb q => k b o ?_)
    rw [Heap.get?_update_other _ _ (Ne.symm hb)]
    exact q
/-- a tuple of that size goes to a target of names -/
theorem assign_tupleH {env : Env} {elts : List Expr} {k : Nat} {pos : Pos} {t x1 : Addr} {items : Array Value} {Q : Unit → Shared → Prop} (hot : HotAt A x1 s.heap) (ht : s.heap.IsTuple t items)
    (hn : (assignEach elts env).length = items.size) (hstar : (assignEach elts env).findIdx? (·.1) = none)
    (h : ∀ h', Heap.ExtBut s.heap.objs.size s.heap h' → wpAny (model prog w) A (assignInOrder ((assignEach elts env).map (·.2)) items.toList) Q E { s with heap := h' }) :
    wpAny (model prog w) A (assign (.Tuple elts k pos) env (.ref t)) Q E s := by
  have hlt : t ≠ s.heap.objs.size := by obtain ⟨o, ho, _⟩ := id ht; exact Nat.ne_of_lt (Heap.lt_size ho)
  have hx1 : x1 < s.heap.objs.size := by obtain ⟨_, o, vs, ho, _⟩ := id hot; exact Heap.lt_size ho
  rw [PyProof.Rows.assign_Tuple]
  refine wpAny_bind (wpAny_standAt ?_)
  unfold unpack
  rw [hn, hstar]
  refine wpAny_bind (wpAny_holding ?_)
  unfold unpackItems
  refine wpAny_bind ?_
  unfold notIterableAtAll
  refine wpAny_bind (wpAny_specialOf ht.typeIs F.slot_tuple_iter.lookup (wpAny_pure ?_))
  simp only [Bool.false_eq_true, if_false]
  refine wpAny_bind (wpAny_holding (wpAny_pyIter_tuple ht ?_))
  refine wpAny_bind (wpAny_holding (wpAny_draw_tuple hlt items.size 0 _ _ ⟨_, Heap.get?_push_size _ rfl, rfl, rfl⟩ (ht.push _) (by omega) fun h₁ hit₁ hs₁ => ?_))
  have hall : List.take items.size (List.drop 0 items.toList) = items.toList := by
    rw [List.drop_zero]; exact List.take_of_length_le (by simp)
  rw [hall, if_neg (by simp)]
  have ht₁ : h₁.IsTuple t items := (ht.push _).extBut hs₁.extBut hlt
  have hot₁ : HotAt A x1 h₁ := by
    obtain ⟨a, o, vs, b, c, d⟩ := hot
    exact ⟨a, o, vs, hs₁.extBut _ _ (Nat.ne_of_lt hx1) (Heap.get?_push_of_some _ b), c, d⟩
  refine wpAny_bind (wpAny_holding (pyNext_tupleH hot₁ (Nat.ne_of_lt hx1) hit₁ ht₁ (by simp) fun h₂ he₂ => ?_))
  simp only [Option.isSome_none, Bool.false_eq_true, if_false]
  exact wpAny_pure (h h₂ fun b o hb e => he₂ b o hb (hs₁.extBut b o hb (Heap.get?_push_of_some _ e)))
end
/-- drawing from a list while x1 is handled -/
theorem drawsH {prog : Program} {w : World} {A : Around} (x1 it l : Addr) (hne : l ≠ it) (hx : x1 ≠ it) (items : Array Value) :
    Draws prog w A it [it, l, x1] items.size (fun i v => items[i]? = some v) (fun i h => h.IsListIter it l i ∧ h.IsList l items ∧ HotAt A x1 h) where
  live := fun _ _ st => let ⟨o, ho, _⟩ := st.1; ⟨o, ho⟩
  frame := fun _ _ _ st hk => ⟨st.1.at fun o e => hk it (by simp) o e, st.2.1.at fun o e => hk l (by simp) o e, by
    obtain ⟨a, o, vs, b, c, d⟩ := st.2.2
    exact ⟨a, o, vs, hk x1 (by simp) _ b, c, d⟩⟩
  item := fun i s Q E hi st hQ => by
    refine wpAny_nextOf_list_item st.1 st.2.1 (x := items[i]) (by simp [hi]) fun h' hit' hs' => ?_
    refine hQ _ h' s.toks (by simp [hi]) ⟨hit', st.2.1.extBut hs'.extBut hne, ?_⟩ hs'
    obtain ⟨a, o, vs, b, c, d⟩ := st.2.2
    exact ⟨a, o, vs, hs'.extBut _ _ hx b, c, d⟩
  done := fun s Q E st hE => nextOf_listH st.2.2 hx st.1 st.2.1 (by simp) hE
end Sh

set_option Elab.async false
set_option linter.all false
set_option maxRecDepth 100000
set_option maxHeartbeats 600000
/-! zip, a comprehension, while an exception is handled -/
namespace Sh
open PySem PySem.Spec PyProof.Rows L2 HotX L2H
/-- both lists, a turn past the other; the end exactly -/
def ItzH (K : PySem.W.Frag) (a b : Addr) : It :=
  ⟨(Itz K a b).go, (Itz K a b).yld, fun i H => ∃ xs ys : List V, SqL K H a xs ∧ SqL K H b ys ∧ i ≤ xs.length ∧ i ≤ ys.length ∧ (i = xs.length ∨ i = ys.length)⟩
theorem HotC.at1 {X : Cx} {pins : List (Addr × Obj)} {σ : L2.St} {H : Hp} {s : Shared} (c : HotC X) (I : Inv X pins σ H s) : ∃ q : Addr × Obj, q ∈ X.pn ∧ HotAt X.A q.1 s.heap := by
  obtain ⟨q, ⟨hh, v1, e1, c1⟩, hq⟩ := c
  exact ⟨q, hq, hh, q.2, v1, (I.pin q (List.mem_append_left _ hq)).1, e1, c1⟩
theorem turn_zipH {P : Program} {w : World} {K : PySem.W.Frag} {elts : List Expr} {kk : Nat} {tpos : Pos} {a b z TI TO i1 i2 : Addr} (D : ZipApart z TI TO i1 i2 a b) :
    TurnH P w K (.Tuple elts kk tpos) (ItzH K a b) [z, TI, TO, i1, i2] z (fun i h => IsZip h z TI TO .none ∧ IsPair h TI (.ref i1) (.ref i2) ∧ (∃ x y, IsPair h TO x y) ∧ h.IsListIter i1 a i ∧ h.IsListIter i2 b i) := by
  have T0 := turn_zip (P := P) (w := w) (K := K) (elts := elts) (kk := kk) (tpos := tpos) D
  refine ⟨T0.mem, T0.obj, T0.keep, ?_, ?_, T0.self⟩
  · intro X hP hw hK hc i pins s σ H E I hf st hg
    subst hP hw hK
    obtain ⟨hz, hTI, ⟨x0, y0, hTO⟩, h1, h2⟩ := st
    obtain ⟨xs, ys, x, y, hqx, hqy, hx, hy⟩ := hg
    obtain ⟨its, rv, p, _⟩ := I.list hqx
    obtain ⟨its2, rv2, p2, _⟩ := I.list hqy
    obtain ⟨u, hu, ru⟩ := rv.get hx
    obtain ⟨u2, hu2, ru2⟩ := rv2.get hy
    have zlt := Heap.lt_size hz
    refine wpAny_pyNext_zip_item D hz hTI hTO h1 h2 p.isList p2.isList (x := u) (y := u2) (by simpa using hu) (by simpa using hu2) fun h' z' TO' h1' h2' hT hsz hk => ⟨_, rfl, wpAny_letOwnedTupleGo_zip (s := { s with heap := h' }) z' fun h'' z'' sb => ?_⟩
    have hT2 := (sb.2 _ (Nat.ne_of_gt zlt)).trans hT
    have new : ObjOk X.prog X.w (upd H s.heap.objs.size (.tup [x, y])) h'' s.heap.objs.size (.tup [x, y]) := ⟨show 2 ≤ sizeLine by decide, [u, u2], .cons ru (.cons ru2 .nil), ⟨_, hT2, rfl, _, rfl⟩⟩
    have al : ∀ c ∈ [z, TI, TO, i1, i2], c < s.heap.objs.size := fun c hc => by
      obtain ⟨o, e, _⟩ := T0.obj i s.heap ⟨hz, hTI, ⟨x0, y0, hTO⟩, h1, h2⟩ c hc
      exact Heap.lt_size e
    have I1 := I.turnedNew (t' := s.toks) (ch := [z, TI, TO, i1, i2]) (h' := h'') (fun c o hb q => by
      have q1 : c ≠ z := fun e => hb (by simp [e])
      have q2 : c ≠ TO := fun e => hb (by simp [e])
      have q3 : c ≠ i1 := fun e => hb (by simp [e])
      have q4 : c ≠ i2 := fun e => hb (by simp [e])
      exact (sb.2 c q1).trans (hk c o q1 q2 q3 q4 q)) hf (Nat.le_refl _) new
    refine ⟨.ref s.heap.objs.size, _, I1, rfl, ⟨_, x, y, rfl, I.hok.fresh (Nat.le_refl _), rfl, fun l hl => by rw [I.list_inj hl hqx]; exact hx, fun l hl => by rw [I.list_inj hl hqy]; exact hy⟩, ⟨z'', (sb.2 _ D.TIz).trans (hk _ _ D.TIz D.TITO D.TIi1 D.TIi2 hTI), ⟨u, u2, (sb.2 _ D.TOz).trans TO'⟩, h1'.at fun o q => (sb.2 _ D.i1z).trans q, h2'.at fun o q => (sb.2 _ D.i2z).trans q⟩, fun c hc => ?_⟩
    rw [upd_ne (Nat.ne_of_lt (al c hc))]
    exact (hf c hc).1
  · intro X hP hw hK hc i pins s σ H E I hf st hg
    subst hP hw hK
    obtain ⟨q, hq, hot⟩ := HotC.at1 hc I
    obtain ⟨hz, hTI, ⟨x0, y0, hTO⟩, h1, h2⟩ := st
    obtain ⟨xs, ys, hqx, hqy, hl1, hl2, hend⟩ := hg
    obtain ⟨its, rv, p, _⟩ := I.list hqx
    obtain ⟨its2, rv2, p2, _⟩ := I.list hqy
    have l1 := rv.length
    have l2 := rv2.length
    have nq : ∀ c ∈ [z, TI, TO, i1, i2], q.1 ≠ c := fun c hc => (hf c hc).2.2.2.2.2 q (List.mem_append_left _ hq)
    have nz := nq z (by simp)
    have nTO := nq TO (by simp)
    have n1 := nq i1 (by simp)
    have n2 := nq i2 (by simp)
    have S : ZipSep2 z TI TO i1 i2 [i1, a, q.1] [i2, b, q.1] := ⟨D.TIz, D.TOz, D.TITO, D.TIi1, by simp, by simp [Ne.symm D.i1z, Ne.symm D.l1z, Ne.symm nz], by simp [D.TOi1, Ne.symm D.l1TO, Ne.symm nTO], D.TIi2, by simp, by simp [Ne.symm D.i2z, Ne.symm D.l2z, Ne.symm nz], by simp [D.TOi2, Ne.symm D.l2TO, Ne.symm nTO],
      by simp [D.i12, Ne.symm D.l2i1, Ne.symm n1], by simp [Ne.symm D.i12, Ne.symm D.l1i2, Ne.symm n2]⟩
    have hA : HotAt X.A.in1 q.1 s.heap := hot
    have D1 := drawsH (prog := X.prog) (w := X.w) (A := X.A.in1) q.1 i1 a D.l1i1 n1 its.toArray
    have D2 := drawsH (prog := X.prog) (w := X.w) (A := X.A.in1) q.1 i2 b D.l2i2 n2 its2.toArray
    have e1 : i ≤ its.toArray.size := by rw [List.size_toArray]; omega
    have e2 : i ≤ its2.toArray.size := by rw [List.size_toArray]; omega
    have e3 : i = its.toArray.size ∨ i = its2.toArray.size := by rw [List.size_toArray, List.size_toArray]; omega
    have S1 : s.heap.IsListIter i1 a i ∧ s.heap.IsList a its.toArray ∧ HotAt X.A.in1 q.1 s.heap := ⟨h1, p.isList, hA⟩
    have S2 : s.heap.IsListIter i2 b i ∧ s.heap.IsList b its2.toArray ∧ HotAt X.A.in1 q.1 s.heap := ⟨h2, p2.isList, hA⟩
    refine wpAny_pyNext_zipD2_end S D1 D2 hz hTI hTO S1 S2 e1 e2 e3 fun h' tk hk => ?_
    exact ⟨rfl, I.turnedL (t' := tk) (ch := [z, TI, TO, i1, i2]) (fun c o hb e => by
      have q1 : c ≠ z := fun e => hb (by simp [e])
      have q2 : c ≠ TO := fun e => hb (by simp [e])
      have q3 : c ≠ i1 := fun e => hb (by simp [e])
      have q4 : c ≠ i2 := fun e => hb (by simp [e])
      exact hk c o q1 q2 q3 q4 e) hf⟩
def iZipH (K : PySem.W.Frag) (ta : TA) : TI := fun σ H R => ta σ H fun vs H1 => ∃ a b xs ys, vs = [.ref a, .ref b] ∧ SqL K H1 a xs ∧ SqL K H1 b ys ∧ R (ItzH K a b) H1
theorem pi_zipH {X : Cx} {e e2 : Expr} {ta : TA} {p pos tpos : Pos} {elts : List Expr} {kk : Nat} (hg : Gl X "zip") (hm : X.mg "zip" = none) (ha : PA X [e, e2] ta)
    (hs : starEach [e, e2] X.env = (false, eval e X.env) :: starEach [e2] X.env := by rfl) (hpl : (backTo pos (starEach [e2] X.env)).any (·.1) = false := by rfl) :
    PIH X (.Tuple elts kk tpos) (.Call (.Name "zip" p) [e, e2] [] pos) (iZipH X.K ta) := by
  refine ⟨fun pins s σ H R I h => Call_ (ld_blt I hg hm PyProof.Rows.boot_zip (PyProof.Rows.callWith_type1 (thn (ha.run pos pins s σ H _ I h) fun us s1 ⟨vs, H1, I1, r1, q1⟩ => ?_) hs hpl))⟩
  obtain ⟨a, b, xs, ys, ex, hqx, hqy, q⟩ := q1
  subst ex
  cases r1 with
  | cons r rr =>
    cases rr with
    | cons r' rr =>
      cases rr
      cases r
      cases r'
      obtain ⟨its, rv, p1, _⟩ := I1.list hqx
      obtain ⟨its2, rv2, p2, _⟩ := I1.list hqy
      have la : a < s1.heap.objs.size := p1.lt
      have lb : b < s1.heap.objs.size := p2.lt
      refine call_zip_2 p1.isList p2.isList fun h' hz hTI hTO h1 h2 hsz hk => wpAny_pyIter_zip hz ?_
      have I2 : Inv X pins σ H1 { s1 with heap := h' } := I1.kept (t' := s1.toks) hk
      refine ⟨_, _, _, _, H1, rfl, I2, turn_zipH (PySem.W.ktu_apart s1.heap.objs.size a b la lb), ⟨hz, hTI, ⟨_, _, hTO⟩, h1, h2⟩, fun c hc => ?_, q⟩
      have hle : s1.heap.objs.size ≤ c := by
        have e' : c = s1.heap.objs.size + 4 ∨ c = s1.heap.objs.size + 2 ∨ c = s1.heap.objs.size + 3 ∨ c = s1.heap.objs.size ∨ c = s1.heap.objs.size + 1 := by simpa using hc
        rcases e' with z | z | z | z | z <;> rw [z] <;> first | exact Nat.le_refl _ | exact Nat.le_add_right _ _
      exact I1.fpOk hle (I1.hok.fresh hle)
/-- a tuple's target -/
theorem pg_tupH {X : Cx} {es : List Expr} {k : Nat} {t : TGs} {n : Nat} {pos : Pos} (hc : HotC X) (h : PGs X es t) (hn : (assignEach es X.env).length = n := by rfl) (hst : (assignEach es X.env).findIdx? (·.1) = none := by rfl) : PG X (.Tuple es k pos) (gTup X.K n t) := by
  refine ⟨fun pins s σ H v u Q I r hw => ?_⟩
  obtain ⟨a, xs, e1, hq, hl, hw⟩ := hw
  subst e1
  cases r
  obtain ⟨its, rv, ht, hz⟩ := I.tuple hq
  obtain ⟨q, hq, hot⟩ := HotC.at1 hc I
  refine assign_tupleH hot (show s.heap.IsTuple a its.toArray from ht) (by simp [hn, ← hl, rv.length]) hst fun h' hx => ?_
  have I1 : Inv X pins σ H { s with heap := h' } := I.kept (t' := s.toks) fun b o e => hx b o (Nat.ne_of_lt (Heap.lt_size e)) e
  exact h.run pins _ σ H xs _ Q I1 (by simpa using rv) hw
/-- the block's context, q's object handled -/
abbrev blkH (X : Cx) (s : Shared) (H : Hp) (scope : Scope) (cenv : Env) (fp : List Addr) (q : Addr × Obj) : Cx := { X.blk s H scope cenv fp with pn := [q] }
theorem blkH_of {X : Cx} {s s' : Shared} {H H' : Hp} {scope : Scope} {ce : Env} {fp : List Addr} {q : Addr × Obj} {σ : L2.St} (I : Inv (X.blk s H scope ce fp) [] σ H' s') (hq : s'.heap.get? q.1 = some q.2 ∧ H' q.1 = none ∧ q.1 ≠ ce.locals ∧ q.1 ∉ frs X.stack ∧ ∀ v, q.2.data ≠ .cell v) : Inv (blkH X s H scope ce fp q) [] σ H' s' := by
  have o := I.ok
  refine ⟨⟨o.mod, o.kind, o.glob, o.blt, o.above, o.inj, o.has, o.cab, o.hd, o.frames, o.stk, o.exf, o.bs, o.bsz, o.noex, o.exfs, o.funs, o.frf⟩, I.os, I.bare, I.base, I.loc, I.cell, I.free, I.freeC, fun z hz => ?_, I.hok, I.len⟩
  have : z = q := by simpa using (show z ∈ [q] ++ ([] : List (Addr × Obj)) from hz)
  rw [this]
  exact hq
section
variable {X : Cx} {elt tg iter : Expr} {ifs : List Expr} {scope : Scope} {own : List (Str × Nat)} {pos pos' : Pos} {wi : TI} {g : TG} {tt : TT} {te : TE}
/-- a comprehension of one clause -/
theorem pe_lcH {p : Addr × Obj} (hot : Hot1 X.A p) (hp : p ∈ X.pn) (hcf : X.calm = false) (hN : X.N.Nodup) (hi : PIH X tg iter wi) (ok : BlkOk X.N X.env.scope scope own)
    (hg : ∀ (s : Shared) (H : Hp) (C : Addr) (cl : List (Str × Addr)) (fp : List Addr), PG (blkH X s H scope (compEnvC scope cl C X.env) fp p) tg g)
    (ht : ∀ (s : Shared) (H : Hp) (C : Addr) (cl : List (Str × Addr)) (fp : List Addr), PTs (blkH X s H scope (compEnvC scope cl C X.env) fp p) ifs tt)
    (he : ∀ (s : Shared) (H : Hp) (C : Addr) (cl : List (Str × Addr)) (fp : List Addr), PE (blkH X s H scope (compEnvC scope cl C X.env) fp p) elt te) (hs : ∀ x, foldedSetIterable iter X.env x = pure x := by intro _; rfl) :
    PE X (.ListComp elt [⟨tg, iter, ifs, 0⟩] scope pos) (tLc wi g tt te (own.map (·.2))) := by
  refine ⟨fun pins s σ H Q I h => ?_⟩
  rw [eval_ListComp]
  have hfree : ∀ y ∈ scope.names, y.2 = .free → ∃ c, X.env.cells.lookup y.1 = some c := fun y hy e => (ok.free y hy e).elim (fun k => I.ok.has _ (.inl k)) fun k => I.ok.has _ (.inr k)
  refine wpAny_comprehension_free (use := none) rfl hs (closure_ok hfree) ok.kind (fun y hy e => by rw [ok.uniq y hy, e]) (thn (hi.run pins s σ H _ I h) fun xv s1 hx => thn hx fun itv s2 h2 => ?_)
  obtain ⟨it, fp, tn, J, H2, e, I2, T, st2, f2, q⟩ := h2
  subst e
  refine wpAny_newObj_type (newEnv_comp ?_) (show 0 ≤ sizeLine by decide)
  obtain ⟨D, hD⟩ : ∃ D, D = s2.heap.objs.size := ⟨_, rfl⟩
  rw [← hD]
  have hDn : H2 D = none := I2.hok.fresh (Nat.le_of_eq hD.symm)
  obtain ⟨W, ⟨m0, w0⟩, turn⟩ := q D hDn
  -- the list that is made
  obtain ⟨s3, hs3⟩ : ∃ s3 : Shared, s3 = { s2 with heap := s2.heap.push { cls := .type "list", data := .seq ([] : List Value).toArray } } := ⟨_, rfl⟩
  have h3 : s3.heap = s2.heap.push { cls := .type "list", data := .seq ([] : List Value).toArray } := by rw [hs3]
  have I3 : Inv X pins σ (upd H2 D (.lst [])) s3 := by
    rw [hs3]
    refine I2.laid (t' := s2.toks) (fun b o e => Heap.get?_push_of_some _ e) (Nat.le_of_eq hD.symm) ⟨Nat.zero_le _, [], 0, .nil, ?_⟩
    rw [hD]
    exact Heap.get?_push_size _ rfl
  have lt3 : ∀ b ∈ fp, b < s2.heap.objs.size := fun b hb => let ⟨o, e, _⟩ := T.obj _ _ st2 b hb; Heap.lt_size e
  have f3 : ∀ b ∈ fp, FpOk X pins (upd H2 D (.lst [])) b ∧ b < s3.heap.objs.size := fun b hb => by
    have l := lt3 b hb
    refine ⟨⟨?_, (f2 b hb).2⟩, by rw [h3, Heap.size_push]; exact Nat.lt_succ_of_lt l⟩
    rw [upd_ne (by rw [hD]; exact Nat.ne_of_lt l)]
    exact (f2 b hb).1
  have st3 : tn 0 s3.heap := T.keep _ _ _ st2 fun b _ o e => by rw [h3]; exact Heap.get?_push_of_some _ e
  have I4a := block_start I3 ok hN f3
  rw [← hs3]
  -- the block's environment
  obtain ⟨ce, hce⟩ : ∃ ce, ce = compEnvC scope (cellsFrom (s3.heap.objs.size + 1) scope.names (cloFrom X.env.cells scope.names [])) s3.heap.objs.size X.env := ⟨_, rfl⟩
  have cL : ce.locals = s3.heap.objs.size := by rw [hce]; rfl
  obtain ⟨s4, hs4⟩ : ∃ s4 : Shared, s4 = { s3 with heap := pushCells (s3.heap.push { cls := .type "dict", data := .dict #[] }) scope.names } := ⟨_, rfl⟩
  have pg := hg s3 (upd H2 D (.lst [])) s3.heap.objs.size (cellsFrom (s3.heap.objs.size + 1) scope.names (cloFrom X.env.cells scope.names [])) fp
  have pt := ht s3 (upd H2 D (.lst [])) s3.heap.objs.size (cellsFrom (s3.heap.objs.size + 1) scope.names (cloFrom X.env.cells scope.names [])) fp
  have pe := he s3 (upd H2 D (.lst [])) s3.heap.objs.size (cellsFrom (s3.heap.objs.size + 1) scope.names (cloFrom X.env.cells scope.names [])) fp
  rw [← hce] at I4a pg pt pe
  rw [← hs4] at I4a
  show codeAny _ _ (.compStart (.ListComp elt [⟨tg, iter, ifs, 0⟩] scope pos) 0 (.ref it) (.ref D) (compEnvC scope (cellsFrom (s3.heap.objs.size + 1) scope.names (cloFrom X.env.cells scope.names [])) s3.heap.objs.size X.env)) (compPost (model X.prog X.w) X.A X.xe none (EP X pins σ Q) (.ref D) s3.heap.objs.size) { s3 with heap := pushCells (s3.heap.push { cls := .type "dict", data := .dict #[] }) scope.names }
  rw [← hce, ← hs4]
  have k34 : ∀ b o, s3.heap.get? b = some o → s4.heap.get? b = some o := fun b o e => by rw [hs4]; exact pushCells_keeps _ _ _ _ (Heap.get?_push_of_some _ e)
  have P3 := I3.pin p (List.mem_append_left _ hp)
  have pstk : p.1 ∉ frs X.stack := fun hm => (List.mem_cons.mp (I3.stkSub p.1 hm)).elim P3.2.2.1 P3.2.2.2.1
  have I4 : Inv (blkH X s3 (upd H2 D (.lst [])) scope ce fp p) [] (wipe σ (own.map (·.2))) (upd H2 D (.lst [])) s4 := blkH_of I4a ⟨k34 _ _ P3.1, P3.2.1, by rw [cL]; exact Nat.ne_of_lt (Heap.lt_size P3.1), pstk, P3.2.2.2.2⟩
  have nfp : ∀ b ∈ fp, (upd H2 D (.lst [])) b = none := fun b hb => (f3 b hb).1.1
  have npf : ∀ b ∈ fp, p.1 ≠ b := fun b hb => (f2 b hb).2.2.2.2.2 p (List.mem_append_left _ hp)
  generalize upd H2 D (.lst []) = H3 at I3 I4a I4 pg pt pe w0 nfp f3 P3
  have hc : HotC (blkH X s3 H3 scope ce fp p) := ⟨p, hot, by simp⟩
  have st4 : tn 0 s4.heap := T.keep _ _ _ st3 fun b _ o e => k34 b o e
  have stat : ∀ {σ' : L2.St} {H' : Hp} {s' : Shared}, Inv (blkH X s3 H3 scope ce fp p) [] σ' H' s' → (∀ b ∈ fp, H' b = none) → ∀ b ∈ fp, FpOk (blkH X s3 H3 scope ce fp p) [] H' b := fun {σ' H' s'} I' hn b hb =>
    ⟨hn b hb, (I'.ok.exf b hb).1, I'.ok.exfs b hb, .inl hb, fun x c e => (I'.ok.exf b hb).2 x c e, fun z hz => by
      have : z = p := by simpa using (show z ∈ [p] ++ ([] : List (Addr × Obj)) from hz)
      rw [this]
      exact npf b hb⟩
  refine codeAny_compStart_list ?_ (T.self X.A 0 _ _ _ st4 ?_)
  all_goals
    refine compLoop_any (fun n s' => ∃ i H', Inv (blkH X s3 H3 scope ce fp p) [] (wipe σ (own.map (·.2))) H' s' ∧ tn i s'.heap ∧ (∀ b ∈ fp, H' b = none) ∧ W i n H') ?_ m0 ⟨0, H3, I4, st4, nfp, w0⟩
    rintro n s5 ⟨i, H5, I5, st5, n5, w5⟩
    rcases turn i n H5 w5 with ⟨stop, qq⟩ | ⟨go, Nx, hNx, step⟩
    · refine thnF (T.done (blkH X s3 H3 scope ce fp p) rfl rfl rfl hc i [] s5 _ H5 (fun _ _ => False) I5 (stat I5 n5) st5 stop) fun r s6 ⟨hr, I6⟩ => ?_
      subst hr
      have I7 : Inv X pins σ H5 s6 := I3.call' (ch := fp) I6.os I6.base I6.hok I6.bare fun b hb => ⟨(f3 b hb).1.2.2.2.1, (f3 b hb).1.2.1, (f3 b hb).1.2.2.2.2.1, (f3 b hb).1.2.2.2.2.2⟩
      have nC : H5 s3.heap.objs.size = none := by
        have z : H5 ce.locals = none := I6.free
        rw [cL] at z
        exact z
      obtain ⟨m, hn, _⟩ := I6.loc
      have hn : s6.heap.Ns ce.locals m := hn
      rw [cL] at hn
      obtain ⟨f0, f1, f2', f3', f4, f5⟩ := I3.fpOk (H' := H5) (Nat.le_refl _) nC
      exact ⟨m, hn, fun h'' sb => ⟨.ref D, H5, I7.turned (t' := s6.toks) (fun b o hb e => (sb.2 b hb).trans e) f0 f1 f3' f4 f5, rfl, qq⟩⟩
    · refine thnF (T.item (blkH X s3 H3 scope ce fp p) rfl rfl rfl hc i [] s5 _ H5 (fun _ _ => False) I5 (stat I5 n5) st5 go) fun r s6 ⟨u, hr, h6⟩ => ?_
      subst hr
      refine thnF h6 fun _ s7 ⟨x, H7, I7, r7, y7, st7, n7⟩ => ?_
      have I7' := I7.pinned (stat I7 n7) (T.obj _ _ st7)
      refine thnF (pg.run _ s7 _ H7 x u _ I7' r7 (step x H7 y7)) fun _ s8 ⟨σ8, H8, I8, hw8, q8⟩ => ?_
      refine thnF (pt.run _ s8 σ8 H8 _ I8 q8) fun b s9 ⟨H9, I9, q9⟩ => ?_
      have fin : ∀ {s' : Shared} {H' : Hp}, Inv (blkH X s3 H3 scope ce fp p) ([] ++ pinsAt fp s7.heap) σ8 H' s' → Nx H' → ∃ m, m < n ∧ ∃ i H', Inv (blkH X s3 H3 scope ce fp p) [] (wipe σ (own.map (·.2))) H' s' ∧ tn i s'.heap ∧ (∀ b ∈ fp, H' b = none) ∧ W i m H' := fun {s' H'} I' nx => by
        obtain ⟨m', hm, w'⟩ := hNx H' nx
        have pin' : ∀ b ∈ fp, ∀ o, s7.heap.get? b = some o → s'.heap.get? b = some o ∧ H' b = none := fun b hb o e =>
          let z := I'.pin (b, o) (List.mem_append_right _ (List.mem_append_right _ (mem_pinsAt hb e)))
          ⟨z.1, z.2.1⟩
        refine ⟨m', hm, i + 1, H', (I'.unpinned (pins := [])).weak (by rw [← hw8, wipe_length]) (fun j v e => ?_), T.keep _ _ _ st7 fun b hb o e => (pin' b hb o e).1, fun b hb => ?_, w'⟩
        · rw [← hw8] at e
          exact (wipe_some e).1
        · obtain ⟨o, e, _⟩ := T.obj _ _ st7 b hb
          exact (pin' b hb o e).2
      cases b with
      | false =>
        simp only [Bool.false_eq_true, if_false] at q9 ⊢
        exact fin I9 q9
      | true =>
        simp only [if_true] at q9 ⊢
        refine thnF (pe.run _ s9 σ8 H9 _ I9 q9) fun z s10 ⟨yv, H10, I10, r10, acc, hD10, hz10, nx⟩ => ?_
        exact app_ok (X := blkH X s3 H3 scope ce fp p) I10 hD10 hz10 r10 fun s11 I11 => fin I11 nx
end
end Sh

set_option Elab.async false
set_option linter.all false
set_option maxRecDepth 100000
set_option maxHeartbeats 1000000
/-! the words of an error's classes, told in a def that is called while the error is handled -/
namespace Sh
open PySem PySem.Spec PyProof.Rows PySem.Calls PySem.W
section
variable {prog : Program} {w : World} {A : Around} {E : Value → Shared → Prop} {s : Shared} {K : Frag} {x D : Addr} {ox : Obj} {od : Option Obj}
/-- __class__ of an error, whatever dict it has -/
theorem class_any {Q : Option Value → Shared → Prop} (C : L2.ExcC K D) (X : K.In s.heap) (I : InstAt s.heap x ox D od) (h : Q (some (.ref D)) { s with toks := s.toks + 1 }) : wpAny (model prog w) A (getAttr? (.ref x) "__class__") Q E s := by
  have hf : findObj K D od "__class__" = some (.bind (.builtin "getset_descriptor.__get__") (.builtin "object.__class__")) := by
    obtain ⟨cd, hc, _⟩ := any_some C.hd
    unfold findObj
    rw [hc, Option.bind_some, C.ha, Option.bind_some]
    simp [C.hn, C.ht]
  obtain ⟨hp, g, d, t, os⟩ := s
  have ty := I.type (M := model prog w)
  have lk := looks_find (M := model prog w) X I hf
  have be : Looks (model prog w) hp (isInstance (.ref x) (.type "BaseException")) true := ty.andThen (looks_subIn X C.hs)
  have no2 : (Value.builtin "BaseException.__getattribute__" == Value.builtin "object.__getattribute__") = false := by decide +kernel
  have no1 : (onTheHeap (Value.ref D) && Value.builtin "BaseException.__getattribute__" == Value.builtin "object.__getattribute__") = false := by
    rw [no2]
    rfl
  unfold getAttr? getAttrBy? getAttrBy
  refine wpAny_bind (wpAny_mkText (wpAny_bind (wpAny_attempt (wpAny_holding (wpAny_bind (ty.at (wpAny_bind ((looks_findIn X C.hg).at ?_))))))))
  show wpAny (model prog w) A (if (onTheHeap (Value.ref D) && Value.builtin "BaseException.__getattribute__" == Value.builtin "object.__getattribute__") = true then _ else _) _ _ _
  rw [no1, if_neg Bool.false_ne_true]
  unfold getAttrByItsOwn hookBefore
  refine wpAny_bind (show wpAny (model prog w) A (if onTheHeap (Value.ref D) = true then _ else _) _ _ _ from ?_)
  rw [if_pos (show onTheHeap (Value.ref D) = true from rfl)]
  refine (looks_findIn X C.hk).at (wpAny_bind (wpAny_attempt (wpAny_holding ?_)))
  unfold callGetattribute
  rw [show (false && onTheHeap (Value.builtin "BaseException.__getattribute__")) = false from rfl, if_neg Bool.false_ne_true]
  unfold boundAndCalled
  rw [PySem.F.excAttr_ValueError.ga.bind (.ref x)]
  refine wpAny_bind (wpAny_pure (show wpAny (model prog w) A (call (.builtin "BaseException.__getattribute__") [.ref x, .str "__class__" t]) _ _ _ from ?_))
  refine wpAny_call (codeAny_call_builtin PySem.F.excAttr_ValueError.ga.plain PySem.F.entry_bexc_ga (@check_slot (model prog w) _ _ ⟨hp, g, d, t + 1, os⟩ "BaseException.__getattribute__" "BaseException" "__getattribute__" (.ref x) [.str "__class__" t] [] _ (by decide +kernel) (by decide +kernel) be (PySem.F.args_bexc_ga (.ref x) (.str "__class__" t)) ?_))
  unfold Builtin.«object.__getattribute__»
  refine wpAny_bind (wpAny_of_eq (a := ((Value.ref x : Value), [Value.str "__class__" t])) (by first | rfl | (simp only [slotArgs]; rfl)) (wpAny_bind (wpAny_pure (wpAny_bind (ty.at (wpAny_bind (lk.at ?_)))))))
  show wpAny (model prog w) _ (holding [Value.builtin "object.__class__"] (call (.builtin "getset_descriptor.__get__") [.builtin "object.__class__", .ref x, .ref D]) >>= ret) _ _ _
  refine wpAny_bind (wpAny_holding (wpAny_call (class_get (s := ⟨hp, g, d, t + 1, os⟩) (ox := ox) (od := od) X I C.hm (wpAny_pure ?_))))
  show wpAny (model prog w) _ (handedOut (.ref D)) _ _ _
  rw [handedOut_of (v := .ref D) rfl]
  first
    | exact wpAny_pure (wpAny_pure h)
    | exact wpAny_pure h
    | exact wpAny_pure (wpAny_bind (wpAny_pure (wpAny_pure h)))
theorem kitx_any (C : L2.ExcC K D) : KitX K (.ref x) (.ref D) (fun h => InstAt h x ox D od) where
  ty := fun _ _ _ I => I.type
  it := fun M h X _ => by
    obtain ⟨cdX, hcX, _⟩ := any_some C.hd
    unfold clsIn at hcX
    split at hcX
    · rename_i q1 q2 q3 q4 hoX
      exact fun A2 Q2 E2 s2 k2 q => by
        unfold isType loadHead
        exact wpAny_bind (wpAny_loadPart (k2 _ _ (X _ _ hoX)) (wpAny_pure q))
    · cases hcX
  ne := (handS_kitx_exc (x := x) (ox := ox) C.hg C.hk C.hs C.hd C.ha C.hn C.ht C.hm).ne
  ca := fun X I k => class_any C X I k
end
end Sh
namespace Sh
open PySem PySem.Spec PyProof.Rows L2 HotX L2H
/-- the error's dict stands -/
def Dh (d : Option Addr) (H : Hp) : Prop := ∀ dd, d = some dd → ∃ fs, H dd = some (.xd fs)
def rIsD (K : PySem.W.Frag) (D a : Addr) (d : Option Addr) : List V → Hp → VK → Prop := fun xs H Q => ∃ (c : V) (cv : Value) (b : Bool), xs = [.ref a, c] ∧ (∀ u, L2.RelV c u → u = cv) ∧ PySem.W.kitOne K (.ref D) cv = some b ∧ Dh d H ∧ Q (.bl b) H
/-- the handled error: its object, its class -/
structure ErrP (K : PySem.W.Frag) (D : Addr) (d : Option Addr) (p : Addr × Obj) : Prop where
  cls : p.2.cls = .ref D
  dict : p.2.dict = d
  flds : ∃ vs, p.2.data = .fields vs
  exc : ExcC K D
theorem call_isH {X : Cx} {D : Addr} {d : Option Addr} {p : Addr × Obj} (e : ErrP X.K D d p) (hp : p ∈ X.pn) : CallR X (.builtin "isinstance") (rIsD X.K D p.1 d) := by
  intro pins s σ H xs us Q I r h
  obtain ⟨c, cv, b, rfl, hcv, hk, hd, q⟩ := h
  match us, r with
  | _, .cons rx (.cons rt .nil) =>
    cases rx
    have ec := hcv _ rt
    subst ec
    have hget := (I.pin p (List.mem_append_left _ hp)).1
    have J : ∃ od, PySem.W.InstAt s.heap p.1 p.2 D od := by
      obtain ⟨a, oc, od, oda, osl⟩ := p
      obtain ⟨h1, h2, ⟨vs, hv⟩, _⟩ := e
      dsimp only at h1 h2 hv
      subst h1 h2 hv
      cases od with
      | none => exact ⟨none, hget, rfl, rfl, trivial⟩
      | some dd =>
        obtain ⟨fs, hf⟩ := hd dd rfl
        have ok : ObjOk X.prog X.w H s.heap dd (.xd fs) := I.hok dd _ hf
        obtain ⟨mA, ⟨o, es, ep, ho, _⟩, _⟩ := ok
        exact ⟨some o, hget, rfl, rfl, ho⟩
    obtain ⟨od, J⟩ := J
    exact PySem.W.kia_one (kitx_any e.exc) I.kIn J hk (fun z => nomatch z) fun tk => ⟨.bl b, H, I.kept (t' := tk) fun _ _ z => z, rfl, q⟩
/-- isinstance(e, C) -/
def tIs (a : Addr) (d : Option Addr) (b : Bool) : TE := fun σ H Q => σ[0]? = some (some (.ref a)) ∧ Dh d H ∧ Q (.bl b) H
theorem pe_isH {X : Cx} {D : Addr} {d : Option Addr} {p : Addr × Obj} {x y z : Str} {q q1 q2 pos : Pos} {c : V} {cv : Value} {b : Bool} (e : ErrP X.K D d p) (hp : p ∈ X.pn) (hk : PySem.W.kitOne X.K (.ref D) cv = some b) (hcv : ∀ u, L2.RelV c u → u = cv) (hc : PE X (.Name z q2) (tC c))
    (hx : x = "isinstance") (hg : Gl X x) (hm : X.mg x = none) (hN : X.N[0]? = some y := by rfl) (hv : Vis X.env.scope y := by first | exact Or.inl rfl | exact Or.inr (Or.inl rfl) | exact Or.inr (Or.inr rfl))
    (hd : (y == ("__debug__" : Str)) = false := by decide) (hcd : (y == ("__classdict__" : Str)) = false := by decide) (hn : x ≠ "__name__" := by decide) (hdb : (x == ("__debug__" : Str)) = false := by decide)
    (hs : starEach [.Name y q1, .Name z q2] X.env = (false, eval (.Name y q1) X.env) :: starEach [.Name z q2] X.env := by rfl) (hs2 : starEach [.Name z q2] X.env = (false, eval (.Name z q2) X.env) :: starEach [] X.env := by rfl) (hpl : (backTo pos (starEach [.Name z q2] X.env)).any (·.1) = false := by rfl) :
    PE X (.Call (.Name x q) [.Name y q1, .Name z q2] [] pos) (tIs p.1 d b) := by
  subst hx
  exact PE.weak (pe_callB (call_isH e hp) hg hm boot_isinstance (pa_cons (pe_var (i := 0) hN hv hd hcd) (pa_cons hc pa_nil hs2) hs) hn hdb hs hpl) fun σ H Q ⟨h1, hd, h2⟩ => ⟨.ref p.1, h1, c, cv, b, rfl, hcv, hk, hd, h2⟩
/-- all that stands stands -/
def Ext (H H' : Hp) : Prop := ∀ b o, H b = some o → H' b = some o
theorem Ext.refl (H : Hp) : Ext H H := fun _ _ h => h
theorem Ext.trans {H H1 H2 : Hp} (a : Ext H H1) (b : Ext H1 H2) : Ext H H2 := fun c o h => b c o (a c o h)
theorem Ext.new {H : Hp} {P : Addr} {o : HO} (h : H P = none) : Ext H (upd H P o) := fun b u e => by rw [upd_ne (ne_of_none e h)]; exact e
/-- the labels whose test holds -/
def picked : List Str → List Bool → List Str
  | l :: ls, b :: bs => if b then l :: picked ls bs else picked ls bs
  | _, _ => []
theorem picked_step : ∀ (ls : List Str) (bs : List Bool) (i : Nat) (l : Str) (b : Bool), ls[i]? = some l → bs[i]? = some b → picked (ls.take (i + 1)) (bs.take (i + 1)) = picked (ls.take i) (bs.take i) ++ (if b then [l] else [])
  | [], _, i, l, b, h, _ => by simp at h
  | _ :: _, [], i, l, b, _, h => by simp at h
  | x :: ls, y :: bs, 0, l, b, h1, h2 => by
    simp at h1 h2
    subst h1 h2
    cases y <;> simp [picked]
  | x :: ls, y :: bs, i + 1, l, b, h1, h2 => by
    have ih := picked_step ls bs i l b (by simpa using h1) (by simpa using h2)
    simp only [List.take_succ_cons, picked]
    rw [ih]
    cases y <;> simp
theorem picked_len : ∀ (ls : List Str) (bs : List Bool), (picked ls bs).length ≤ ls.length
  | [], _ => by simp [picked]
  | _ :: _, [] => by simp [picked]
  | x :: ls, y :: bs => by
    have := picked_len ls bs
    simp only [picked]
    split
    · simp; omega
    · simp; omega
/-- the comprehension's reading, answered -/
theorem lc_pick {K : PySem.W.Frag} {ta : TA} {σ : L2.St} {H1 : Hp} {Q : VK} {a b : Addr} {ls : List Str} {bs : List Bool} {J : It} (hJ : J = ItzH K a b) (hl : ls.length = bs.length) (hz : ls.length ≤ 1000) (h3 : 4 < σ.length) (ha : H1 a = some (.lst (ls.map V.str))) (hb : H1 b = some (.lst (bs.map V.bl)))
    (hQ : ∀ P H', H1 P = none → Ext H1 H' → H' P = some (.lst ((picked ls bs).map V.str)) → Q (.ref P) H') :
    ∀ D, H1 D = none → ∃ W : Nat → Nat → Hp → Prop, (∃ m, W 0 m (upd H1 D (.lst []))) ∧ ∀ i m H, W i m H →
      (J.stop i H ∧ Q (.ref D) H) ∨ (J.go i H ∧ ∃ Nx : Hp → Prop, (∀ H', Nx H' → ∃ m', m' < m ∧ W (i + 1) m' H') ∧ ∀ x H', J.yld i H x H' → gTup K 2 (gCons (gName 3) (gCons (gName 4) gNil)) x (wipe σ [3, 4]) H' fun σ2 H2 => wipe σ2 [3, 4] = wipe σ [3, 4] ∧ tB (tVar 4) σ2 H2 fun c H3 =>
        if c = true then tVar 3 σ2 H3 fun y H4 => ∃ acc, H4 D = some (.lst acc) ∧ acc.length < sizeLine ∧ Nx (upd H4 D (.lst (acc ++ [y]))) else Nx H3) := by
  subst hJ
  intro D hD
  have nD : ∀ c u, H1 c = some u → c ≠ D := fun c u e => ne_of_none e hD
  let W : Nat → Nat → Hp → Prop := fun i m H => (m = ls.length - i ∧ i ≤ ls.length) ∧ Ext H1 H ∧ H D = some (.lst ((picked (ls.take i) (bs.take i)).map V.str))
  refine ⟨W, ⟨ls.length, ⟨by omega, by omega⟩, Ext.new hD, by rw [upd_same]; simp [picked]⟩, ?_⟩
  rintro i m H ⟨⟨rfl, hi⟩, hE, hDl⟩
  have qa : SqL K H a (ls.map V.str) := SqL.of (hE _ _ ha)
  have qb : SqL K H b (bs.map V.bl) := SqL.of (hE _ _ hb)
  by_cases hlt : i < ls.length
  · obtain ⟨l, el⟩ : ∃ l, ls[i]? = some l := ⟨_, List.getElem?_eq_getElem hlt⟩
    obtain ⟨k, ek⟩ : ∃ k, bs[i]? = some k := ⟨_, List.getElem?_eq_getElem (by omega)⟩
    have el' : (ls.map V.str)[i]? = some (.str l) := by rw [List.getElem?_map, el] <;> rfl
    have ek' : (bs.map V.bl)[i]? = some (.bl k) := by rw [List.getElem?_map, ek] <;> rfl
    refine .inr ⟨⟨_, _, _, _, qa, qb, el', ek'⟩, fun H' => Ext H1 H' ∧ H' D = some (.lst ((picked (ls.take (i + 1)) (bs.take (i + 1))).map V.str)), fun H' ⟨e1, e2⟩ => ⟨ls.length - (i + 1), by omega, ⟨rfl, by omega⟩, e1, e2⟩, fun x H' hy => ?_⟩
    obtain ⟨T, x1, y1, rfl, hT, rfl, kx, ky⟩ := hy
    have ex := kx _ qa
    rw [el'] at ex
    cases ex
    have ey := ky _ qb
    rw [ek'] at ey
    cases ey
    have hE2 : Ext H1 (upd H T (.tup [.str l, .bl k])) := hE.trans (Ext.new hT)
    have hD2 : upd H T (.tup [.str l, .bl k]) D = some (.lst ((picked (ls.take i) (bs.take i)).map V.str)) := Ext.new hT _ _ hDl
    have wl : (wipe σ [3, 4]).length = σ.length := wipe_length ..
    refine ⟨T, [.str l, .bl k], rfl, SqT.of (upd_same), rfl, .str l, [.bl k], rfl, .bl k, [], rfl, rfl, ?_, .bl k, ?_, k, rfl, ?_⟩
    · refine wipe_eq (is := [3, 4]) (fun _ h => h) ⟨by rw [List.length_set, List.length_set], fun j hj => ?_⟩
      simp only [List.mem_cons, List.not_mem_nil, or_false, not_or] at hj
      rw [List.getElem?_set_ne (Ne.symm hj.2), List.getElem?_set_ne (Ne.symm hj.1)]
    · rw [List.getElem?_set_self (by rw [List.length_set, wl]; exact h3)]
    · have st := picked_step ls bs i l k el ek
      cases k with
      | true =>
        simp only [if_true]
        refine ⟨.str l, ?_, _, hD2, ?_, ?_, ?_⟩
        · rw [List.getElem?_set_ne (by decide), List.getElem?_set_self (by rw [wl]; omega)]
        · rw [List.length_map, sizeLine_eq]
          have := picked_len (ls.take i) (bs.take i)
          rw [List.length_take] at this
          omega
        · intro c u e
          rw [upd_ne (nD c u e)]
          exact hE2 c u e
        · rw [upd_same, st]
          simp
      | false =>
        simp only [Bool.false_eq_true, if_false]
        refine ⟨hE2, ?_⟩
        rw [hD2, st]
        simp
  · have hi2 : i = ls.length := by omega
    refine .inl ⟨⟨_, _, qa, qb, by simp; omega, by simp; omega, by simp; omega⟩, hQ D H hD hE ?_⟩
    rw [hDl, hi2]
    congr 3
    rw [List.take_of_length_le (Nat.le_refl _), List.take_of_length_le (by omega)]
/-- the body: thirteen tests, three by three, the last appended -/
abbrev tIs3 (a : Addr) (d : Option Addr) (b1 b2 b3 : Bool) : TE := tLst (tCons (tIs a d b1) (tCons (tIs a d b2) (tCons (tIs a d b3) tNil)))
abbrev tMore (a : Addr) (d : Option Addr) (b1 b2 b3 : Bool) : TS := tAsg (tOp rCat (tVar 1) (tIs3 a d b1 b2 b3)) (gName 1)
def tKin (K : PySem.W.Frag) (a : Addr) (d : Option Addr) (lab : Str) (b1 b2 b3 b4 b5 b6 b7 b8 b9 b10 b11 b12 b13 : Bool) : TS :=
  tSeq (tAsg (tIs3 a d b1 b2 b3) (gName 1)) (tSeq (tMore a d b4 b5 b6) (tSeq (tMore a d b7 b8 b9) (tSeq (tMore a d b10 b11 b12) (tSeq (tDrop (tBM K "list" rAppend (tVar 1) (tCons (tIs a d b13) tNil))) (tSeq (tAsg (tC (.str lab)) (gName 2))
    (tSeq (tRet (tM1 (fun x xs H Q => ∃ a p, ∃ ys : List Str, x = .str a ∧ xs = [.ref p] ∧ (SqL K H p (ys.map V.str) ∨ SqT K H p (ys.map V.str)) ∧ (ys.map (·.length)).sum + ys.length * a.length ≤ 16777216 ∧ Q (.str (Txt.join a ys)) H) (tC (.str " "))
      (tLc (iZipH K (tCons (tM1 (fun x xs H Q => ∃ a b, x = .str a ∧ xs = [.str b] ∧ (b.length == 0) = false ∧ a.length + 2 ≤ sizeLine ∧ rNewStrs (Txt.split a b) H Q) (tVar 2) (tC (.str " "))) (tCons (tVar 1) tNil))) (gTup K 2 (gCons (gName 3) (gCons (gName 4) gNil))) (tB (tVar 4)) (tVar 3) [3, 4]))) tNext))))))
structure KSt (a : Addr) (H0 : Hp) (bs : List Bool) (σ : L2.St) (H : Hp) : Prop where
  len : σ.length = 5
  s0 : σ[0]? = some (some (.ref a))
  s1 : ∃ P, σ[1]? = some (some (.ref P)) ∧ H0 P = none ∧ H P = some (.lst (bs.map V.bl))
  ext : Ext H0 H
theorem Ext.back {H H' : Hp} (e : Ext H H') {a : Addr} (h : H' a = none) : H a = none := by
  cases q : H a with
  | none => rfl
  | some u =>
    have := e _ _ q
    rw [h] at this
    cases this
theorem Dh.ext {d : Option Addr} {H H' : Hp} (h : Dh d H) (e : Ext H H') : Dh d H' := fun dd q => by
  obtain ⟨fs, hf⟩ := h dd q
  exact ⟨fs, e _ _ hf⟩
theorem kin_first {a : Addr} {d : Option Addr} {H : Hp} {b1 b2 b3 : Bool} {D : Ends} {σ : L2.St} (hd : Dh d H) (h0 : σ[0]? = some (some (.ref a))) (hl : σ.length = 5) (h : ∀ σ' H', KSt a H [b1, b2, b3] σ' H' → D.nx σ' H') : tAsg (tIs3 a d b1 b2 b3) (gName 1) D σ H :=
  ⟨h0, hd, h0, hd, h0, hd, show 3 ≤ sizeLine by decide, fun P n => h _ _ ⟨by rw [List.length_set]; exact hl, by rw [List.getElem?_set_ne (by decide)]; exact h0, ⟨P, List.getElem?_set_self (by omega), n, upd_same⟩, Ext.new n⟩⟩
theorem kin_more {a : Addr} {d : Option Addr} {H0 H : Hp} {bs : List Bool} {b1 b2 b3 : Bool} {D : Ends} {σ : L2.St} (hd : Dh d H0) (k : KSt a H0 bs σ H) (hb : bs.length ≤ 1000) (h : ∀ σ' H', KSt a H0 (bs ++ [b1, b2, b3]) σ' H' → D.nx σ' H') : tMore a d b1 b2 b3 D σ H := by
  obtain ⟨hl, h0, ⟨P, h1, n1, e1⟩, ex⟩ := k
  have hd' := hd.ext ex
  refine ⟨.ref P, h1, h0, hd', h0, hd', h0, hd', show 3 ≤ sizeLine by decide, fun P2 n2 => ⟨P, P2, _, _, rfl, rfl, Ext.new n2 _ _ e1, upd_same, ?_, fun P3 n3 => ?_⟩⟩
  · rw [List.length_map, sizeLine_eq]
    show bs.length + 3 ≤ _
    omega
  · have ex2 := ex.trans (Ext.new (o := .lst [.bl b1, .bl b2, .bl b3]) n2)
    refine h _ _ ⟨by rw [List.length_set]; exact hl, by rw [List.getElem?_set_ne (by decide)]; exact h0, ⟨P3, List.getElem?_set_self (by omega), ex2.back n3, ?_⟩, ex2.trans (Ext.new n3)⟩
    rw [upd_same, List.map_append]
    rfl
theorem kin_app {K : PySem.W.Frag} {a : Addr} {d : Option Addr} {H0 H : Hp} {bs : List Bool} {b : Bool} {D : Ends} {σ : L2.St} (hd : Dh d H0) (k : KSt a H0 bs σ H) (hb : bs.length ≤ 1000) (h : ∀ σ' H', KSt a H0 (bs ++ [b]) σ' H' → D.nx σ' H') : tDrop (tBM K "list" rAppend (tVar 1) (tCons (tIs a d b) tNil)) D σ H := by
  obtain ⟨hl, h0, ⟨P, h1, n1, e1⟩, ex⟩ := k
  refine ⟨.ref P, h1, .inl ⟨rfl, _, SqL.of e1⟩, h0, hd.ext ex, P, _, .bl b, rfl, rfl, e1, ?_, ?_⟩
  · rw [List.length_map, sizeLine_eq]
    omega
  · refine h _ _ ⟨hl, h0, ⟨P, h1, n1, by rw [upd_same, List.map_append]; rfl⟩, fun c u q => ?_⟩
    rw [upd_ne (ne_of_none q n1)]
    exact ex c u q
theorem kin_ans {K : PySem.W.Frag} {a : Addr} {d : Option Addr} {lab : Str} {b1 b2 b3 b4 b5 b6 b7 b8 b9 b10 b11 b12 b13 : Bool} {D : Ends} {σ : L2.St} {H : Hp} (hd : Dh d H) (h0 : σ[0]? = some (some (.ref a))) (hl : σ.length = 5) (hsp : (Txt.split lab " ").length = 13) (hlab : lab.length ≤ 1000)
    (hsum : ((picked (Txt.split lab " ") [b1, b2, b3, b4, b5, b6, b7, b8, b9, b10, b11, b12, b13]).map (·.length)).sum + (picked (Txt.split lab " ") [b1, b2, b3, b4, b5, b6, b7, b8, b9, b10, b11, b12, b13]).length * Str.length " " ≤ 16777216)
    (hQ : ∀ H', Ext H H' → D.rt (.str (Txt.join " " (picked (Txt.split lab " ") [b1, b2, b3, b4, b5, b6, b7, b8, b9, b10, b11, b12, b13]))) H') :
    tKin K a d lab b1 b2 b3 b4 b5 b6 b7 b8 b9 b10 b11 b12 b13 D σ H := by
  refine kin_first hd h0 hl fun σ1 H1 k1 => kin_more hd k1 (by simp) fun σ2 H2 k2 => kin_more hd k2 (by simp) fun σ3 H3 k3 => kin_more hd k3 (by simp) fun σ4 H4 k4 => kin_app hd k4 (by simp) fun σ5 H5 k5 => ?_
  obtain ⟨l5, s0, ⟨P, s1, nP, eP⟩, ex⟩ := k5
  have l6 : (σ5.set 2 (some (.str lab))).length = 5 := by rw [List.length_set]; exact l5
  have g2 : (σ5.set 2 (some (.str lab)))[2]? = some (some (.str lab)) := List.getElem?_set_self (by omega)
  have g1 : (σ5.set 2 (some (.str lab)))[1]? = some (some (.ref P)) := by rw [List.getElem?_set_ne (by decide)]; exact s1
  refine ⟨⟨" ", rfl⟩, .str lab, g2, ⟨lab, rfl⟩, lab, " ", rfl, rfl, by decide, by rw [sizeLine_eq]; omega, fun S nS => ?_⟩
  refine ⟨.ref P, g1, S, P, _, _, rfl, SqL.of upd_same, SqL.of (Ext.new nS _ _ eP), ?_⟩
  refine fun Dd nDd => lc_pick (K := K) (Q := fun y H2 => ∃ a p, ∃ ys : List Str, V.str " " = .str a ∧ [y] = [.ref p] ∧ (SqL K H2 p (ys.map V.str) ∨ SqT K H2 p (ys.map V.str)) ∧ (ys.map (·.length)).sum + ys.length * a.length ≤ 16777216 ∧ D.rt (.str (Txt.join a ys)) H2) (ta := tNil) (σ := σ5.set 2 (some (.str lab))) (bs := [b1, b2, b3, b4, b5, b6, b7, b8, b9, b10, b11, b12, b13]) rfl (by rw [hsp]; rfl) (by omega) (by rw [l6]; decide) upd_same (Ext.new nS _ _ eP) (fun P' H' nP' ex' eL => ?_) Dd nDd
  exact ⟨" ", P', _, rfl, rfl, .inl (SqL.of eL), hsum, hQ H' ((ex.trans (Ext.new nS)).trans ex')⟩
end Sh

set_option Elab.async false
set_option linter.all false
set_option maxRecDepth 100000
set_option maxHeartbeats 1000000
/-! a def called with the handled error; try with several clauses that name it -/
namespace Sh
open PySem PySem.Spec PyProof.Rows L2 HotX L2H LamX
section
variable {P : Program} {w : World} {K : PySem.W.Frag} {mg : Str → Option Value} {base : Heap} {x qual y : Str} {params : Arguments} {body : List Stmt} {scope : Scope} {f : Addr} {fd : FuncData} {N : List Str} {k : Nat}
/-- called while p is handled, with it -/
theorem hot_run (F : FunD K x qual params body scope [] [] f fd) (S : FnScope N [y] scope) {A : Around} {outer : List Env} {s : Shared} {H : Hp} {p : Addr × Obj} {Q : VK} (hr : RoomH (k + 1) A) (hpin : PinOk outer H s p) (e0 : Env0 P w K mg base A outer s H) (hb : BindsTo s fd ⟨[.ref p.1], []⟩ [(y, .ref p.1)])
    (hbody : ∀ cdv : Value, RoomH k (A.deeper (envOfC qual scope s.heap.objs.size f cdv)) → ∃ t, PSs (cxH C8.CX0 P w K mg base N qual scope f cdv A outer s H C8.E0 p) body t ∧ t { nx := fun _ H' => Q .non H', rt := Q } (L2.start N [.ref p.1]) H) :
    codeAny (model P w) A (.call (.ref f) ⟨[.ref p.1], []⟩) (CR C8.CX0 outer P w H s Q C8.E0) s := by
  obtain ⟨oc, od, dV, kV, doc, pm, an, cdv, ct, osl, rfl, lk, hcd, _, _⟩ := F.ex
  have KX : K.In s.heap := e0.mod.kin.keeps fun b o e => (e0.bs b o e).1
  have lim : s.heap.NoLimit := e0.mod.nolimit.keeps fun b o e => (e0.bs b o e).1
  have hkind : ∀ z ∈ [(y, Value.ref p.1)], scope.names.lookup z.1 = some .local ∨ (scope.names.lookup z.1 = some .cell ∧ ((cellsFrom (s.heap.objs.size + 1) scope.names []).lookup z.1).isSome = true) := fun z hz => by
    have ez : z = (y, Value.ref p.1) := by simpa using hz
    rw [ez]
    exact (S.par y (by simp)).imp id fun q => ⟨q, PySem.W.cellsFrom_some _ _ _ (.inl q)⟩
  refine codeAny_call_function hr.depth (KX _ _ lk) rfl S.co S.gen rfl (PySem.W.codeRec_of KX hcd) (hb _ _ _ _ (wpAny_newFunctionEnv_cells S.kind hkind fun env he s1 hx => ?_))
  subst he
  obtain ⟨t, ht, hq⟩ := hbody cdv (hr.deeper _)
  have I : Inv (cxH C8.CX0 P w K mg base N qual scope f cdv A outer s H C8.E0 p) [] (L2.start N [.ref p.1]) H s1 := inv_startH (us := [.ref p.1]) S hpin e0 rfl (.cons rfl .nil) hx
  refine ⟨lim.keeps hx.toInCall.keep, codeAny_func (wpAny_mono (ht.run [] s1 _ H _ I hq) (fun fl s' hs => ?_) fun e s' hs => hs)⟩
  have fin : ∀ {σ' : L2.St} {H' : Hp} {v : V} {u : Value}, Inv (cxH C8.CX0 P w K mg base N qual scope f cdv A outer s H C8.E0 p) [] σ' H' s' → L2.RelV v u → Q v H' → CE outer P w H s Q u s' := fun J rv q => ⟨_, _, J.os, J.bare, J.base, J.hok, rv, q⟩
  match fl, hs with
  | .ret u, ⟨v, σ', H', J, rv, q⟩ => exact fin J rv q
  | .next, ⟨σ', H', J, q⟩ => exact fin (v := V.non) (u := Value.none) J rfl q
  | .brk, ⟨_, _, _, q⟩ => exact q.elim
  | .cont, ⟨_, _, _, q⟩ => exact q.elim
/-- x(e), e the handled error's name, its slot i -/
theorem pe_hot1 {X : Cx} {p : Addr × Obj} {i : Nat} {e : Str} {q q1 pos : Pos} {sp : Hp → VK → Prop} (hot : Hot1 X.A p) (hp : p ∈ X.pn) (hg : Gl X x) (hm : X.mg x = some (.ref f)) (hk : PySem.W.keepIn X.K (.ref f) = true) (hr : RoomH (k + 1) X.A) (F : FunD X.K x qual params body scope [] [] f fd) (S : FnScope N [y] scope)
    (hb : ∀ (s : Shared) (us : List Value), us.length = 1 → BindsTo s fd ⟨us, []⟩ ([y].zip us))
    (hbody : ∀ (A : Around) (outer : List Env) (s : Shared) (H : Hp) (Q : VK) (cdv : Value), Hot1 A p → RoomH k (A.deeper (envOfC qual scope s.heap.objs.size f cdv)) → sp H Q → ∃ t, PSs (cxH C8.CX0 X.prog X.w X.K X.mg X.base N qual scope f cdv A outer s H C8.E0 p) body t ∧ t { nx := fun _ H' => Q .non H', rt := Q } (L2.start N [.ref p.1]) H)
    (hN : X.N[i]? = some e) (hv : Vis X.env.scope e) (hdb : (x == ("__debug__" : Str)) = false := by decide) (hd : (e == ("__debug__" : Str)) = false := by decide) (hcd : (e == ("__classdict__" : Str)) = false := by decide)
    (hs : starEach [.Name e q1] X.env = (false, eval (.Name e q1) X.env) :: starEach [] X.env := by rfl) (hpl : (backTo pos (starEach [] X.env)).any (·.1) = false := by rfl) :
    PE X (.Call (.Name x q) [.Name e q1] [] pos) (fun σ H Q => σ[i]? = some (some (.ref p.1)) ∧ sp H Q) := by
  refine ⟨fun pins s σ H Q I ⟨h1, h2⟩ => wpAny_Call_Name_kw (ld_glob I hg hm ?_ hdb)⟩
  have ha := pa_cons (pe_var (pos := q1) (i := i) hN hv hd hcd) pa_nil hs
  refine PySem.W.callWith_K (h₀ := X.base) I.ok.mod.kin hk (thn (ha.run pos pins s σ H (fun vs H1 => vs = [.ref p.1] ∧ H1 = H) I ⟨.ref p.1, h1, rfl, rfl⟩) fun us s1 hh => ?_) hs hpl
  obtain ⟨vs, H1, I1, r, ev, eH⟩ := hh
  subst ev
  rw [eH] at I1
  match us, r with
  | [u], .cons r1 .nil =>
    obtain rfl : u = Value.ref p.1 := r1
    have P1 := I1.pin p (List.mem_append_left _ hp)
    have hpin : PinOk X.stack H s1 p := ⟨P1.1, P1.2.1, fun hm => (List.mem_cons.mp (I1.stkSub p.1 hm)).elim P1.2.2.1 P1.2.2.2.1, P1.2.2.2.2⟩
    refine ⟨I1.kIn, wpAny_call (codeAny_mono (hot_run (Q := Q) F S hr hpin I1.env0 (hb s1 [.ref p.1] rfl) fun cdv hr2 => hbody _ _ _ _ Q cdv hot hr2 h2) fun r s' hq => ?_)⟩
    match r, hq with
    | .ok (.ret u), hq => exact I1.after hq
    | .ok .next, hq => exact hq.elim
    | .ok .brk, hq => exact hq.elim
    | .ok .cont, hq => exact hq.elim
    | .error e, hq => exact (show False from hq).elim
end
/-! ### try: .. except A as e: .. except B as e: .. -/
def unD (i : Nat) (D : Ends) : Ends := { nx := fun σ' H' => D.nx (σ'.set i none) H', rt := D.rt, bk := fun σ' H' => D.bk (σ'.set i none) H', ct := fun σ' H' => D.ct (σ'.set i none) H' }
abbrev Hnd := Value × Nat × (Addr → Value → Option Addr → TS)
def wManyAs (K : PySem.W.Frag) (Wout : WX) (D : Ends) : List Hnd → WX
  | [] => Wout
  | (c, i, ts) :: r => fun cls d σ H => ∃ b, PySem.W.exmOne K cls c = some b ∧ (b = true → ∀ a, H a = none → ts a cls d (unD i D) (σ.set i (some (.ref a))) H) ∧ (b = false → wManyAs K Wout D r cls d σ H)
inductive HdsAs (X : Cx) : List ExceptHandler → List Hnd → Prop
  | nil : HdsAs X [] []
  | cons {x n : Str} {c : Value} {i : Nat} {ts : Addr → Value → Option Addr → TS} {b₀ : Stmt} {suite : List Stmt} {np pos' : Pos} {hds : List ExceptHandler} {l : List Hnd} (hc : Names X x c) (hi : X.N[i]? = some n) (hln : X.env.kindOf n = some .local)
      (hsu : ∀ (a : Addr) (oe : Obj) (cls : Value) (d : Option Addr) (pn : List (Addr × Obj)), L2N.Zn cls d oe → (∃ vs, oe.data = .fields vs) → PSs (X.suite a ((a, oe) :: pn)) (b₀ :: suite) (ts a cls d)) (r : HdsAs X hds l) :
      HdsAs X (.ExceptHandler (some (.Name x np)) (some n) (b₀ :: suite) pos' :: hds) ((c, i, ts) :: l)
section
variable {X : Cx} {body : List Stmt} {h₀ : ExceptHandler} {hds : List ExceptHandler} {l : List Hnd} {pos : Pos} {tb : WX → TS} {Wout : WX}
/-- the clauses, asked one behind the other, e caught at a -/
theorem handle_as {pins : List (Addr × Obj)} {σ : L2.St} {H : Hp} {sI s' : Shared} {B h3 : Heap} {a : Addr} {cls : Value} {d : Option Addr} {D : Ends} (ok : X.Ok) (hs : X.stack = X.env :: X.outer) (hf : X.env.frame = some X.env.locals) (hN : X.N.Nodup) (tk : L2N.Takes X Wout)
    (J : Inv X pins σ H sI) (nb : ∀ b o, sI.heap.get? b = some o → b ∉ frs X.stack → B.get? b = some o) (up : sI.heap.UpToSlots h3) (fl3 : HandSPX.FlyingZ B (X.env :: X.outer) a (L2N.Zn cls d) h3) (na : H a = none) (os : s'.os = sI.os) (ag : AllBare s'.gens) {hds : List ExceptHandler} {l : List Hnd} (hk : HdsAs X hds l) :
    wManyAs X.K Wout D l cls d σ H → wpAny (model X.prog X.w) X.A (handleBy (.ref a) X.env hds) (SP X pins D) X.xe { s' with heap := h3 } := by
  have J3 : Inv X pins σ H { s' with heap := h3 } := J.landed nb fl3.1 up os ag
  obtain ⟨oe3, vs3, he3, hz3, hd3⟩ := fl3.there
  have nfr : a ∉ frs (X.env :: X.outer) := fun hm => by
    obtain ⟨_, o', e', hnf⟩ := fl3.2.2.1.mem hm
    rw [he3] at e'
    cases e'
    exact hnf _ hd3
  have nL : a ≠ X.env.locals := fun z => nfr (List.mem_filterMap.mpr ⟨X.env, List.mem_cons_self, by rw [hf, z]⟩)
  have nF : a ∉ X.fs := fun hm => by
    obtain ⟨e, he, q⟩ := List.mem_filterMap.mp hm
    exact nfr (List.mem_filterMap.mpr ⟨e, List.mem_cons_of_mem _ he, q⟩)
  have S3 := J3.suite he3 hd3 na nL nF
  induction hk with
  | nil =>
    intro hw
    refine wpAny_handleBy_nil ?_
    obtain ⟨k1, k2, k3, oe, vs, T, oT, ts', he, hz, hd, h1, hr⟩ := id fl3
    unfold PySem.passOn
    refine wpAny_bind (wpAny_field he hd h1 ?_)
    rw [if_neg (show ¬ ((Value.ref T == Value.none) = true) from by simp)]
    have out : wpAny (model X.prog X.w) X.A (setFlight (.ref a) X.env.frame) (fun _ s4 => wpAny (model X.prog X.w) X.A (throw (.ref a) : Sem Flow) (SP X pins D) X.xe s4) X.xe { s' with heap := h3 } := by
      rw [hf]
      exact HandSPX.setFlight_upZ fl3 fun h4 hh4 up4 => wpAny_throw (tk _ _ ⟨a, B, sI, pins, σ, H, cls, d, rfl, J, nb, up.trans up4, .inr (.inr (by rw [hs]; exact hh4)), na, os, ag, hw⟩)
    first
      | exact wpAny_bind (wpAny_pure (wpAny_bind out))
      | exact wpAny_bind out
  | @cons x n c i ts b₀ suite np pos' hds2 l2 hc hi hln hsu r ih =>
    rintro ⟨b, hb1, hyes, hno⟩
    refine wpAny_handleBy_cons (codeAny_handlers_test ?_) nofun
    have LT : PySem.W.Looks (model X.prog X.w) h3 (typeOf (.ref a)) cls := fun A Q E s k q => wpAny_typeOf_ref (k _ _ he3) (by rw [hz3.1]; exact q)
    have LM := PySem.W.exm_one (M := model X.prog X.w) J3.kIn LT hb1
    have test : ∀ {Q : Value → Shared → Prop} {E : Value → Shared → Prop}, Q c { s' with heap := h3 } → wpAny (model X.prog X.w) (X.A.mark (some (.ref a))) (eval (.Name x np) X.env) Q E { s' with heap := h3 } := fun {Q E} q => by
      obtain ⟨hg, hdbg, hm | ⟨hm, hv, hnn⟩⟩ := hc
      · exact ld_glob (X := X.suite a ((a, oe3) :: (X.pn ++ pins))) S3 hg hm q hdbg
      · exact ld_blt (X := X.suite a ((a, oe3) :: (X.pn ++ pins))) S3 hg hm hv q hnn hdbg
    refine test (LM.here ?_)
    cases b with
    | false => exact ih (hno rfl)
    | true =>
      refine codeAny_handlers_suite_as (HandSPX.lands_againZ fl3 fun h4 fl4 up4 => ?_)
      have J4 : Inv X pins σ H { s' with heap := h4 } := J.landed nb fl4.1 (up.trans up4) os ag
      obtain ⟨oe4, vs4, he4, hz4, hd4⟩ := fl4.there
      have S4 := J4.suite he4 hd4 na nL nF
      refine store_ok (X := X.suite a ((a, oe4) :: (X.pn ++ pins))) (v := .ref a) S4 hN hi (.inl hln) rfl (fun s5 S5 => wpAny_mono ((hsu a oe4 cls d (X.pn ++ pins) hz4 ⟨_, hd4⟩).run [] s5 _ H _ S5 (hyes rfl a na)) (fun f s6 hsp => ?_) fun _ _ z => z.elim) (.inr hln)
      have gone : ∀ {σ6 : L2.St} {H6 : Hp} {Q : Shared → Prop}, Inv (X.suite a ((a, oe4) :: (X.pn ++ pins))) [] σ6 H6 s6 → (∀ s7, Inv X pins (σ6.set i none) H6 s7 → Q s7) → wpAny (model X.prog X.w) X.A (do bindName X.env n .none; unbindBehindTheSuite X.env n pos') (fun _ s7 => Q s7) X.xe s6 := fun S6 hq => gone_ok (S6.unsuite ok) hN hi hln hq
      match f, hsp with
      | .next, ⟨σ6, H6, S6, q6⟩ => exact gone S6 fun s7 J7 => ⟨_, _, J7, q6⟩
      | .brk, ⟨σ6, H6, S6, q6⟩ => exact gone S6 fun s7 J7 => ⟨_, _, J7, q6⟩
      | .cont, ⟨σ6, H6, S6, q6⟩ => exact gone S6 fun s7 J7 => ⟨_, _, J7, q6⟩
      | .ret u, ⟨v6, σ6, H6, S6, r6, q6⟩ => exact gone S6 fun s7 J7 => ⟨_, _, _, J7, r6, q6⟩
theorem ps_try_manyAs (hs : X.stack = X.env :: X.outer) (hf : X.env.frame = some X.env.locals) (hN : X.N.Nodup) (tk : L2N.Takes X Wout)
    (hb : ∀ (W : WX) (pn : List (Addr × Obj)) (xe : Value → Shared → Prop), L2N.Takes (X.tr pn xe) W → PassesOwn (model X.prog X.w) X.A X.env xe → PSs (X.tr pn xe) body (tb W))
    (hh : HdsAs X (h₀ :: hds) l) : PS X (.Try body (h₀ :: hds) [] [] pos) (fun D σ H => tb (wManyAs X.K Wout D l) D σ H) := by
  refine ⟨fun pins s σ H D I h => wpAny_Try_except ?_⟩
  have ok := I.ok
  have hfr : X.A.frames = some (X.env :: X.outer) := by rw [ok.frames, hs]
  refine wpAny_mono ((hb (wManyAs X.K Wout D l) (X.pn ++ pins) (fun e s₁ => wpAny (model X.prog X.w) X.A (noteFrame e X.env) (fun _ s₂ => wpAny (model X.prog X.w) X.A (setFlight e none) (fun _ s₃ =>
    wpAny (model X.prog X.w) X.A (handleBy e X.env (h₀ :: hds)) (SP X pins D) X.xe s₃) X.xe s₂) X.xe s₁) (fun u s' xx => ?_) PassesOwn.looking).run [] s σ H D (I.toTry _) h) (fun f s1 hsp => ?_) (fun e s1 he => he)
  · obtain ⟨a, B, sI, pins', σ', H', cls, d, rfl, J', nb, up, sky, na, os, ag, hw⟩ := xx
    show wpAny (model X.prog X.w) X.A (noteFrame (.ref a) X.env) _ _ _
    rw [show (X.tr (X.pn ++ pins) (fun e s₁ => wpAny (model X.prog X.w) X.A (noteFrame e X.env) (fun _ s₂ => wpAny (model X.prog X.w) X.A (setFlight e none) (fun _ s₃ => wpAny (model X.prog X.w) X.A (handleBy e X.env (h₀ :: hds)) (SP X pins D) X.xe s₃) X.xe s₂) X.xe s₁)).stack = X.env :: X.outer from hs] at sky
    exact L2N.Sky.land L2N.Zn.steady hfr hf sky fun h3 fl3 up3 => handle_as ok hs hf hN tk (J'.ofTry ok) nb (up.trans up3) fl3 na os ag hh hw
  · match f, hsp with
    | .next, ⟨σ', H', J', q⟩ => exact wpAny_execs_nil ⟨σ', H', J'.ofTry ok, q⟩
    | .brk, ⟨σ', H', J', q⟩ => exact ⟨σ', H', J'.ofTry ok, q⟩
    | .cont, ⟨σ', H', J', q⟩ => exact ⟨σ', H', J'.ofTry ok, q⟩
    | .ret u, ⟨v, σ', H', J', r, q⟩ => exact ⟨v, σ', H', J'.ofTry ok, r, q⟩
end
end Sh

set_option Elab.async false
set_option linter.all false
set_option maxRecDepth 100000
set_option maxHeartbeats 1000000
/-! a lambda handed to the def that tries it -/
namespace Sh
open PySem PySem.Spec PyProof.Rows L2 HotX L2H LamX
/-! ### the lambda's body -/
/-- the context of the lambda's body: what is raised there bears no context -/
def lamCxN (X : Cx) (A : Around) (outer : List Env) (s : Shared) (H : Hp) (E : XK) (scope : Scope) (f c' : Addr) : Cx :=
  { lamCx X A outer s H E scope f c' with
    xe := fun e s' => wpAny (model X.prog X.w) (A.deeper (lamEnv X scope s.heap.objs.size f c')) (leaving (lamEnv X scope s.heap.objs.size f c') e) (fun _ s'' => L2N.CX X.prog X.w outer H s E e s'') (fun e' s'' => L2N.CX X.prog X.w outer H s E e' s'') s' }
theorem lamCxN_of {X : Cx} {A : Around} {outer : List Env} {s s1 : Shared} {H H1 : Hp} {E : XK} {scope : Scope} {f c' : Addr} {σ : L2.St} {pins : List (Addr × Obj)} (I : Inv (lamCx X A outer s H E scope f c') pins σ H1 s1) : Inv (lamCxN X A outer s H E scope f c') pins σ H1 s1 := by
  have o := I.ok
  exact ⟨⟨o.mod, o.kind, o.glob, o.blt, o.above, o.inj, o.has, o.cab, o.hd, o.frames, o.stk, o.exf, o.bs, o.bsz, o.noex, o.exfs, o.funs, o.frf⟩, I.os, I.bare, I.base, I.loc, I.cell, I.free, I.freeC, I.pin, I.hok, I.len⟩
theorem lam_takes {X : Cx} {A : Around} {outer : List Env} {s : Shared} {H : Hp} {E : XK} {scope : Scope} {f c' : Addr} : L2N.Takes (lamCxN X A outer s H E scope f c') (fun c d _ H => E c d H) := L2N.takes_of rfl rfl rfl rfl
section
variable {X : Cx} {pins : List (Addr × Obj)} {σ : L2.St} {H HZ : Hp} {s s1 : Shared}
/-- its call, in the def that got it -/
theorem pe_actN {Eg : XK} {Ng : List Str} {qg : Str} {sg : Scope} {g f c' : Addr} {cdg pm ctv : Value} {params : Arguments} {body : Expr} {scope : Scope} {k i : Nat} {a : Str} {pn : List (Addr × Obj)} {xe : Value → Shared → Prop} {W : WX} {E : XK} {tb : TE} {p1 p2 : Pos}
    (I : Inv X pins σ H s) (L : LamS X.env.scope scope) (hf : s.heap.get? f = some (PySem.W.kla_obj "<lambda>" (X.env.qual ++ "<lambda>") params body scope (cloFrom X.env.cells scope.names []) pm c' ctv)) (hfn : H f = none) (hfr : f ∉ frs X.stack)
    (hbind : bindArgs (PySem.W.kla_fn "<lambda>" (X.env.qual ++ "<lambda>") params body scope (cloFrom X.env.cells scope.names []) pm (.ref c') ctv) ⟨[], []⟩ = pure [])
    (tk : L2N.Takes ((cxOf C8.CX0 X.prog X.w X.K X.mg X.base Ng qg sg g cdg X.A X.stack s H Eg).tr pn xe) W) (hW : ∀ cls d σ' H', E cls d H' → W cls d σ' H') (hr : Room (k + 1) (X.A.deeper (envOfC qg sg s.heap.objs.size g cdg)))
    (hbody : ∀ (A : Around) (outer : List Env) (s : Shared) (H : Hp), Room k (A.deeper (lamEnv X scope s.heap.objs.size f c')) → PE (lamCxN X A outer s H E scope f c') body tb)
    (hN : Ng[i]? = some a) (hv : Vis sg a) (hd : (a == ("__debug__" : Str)) = false) (hcd : (a == ("__classdict__" : Str)) = false) :
    PE ((cxOf C8.CX0 X.prog X.w X.K X.mg X.base Ng qg sg g cdg X.A X.stack s H Eg).tr pn xe) (.Call (.Name a p1) [] [] p2)
      (fun σZ HZ Q => σZ[i]? = some (some (.ref f)) ∧ HZ c' = some (CodeO c' (X.env.qual ++ "<lambda>")) ∧ tb σ HZ Q) := by
  refine ⟨fun pinsZ sZ σZ HZ Q IZ ⟨hs, hc, ht⟩ => ?_⟩
  refine wpAny_Call_Name_kw (thn ((pe_var (pos := p1) (i := i) hN hv hd hcd).run pinsZ sZ σZ HZ (fun v H1 => v = .ref f ∧ H1 = HZ) IZ ⟨.ref f, hs, rfl, rfl⟩) fun u s1 ⟨v, H1, I1, r1, ev, eH⟩ => ?_)
  subst ev
  rw [eH] at I1
  obtain rfl : u = Value.ref f := r1
  have un : Un (frs X.stack) [] H HZ s.heap s1.heap := I1.base
  have of1 := un.keep f _ hf hfn hfr (by simp)
  obtain ⟨⟨oc, vs, t, hoc, hdc, hvc⟩, _, _⟩ := I1.hok c' _ hc
  refine PySem.W.callWith_F0 ⟨_, _, _, _, of1⟩ (wpAny_call (codeAny_mono (R := CR (L2N.CX X.prog X.w) (envOfC qg sg s.heap.objs.size g cdg :: X.stack) X.prog X.w HZ s1 Q E) ?_ fun r s' hq => ?_))
  · refine PySem.W.kla_callFunE hr.depth of1 rfl L.co L.gen rfl ⟨c', oc, vs, t, rfl, hoc, hdc, hvc⟩ ?_
    refine wpAny_of_eq hbind (wpAny_newFunctionEnv (fun y hy => (L.own y hy).2) (fun y hy => absurd hy (by simp)) (fun h₁ hns hsb => ⟨I1.nolimit.fresh _ hsb, ?_⟩) L.kind)
    have J := lamCxN_of (lam_start2 (tk := s1.toks + ([] : List (Str × Value)).length) (A := X.A.deeper (envOfC qg sg s.heap.objs.size g cdg)) (outer := envOfC qg sg s.heap.objs.size g cdg :: X.stack) (E := E) (f := f) (c' := c') I L I1.env0 hr.hd un hns fun b o e => hsb.extBut b o (Nat.ne_of_lt (Heap.lt_size e)) (Heap.get?_push_of_some _ e))
    refine PySem.W.kla_codeExpr (wpAny_mono ((hbody _ _ s1 HZ (hr.deeper _)).run [] _ _ HZ Q J ht) (fun v s' hq => ?_) fun e s' hq => hq)
    obtain ⟨w', H', J', rv, q⟩ := hq
    exact ⟨w', H', J'.os, J'.bare, J'.base, J'.hok, rv, q⟩
  · match r, hq with
    | .error e, hq => exact L2N.passes_call tk hW pinsZ σZ HZ s1 e s' I1 hq
    | .ok (.ret u), hq => exact I1.after hq
    | .ok .next, hq => exact hq.elim
    | .ok .brk, hq => exact hq.elim
    | .ok .cont, hq => exact hq.elim
end
/-- the def at g: it calls what it got, and catches -/
def GivesN (X : Cx) (k : Nat) (Ng : List Str) (x : Str) (sg : Scope) (g : Addr) (bg : List Stmt) (a : Str) (q : Str) (TT : (XK → Hp → VK → Prop) → Hp → VK → Prop) : Prop :=
  ∀ (cdg : Value) (f c' : Addr) (s : Shared) (H : Hp) (Q : VK) (tl : XK → Hp → VK → Prop), Room (k + 1) (X.A.deeper (envOfC x sg s.heap.objs.size g cdg)) →
    (∀ (W : WX) (pn : List (Addr × Obj)) (xe : Value → Shared → Prop) (E : XK) (p1 p2 : Pos), L2N.Takes ((cxOf C8.CX0 X.prog X.w X.K X.mg X.base Ng x sg g cdg X.A X.stack s H C8.E0).tr pn xe) W → (∀ cls d σ' H', E cls d H' → W cls d σ' H') →
      PE ((cxOf C8.CX0 X.prog X.w X.K X.mg X.base Ng x sg g cdg X.A X.stack s H C8.E0).tr pn xe) (.Call (.Name a p1) [] [] p2) (fun σZ HZ Q => σZ[0]? = some (some (.ref f)) ∧ HZ c' = some (CodeO c' q) ∧ tl E HZ Q)) →
    H c' = some (CodeO c' q) → TT tl H Q →
    ∃ t, PSs (cxOf C8.CX0 X.prog X.w X.K X.mg X.base Ng x sg g cdg X.A X.stack s H C8.E0) bg t ∧ t { nx := fun _ H' => Q .non H', rt := Q } (L2.start Ng [.ref f]) H
/-- x(lambda: body) -/
theorem pe_lamN {X : Cx} {T : List (Addr × Str)} {TT : (XK → Hp → VK → Prop) → Hp → VK → Prop} {x a : Str} {g c P : Addr} {k : Nat} {pg : Arguments} {bg : List Stmt} {sg : Scope} {fdg : FuncData} {Ng : List Str} {params : Arguments} {body : Expr} {scope : Scope} {t : XK → TE} {p lpos pos : Pos}
    (hg : Gl X x) (hm : X.mg x = some (.ref g)) (Fg : FunD X.K x x pg bg sg [] [] g fdg) (hb : ∀ (s : Shared) (us : List Value), us.length = 1 → BindsTo s fdg ⟨us, []⟩ ([a].zip us)) (Sg : FnScope Ng [a] sg) (hNg : Ng[0]? = some a) (hva : Vis sg a)
    (hG : GivesN X k Ng x sg g bg a (X.env.qual ++ "<lambda>") TT)
    (TB : TabB X.base X.mg c P) (hcode : X.env.code = .ref c) (hmT : (P, X.env.qual ++ "<lambda>") ∈ T) (hu : ∀ p ∈ T, p.1 = P → p.2 = X.env.qual ++ "<lambda>") (hr : Room (k + 2) X.A) (L : LamS X.env.scope scope) (hdef : defaultsOf params X.env = ([], []))
    (hbind : ∀ (q : Str) (cl : List (Str × Addr)) (pm cv ctv : Value), bindArgs (PySem.W.kla_fn "<lambda>" q params body scope cl pm cv ctv) ⟨[], []⟩ = pure [])
    (hbody : ∀ (A : Around) (outer : List Env) (s : Shared) (H : Hp) (E : XK) (f c' : Addr), Room k (A.deeper (lamEnv X scope s.heap.objs.size f c')) → PE (lamCxN X A outer s H E scope f c') body (t E))
    (hdb : (x == ("__debug__" : Str)) = false := by decide) (hd : (a == ("__debug__" : Str)) = false := by decide) (hcd : (a == ("__classdict__" : Str)) = false := by decide) :
    PE X (.Call (.Name x p) [.Lambda params body scope lpos] [] pos) (tLam T TT t) := by
  refine ⟨fun pins s σ H Q I ⟨hT, h⟩ => wpAny_Call_Name_kw (ld_glob I hg hm ?_ hdb)⟩
  refine PySem.W.callWith_K (h₀ := X.base) I.ok.mod.kin Fg.kp ?_ (by rfl) (by rfl)
  show wpAny _ _ (spliced ((false, eval (.Lambda params body scope lpos) X.env) :: backTo pos (starEach [] X.env))) _ _ s
  refine Calls.spliced_cons (lam_make2 I TB hcode hmT hu hT hdef (L.has I.ok) fun f c' pm' ctv H1 s' I1 eN T1 hf hfn hfr hco => Calls.spliced_nil ⟨I1.kIn, ?_⟩)
  have bb : BindsTo s' fdg ⟨[.ref f], []⟩ [(a, .ref f)] := hb s' [.ref f] rfl
  obtain ⟨oc, od, dV, kV, doc, pm, an, cdv, ct, osl, rfl, lk, hcd2, _, _⟩ := Fg.ex
  refine wpAny_call (codeAny_mono (R := CR C8.CX0 X.stack X.prog X.w H1 s' Q C8.E0) ?_ fun r s2 hq => ?_)
  · refine run_ofS (N := Ng) (ps := [a]) (us := [.ref f]) (vs := [.ref f]) lk hcd2 Sg hr I1.env0 bb (.cons rfl .nil) rfl fun hr' => ?_
    exact hG cdv f c' s' H1 Q (fun E H' Q' => t E σ H' Q') hr' (fun W pn xe E p1 p2 tk hW => pe_actN (i := 0) I1 L hf hfn hfr (hbind _ _ _ _ _) tk hW hr' (fun A outer s H hr2 => hbody A outer s H E f c' hr2) hNg hva hd hcd) hco (h H1 eN T1)
  · match r, hq with
    | .error e, hq => exact (show False from hq).elim
    | .ok (.ret u), hq => exact I1.after hq
    | .ok .next, hq => exact hq.elim
    | .ok .brk, hq => exact hq.elim
    | .ok .cont, hq => exact hq.elim
/-! ### the heap with more code -/
theorem StR.extN {K : PySem.W.Frag} {T : Tb} {μ : List Addr} {g : Gs} {ρ : En} {σ : L2.St} {H H1 : Hp} (s : StR K T μ g ρ σ H) (e : ExtN H H1) (t : Tabs T.t H1) : StR K T μ g ρ σ H1 ∧ Ex μ H μ H1 := by
  have ht : ∀ a vs, TupAt K H μ (ow T ρ σ) a vs → TupAt K H1 μ (ow T ρ σ) a vs := fun a vs t => t.imp (fun ⟨q, n⟩ => ⟨e _ _ q (tup_nt _), n⟩) id
  have hl : ∀ a vs, LstAt K H μ (ow T ρ σ) a vs → LstAt K H1 μ (ow T ρ σ) a vs := fun a vs t => t.imp (fun ⟨r, n⟩ => ⟨r.imp (fun q => e _ _ q (lst_nt _)) fun ⟨ob, q⟩ => ⟨ob, e _ _ q (frz_nt _ _)⟩, n⟩) id
  have hdc : ∀ a ks vs, DicAt H μ (ow T ρ σ) a ks vs → DicAt H1 μ (ow T ρ σ) a ks vs := fun a ks vs ⟨q, n⟩ => ⟨e _ _ q (dK_nt _), n⟩
  have hr := Rp.mapP ht hl (fun _ _ h => h) hdc
  have hrs := Rps.mapP ht hl (fun _ _ h => h) hdc
  refine ⟨⟨s.len, s.nd, fun l a x e1 e2 => (s.gl l a x e1 e2).mapP (fun u q z => e _ _ q fun ps y => ?_) hr hrs fun dx n1 n2 q => ⟨e _ _ q (fun ps y => by cases y), n1, n2⟩, s.el, fun i x q => ?_, fun i xs q => ?_, s.sep, fun a q => ⟨(s.ob a q).1.imp fun vs z => e _ _ z (lst_nt _), (s.ob a q).2⟩, s.os, t⟩, ⟨⟨[], by simp⟩, fun a u q n m => ⟨e _ _ q n, m⟩, fun a u q n => ⟨u, e _ _ q n, n⟩⟩⟩
  · subst y
    rcases z with ⟨xs, z⟩ | ⟨C, dx, fs, z⟩ <;> cases z
  · obtain ⟨v, e1, r⟩ := s.en i x q
    exact ⟨v, e1, hr _ _ r⟩
  · obtain ⟨a, vs, e1, e2, n, r⟩ := s.em i xs q
    exact ⟨a, vs, e1, e _ _ e2 (lst_nt _), n, hrs _ _ r⟩
theorem StR.extE {K : PySem.W.Frag} {T : Tb} {μ : List Addr} {g : Gs} {ρ : En} {σ : L2.St} {H H1 : Hp} (s : StR K T μ g ρ σ H) (e : Ext H H1) : StR K T μ g ρ σ H1 ∧ Ex μ H μ H1 := s.extN (fun b o h _ => e b o h) (s.tb.ext e)
/-! ### the words of an error -/
def plainN : List Str := ["InvalidLock", "InvalidNumber", "InvalidSetting", "InvalidScript", "InvalidWheel", "InvalidFelt", "InvalidTurn", "InvalidIndex", "Unlike", "NothingToUndo"]
def kinLab : Str := "lock number setting script wheel felt turn index unlike undo many text +"
def kinStr (c : Str) : Str := Txt.join " " (picked (Txt.split kinLab " ") [decide (c = "InvalidLock"), decide (c = "InvalidNumber"), decide (c = "InvalidSetting"), decide (c = "InvalidScript"), decide (c = "InvalidWheel"), decide (c = "InvalidFelt"), decide (c = "InvalidTurn"), decide (c = "InvalidIndex"), decide (c = "Unlike"), decide (c = "NothingToUndo"), decide (c = "TooMany"), decide (c = "InvalidText"), true])
/-- what the fragment must say of the classes -/
def excCB (K : PySem.W.Frag) (D : Addr) : Bool :=
  decide (PySem.W.findIn K (.ref D) "__getattribute__" = some (some (.builtin "BaseException.__getattribute__"))) && (decide (PySem.W.findIn K (.ref D) "__getattr__" = some none) && (decide (PySem.W.subIn K (.ref D) (.type "BaseException") = some true) && (PySem.W.hasDictIn K D && (decide (PySem.W.findIn K (.ref D) "__class__" = some (some (.builtin "object.__class__"))) &&
    (decide (PySem.W.specialIn K (.builtin "object.__class__") "__get__" = some (some (.builtin "getset_descriptor.__get__"))) && (decide (PySem.W.takesIn K (.builtin "object.__class__") = some true) && decide (PySem.W.mroIn K D (.type "object") = some true)))))))
theorem excCB_ok {K : PySem.W.Frag} {D : Addr} (h : excCB K D = true) : ExcC K D := by
  unfold excCB at h
  simp only [Bool.and_eq_true, decide_eq_true_eq] at h
  obtain ⟨h1, h2, h3, h4, h5, h6, h7, h8⟩ := h
  exact ⟨h1, h2, h3, h4, h5, h6, h7, h8⟩
def allN : List Str := ["InvalidLock", "InvalidNumber", "InvalidSetting", "InvalidScript", "InvalidWheel", "InvalidFelt", "InvalidTurn", "InvalidIndex", "Unlike", "NothingToUndo", "TooMany", "InvalidText"]
/-- of each error -/
def kinB0 (K : PySem.W.Frag) (c : Str) : Bool :=
  excCB K (He.ga K c) && ((allN.all fun (n : Str) => decide (PySem.W.kitOne K (.ref (He.ga K c)) (.ref (He.ga K n)) = some (decide (c = n)))) && decide (PySem.W.kitOne K (.ref (He.ga K c)) (.type "ValueError") = some true))
structure Kin0 (K : PySem.W.Frag) (c : Str) : Prop where
  exc : ExcC K (He.ga K c)
  kit : ∀ n ∈ allN, PySem.W.kitOne K (.ref (He.ga K c)) (.ref (He.ga K n)) = some (decide (c = n))
  ve : PySem.W.kitOne K (.ref (He.ga K c)) (.type "ValueError") = some true
theorem kinB0_ok {K : PySem.W.Frag} {c : Str} (h : kinB0 K c = true) : Kin0 K c := by
  unfold kinB0 at h
  simp only [Bool.and_eq_true, decide_eq_true_eq, List.all_eq_true] at h
  obtain ⟨h1, h2, h3⟩ := h
  exact ⟨excCB_ok h1, h2, h3⟩
def exmB (K : PySem.W.Frag) (c n : Str) (b : Bool) : Bool := decide (PySem.W.exmOne K (.ref (He.ga K c)) (.ref (He.ga K n)) = some b)
theorem exmB_ok {K : PySem.W.Frag} {c n : Str} {b : Bool} (h : exmB K c n b = true) : PySem.W.exmOne K (.ref (He.ga K c)) (.ref (He.ga K n)) = some b := of_decide_eq_true h
/-- an error with a text alone -/
def kinB1 (K : PySem.W.Frag) (c : Str) : Bool := kinB0 K c && (exmB K c "InvalidText" false && (exmB K c "TooMany" false && exmB K c "LockError" true))
structure Kin1 (K : PySem.W.Frag) (c : Str) : Prop extends Kin0 K c where
  xt : PySem.W.exmOne K (.ref (He.ga K c)) (.ref (He.ga K "InvalidText")) = some false
  xm : PySem.W.exmOne K (.ref (He.ga K c)) (.ref (He.ga K "TooMany")) = some false
  xl : PySem.W.exmOne K (.ref (He.ga K c)) (.ref (He.ga K "LockError")) = some true
theorem kinB1_ok {K : PySem.W.Frag} {c : Str} (h : kinB1 K c = true) : Kin1 K c := by
  unfold kinB1 at h
  simp only [Bool.and_eq_true] at h
  obtain ⟨h1, h2, h3, h4⟩ := h
  exact ⟨kinB0_ok h1, exmB_ok h2, exmB_ok h3, exmB_ok h4⟩
/-- the two errors with a field -/
def fldB (K : PySem.W.Frag) (c f : Str) : Bool := kinB0 K c && (L2.xfB K (He.ga K c) && decide (PySem.W.findIn K (.ref (He.ga K c)) f = some none))
structure KinF (K : PySem.W.Frag) (c f : Str) : Prop extends Kin0 K c where
  xf : L2.XfC K (He.ga K c)
  no : PySem.W.findIn K (.ref (He.ga K c)) f = some none
theorem fldB_ok {K : PySem.W.Frag} {c f : Str} (h : fldB K c f = true) : KinF K c f := by
  unfold fldB at h
  simp only [Bool.and_eq_true, decide_eq_true_eq] at h
  obtain ⟨h1, h2, h3⟩ := h
  exact ⟨kinB0_ok h1, L2.xfB_ok h2, h3⟩
def kinB (K : PySem.W.Frag) : Bool := plainN.all (kinB1 K) && (fldB K "InvalidText" "line" && (fldB K "TooMany" "limit" && (exmB K "InvalidText" "InvalidText" true && (exmB K "TooMany" "InvalidText" false && exmB K "TooMany" "TooMany" true))))
structure KinA (K : PySem.W.Frag) : Prop where
  plain : ∀ c ∈ plainN, Kin1 K c
  text : KinF K "InvalidText" "line"
  many : KinF K "TooMany" "limit"
  tt : PySem.W.exmOne K (.ref (He.ga K "InvalidText")) (.ref (He.ga K "InvalidText")) = some true
  mt : PySem.W.exmOne K (.ref (He.ga K "TooMany")) (.ref (He.ga K "InvalidText")) = some false
  mm : PySem.W.exmOne K (.ref (He.ga K "TooMany")) (.ref (He.ga K "TooMany")) = some true
theorem kinA_ok {K : PySem.W.Frag} (h : kinB K = true) : KinA K := by
  unfold kinB at h
  simp only [Bool.and_eq_true] at h
  obtain ⟨h1, h2, h3, h4, h5, h6⟩ := h
  exact ⟨fun c hc => kinB1_ok (List.all_eq_true.mp h1 c hc), fldB_ok h2, fldB_ok h3, exmB_ok h4, exmB_ok h5, exmB_ok h6⟩
theorem KinA.all {K : PySem.W.Frag} (k : KinA K) : ∀ c ∈ allN, Kin0 K c := fun c hc => by
  have : c ∈ plainN ∨ c = "TooMany" ∨ c = "InvalidText" := by
    revert c
    decide +kernel
  rcases this with h | rfl | rfl
  · exact (k.plain c h).toKin0
  · exact k.many.toKin0
  · exact k.text.toKin0
theorem plain_all : ∀ c ∈ plainN, c ∈ allN := by decide +kernel
/-! ### try -/
def fieldN : List (Str × Str) := [("InvalidText", "line"), ("TooMany", "limit")]
/-- what the def that tries makes of an error -/
def tryE (K : PySem.W.Frag) (Q : VK) : XK := fun cls d H' => (∃ c, c ∈ plainN ∧ cls = .ref (He.ga K c) ∧ d = none ∧ ∀ H'', Ext H' H'' → Q (.str (kinStr c)) H'') ∨
  ∃ cf dd v, cf ∈ fieldN ∧ cls = .ref (He.ga K cf.1) ∧ d = some dd ∧ H' dd = some (.xd [(cf.2, v)]) ∧ ∀ H'', Ext H' H'' → ∀ p, H'' p = none → Q (.ref p) (upd H'' p (.tup [.str (kinStr cf.1), v]))
def TTry (K : PySem.W.Frag) : (XK → Hp → VK → Prop) → Hp → VK → Prop := fun tl H Q =>
  tl (tryE K Q) H fun v H1 => ∀ p, H1 p = none → Q (.ref p) (upd H1 p (.tup [.str "told", v]))
theorem PSs.exi {X : Cx} {α : Type} {st : List Stmt} {P : α → Prop} {t : α → TS} (h : ∀ c, P c → PSs X st (t c)) : PSs X st (fun D σ H => ∃ c, P c ∧ t c D σ H) := ⟨fun pins s σ H D I ⟨c, hp, q⟩ => (h c hp).run pins s σ H D I q⟩
theorem PSs.no {X : Cx} {st : List Stmt} : PSs X st (fun _ _ _ => False) := ⟨fun _ _ _ _ _ _ h => h.elim⟩
theorem takes_len {X : Cx} {W : WX} (tk : L2N.Takes X W) : L2N.Takes X (fun cls d σ H => σ.length = X.N.length → W cls d σ H) :=
  fun u s' ⟨a, B, sI, pins, σ, H, cls, d, e, I, nb, up, sky, na, os, ag, w⟩ => tk u s' ⟨a, B, sI, pins, σ, H, cls, d, e, I, nb, up, sky, na, os, ag, w I.len⟩
def spKin (c : Str) (H : Hp) (Q : VK) : Prop := ∀ H', Ext H H' → Q (.str (kinStr c)) H'
def spKinD (c : Str) (d : Option Addr) (H : Hp) (Q : VK) : Prop := Dh d H ∧ spKin c H Q
def ts3 (K : PySem.W.Frag) (a : Addr) (cls : Value) (d : Option Addr) : TS := fun D σ H => ∃ c, (c ∈ plainN ∧ cls = .ref (He.ga K c) ∧ d = none) ∧ tSeq (tAsg (fun σ H Q => σ[2]? = some (some (.ref a)) ∧ spKinD c d H Q) (gName 1)) tNext D σ H
/-- a clause that tells a field, too -/
def tsF (K : PySem.W.Frag) (c f : Str) (a : Addr) (cls : Value) (d : Option Addr) : TS := fun D σ H => ∃ _u : Unit, cls = .ref (He.ga K c) ∧
  tSeq (tAsg (tTup (tCons (fun σ H Q => σ[2]? = some (some (.ref a)) ∧ spKinD c d H Q) (tCons (tXf a cls d (He.ga K c) f (tVar 2)) tNil))) (gName 1)) tNext D σ H
section
variable {X : Cx} {k : Nat} {x a e fo kn : Str} {sg sk : Scope} {g gk : Addr} {q : Str} {fdk : FuncData} {pk : Arguments} {bk : List Stmt} {Nk : List Str} {ke : Str} {t1 t2 tl : Str} {j1 j2 k1 : Nat} {kk1 kk2 : Nat} {f1 f2 : Str} {pa pb pc pd pe pf pg ph pi pj pk1 pk2 pl pm pnn pq : Pos} {p1 p2 p3 p4 p5 p6 p7 p8 p9 p10 p11 p12 p13 p14 p15 p16 p17 p18 p19 p20 p21 p22 p23 : Pos}
/-- the def that tries: its head -/
structure TryH (X : Cx) (x a fo e kn : Str) (sg : Scope) (t1 t2 tl : Str) (gk : Addr) : Prop where
  nd : [a, fo, e].Nodup
  lfo : sg.names.lookup fo = some .local
  le : sg.names.lookup e = some .local
  g1 : sg.names.lookup t1 = some .globalImplicit
  g2 : sg.names.lookup t2 = some .globalImplicit
  g3 : sg.names.lookup tl = some .globalImplicit
  lgk : sg.names.lookup kn = some .globalImplicit
  m1 : X.mg t1 = some (.ref (He.ga X.K "InvalidText"))
  m2 : X.mg t2 = some (.ref (He.ga X.K "TooMany"))
  m3 : X.mg tl = some (.ref (He.ga X.K "LockError"))
  mn : X.mg kn = some (.ref gk)
  n1 : (t1 == ("__debug__" : Str)) = false
  n2 : (t2 == ("__debug__" : Str)) = false
  n3 : (tl == ("__debug__" : Str)) = false
  n4 : (kn == ("__debug__" : Str)) = false
  n5 : (e == ("__debug__" : Str)) = false
  n6 : (e == ("__classdict__" : Str)) = false
  n7 : (fo == ("__debug__" : Str)) = false
  n8 : (fo == ("__classdict__" : Str)) = false
theorem try_gives (T : TryH X x a fo e kn sg t1 t2 tl gk) (hf1 : f1 = "line") (hf2 : f2 = "limit") (hk : KinA X.K) (Fk : FunD X.K kn kn pk bk sk [] [] gk fdk) (Sk : FnScope Nk [ke] sk) (hbk : ∀ (s : Shared) (us : List Value), us.length = 1 → BindsTo s fdk ⟨us, []⟩ ([ke].zip us))
    (hbody : ∀ (A : Around) (outer : List Env) (s : Shared) (H : Hp) (Q : VK) (cdv : Value) (p : Addr × Obj) (c : Str) (d : Option Addr), c ∈ allN → ErrP X.K (He.ga X.K c) d p → Hot1 A p → RoomH k (A.deeper (envOfC kn sk s.heap.objs.size gk cdv)) → spKinD c d H Q →
      ∃ t, PSs (cxH C8.CX0 X.prog X.w X.K X.mg X.base Nk kn sk gk cdv A outer s H C8.E0 p) bk t ∧ t { nx := fun _ H' => Q .non H', rt := Q } (L2.start Nk [.ref p.1]) H) :
    GivesN X k [a, fo, e] x sg g [.Assign [.Name fo p1] (.Constant .none j1 p2) p3, .Try [.Assign [.Name fo p4] (.Tuple [.Constant (.str "told") j2 p5, .Call (.Name a p6) [] [] p7] k1 p8) p9]
      [.ExceptHandler (some (.Name t1 p10)) (some e) [.Assign [.Name fo pa] (.Tuple [.Call (.Name kn pb) [.Name e pc] [] pd, .Attribute (.Name e pe) f1 pf] kk1 pg) ph] p11,
        .ExceptHandler (some (.Name t2 p12)) (some e) [.Assign [.Name fo pi] (.Tuple [.Call (.Name kn pj) [.Name e pk1] [] pk2, .Attribute (.Name e pl) f2 pm] kk2 pnn) pq] p13,
        .ExceptHandler (some (.Name tl p14)) (some e) [.Assign [.Name fo p15] (.Call (.Name kn p16) [.Name e p17] [] p18) p19] p20] [] [] p21, .Return (some (.Name fo p22)) p23] a q (TTry X.K) := by
  subst hf1
  subst hf2
  intro cdg f c' s H Q tt hr act hc hT
  have kin : ∀ {pn : List (Addr × Obj)} {q1 q2 q3 : Pos} (a0 : Addr) (oe : Obj) (cls : Value) (d : Option Addr) (c : Str) (hc : c ∈ allN), cls = .ref (He.ga X.K c) → L2N.Zn cls d oe → (∃ vs, oe.data = .fields vs) →
      PE ((cxOf C8.CX0 X.prog X.w X.K X.mg X.base [a, fo, e] x sg g cdg X.A X.stack s H C8.E0).suite a0 ((a0, oe) :: pn)) (.Call (.Name kn q1) [.Name e q2] [] q3) (fun σ H Q => σ[2]? = some (some (.ref a0)) ∧ spKinD c d H Q) := fun a0 oe cls d c hc ecls hz hf =>
    pe_hot1 (p := (a0, oe)) (i := 2) (k := k) (sp := spKinD c d) (hf.elim fun vs h => ⟨rfl, vs, h, hz.2.2 vs h⟩) (List.mem_cons_self ..) T.lgk T.mn Fk.kp ⟨hr.dp, hr.un⟩ Fk Sk hbk
      (fun A outer s H Q cdv hot hr2 hs => hbody A outer s H Q cdv (a0, oe) c d hc ⟨hz.1.trans ecls, hz.2.1, hf, (hk.all c hc).exc⟩ hot hr2 hs) rfl (.inl T.le) T.n4 T.n5 T.n6
  have hd : PSs (cxOf C8.CX0 X.prog X.w X.K X.mg X.base [a, fo, e] x sg g cdg X.A X.stack s H C8.E0) _ _ := pss_cons (ps_set (i := 1) (pos := p3) (pos' := p1) (x := fo) T.nd rfl (.inl T.lfo) (pe_non (j := j1) (pos := p2)) (hf := .inr T.lfo)) (pss_cons
    (ps_try_manyAs (pos := p21) (Wout := fun _ _ _ _ => False) (l := [(.ref (He.ga X.K "InvalidText"), 2, tsF X.K "InvalidText" "line"), (.ref (He.ga X.K "TooMany"), 2, tsF X.K "TooMany" "limit"), (.ref (He.ga X.K "LockError"), 2, ts3 X.K)])
      (tb := fun W D σ H => ∃ E : XK, (∀ cls d σ' H', E cls d H' → σ'.length = 3 → W cls d σ' H') ∧ tSeq (tAsg (tTup (tCons (tC (.str "told")) (tCons (fun σZ HZ Q => σZ[0]? = some (some (.ref f)) ∧ HZ c' = some (CodeO c' q) ∧ tt E HZ Q) tNil))) (gName 1)) tNext D σ H)
      rfl rfl T.nd (fun _ _ ⟨_, _, _, _, _, _, _, _, _, _, _, _, _, _, _, _, w⟩ => w.elim)
      (fun W pn xe tk ps => PSs.exi fun E hE => pss_cons (ps_set (i := 1) (pos := p9) (pos' := p4) (x := fo) T.nd rfl (.inl T.lfo) (pe_tup (x1 := k1) (pos := p8) (pa_cons (pe_str (j := j2) (pos := p5)) (pa_cons (act _ pn xe E p6 p7 (takes_len tk) fun cls d σ' H' h hl => hE cls d σ' H' h hl) pa_nil))) (hf := .inr T.lfo)) pss_nil)
      (.cons (np := p10) (pos' := p11) ⟨T.g1, T.n1, .inl T.m1⟩ rfl T.le (fun a oe cls d pn hz hf => PSs.exi fun _ ecls => pss_cons (ps_set (i := 1) (pos := ph) (pos' := pa) (x := fo) T.nd rfl (.inl T.lfo)
          (pe_tup (x1 := kk1) (pos := pg) (pa_cons (kin (q1 := pb) (q2 := pc) (q3 := pd) a oe cls d "InvalidText" (by decide) ecls hz hf) (pa_cons (pe_xf (pos := pf) hk.text.xf hk.text.no ⟨hz.1, hz.2.1⟩ hf (pe_var (pos := pe) (i := 2) rfl (.inl T.le) T.n5 T.n6)) pa_nil))) (hf := .inr T.lfo)) pss_nil)
        (.cons (np := p12) (pos' := p13) ⟨T.g2, T.n2, .inl T.m2⟩ rfl T.le (fun a oe cls d pn hz hf => PSs.exi fun _ ecls => pss_cons (ps_set (i := 1) (pos := pq) (pos' := pi) (x := fo) T.nd rfl (.inl T.lfo)
            (pe_tup (x1 := kk2) (pos := pnn) (pa_cons (kin (q1 := pj) (q2 := pk1) (q3 := pk2) a oe cls d "TooMany" (by decide) ecls hz hf) (pa_cons (pe_xf (pos := pm) hk.many.xf hk.many.no ⟨hz.1, hz.2.1⟩ hf (pe_var (pos := pl) (i := 2) rfl (.inl T.le) T.n5 T.n6)) pa_nil))) (hf := .inr T.lfo)) pss_nil)
          (.cons (np := p14) (pos' := p20) ⟨T.g3, T.n3, .inl T.m3⟩ rfl T.le (fun a oe cls d pn hz hf => PSs.exi fun c ⟨hc, ecls, ed⟩ => pss_cons (ps_set (i := 1) (pos := p19) (pos' := p15) (x := fo) T.nd rfl (.inl T.lfo)
            (kin (q1 := p16) (q2 := p17) (q3 := p18) a oe cls d c (plain_all c hc) ecls hz hf) (hf := .inr T.lfo)) pss_nil) .nil))))
    (pss_cons (ps_ret (pos := p23) (pe_var (pos := p22) (i := 1) rfl (.inl T.lfo) T.n7 T.n8)) pss_nil))
  have back : ∀ {H2 : Hp} {v : V} {σ' : L2.St} {a0 : Addr}, σ'.length = 3 → ((((σ'.set 2 (some (V.ref a0))).set 1 (some v)).set 2 none)[1]? : Option (Option V)) = some (some v) := fun {H2 v σ' a0} hl => by
    rw [List.getElem?_set_ne (by decide), List.getElem?_set_self (by rw [List.length_set]; omega)]
  refine ⟨_, hd, tryE X.K Q, fun cls d σ' H' hE hl => ?_, ?_⟩
  · have s2 : ∀ a0 : Addr, (σ'.set 2 (some (V.ref a0)))[2]? = some (some (V.ref a0)) := fun a0 => List.getElem?_set_self (by omega)
    rcases hE with ⟨c, hc, ecls, ed, hq⟩ | ⟨cf, dd, v, hcf, ecls, ed, hx, hq⟩
    · have K1 := hk.plain c hc
      subst ecls
      refine ⟨false, K1.xt, nofun, fun _ => ⟨false, K1.xm, nofun, fun _ => ⟨true, K1.xl, fun _ a na => ⟨c, ⟨hc, rfl, ed⟩, s2 a, ⟨fun dd z => (by rw [ed] at z; cases z), fun H'' hx => ?_⟩⟩, nofun⟩⟩⟩
      exact ⟨.str (kinStr c), back (H2 := H'') hl, hq H'' hx⟩
    · subst ecls
      subst ed
      have dh : Dh (some dd) H' := fun d2 z => by
        cases z
        exact ⟨_, hx⟩
      have fin : ∀ (c fl : Str) (a0 : Addr), H' dd = some (.xd [(fl, v)]) → (∀ H'', Ext H' H'' → ∀ p, H'' p = none → Q (.ref p) (upd H'' p (.tup [.str (kinStr c), v]))) →
          tSeq (tAsg (tTup (tCons (fun σ H Q => σ[2]? = some (some (.ref a0)) ∧ spKinD c (some dd) H Q) (tCons (tXf a0 (.ref (He.ga X.K c)) (some dd) (He.ga X.K c) fl (tVar 2)) tNil))) (gName 1)) tNext
            (unD 2 { nx := fun σ H => tSeq (tRet (tVar 1)) tNext { nx := fun _ H' => Q .non H', rt := Q } σ H, rt := Q }) (σ'.set 2 (some (V.ref a0))) H' := fun c fl a0 hx hq => by
        refine ⟨s2 a0, ⟨dh, fun H'' hx2 => ?_⟩⟩
        refine ⟨.ref a0, s2 a0, rfl, rfl, dd, _, v, rfl, hx2 _ _ hx, by simp [List.lookup], show 2 ≤ sizeLine by decide, fun p hp => ?_⟩
        exact ⟨.ref p, back (H2 := H'') hl, hq H'' hx2 p hp⟩
      have two : cf = (("InvalidText" : Str), ("line" : Str)) ∨ cf = (("TooMany" : Str), ("limit" : Str)) := by
        unfold fieldN at hcf
        simpa using hcf
      rcases two with rfl | rfl
      · exact ⟨true, hk.tt, fun _ a na => ⟨(), rfl, fin "InvalidText" "line" a hx hq⟩, nofun⟩
      · exact ⟨false, hk.mt, nofun, fun _ => ⟨true, hk.mm, fun _ a na => ⟨(), rfl, fin "TooMany" "limit" a hx hq⟩, nofun⟩⟩
  · refine ⟨rfl, hc, ?_⟩
    refine cast (congrArg (tt (tryE X.K Q) H) (funext fun v => funext fun H1 => propext ⟨fun h => ⟨show 2 ≤ sizeLine by decide, fun p hp => ⟨.ref p, rfl, h p hp⟩⟩, fun h p hp => ?_⟩)) hT
    obtain ⟨w, e1, e2⟩ := h.2 p hp
    have e1 : some (some (V.ref p)) = some (some w) := e1
    cases e1
    exact e2
end
end Sh

set_option Elab.async false
set_option linter.all false
set_option maxRecDepth 100000
set_option maxHeartbeats 1000000
namespace Sh
open PySem PySem.Spec PyProof.Rows L2 HotX L2H LamX
/-! ### what the def that tries tells -/
def fieldOf (e : Xn) : Option D := match e.fs with
  | [(f, x)] => if (e.c, f) ∈ fieldN then some x else none
  | _ => none
def tryR (r : Res D) : Res D := match r with
  | .ok d g => .ok (.tup [.str "told", d]) g
  | .ex e g => if e.fs = [] ∧ e.c ∈ plainN then .ok (.str (kinStr e.c)) g else match fieldOf e with
    | some x => .ok (.tup [.str (kinStr e.c), x]) g
    | none => .bad
  | .bad => .bad
def mTry (m : EM) : EM := fun ρ g => tryR (m ρ g)
section
variable {X : Cx} {T : Tb} {W : WX} {m : EM}
theorem w_try {σ : L2.St} {H : Hp} {Q : VK} (h : tE X.K T W (mTry m) σ H Q) : tLam T.t (TTry X.K) (fun E => tE X.K T (fun c d _ H => E c d H) m) σ H Q := by
  obtain ⟨ρ, μ, g, s, p⟩ := h
  refine ⟨s.tb, fun H1 e1 t1 => ?_⟩
  obtain ⟨s1, x1⟩ := s.extN e1 t1
  refine ⟨ρ, μ, g, s1, ?_⟩
  unfold mTry tryR at p
  cases hm : m ρ g with
  | ok d g' =>
    rw [hm] at p
    intro v μ2 H2 s2 x2 r q hq
    refine p _ μ2 _ (s2.new hq) ((x1.trans x2).trans (Ex.new s2 hq)) (.tup (TupAt.new s2 hq _) (.cons (.str _) (.cons (r.ext (Ex.new s2 hq)) .nil)))
  | ex e g' =>
    rw [hm] at p
    simp only at p
    by_cases hc : e.fs = [] ∧ e.c ∈ plainN
    · rw [if_pos hc] at p
      intro d μ2 H2 s2 x2 r
      refine .inl ⟨e.c, hc.2, rfl, ?_, fun H3 e3 => ?_⟩
      · rcases r with r | ⟨_, _, _, r, _⟩
        · exact r.2
        · exact (r hc.1).elim
      · obtain ⟨s3, x3⟩ := s2.extE e3
        exact p _ μ2 H3 s3 ((x1.trans x2).trans x3) (.str _)
    · rw [if_neg hc] at p
      intro d μ2 H2 s2 x2 r
      cases hF : fieldOf e with
      | none =>
        rw [hF] at p
        exact p.elim
      | some x =>
        rw [hF] at p
        obtain ⟨c, fs⟩ := e
        unfold fieldOf at hF
        match fs, hF, r with
        | [(f, y)], hF, r =>
          simp only at hF
          split at hF
          · rename_i hin
            cases hF
            rcases r with r | ⟨dd, fv, ed, _, hx, nm, no, rf⟩
            · cases r.1
            · match fv, rf with
              | [(_, v)], .cons ry .nil =>
                refine .inr ⟨(c, f), dd, v, hin, rfl, ed, hx, fun H3 e3 q hq => ?_⟩
                obtain ⟨s3, x3⟩ := s2.extE e3
                exact p _ μ2 _ (s3.new hq) (((x1.trans x2).trans x3).trans (Ex.new s3 hq)) (.tup (TupAt.new s3 hq _) (.cons (.str _) (.cons (((ry.ext x3)).ext (Ex.new s3 hq)) .nil)))
          · cases hF
        | [], hF, _ => cases hF
        | _ :: _ :: _, hF, _ => cases hF
  | bad =>
    rw [hm] at p
    exact p.elim
theorem me_try {x a : Str} {g c P : Addr} {k : Nat} {pg : Arguments} {bg : List Stmt} {sg : Scope} {fdg : FuncData} {Ng : List Str} {params : Arguments} {body : Expr} {scope : Scope} {p lpos pos : Pos}
    (hg : Gl X x) (hm : X.mg x = some (.ref g)) (Fg : FunD X.K x x pg bg sg [] [] g fdg) (hb : ∀ (s : Shared) (us : List Value), us.length = 1 → BindsTo s fdg ⟨us, []⟩ ([a].zip us)) (Sg : FnScope Ng [a] sg) (hNg : Ng[0]? = some a) (hva : Vis sg a)
    (hG : GivesN X k Ng x sg g bg a (X.env.qual ++ "<lambda>") (TTry X.K))
    (TB : TabB X.base X.mg c P) (hcode : X.env.code = .ref c) (hmT : (P, X.env.qual ++ "<lambda>") ∈ T.t) (hu : ∀ p ∈ T.t, p.1 = P → p.2 = X.env.qual ++ "<lambda>") (hr : Room (k + 2) X.A) (L : lamSB X.env.scope scope = true) (hdef : defaultsOf params X.env = ([], []))
    (hbind : ∀ (q : Str) (cl : List (Str × Addr)) (pm cv ctv : Value), bindArgs (PySem.W.kla_fn "<lambda>" q params body scope cl pm cv ctv) ⟨[], []⟩ = pure [])
    (hbody : ∀ (A : Around) (outer : List Env) (s : Shared) (H : Hp) (E : XK) (f c' : Addr), Room k (A.deeper (lamEnv X scope s.heap.objs.size f c')) → ME (lamCxN X A outer s H E scope f c') T (fun c d _ H => E c d H) body m)
    (hdb : (x == ("__debug__" : Str)) = false := by decide) (hd : (a == ("__debug__" : Str)) = false := by decide) (hcd : (a == ("__classdict__" : Str)) = false := by decide) :
    ME X T W (.Call (.Name x p) [.Lambda params body scope lpos] [] pos) (mTry m) :=
  PE.weak (pe_lamN (T := T.t) (TT := TTry X.K) (t := fun E => tE X.K T (fun c d _ H => E c d H) m) hg hm Fg hb Sg hNg hva hG TB hcode hmT hu hr (lamS_by L) hdef hbind hbody hdb hd hcd) fun σ H Q h => w_try h
end
/-! ### a def and its code object -/
theorem fn_ofC {P : Program} {w : World} {K : PySem.W.Frag} {mg : Str → Option Value} {base : Heap} {t : List (Addr × Str)} {x qual : Str} {params : Arguments} {body : List Stmt} {scope : Scope} {fd : FuncData} {N ps : List Str} {k n : Nat} {m : SM}
    (F : FunD K x qual params body scope [] [] (He.ga K x) fd) (S : FnScope N ps scope) (hmg : mg x = some (.ref (He.ga K x))) (hn : ps.length = n) (hb : Binds K fd ps []) (der : ∀ (A : Around) (outer : List Env) (s : Shared) (H : Hp) (E : XK) (T : Tb), T.t = t → Room k (A.deeper (envOfC qual scope s.heap.objs.size (He.ga K x) (.ref (He.codeOf K (x, none))))) →
      MSs (cxOf (L2N.CX P w) P w K mg base N qual scope (He.ga K x) (.ref (He.codeOf K (x, none))) A outer s H E) T (fun c d _ H => E c d H) body m) : Fn P w K mg base t (k + 1) x ps (mFn n N.length m) := by
  refine ⟨⟨fd, ?_, hb⟩, hmg, F.kp⟩
  obtain ⟨oc, od, dV, kV, doc, pm, an, cdv, ct, osl, rfl, lk, hcd, _, _⟩ := F.ex
  obtain ⟨c, rfl⟩ := He.codeIn_ref hcd
  have ec := He.codeOf_eq (p := (x, none)) lk rfl
  refine L2.fn_of lk hcd S (fun vs H Q E h => by rw [hn]; exact spF_len h) fun A outer s H vs Q E hr h => ?_
  obtain ⟨O, ρ, σ, μ, g, ds, st, r, p⟩ := h
  rw [← ec] at hr ⊢
  refine ⟨_, der A outer s H E ⟨t, ow ⟨t, O⟩ ρ σ⟩ rfl hr, ?_⟩
  unfold mFn at p
  by_cases e : ds.length = n
  · rw [if_pos e] at p
    exact enter_run st r (fun _ _ _ _ _ h => h) p
  · rw [if_neg e] at p
    exact p.elim
theorem law_okC {P : Program} {w : World} {K : PySem.W.Frag} {mg : Str → Option Value} {base : Heap} {t : List (Addr × Str)} {x qual a : Str} {params : Arguments} {body : List Stmt} {scope : Scope} {fd : FuncData} {N : List Str} {k : Nat} {m : SM}
    (F : FunD K x qual params body scope [] [] (He.ga K x) fd) (S : FnScope N [a] scope) (der : ∀ (A : Around) (outer : List Env) (s : Shared) (H : Hp) (E : XK) (T : Tb), T.t = t → Room k (A.deeper (envOfC qual scope s.heap.objs.size (He.ga K x) (.ref (He.codeOf K (x, none))))) →
      MSs (cxOf CX0 P w K mg base N qual scope (He.ga K x) (.ref (He.codeOf K (x, none))) A outer s H E) T WF body m) (pure : ∀ ns : List Int, ns.length ≤ 63 → ∃ g, mFn 1 N.length m [.lst (ns.map .int)] [] = .ok (.bl true) g) : FnOk P w K mg base CX0 (k + 1) (He.ga K x) fd [a] (spLaw K t) := by
  obtain ⟨oc, od, dV, kV, doc, pm, an, cdv, ct, osl, rfl, lk, hcd, _, _⟩ := F.ex
  obtain ⟨c, rfl⟩ := He.codeIn_ref hcd
  have ec := He.codeOf_eq (p := (x, none)) lk rfl
  refine L2.fn_of lk hcd S (fun vs H Q E h => ?_) fun A outer s H vs Q E hr h => ?_
  · obtain ⟨a, ns, rfl, _⟩ := h
    rfl
  obtain ⟨a, ns, rfl, hl, hS, ht, hQ⟩ := h
  have s0 : StR K ⟨t, fun _ => False⟩ [] [] [] [] H := ⟨rfl, .nil, fun l a x e => by simp at e, rfl, fun i x e => by simp at e, fun i x e => by simp at e, fun i j x y a e => by simp at e, fun a z => z.elim, fun i x a e => by simp at e, ht⟩
  have no : ∀ a, ¬ ow ⟨t, fun _ => False⟩ [] [] a := fun a z => z.elim id fun ⟨i, xs, e, _⟩ => by simp at e
  have r0 : Rps K H [] (ow ⟨t, fun _ => False⟩ [] []) [.lst (ns.map .int)] [.ref a] := by
    refine .cons (.lst ?_ (Rps.ints ns)) .nil
    rcases hS with h | h
    · exact .inl ⟨h, by simp, no a⟩
    · exact .inr h
  rw [← ec] at hr ⊢
  refine ⟨_, der A outer s H E ⟨t, ow ⟨t, fun _ => False⟩ [] []⟩ rfl hr, enter_run s0 r0 (W := WF) (fun _ _ _ _ _ h => h) ?_⟩
  obtain ⟨g, e⟩ := pure ns hl
  unfold mFn at e
  rw [if_pos (show [D.lst (ns.map D.int)].length = 1 from rfl)] at e
  rw [e]
  intro v μ' H' s' x r
  cases r
  exact hQ _
/-! ### the tables of the defs with lambdas -/
def tabL (K : PySem.W.Frag) (xs : List Str) : List (Addr × Str) := xs.map fun x => ((He.cT K (x, none)).2, x ++ ".<locals>.<lambda>")
def tabDB (K : PySem.W.Frag) (xs : List Str) : Bool := xs.all fun x => xs.all fun y => decide ((He.cT K (x, none)).2 = (He.cT K (y, none)).2 → x = y)
theorem tabL_mem {K : PySem.W.Frag} {xs : List Str} {x q : Str} (h : x ∈ xs) (e : q = x ++ ".<locals>.<lambda>" := by rfl) : ((He.cT K (x, none)).2, q) ∈ tabL K xs := by
  subst e
  exact List.mem_map.mpr ⟨x, h, rfl⟩
theorem tabL_uniq {K : PySem.W.Frag} {xs : List Str} {x q : Str} (hd : tabDB K xs = true) (h : x ∈ xs) (e : q = x ++ ".<locals>.<lambda>" := by rfl) : ∀ p ∈ tabL K xs, p.1 = (He.cT K (x, none)).2 → p.2 = q := by
  subst e
  intro p hp e1
  obtain ⟨y, hy, rfl⟩ := List.mem_map.mp hp
  unfold tabDB at hd
  simp only [List.all_eq_true, decide_eq_true_eq] at hd
  rw [hd y hy x h e1]
theorem tabL_nil {K : PySem.W.Frag} {xs : List Str} {H : Hp} (h : ∀ p ∈ xs.map (fun x => He.cT K (x, none)), H p.2 = some (.tbl #[])) : Tabs (tabL K xs) H := fun p hp => by
  obtain ⟨y, hy, rfl⟩ := List.mem_map.mp hp
  exact TabS.nil (h _ (List.mem_map.mpr ⟨y, hy, rfl⟩))
end Sh

set_option Elab.async false
set_option linter.all false
set_option maxRecDepth 100000
set_option maxHeartbeats 1000000
namespace Sh
open PySem PySem.Spec PyProof.Rows L2 HotX L2H LamX
/-! ### a def called that a variable holds -/
abbrev FT := List (Str × (List D → Gs → Res D))
def callV (fs : FT) (d : D) (r : Res (List D)) : Res D := match d with
  | .fn x => (match fs.lookup x with
    | some F => r.bind F
    | none => .bad)
  | _ => .bad
def mCv (i : Nat) (fs : FT) (l : LM) : EM := fun ρ g => (mV i ρ g).bind fun d g1 => callV fs d (l ρ g1)
section
variable {X : Cx} {T : Tb} {W : WX} {e : Expr} {es : List Expr} {pos p : Pos} {ml : LM} {k : Nat} {fs : FT}
theorem me_callv (i : Nat) {x : Str} (hfs : ∀ x F, fs.lookup x = some F → ∃ ps, Fn X.prog X.w X.K X.mg X.base T.t k x ps F) (hr : Room k X.A) (tk : L2N.Takes X W) (ha : MA X T W (e :: es) ml) (hN : X.N[i]? = some x := by rfl) (hv : Vis X.env.scope x := by first | exact Or.inl rfl | exact Or.inr (Or.inl rfl) | exact Or.inr (Or.inr rfl)) (hd : (x == ("__debug__" : Str)) = false := by decide)
    (hcd : (x == ("__classdict__" : Str)) = false := by decide)
    (he : starEach (e :: es) X.env = (false, eval e X.env) :: starEach es X.env := by rfl) (hpl : (backTo pos (starEach es X.env)).any (·.1) = false := by rfl) : ME X T W (.Call (.Name x p) (e :: es) [] pos) (mCv i fs ml) := by
  refine ⟨fun pins s σ H Q I h => ?_⟩
  have h1 : tE X.K T W (mV i) σ H (fun v H1 => ∃ ρ μ g d, StR X.K T μ g ρ σ H1 ∧ Rp X.K H1 μ (ow T ρ σ) d v ∧ Pst X.K T Rp W ρ σ μ H1 Q (callV fs d (ml ρ g))) :=
    tG_bind (k := fun ρ d g1 => callV fs d (ml ρ g1)) h fun d v ρ μ g H1 s r p => ⟨ρ, μ, g, d, s, r, p⟩
  refine wpAny_Call_Name_kw (thn ((me_v (pos := p) i hN hv hd hcd).run pins s σ H _ I h1) fun u s1 ⟨v, H1, I1, rv, ρ, μ, g, d, st, rd, ps⟩ => ?_)
  unfold callV at ps
  cases d with
  | fn y =>
    cases rd
    simp only at ps
    cases hF : fs.lookup y with
    | none =>
      rw [hF] at ps
      exact ps.elim
    | some F =>
      rw [hF] at ps
      obtain rfl : u = Value.ref (He.ga X.K y) := rv
      obtain ⟨pn, ⟨fd, h1, h2⟩, h3, h4⟩ := hfs y F hF
      refine PySem.W.callWith_K (h₀ := X.base) I1.ok.mod.kin h4 (thn (ha.run pos pins s1 σ H1 _ I1 (w_call (F := F) ⟨ρ, μ, g, st, ps⟩)) fun us s2 ⟨vs, H2, I2, r, q⟩ => ⟨I2.kIn, ?_⟩) he hpl
      exact run_fnS h1 hr h2 (L2N.passAt tk σ) I2 r q
  | _ => exact ps.elim
end
theorem fs_nil {P : Program} {w : World} {K : PySem.W.Frag} {mg : Str → Option Value} {base : Heap} {t : List (Addr × Str)} {k : Nat} : ∀ x F, ([] : FT).lookup x = some F → ∃ ps, Fn P w K mg base t k x ps F := fun _ _ h => by cases h
theorem fs_cons {P : Program} {w : World} {K : PySem.W.Frag} {mg : Str → Option Value} {base : Heap} {t : List (Addr × Str)} {k : Nat} {x : Str} {ps : List Str} {F : List D → Gs → Res D} {fs : FT} (h : Fn P w K mg base t k x ps F) (r : ∀ x F, fs.lookup x = some F → ∃ ps, Fn P w K mg base t k x ps F) :
    ∀ y G, ((x, F) :: fs : FT).lookup y = some G → ∃ ps, Fn P w K mg base t k y ps G := fun y G e => by
  rw [List.lookup_cons] at e
  cases q : (y == x) with
  | true =>
    rw [q] at e
    cases e
    rw [beq_iff_eq.mp q]
    exact ⟨ps, h⟩
  | false =>
    rw [q] at e
    exact r y G e
/-! ### the words, counted -/
theorem kin_sum : ∀ c ∈ allN, ((picked (Txt.split kinLab " ") [decide (c = "InvalidLock"), decide (c = "InvalidNumber"), decide (c = "InvalidSetting"), decide (c = "InvalidScript"), decide (c = "InvalidWheel"), decide (c = "InvalidFelt"), decide (c = "InvalidTurn"), decide (c = "InvalidIndex"), decide (c = "Unlike"), decide (c = "NothingToUndo"), decide (c = "TooMany"), decide (c = "InvalidText"), true]).map (·.length)).sum + (picked (Txt.split kinLab " ") [decide (c = "InvalidLock"), decide (c = "InvalidNumber"), decide (c = "InvalidSetting"), decide (c = "InvalidScript"), decide (c = "InvalidWheel"), decide (c = "InvalidFelt"), decide (c = "InvalidTurn"), decide (c = "InvalidIndex"), decide (c = "Unlike"), decide (c = "NothingToUndo"), decide (c = "TooMany"), decide (c = "InvalidText"), true]).length * Str.length " " ≤ 16777216 := by decide +kernel
theorem kin_ansC {K : PySem.W.Frag} {a : Addr} {d : Option Addr} {c : Str} {Q : VK} {N : List Str} {H : Hp} (hc : c ∈ allN) (hl : N.length = 5) (h : spKinD c d H Q) :
    tKin K a d kinLab (decide (c = "InvalidLock")) (decide (c = "InvalidNumber")) (decide (c = "InvalidSetting")) (decide (c = "InvalidScript")) (decide (c = "InvalidWheel")) (decide (c = "InvalidFelt")) (decide (c = "InvalidTurn")) (decide (c = "InvalidIndex")) (decide (c = "Unlike")) (decide (c = "NothingToUndo")) (decide (c = "TooMany")) (decide (c = "InvalidText")) true
      { nx := fun _ H' => Q .non H', rt := Q } (L2.start N [.ref a]) H := by
  refine kin_ans h.1 rfl ?_ (by decide +kernel) (by decide +kernel) (kin_sum c hc) fun H' e => h.2 H' e
  unfold L2.start
  simp [hl]
/-! ### reading -/
@[simp] theorem wp_mCv {ρ : En} {g : Gs} {i : Nat} {fs : FT} {l : LM} {QD : D → Gs → Prop} : wp (mCv i fs l ρ g) QD = wp (mV i ρ g) fun d g1 => wp (callV fs d (l ρ g1)) QD := by
  unfold mCv
  rw [wp_bind]
theorem wp_callV {fs : FT} {x : Str} {F : List D → Gs → Res D} {r : Res (List D)} {QD : D → Gs → Prop} (h : fs.lookup x = some F) : wp (callV fs (.fn x) r) QD = wp r fun xs g => wp (F xs g) QD := by
  show wp (match fs.lookup x with
    | some F => r.bind F
    | none => .bad) QD = _
  rw [h]
  exact wp_bind
end Sh

set_option Elab.async false
set_option linter.all false
set_option maxRecDepth 100000
set_option maxHeartbeats 1000000
namespace Sh
open PySem PySem.Spec PyProof.Rows L2
/-! ### [..] * k -/
def kRepL (xs : List D) (y : D) (g : Gs) : Res D := match y with
  | .int k => if 0 ≤ k ∧ k ≤ 1000 then .ok (.lst (List.replicate k.toNat xs).flatten) g else .bad
  | _ => .bad
def lenR (xs : List D) (r : Res D) : Res D := if xs.length ≤ 1000 then r else .bad
def mLRep (ml : LM) (mb : EM) : EM := fun ρ g => (ml ρ g).bind fun xs g1 => lenR xs ((mb ρ g1).bind fun y g2 => kRepL xs y g2)
section
variable {X : Cx} {T : Tb} {W : WX} {b : Expr} {es : List Expr} {pos p2 : Pos} {ml : LM} {mb : EM}
theorem me_lrep (hl : MA X T W es ml) (hb : ME X T W b mb) : ME X T W (.BinOp (.List es p2) .Mult b pos) (mLRep ml mb) := by
  refine PE.weak (pe_op op_rep (pe_lst hl) hb) fun σ H Q h => ?_
  refine tG_bind (k := fun ρ xs g1 => lenR xs ((mb ρ g1).bind fun y g2 => kRepL xs y g2)) (R := fun xs H1 => xs.length ≤ sizeLine ∧ ∀ p, H1 p = none → tE X.K T W mb σ (upd H1 p (.lst xs)) fun y H2 => rRep (.ref p) y H2 Q) h fun xs vs ρ μ g H1 s r p => ?_
  unfold lenR at p
  split at p
  · rename_i hz
    have hl : vs.length ≤ 1000 := by rw [← r.len]; exact hz
    refine ⟨by rw [sizeLine_eq]; omega, fun P hP => ⟨ρ, μ, g, s.new hP, ?_⟩⟩
    have p1 := Pst.bind (rel := Rp) (p.rebase (Ex.new (o := .lst vs) s hP))
    refine p1.imp fun y H2 ⟨d, μ2, g2, s2, e2, r2, p2⟩ => ?_
    have hk := (e2.keep P _ upd_same (lst_nt _) (s.freeM hP)).1
    unfold kRepL at p2
    cases d with
    | int k =>
      cases r2
      simp only at p2
      split at p2
      · rename_i hk2
        refine ⟨P, k, vs, rfl, rfl, hk, by omega, by omega, ?_, fun q hq => new_lst s2 (Rps.rep ((r.ext (Ex.new s hP)).ext e2) _) p2 hq⟩
        have a1 : vs.length * k.toNat ≤ 1000 * 1000 := Nat.mul_le_mul hl (by omega)
        rw [sizeLine_eq]
        omega
      · exact p2.elim
    | _ => exact p2.elim
  · exact p.elim
end
/-! ### reading -/
section
variable {ρ : En} {g : Gs} {QD : D → Gs → Prop} {l : LM} {b : EM} {xs : List D} {k : Int}
@[simp] theorem wp_mLRep : wp (mLRep l b ρ g) QD = wp (l ρ g) fun xs g1 => xs.length ≤ 1000 ∧ wp (b ρ g1) fun y g2 => wp (kRepL xs y g2) QD := by
  unfold mLRep
  rw [wp_bind]
  congr 1
  funext xs g1
  unfold lenR
  by_cases h : xs.length ≤ 1000
  · rw [if_pos h, wp_bind]
    simp [h]
  · rw [if_neg h]
    simp [h, wp]
@[simp] theorem wp_kRepL : wp (kRepL xs (.int k) g) QD = ((0 ≤ k ∧ k ≤ 1000) ∧ QD (.lst (List.replicate k.toNat xs).flatten) g) := by
  unfold kRepL
  simp only
  by_cases h : 0 ≤ k ∧ k ≤ 1000
  · rw [if_pos h]
    simp [h]
  · rw [if_neg h]
    simp [h, wp]
@[simp] theorem oMul_tup : wp (oMul (.tup xs) (.int k) g) QD = ((xs ≠ [] ∧ xs.length ≤ 1000 ∧ 1 ≤ k ∧ k ≤ 1000) ∧ QD (.tup (List.replicate k.toNat xs).flatten) g) := by
  unfold oMul
  simp only
  by_cases h : xs ≠ [] ∧ xs.length ≤ 1000 ∧ 1 ≤ k ∧ k ≤ 1000
  · rw [if_pos h]
    simp [h]
  · rw [if_neg h]
    simp [wp] at h ⊢
    intro h1 h2 h3 h4
    have := h h1 h2 h3
    omega
end
end Sh

set_option Elab.async false
set_option linter.all false
set_option maxRecDepth 100000
set_option maxHeartbeats 1000000
namespace Sh
open PySem PySem.Spec PyProof.Rows L2
/-! ### a list that is being appended to, + another -/
def mMlCat (i : Nat) (b : EM) : EM := fun ρ g => match mlOf ρ i with
  | some xs => (b ρ g).bind fun y g1 => (match y with
    | .lst ys => if xs.length + ys.length ≤ 1000000 then .ok (.lst (xs ++ ys)) g1 else .bad
    | _ => .bad)
  | none => .bad
def rMlC (K : PySem.W.Frag) (T : Tb) (W : WX) : R2 := fun x y H Q => ∃ ρ σ μ g xs p vs ys, StR K T μ g ρ σ H ∧ x = .ref p ∧ H p = some (.lst vs) ∧ Rps K H μ (ow T ρ σ) xs vs ∧ Rp K H μ (ow T ρ σ) (.lst ys) y ∧ xs.length + ys.length ≤ 1000000 ∧ Pst K T Rp W ρ σ μ H Q (.ok (.lst (xs ++ ys)) g)
section
variable {X : Cx} {T : Tb} {W : WX} {b : Expr} {pos p : Pos} {mb : EM}
theorem p_mlcat : OpR X (binaryOp .Add) (rMlC X.K T W) := by
  intro pins s σ H x y v u Q I rx ry ⟨ρ, σ', μ, g, xs, p, vs, ys, st, e1, hp, q1, r2, hz, q⟩
  subst e1
  cases r2 with
  | lst t2 q2 =>
    cases rx
    cases ry
    obtain ⟨its, rv, ⟨⟨cls, dd, data, sl⟩, n, ho, hc, hdd, hd⟩, hl⟩ := I.list (SqL.of hp)
    obtain ⟨its2, rv2, ⟨⟨cls2, dd2, data2, sl2⟩, n2, ho2, hc2, hdd2, hd2⟩, hl2⟩ := I.list t2.sq
    simp only at hc hd hdd hc2 hd2 hdd2
    subst hc hd hdd hc2 hd2 hdd2
    have hsz : its.length + its2.length ≤ sizeLine := by rw [← rv.length, ← rv2.length, ← q1.len, ← q2.len]; exact lim_ok hz
    have ea : its.toArray ++ its2.toArray = (its ++ its2).toArray := by simp
    refine concat_meets ⟨_, ho, rfl⟩ ⟨_, ho2, rfl⟩ noFill_list_add seq_list_add PySem.F.slot_list_add PySem.F.entry_list_add (PySem.F.args_list_add_2 _ _) (PyProof.Rows.list_addW _ _ its.toArray its2.toArray n n2 none none sl sl2 (by simpa using hsz)) ⟨ho, ho2, ?_⟩
    rw [ea]
    exact ⟨.ref _, _, I.lnew (t' := s.toks) (rv.append rv2) (by rw [List.length_append, rv.length, rv2.length]; exact hsz), rfl, new_lst st (q1.append q2) q I.fresh⟩
theorem w_mlcat {i : Nat} {σ : L2.St} {H : Hp} {Q : VK} (h : tE X.K T W (mMlCat i mb) σ H Q) : tOp (rMlC X.K T W) (tVar i) (tE X.K T W mb) σ H Q := by
  obtain ⟨ρ, μ, g, s, q⟩ := h
  unfold mMlCat at q
  cases hl : mlOf ρ i with
  | none => rw [hl] at q; exact q.elim
  | some xs =>
    rw [hl] at q
    have hi := mlOf_eq hl
    obtain ⟨p, vs, k1, k2, k3, k4⟩ := s.em i xs hi
    refine ⟨.ref p, k1, ρ, μ, g, s, (Pst.bind q).imp fun y H1 ⟨d, μ1, g1, s1, x1, r1, q1⟩ => ?_⟩
    cases d with
    | lst ys =>
      simp only at q1
      split at q1
      · rename_i hz
        obtain ⟨w1, _⟩ := x1.keep p _ k2 (lst_nt vs) k3
        exact ⟨ρ, σ, μ1, g1, xs, p, vs, ys, s1, rfl, w1, k4.ext x1, r1, hz, q1⟩
      · exact q1.elim
    | _ => exact q1.elim
theorem me_mlcat (i : Nat) {x : Str} (hx : PE X (.Name x p) (tVar i)) (hb : ME X T W b mb) : ME X T W (.BinOp (.Name x p) .Add b pos) (mMlCat i mb) := PE.weak (pe_op p_mlcat hx hb) fun _ _ _ h => w_mlcat h
end
@[simp] theorem wp_mMlCat {ρ : En} {g : Gs} {QD : D → Gs → Prop} {i : Nat} {b : EM} : wp (mMlCat i b ρ g) QD = mlR ρ[i]? fun xs => wp (b ρ g) fun y g1 => wp (oAdd (.lst xs) y g1) QD := by
  unfold mMlCat
  cases h : ρ[i]? with
  | none =>
    have : mlOf ρ i = none := by unfold mlOf; rw [h]
    rw [this]
    rfl
  | some z =>
    cases z with
    | ml xs =>
      have : mlOf ρ i = some xs := by unfold mlOf; rw [h]
      rw [this]
      show wp ((b ρ g).bind _) QD = wp (b ρ g) _
      rw [wp_bind]
      congr 1
      funext y g1
      cases y <;> rfl
    | _ =>
      have : mlOf ρ i = none := by unfold mlOf; rw [h]
      rw [this]
      rfl
end Sh

set_option Elab.async false
set_option linter.all false
set_option maxRecDepth 100000
set_option maxHeartbeats 1000000
namespace Sh
open PySem PySem.Spec PyProof.Rows L2
/-! ### texts: split, join -/
def mTx (op : Str → D → Gs → Res D) (mo me : EM) : EM := fun ρ g => (mo ρ g).bind fun x g1 => (match x with
  | .str a => (me ρ g1).bind fun y g2 => op a y g2
  | _ => .bad)
def oSplit (a : Str) (y : D) (g : Gs) : Res D := match y with
  | .str b => if b.length ≠ 0 ∧ a.length ≤ 1000000 then .ok (.lst ((Txt.split a b).map .str)) g else .bad
  | _ => .bad
def strs? : List D → Option (List Str)
  | [] => some []
  | .str x :: r => (strs? r).map (x :: ·)
  | _ => none
def oJoin (a : Str) (y : D) (g : Gs) : Res D := match (seqD y).bind strs? with
  | some ys => if (ys.map (·.length)).sum + ys.length * a.length ≤ 1000000 then .ok (.str (Txt.join a ys)) g else .bad
  | none => .bad
theorem strs_eq : ∀ {xs : List D} {ys : List Str}, strs? xs = some ys → xs = ys.map .str
  | [], ys, h => by cases h; rfl
  | x :: r, ys, h => by
    cases x with
    | str z =>
      simp only [strs?, Option.map_eq_some_iff] at h
      obtain ⟨zs, e, rfl⟩ := h
      rw [strs_eq e]
      rfl
    | _ => cases h
section
variable {X : Cx} {T : Tb} {W : WX} {o e : Expr} {apos pos : Pos} {mo me : EM}
theorem Rps.strs {K : PySem.W.Frag} {H : Hp} {μ : List Addr} {ow : Addr → Prop} : ∀ ys : List Str, Rps K H μ ow (ys.map .str) (ys.map .str)
  | [] => .nil
  | y :: ys => .cons (.str y) (Rps.strs ys)
theorem w_tx {op : Str → D → Gs → Res D} {r : V → List V → Hp → VK → Prop} {σ : L2.St} {H : Hp} {Q : VK} (h : tE X.K T W (mTx op mo me) σ H Q)
    (hr : ∀ a d v ρ μ g H1, StR X.K T μ g ρ σ H1 → Rp X.K H1 μ (ow T ρ σ) d v → Pst X.K T Rp W ρ σ μ H1 Q (op a d g) → r (.str a) [v] H1 Q) : tM1 r (tE X.K T W mo) (tE X.K T W me) σ H Q := by
  refine tG_bind (k := fun ρ x g1 => (match x with | .str a => (me ρ g1).bind fun y g2 => op a y g2 | _ => .bad)) h fun d v ρ μ g H1 s rr p => ?_
  cases d with
  | str a =>
    cases rr
    refine ⟨⟨a, rfl⟩, ρ, μ, g, s, (Pst.bind (rel := Rp) p).imp fun y H2 ⟨d2, μ2, g2, s2, e2, r2, p2⟩ => hr a d2 y ρ μ2 g2 H2 s2 r2 p2⟩
  | _ => exact p.elim
theorem me_split (ho : ME X T W o mo) (he : ME X T W e me) (hs : starEach [e] X.env = [(false, eval e X.env)] := by rfl) (hbase : attributeBase o "split" X.env (eval o X.env) = eval o X.env := by rfl) (hline : (apos.endLine == pos.line) = true := by rfl) :
    ME X T W (.Call (.Attribute o "split" apos) [e] [] pos) (mTx oSplit mo me) := by
  refine PE.weak (pe_split ho he hs hbase hline) fun σ H Q h => w_tx h fun a d v ρ μ g H1 s r p => ?_
  unfold oSplit at p
  cases d with
  | str b =>
    cases r
    simp only at p
    split at p
    · rename_i hz
      refine ⟨a, b, rfl, rfl, ?_, by rw [sizeLine_eq]; omega, fun q hq => new_lst s (Rps.strs _) p hq⟩
      exact beq_eq_false_iff_ne.mpr hz.1
    · exact p.elim
  | _ => exact p.elim
theorem me_join (ho : ME X T W o mo) (he : ME X T W e me) (hs : starEach [e] X.env = [(false, eval e X.env)] := by rfl) (hbase : attributeBase o "join" X.env (eval o X.env) = eval o X.env := by rfl) (hline : (apos.endLine == pos.line) = true := by rfl) :
    ME X T W (.Call (.Attribute o "join" apos) [e] [] pos) (mTx oJoin mo me) := by
  refine PE.weak (pe_join ho he hs hbase hline) fun σ H Q h => w_tx h fun a d v ρ μ g H1 s r p => ?_
  unfold oJoin at p
  cases hd : (seqD d).bind strs? with
  | none =>
    rw [hd] at p
    exact p.elim
  | some ys =>
    rw [hd] at p
    simp only at p
    split at p
    · rename_i hz
      have fin : Q (.str (Txt.join a ys)) H1 := Pst.pure p s (.str _)
      cases d with
      | tup xs =>
        have e2 : xs = ys.map .str := strs_eq hd
        cases r with
        | tup t rs =>
          rw [e2] at rs
          rw [Rps.to_strs rs] at t
          exact ⟨a, _, ys, rfl, rfl, .inr t.sq, by omega, fin⟩
      | lst xs =>
        have e2 : xs = ys.map .str := strs_eq hd
        cases r with
        | lst t rs =>
          rw [e2] at rs
          rw [Rps.to_strs rs] at t
          exact ⟨a, _, ys, rfl, rfl, .inl t.sq, by omega, fin⟩
      | _ => cases hd
    · exact p.elim
end
section
variable {ρ : En} {g : Gs} {QD : D → Gs → Prop} {mo me : EM} {op : Str → D → Gs → Res D}
def txR (op : Str → D → Gs → Res D) (x : D) (r : Res D) : Res D := match x with
  | .str a => r.bind fun y g2 => op a y g2
  | _ => .bad
@[simp] theorem wp_mTx : wp (mTx op mo me ρ g) QD = wp (mo ρ g) fun x g1 => wp (txR op x (me ρ g1)) QD := by
  unfold mTx
  rw [wp_bind]
  rfl
@[simp] theorem wp_txR {a : Str} {r : Res D} : wp (txR op (.str a) r) QD = wp r fun y g2 => wp (op a y g2) QD := wp_bind
end
end Sh

set_option Elab.async false
set_option linter.all false
set_option maxRecDepth 100000
set_option maxHeartbeats 1000000
namespace Sh
open PySem PySem.Spec PyProof.Rows L2
/-! ### a tuple of texts, named at the top: told by the fragment -/
def strOf : Value → Option Str
  | .str s _ => some s
  | _ => none
def tupS (K : PySem.W.Frag) (a : Addr) (ys : List Str) : Bool := match K.lookup a with
  | some ⟨.type c, _, .seq its _, _⟩ => decide (c = "tuple") && (decide (its.toList.map strOf = ys.map some) && decide (its.size ≤ 1000))
  | _ => false
theorem vals_strs : ∀ {us : List Value} {ys : List Str}, us.map strOf = ys.map some → Vals (ys.map V.str) us
  | [], [], _ => .nil
  | [], y :: ys, h => by cases h
  | u :: us, [], h => by cases h
  | u :: us, y :: ys, h => by
    rw [List.map_cons, List.map_cons] at h
    injection h with h1 h2
    refine .cons ?_ (vals_strs h2)
    cases u with
    | str s t =>
      have : s = y := Option.some.inj h1
      subst this
      exact ⟨t, rfl⟩
    | _ => cases h1
theorem tupS_ok {K : PySem.W.Frag} {a : Addr} {ys : List Str} (h : tupS K a ys = true) : KTup K a (ys.map V.str) := by
  unfold tupS at h
  split at h
  · rename_i c d its n sl e
    simp only [Bool.and_eq_true, decide_eq_true_eq] at h
    obtain ⟨h1, h2, h3⟩ := h
    refine ⟨_, its, n, e, by rw [h1], rfl, by rw [sizeLine_eq]; omega, vals_strs h2⟩
  · cases h
/-! ### what is never reached -/
def sBad : SM := fun _ _ => .bad
def mBad : EM := fun _ _ => .bad
section
variable {X : Cx} {T : Tb} {W : WX}
theorem ms_bad {st : Stmt} : MS X T W st sBad := ⟨fun _ _ _ _ _ _ ⟨_, _, _, _, p⟩ => p.elim⟩
theorem me_bad {e : Expr} : ME X T W e mBad := ⟨fun _ _ _ _ _ _ ⟨_, _, _, _, p⟩ => p.elim⟩
end
theorem nc_bad : NC sBad := fun _ _ _ _ => ⟨nofun, nofun⟩
@[simp] theorem wpS_bad {ρ : En} {g : Gs} {N : En → Gs → Prop} {R : D → Gs → Prop} : wpS (sBad ρ g) N R = False := rfl
@[simp] theorem wp_mBad {ρ : En} {g : Gs} {Q : D → Gs → Prop} : wp (mBad ρ g) Q = False := rfl
/-! ### f'text{e}' -/
def kFs (c : Str) (x : D) (g : Gs) : Res D := match x with
  | .int i => if (Str.empty ++ c).length ≤ 1000000 ∧ ((Str.empty ++ c) ++ (toString i : Str)).length ≤ 1000000 ∧ big i = true then .ok (.str ((Str.empty ++ c) ++ toString i)) g else .bad
  | _ => .bad
def mFs (c : Str) (m : EM) : EM := fun ρ g => if (Str.empty ++ c).length ≤ 1000000 then (m ρ g).bind (kFs c) else .bad
section
variable {X : Cx} {T : Tb} {W : WX} {e : Expr} {m : EM} {p1 p2 pos : Pos} {c : Str} {j : Nat}
theorem me_fs (he : ME X T W e m) : ME X T W (.JoinedStr [.Constant (.str c) j p1, .FormattedValue e (-1) none p2] pos) (mFs c m) := by
  refine PE.weak (pe_joined (.cons pe_str (.cons (pe_fmt he) .nil))) fun σ H Q ⟨ρ, μ, g, s, p⟩ => ?_
  unfold mFs at p
  split at p
  · rename_i hz
    refine ⟨c, rfl, lim_ok hz, ?_⟩
    refine ⟨ρ, μ, g, s, (Pst.bind (rel := Rp) p).imp fun y H2 ⟨d, μ2, g2, s2, e2, r2, p2⟩ => ?_⟩
    unfold kFs at p2
    cases d with
    | int i =>
      cases r2
      simp only at p2
      split at p2
      · rename_i h
        obtain ⟨h1, h2, h3⟩ := h
        refine .inr ⟨i, rfl, by have := big_lt h3; omega, _, rfl, lim_ok h2, Pst.pure p2 s2 (.str _)⟩
      · exact p2.elim
    | _ => exact p2.elim
  · exact p.elim
end
end Sh

set_option Elab.async false
set_option linter.all false
set_option maxRecDepth 100000
set_option maxHeartbeats 1000000
namespace Sh
open PySem PySem.Spec PyProof.Rows L2
/-! ### M[e], M a dict of the module: texts to tuples of ints -/
abbrev KT := List (Str × List Int)
def kKd (tbl : KT) (x : D) (g : Gs) : Res D := match x with
  | .str z => (match tbl.lookup z with
    | some is => .ok (.tup (is.map .int)) g
    | none => .bad)
  | _ => .bad
def mKd (tbl : KT) (m : EM) : EM := fun ρ g => (m ρ g).bind (kKd tbl)
def intOf : Value → Option Int
  | .int s _ => some s
  | _ => none
def tupI (K : PySem.W.Frag) (a : Addr) (ys : List Int) : Bool := match K.lookup a with
  | some ⟨.type c, _, .seq its _, _⟩ => decide (c = "tuple") && (decide (its.toList.map intOf = ys.map some) && decide (its.size ≤ 1000))
  | _ => false
theorem vals_ints : ∀ {us : List Value} {ys : List Int}, us.map intOf = ys.map some → Vals (ys.map V.int) us
  | [], [], _ => .nil
  | [], y :: ys, h => by cases h
  | u :: us, [], h => by cases h
  | u :: us, y :: ys, h => by
    rw [List.map_cons, List.map_cons] at h
    injection h with h1 h2
    refine .cons ?_ (vals_ints h2)
    cases u with
    | int s t =>
      have : s = y := Option.some.inj h1
      subst this
      exact ⟨t, rfl⟩
    | _ => cases h1
theorem tupI_ok {K : PySem.W.Frag} {a : Addr} {ys : List Int} (h : tupI K a ys = true) : KTup K a (ys.map V.int) := by
  unfold tupI at h
  split at h
  · rename_i c d its n sl e
    simp only [Bool.and_eq_true, decide_eq_true_eq] at h
    obtain ⟨h1, h2, h3⟩ := h
    refine ⟨_, its, n, e, by rw [h1], rfl, by rw [sizeLine_eq]; omega, vals_ints h2⟩
  · cases h
def dictI (K : PySem.W.Frag) (d : Addr) (tbl : KT) : Bool := tbl.all fun p => match PySem.W.nsIn K d p.1 with
  | some (some (.ref a)) => tupI K a p.2
  | _ => false
theorem dictI_ok {K : PySem.W.Frag} {d : Addr} {tbl : KT} (h : dictI K d tbl = true) : ∀ z is, tbl.lookup z = some is → ∃ a, PySem.W.nsIn K d z = some (some (.ref a)) ∧ KTup K a (is.map V.int) := fun z is e => by
  have hm : (z, is) ∈ tbl := by
    clear h
    induction tbl with
    | nil => cases e
    | cons p r ih =>
      rw [List.lookup_cons] at e
      cases q : (z == p.1) with
      | true =>
        rw [q] at e
        have e3 : p.2 = is := Option.some.inj e
        have e4 : z = p.1 := beq_iff_eq.mp q
        rw [← e3, e4]
        exact List.mem_cons_self
      | false =>
        rw [q] at e
        exact List.mem_cons_of_mem _ (ih e)
  unfold dictI at h
  have h1 := List.all_eq_true.mp h _ hm
  simp only at h1
  split at h1
  · rename_i a ea
    exact ⟨a, ea, tupI_ok h1⟩
  · cases h1
section
variable {X : Cx} {T : Tb} {W : WX} {e : Expr} {m : EM} {p pos : Pos}
theorem me_kd {x : Str} {d : Addr} {es : Array DictEntry} {n : Nat} {tbl : KT} (hg : Gl X x) (hm : X.mg x = some (.ref d)) (D : KDict X.K X.w d es n) (ht : ∀ z is, tbl.lookup z = some is → ∃ a, PySem.W.nsIn X.K d z = some (some (.ref a)) ∧ KTup X.K a (is.map V.int)) (he : ME X T W e m) (hs : PlainIx e := by exact fun _ _ => rfl) (hd : (x == ("__debug__" : Str)) = false := by decide) :
    ME X T W (.Subscript (.Name x p) e pos) (mKd tbl m) := by
  refine PE.weak (pe_ix ix_kdict (pe_glob (v := .ref d) hg hm rfl hd) he hs) fun σ H Q ⟨ρ, μ, g, s, q⟩ => ?_
  refine ⟨ρ, μ, g, s, (Pst.bind (rel := Rp) q).imp fun y H2 ⟨dd, μ2, g2, s2, e2, r2, p2⟩ => ?_⟩
  unfold kKd at p2
  cases dd with
  | str z =>
    cases r2
    simp only at p2
    cases hl : tbl.lookup z with
    | none =>
      rw [hl] at p2
      exact p2.elim
    | some is =>
      rw [hl] at p2
      obtain ⟨a, h1, h2⟩ := ht z is hl
      exact ⟨d, z, .ref a, rfl, rfl, ⟨es, n, .ref a, D.at_, D.lit, h1, rfl⟩, Pst.pure p2 s2 (.tup (.inr h2) (Rps.ints _))⟩
  | _ => exact p2.elim
end
section
variable {ρ : En} {g : Gs} {QD : D → Gs → Prop} {m : EM} {tbl : KT}
@[simp] theorem wp_mKd : wp (mKd tbl m ρ g) QD = wp (m ρ g) fun x g1 => wp (kKd tbl x g1) QD := wp_bind
end
end Sh

set_option Elab.async false
set_option linter.all false
set_option maxRecDepth 100000
set_option maxHeartbeats 1000000
namespace HT
open PySem PySem.Spec PyProof.Rows Builtin
section
variable {prog : Program} {w : World} {A : Around} {E : Value → Shared → Prop} {s : Shared}
theorem sliceApplied_rev {sl : Addr} {vl vu vk : Value} {n : Nat} {Q : Int × Int × Nat → Shared → Prop} (hs : s.heap.IsSliceOf sl vl vu vk) (pl : IsPart vl none) (pu : IsPart vu none) (pk : IsPart vk (some (-1)))
    (h : Q ((n : Int) - 1, -1, n) s) : wpAny (model prog w) A (Builtin.Slice.sliceApplied (.ref sl) (pure (n : Int))) Q E s := by
  obtain ⟨os, hos, hcs, hds⟩ := id hs
  unfold Builtin.Slice.sliceApplied Builtin.Slice.sliceFields
  refine wpAny_bind (wpAny_bind (wpAny_field hos hds (x := vl) rfl (wpAny_bind (wpAny_field hos hds (x := vu) rfl (wpAny_bind (wpAny_field hos hds (x := vk) rfl (wpAny_pure ?_)))))))
  refine wpAny_bind (slicePart_ pk ?_)
  show wpAny _ _ (if ((-1 : Int) == 0) = true then _ else _) _ _ s
  rw [if_neg (by decide)]
  refine wpAny_bind (slicePart_ pl (wpAny_bind (slicePart_ pu (wpAny_bind (wpAny_pure ?_)))))
  show wpAny _ _ (match Builtin.Slice.sliceAdjust none none (-1) (n : Int) with | (lo, hi) => pure (lo, (-1 : Int), Builtin.Slice.slicePlaces lo hi (-1))) _ _ s
  have e1 : Builtin.Slice.sliceAdjust none none (-1) (n : Int) = ((n : Int) - 1, -1) := rfl
  rw [e1]
  have e2 : Builtin.Slice.slicePlaces ((n : Int) - 1) (-1) (-1) = n := by
    unfold Builtin.Slice.slicePlaces
    rw [if_neg (by decide)]
    by_cases z : (n : Int) - 1 > -1
    · rw [if_pos z, show (-(-1) : Int) = 1 by decide, Int.ediv_one]
      omega
    · rw [if_neg z]
      omega
  show wpAny _ _ (pure ((n : Int) - 1, (-1 : Int), Builtin.Slice.slicePlaces ((n : Int) - 1) (-1) (-1))) _ _ s
  rw [e2]
  exact wpAny_pure h
theorem fm_congr {α β : Type} {f g : α → Option β} : ∀ {l : List α}, (∀ x ∈ l, f x = g x) → l.filterMap f = l.filterMap g
  | [], _ => rfl
  | x :: l, h => by
    rw [List.filterMap_cons, List.filterMap_cons, h x (by simp), fm_congr fun y hy => h y (List.mem_cons_of_mem _ hy)]
theorem pick_rev (xs : Array Value) : ((List.range xs.size).filterMap fun (m : Nat) => xs[(((xs.size : Nat) : Int) - 1 + (m : Int) * -1).toNat]?).toArray = xs.toList.reverse.toArray := by
  have e : (List.range xs.size).filterMap (fun (m : Nat) => xs[(((xs.size : Nat) : Int) - 1 + (m : Int) * -1).toNat]?) = ((List.range xs.size).map fun k => xs.size - 1 - k).filterMap (xs[·]?) := by
    rw [List.filterMap_map]
    refine fm_congr fun m hm => ?_
    have := List.mem_range.mp hm
    show xs[_]? = xs[xs.size - 1 - m]?
    congr 1
    omega
  rw [e, PySem.W.krv_range, List.filterMap_reverse, PySem.W.krv_all]
theorem getItem_tuple_rev {t sl : Addr} {items : Array Value} {vl vu vk : Value} {Q : Value → Shared → Prop} (ht : IsTup s.heap t items) (hs : s.heap.IsSliceOf sl vl vu vk) (pl : IsPart vl none) (pu : IsPart vu none) (pk : IsPart vk (some (-1)))
    (h : Q (.ref s.heap.objs.size) { s with heap := s.heap.push { cls := .type "tuple", data := .seq items.toList.reverse.toArray } })
    (hsz : items.size ≤ sizeLine) : wpAny (model prog w) A (getItem (.ref t) (.ref sl)) Q E s := by
  have htake : sizeOk (.seq items.toList.reverse.toArray) := by
    show items.toList.reverse.toArray.size ≤ sizeLine
    rw [List.size_toArray, List.length_reverse, Array.length_toList]
    exact hsz
  obtain ⟨os, hos, hcs, hds⟩ := id hs
  have hTs : s.TypeIs (.ref sl) "slice" := ⟨os, hos, hcs⟩
  unfold getItem
  try with_reducible refine wpAny_holding ?_
  first | refine wpAny_bind (wpAny_pure ?_) | skip
  refine wpAny_bind (wpAny_sequenceKey ht.typeIs (by decide) ?_)
  refine wpAny_bind (wpAny_callSpecial?_slot (name := Str.ofString "__getitem__") ht.typeIs PyProof.Rows.slot_tuple_getitem
    (wpAny_call_entry PyProof.Rows.slot_tuple_getitem ht.typeIs entry_tuple_getitem ?_ (args_tuple_getitem _ _)))
  show wpAny _ _ (Builtin.Tuple.tupleItemsOf (.ref t) >>= _) _ _ s
  refine wpAny_bind (tupleItemsOf_ ht ?_)
  refine wpAny_bind (wpAny_typeOf hTs ?_)
  rw [if_pos (by decide)]
  refine wpAny_bind (sliceApplied_rev hs pl pu pk ?_)
  have hno : ¬ (((((items.size : Nat) : Int) - 1) == 0 && (-1 : Int) == 1 && (items.size == items.size)) = true) := by
    intro q
    rw [Bool.and_eq_true, Bool.and_eq_true] at q
    have q2 : (-1 : Int) = 1 := eq_of_beq q.1.2
    omega
  show wpAny _ _ (if ((((items.size : Nat) : Int) - 1) == 0 && (-1 : Int) == 1 && (items.size == items.size)) = true then _ else _) _ _ s
  rw [if_neg hno, pick_rev]
  first
    | exact wpAny_bind (m := Builtin.Tuple.tupleExact _) (wpAny_newObj_type (wpAny_pure ⟨_, rfl, wpAny_pure h⟩) htake)
    | exact wpAny_bind (m := Builtin.Tuple.tupleExact _) (wpAny_newObj_type (wpAny_bind (wpAny_pure (wpAny_pure ⟨_, rfl, wpAny_pure h⟩))) htake)
    | exact wpAny_bind (wpAny_bind (m := Builtin.Tuple.tupleExact _) (wpAny_newObj_type (wpAny_pure (wpAny_pure ⟨_, rfl, wpAny_pure h⟩)) htake))
    | exact wpAny_bind (wpAny_bind (m := Builtin.Tuple.tupleExact _) (wpAny_newObj_type (wpAny_pure ⟨_, rfl, wpAny_pure h⟩) htake))
end
end HT
namespace Sh
open PySem PySem.Spec PyProof.Rows L2
section
variable {X : Cx} {T : Tb} {W : WX} {e st : Expr} {te ts : TE} {pos p2 : Pos}
/-- x[::-1] -/
def rRev (K : PySem.W.Frag) : V → Hp → VK → Prop := fun x H Q => ∃ a xs, x = .ref a ∧ ((SqL K H a xs ∧ ∀ p, H p = none → Q (.ref p) (upd H p (.lst xs.reverse))) ∨ (SqT K H a xs ∧ ∀ p, H p = none → Q (.ref p) (upd H p (.tup xs.reverse))))
theorem pe_rev (he : PE X e te) (hs : PE X st ts) : PE X (.Subscript e (.Slice none none (some st) p2) pos) (fun σ H Q => te σ H fun x H1 => tPart ts σ H1 fun k H2 => k = some (-1) ∧ rRev X.K x H2 Q) := by
  refine ⟨fun pins s σ H Q I h => ?_⟩
  refine Subscript_ (thn (he.run pins s σ H _ I h) fun v s1 ⟨x, H1, I1, r1, q1⟩ => ?_)
  refine wpAny_Slice (wpAny_pure (wpAny_pure (thn ((po_some hs).run pins s1 σ H1 _ I1 q1) fun vk s3 ⟨u, H3, I3, pk, e3, a, xs, ex, q3⟩ => ?_)))
  subst e3
  subst ex
  cases r1
  have I4 : Inv X pins σ H3 { s3 with heap := s3.heap.push { cls := .type "slice", data := .fields #[.none, .none, vk] } } := I3.kept (t' := s3.toks) fun b ob q => Heap.get?_push_of_some _ q
  have isl : (s3.heap.push { cls := .type "slice", data := .fields #[.none, .none, vk] }).IsSliceOf s3.heap.objs.size .none .none vk := Heap.IsSliceOf.new ..
  show wpAny (model X.prog X.w) X.A (subscriptTail e (.Slice none none (some st) p2) (.ref a) (.ref s3.heap.objs.size)) (EP X pins σ Q) X.xe { s3 with heap := s3.heap.push { cls := .type "slice", data := .fields #[.none, .none, vk] } }
  rcases q3 with ⟨hx, q⟩ | ⟨hx, q⟩
  · obtain ⟨its, r, ht, hz⟩ := I4.list hx
    refine tail_any (T := "list") (ops := [.ref a, .ref s3.heap.objs.size]) ht.isList.typeIs slot_list_getitem.lookup ?_ (by with_unfolding_all rfl)
    refine wpAny_getItem_list_slice ht.isList isl .none .none pk (by simp) ?_ (by rw [List.size_toArray] <;> have := r.length <;> omega)
    rw [PySem.W.krv_pick]
    refine ⟨.ref _, _, I4.laid (t' := s3.toks) (o := .lst xs.reverse) (fun b ob q => Heap.get?_push_of_some _ q) (Nat.le_refl _) ?_, rfl, q _ (I4.hok.fresh (Nat.le_refl _))⟩
    exact ⟨by rw [List.length_reverse]; exact hz, _, 0, r.reverse, Heap.get?_push_size _ rfl⟩
  · obtain ⟨its, r, ht, hz⟩ := I4.tuple hx
    have hlen : its.toArray.size = xs.length := by rw [List.size_toArray]; exact r.length.symm
    refine tail_any (T := "tuple") (ops := [.ref a, .ref s3.heap.objs.size]) ht.typeIs PyProof.Rows.slot_tuple_getitem.lookup ?_ (by with_unfolding_all rfl)
    refine HT.getItem_tuple_rev ht isl .none .none pk ?_ (by rw [hlen]; exact hz)
    refine ⟨.ref _, _, I4.laid (t' := s3.toks) (o := .tup xs.reverse) (fun b ob q => Heap.get?_push_of_some _ q) (Nat.le_refl _) ?_, rfl, q _ (I4.hok.fresh (Nat.le_refl _))⟩
    exact ⟨by rw [List.length_reverse]; exact hz, _, r.reverse, IsTup.new _ _⟩
/-- x[::-1] of a list, a tuple -/
def oRev : D → Gs → Res D
  | .tup xs, g => .ok (.tup xs.reverse) g
  | .lst xs, g => .ok (.lst xs.reverse) g
  | _, _ => .bad
variable {ma : EM}
theorem me_rev {p3 p4 : Pos} {j : Nat} (he : ME X T W e ma) : ME X T W (.Subscript e (.Slice none none (some (.UnaryOp .USub (.Constant (.int 1) j p3) p4)) p2) pos) (mU oRev ma) :=
  PE.weak (pe_rev he (pe_un (pos := p4) un_neg (pe_int (i := 1) (j := j) (pos := p3)))) fun σ H Q h => by
    obtain ⟨ρ, μ, g, s, p⟩ := h
    refine ⟨ρ, μ, g, s, (Pst.bind p).imp fun x H1 ⟨d, μ1, g1, s1, e1, r1, p1⟩ => ?_⟩
    refine ⟨1, rfl, _, rfl, rfl, ?_⟩
    cases d with
    | tup xs =>
      cases r1 with
      | tup t rs => exact ⟨_, _, rfl, .inr ⟨t.sq, fun q hq => p1 _ μ1 _ (s1.new hq) (Ex.new s1 hq) (.tup (TupAt.new s1 hq _) ((rs.ext (Ex.new s1 hq)).reverse))⟩⟩
    | lst xs =>
      cases r1 with
      | lst t rs => exact ⟨_, _, rfl, .inl ⟨t.sq, fun q hq => p1 _ μ1 _ (s1.new hq) (Ex.new s1 hq) (.lst (LstAt.new s1 hq _) ((rs.ext (Ex.new s1 hq)).reverse))⟩⟩
    | _ => exact p1.elim
end
end Sh

set_option Elab.async false
set_option linter.all false
set_option maxRecDepth 100000
set_option maxHeartbeats 1000000
namespace Sh
open PySem PySem.Spec PyProof.Rows L2
section
variable {X : Cx} {T : Tb} {W : WX} {a b e : Expr} {ma mb mi : EM} {pos p p2 : Pos}
/-! ### isinstance with two built-in types -/
def oIsT2 (c1 c2 : String) : D → Gs → Res D := fun d g => match tyOf d g with
  | some t => .ok (.bl (isTy t c1 || isTy t c2)) g
  | none => .bad
theorem me_isT2 {c1 c2 : String} {x y z : Str} {p1 p3 p4 : Pos} {kt} (hc : okTy c1) (hc2 : okTy c2) (hx : x = "isinstance") (hg : Gl X x) (hm : X.mg x = none) (hv : bootBuiltins x = some (.builtin "isinstance")) (hg2 : Gl X y) (hm2 : X.mg y = none) (hv2 : bootBuiltins y = some (.type c1)) (hg3 : Gl X z) (hm3 : X.mg z = none) (hv3 : bootBuiltins z = some (.type c2)) (ha : ME X T W e ma)
    (hn : x ≠ "__name__" := by decide) (hdb : (x == ("__debug__" : Str)) = false := by decide) (hn2 : y ≠ "__name__" := by decide) (hdb2 : (y == ("__debug__" : Str)) = false := by decide) (hn3 : z ≠ "__name__" := by decide) (hdb3 : (z == ("__debug__" : Str)) = false := by decide)
    (hs : starEach [e, .Tuple [.Name y p1, .Name z p3] kt p4] X.env = (false, eval e X.env) :: starEach [.Tuple [.Name y p1, .Name z p3] kt p4] X.env := by rfl) (hpl : (backTo pos (starEach [.Tuple [.Name y p1, .Name z p3] kt p4] X.env)).any (·.1) = false := by rfl)
    (hs2 : starEach [.Name y p1, .Name z p3] X.env = (false, eval (.Name y p1) X.env) :: starEach [.Name z p3] X.env := by rfl) :
    ME X T W (.Call (.Name x p) [e, .Tuple [.Name y p1, .Name z p3] kt p4] [] pos) (mU (oIsT2 c1 c2) ma) :=
  PE.weak (pe_callB call_isiT hg hm hv (pa_cons ha (pa_cons (pe_tup (pa_cons (pe_bltn (v := .ty c1) hg2 hm2 hv2 rfl hn2 hdb2) (pa_cons (pe_bltn (v := .ty c2) hg3 hm3 hv3 rfl hn3 hdb3) pa_nil) hs2)) pa_nil) hs) hn hdb hs hpl) fun σ H Q h => by
    obtain ⟨ρ, μ, g, s, p⟩ := h
    refine ⟨ρ, μ, g, s, (Pst.bind p).imp fun x H1 ⟨d, μ1, g1, s1, e1, r1, p1⟩ => ?_⟩
    unfold oIsT2 at p1
    cases ht : tyOf d g1 with
    | none => rw [ht] at p1; exact p1.elim
    | some t =>
      rw [ht] at p1
      refine ⟨show 2 ≤ sizeLine by decide, fun q hq => ?_⟩
      have ex := Ex.new (o := .tup [V.ty c1, V.ty c2]) s1 hq
      have s2 := s1.new (o := .tup [V.ty c1, V.ty c2]) hq
      obtain ⟨k1, k2⟩ := tyX_of s2 (r1.ext ex) ht
      refine ⟨x, q, [.ty c1, .ty c2], .type t, [.type c1, .type c2], (isTy t c1 || isTy t c2), rfl, upd_same, .cons (.ty c1) (.cons (.ty c2) .nil), k1, ?_, p1 _ μ1 _ s2 ex (.bl _)⟩
      refine kitAny_cons (kit_ty (hc t k2)) (fun z => ?_) (fun z => by rw [z]; rfl)
      rw [z, Bool.false_or]
      exact kitAny_cons (kit_ty (hc2 t k2)) (fun z2 => by rw [z2]; rfl) (fun z2 => z2)
/-! ### x = list(e), a list of its own -/
def mItems (m : EM) : LM := fun ρ g => (m ρ g).bind fun d g1 => match d with
  | .lst xs => .ok xs g1
  | .tup xs => .ok xs g1
  | _ => .bad
theorem mr_list {y : Str} (hy : y = "list") (hg : Gl X y) (hm : X.mg y = none) (hv : bootBuiltins y = some (.type "list")) (h : ∀ T', T'.t = T.t → ME X T' W e ma) (hn : y ≠ "__name__" := by decide) (hdb : (y == ("__debug__" : Str)) = false := by decide)
    (hs : starEach [e] X.env = (false, eval e X.env) :: starEach [] X.env := by rfl) (hpl : (backTo pos (starEach [] X.env)).any (·.1) = false := by rfl) : MR X T W (.Call (.Name y p) [e] [] pos) (.f (mItems ma)) := by
  show PE X _ (tLst fun σ H Q => ∃ O, tL X.K ⟨T.t, O⟩ W (mItems ma) σ H Q)
  have base : PE X (.Call (.Name y p) [e] [] pos) _ := pe_callTy call_list_of hg hm hv (pa_cons (te := fun σ H Q => ∃ O, tE X.K ⟨T.t, O⟩ W ma σ H Q) ⟨fun pins s σ H Q I ⟨O, q⟩ => (h ⟨T.t, O⟩ rfl).run pins s σ H Q I q⟩ pa_nil hs) (hn := hn) (hdb := hdb) (he := hs) (hpl := hpl)
  refine PE.weak base fun σ H Q hq => ?_
  obtain ⟨O, ρ, μ, g, s, p⟩ := hq
  refine ⟨O, ρ, μ, g, s, (Pst.bind p).imp fun x H1 ⟨d, μ1, g1, s1, e1, r1, p1⟩ => ?_⟩
  cases d with
  | lst xs =>
    cases r1 with
    | lst t rs => exact ⟨_, _, rfl, .inl t.sq, (p1 _ μ1 _ s1 (.refl _ _) rs).2⟩
  | tup xs =>
    cases r1 with
    | tup t rs => exact ⟨_, _, rfl, .inr t.sq, (p1 _ μ1 _ s1 (.refl _ _) rs).2⟩
  | _ => exact p1.elim
theorem ms_newL {i : Nat} {x y : Str} {pos' : Pos} (hN : X.N.Nodup) (hy : y = "list") (hg : Gl X y) (hm : X.mg y = none) (hv : bootBuiltins y = some (.type "list")) (he : ∀ T', T'.t = T.t → ME X T' W e ma) (hi : X.N[i]? = some x := by rfl) (hx : Loc X.env.scope x := by first | exact Or.inl rfl | exact Or.inr rfl) (hs : swapsWith (.Call (.Name y p) [e] [] p2) (some (.Name x pos')) pos.line X.env = pure false := by rfl)
    (hf : X.fn x = true ∨ X.env.scope.names.lookup x = some .local := by first | exact .inl rfl | exact .inr rfl | assumption) (hn : y ≠ "__name__" := by decide) (hdb : (y == ("__debug__" : Str)) = false := by decide)
    (hs1 : starEach [e] X.env = (false, eval e X.env) :: starEach [] X.env := by rfl) (hpl : (backTo p2 (starEach [] X.env)).any (·.1) = false := by rfl) : MS X T W (.Assign [.Name x pos'] (.Call (.Name y p) [e] [] p2) pos) (sPar [i] [.f (mItems ma)]) :=
  PS.weak (ps_set hN hi hx (mr_list hy hg hm hv he hn hdb hs1 hpl) hs hf) fun D σ H h => by
    refine w_par (is := [i]) (args := [.f (mItems ma)]) (Q' := fun vs H1 => match vs with | [v] => D.nx (σ.set i (some v)) H1 | _ => True) h (fun vs H1 hl hn => ?_)
    match vs, hl, hn with
    | [v], _, hn => exact hn
/-! ### x[i] = e, x a list of its own -/
def sMlSet (i : Nat) (a b : EM) : SM := fun ρ g => match mlOf ρ i with
  | some xs => eS (a ρ g) fun d g1 => eS (b ρ g1) fun k g2 => (match k with
    | .int k => (match ixN xs.length k with
      | some j => .nx (ρ.set i (.ml (xs.set j d))) g2
      | none => .bad)
    | _ => .bad)
  | none => .bad
theorem ms_mlset (i : Nat) {x : Str} (ha : ME X T W a ma) (hx : PE X (.Name x p2) (tVar i)) (hi : ME X T W b mi)
    (hsub : ∀ v, assign (.Subscript (.Name x p2) b p) X.env v = (do
      let ov ← holding [v] (eval (.Name x p2) X.env)
      let iv ← holding [v, ov] (eval b X.env)
      standAt p
      holding [v, ov, iv] (setItem ov iv v)
      release [v, ov, iv] []) := by intro _; rfl)
    (hs : swapsWithSole [.Subscript (.Name x p2) b p] a pos.line X.env = pure false := by rfl) (hw : swappedStores [.Subscript (.Name x p2) b p] a X.env = pure none := by rfl)
    (h1 : (assignEach [.Subscript (.Name x p2) b p] X.env).map (·.2) = [assign (.Subscript (.Name x p2) b p) X.env] := by rfl) : MS X T W (.Assign [.Subscript (.Name x p2) b p] a pos) (sMlSet i ma mi) :=
  PS.weak (ps_asg ha (pg_sub hx hi set_list hsub) hs hw h1) fun D σ H ⟨ρ, μ, g, s, q⟩ => by
    unfold sMlSet at q
    cases hl : mlOf ρ i with
    | none => rw [hl] at q; exact q.elim
    | some xs =>
      rw [hl] at q
      have hi := mlOf_eq hl
      obtain ⟨p, vs, k1, k2, k3, k4⟩ := s.em i xs hi
      refine ⟨ρ, μ, g, s, (SPst.bindE q).imp fun v H1 ⟨d, μ1, g1, s1, x1, r1, q1⟩ => ⟨.ref p, k1, ρ, μ1, g1, s1, (SPst.bindE q1).imp fun iv H3 ⟨k, μ3, g3, s3, x3, r3, q3⟩ => ?_⟩⟩
      match k, r3, q3 with
      | .int k, r3, q3 =>
      cases r3
      simp only at q3
      cases hk : ixN xs.length k with
      | none => rw [hk] at q3; exact q3.elim
      | some j =>
        rw [hk] at q3
        obtain ⟨p', vs', k1', k2', k3', k4'⟩ := s3.em i xs hi
        rw [k1] at k1'
        cases k1'
        obtain ⟨s4, x4⟩ := s3.wml (ys := xs.set j d) (ws := vs'.set j v) hi k1 k2' (k4'.set (r1.ext x3) j)
        exact ⟨p, vs', k, j, rfl, rfl, k2', by rw [← k4'.len]; exact hk, q3 σ μ3 _ s4 x4⟩
theorem nc_mlset {i : Nat} {a b : EM} : NC (sMlSet i a b) := fun ρ g ρ' g' => by
  unfold sMlSet
  cases mlOf ρ i with
  | none => exact ⟨nofun, nofun⟩
  | some xs =>
    simp only
    cases ha : a ρ g with
    | ok d g1 =>
      simp only [eS]
      cases hb : b ρ g1 with
      | ok k g2 =>
        cases k with
        | int k =>
          simp only [eS]
          cases ixN xs.length k <;> exact ⟨nofun, nofun⟩
        | _ => exact ⟨nofun, nofun⟩
      | ex _ _ => exact ⟨nofun, nofun⟩
      | bad => exact ⟨nofun, nofun⟩
    | ex _ _ => exact ⟨nofun, nofun⟩
    | bad => exact ⟨nofun, nofun⟩
end
section
variable {ρ : En} {g : Gs} {QD : D → Gs → Prop} {QL : List D → Gs → Prop} {N : En → Gs → Prop} {R : D → Gs → Prop} {m a b : EM}
def itmR (d : D) (g : Gs) : Res (List D) := match d with
  | .lst xs => .ok xs g
  | .tup xs => .ok xs g
  | _ => .bad
@[simp] theorem wp_mItems : wp (mItems m ρ g) QL = wp (m ρ g) fun d g1 => wp (itmR d g1) QL := wp_bind
@[simp] theorem itmR_lst {xs : List D} : wp (itmR (.lst xs) g) QL = QL xs g := rfl
@[simp] theorem itmR_tup {xs : List D} : wp (itmR (.tup xs) g) QL = QL xs g := rfl
def mlsR (i : Nat) (ρ : En) (xs : List D) (d k : D) (g : Gs) (N : En → Gs → Prop) : Prop := match k with
  | .int k => (match ixN xs.length k with
    | some j => N (ρ.set i (.ml (xs.set j d))) g
    | none => False)
  | _ => False
@[simp] theorem wpS_mlset {i : Nat} : wpS (sMlSet i a b ρ g) N R = mlR ρ[i]? fun xs => wp (a ρ g) fun d g1 => wp (b ρ g1) fun k g2 => mlsR i ρ xs d k g2 N := by
  unfold sMlSet
  cases h : ρ[i]? with
  | none =>
    have : mlOf ρ i = none := by unfold mlOf; rw [h]
    rw [this]
    rfl
  | some z =>
    cases z with
    | ml xs =>
      have : mlOf ρ i = some xs := by unfold mlOf; rw [h]
      rw [this]
      show wpS (eS (a ρ g) _) N R = wp (a ρ g) _
      rw [wpS_e]
      congr 1
      funext d g1
      rw [wpS_e]
      congr 1
      funext k g2
      cases k with
      | int k =>
        unfold mlsR
        simp only
        cases ixN xs.length k <;> rfl
      | _ => rfl
    | _ =>
      have : mlOf ρ i = none := by unfold mlOf; rw [h]
      rw [this]
      rfl
@[simp] theorem mlsR_nat {i : Nat} {xs : List D} {d : D} {k : Nat} : mlsR i ρ xs d (.int (k : Int)) g N = (k < xs.length ∧ N (ρ.set i (.ml (xs.set k d))) g) := by
  unfold mlsR
  simp only
  by_cases h : k < xs.length
  · have e : ixN xs.length (k : Int) = some k := by
      unfold ixN
      rw [if_pos (by omega), if_pos (by omega)]
      simp
    rw [e]
    simp [h]
  · have e : ixN xs.length (k : Int) = none := by
      unfold ixN
      rw [if_pos (by omega), if_neg (by omega)]
    rw [e]
    simp [h]
@[simp] theorem isT2_non {c d : String} : wp (oIsT2 c d .non g) QD = QD (.bl (isTy "NoneType" c || isTy "NoneType" d)) g := rfl
@[simp] theorem isT2_bl {c d : String} {k : Bool} : wp (oIsT2 c d (.bl k) g) QD = QD (.bl (isTy "bool" c || isTy "bool" d)) g := rfl
@[simp] theorem isT2_int {c d : String} {i : Int} : wp (oIsT2 c d (.int i) g) QD = QD (.bl (isTy "int" c || isTy "int" d)) g := rfl
@[simp] theorem isT2_str {c d : String} {x : Str} : wp (oIsT2 c d (.str x) g) QD = QD (.bl (isTy "str" c || isTy "str" d)) g := rfl
@[simp] theorem isT2_tup {c d : String} {xs : List D} : wp (oIsT2 c d (.tup xs) g) QD = QD (.bl (isTy "tuple" c || isTy "tuple" d)) g := rfl
@[simp] theorem isT2_lst {c d : String} {xs : List D} : wp (oIsT2 c d (.lst xs) g) QD = QD (.bl (isTy "list" c || isTy "list" d)) g := rfl
@[simp] theorem oRev_tup {xs : List D} : wp (oRev (.tup xs) g) QD = QD (.tup xs.reverse) g := rfl
@[simp] theorem oRev_lst {xs : List D} : wp (oRev (.lst xs) g) QD = QD (.lst xs.reverse) g := rfl
end
end Sh

set_option Elab.async false
set_option linter.all false
set_option maxRecDepth 100000
set_option maxHeartbeats 2000000
/-! an own exception class whose __init__ is: super().__init__(text); self.f = x -/
namespace Su
open PySem PySem.W PySem.Calls PyProof.Rows PySem.Spec
section
variable {prog : Program} {w : World} {A : Around} {h : Heap} {g : Array GenState} {d : Drawn} {t : Nat} {os : OsState} {R : Result → Shared → Prop}
theorem ns_keep {h h' : Heap} {L : Addr} {m : PySem.Str → Option Value} {e : Addr} {oe : Obj} (hn : h.Ns L m) (he : h.get? e = some oe) (hd : ∀ es n, oe.data ≠ .dict es n) (k : ∀ b o, b ≠ e → h.get? b = some o → h'.get? b = some o) : h'.Ns L m := by
  obtain ⟨oL, es, ep, hL, r⟩ := hn
  refine ⟨oL, es, ep, k _ _ (fun z => ?_) hL, r⟩
  subst z
  rw [hL] at he
  cases he
  exact hd _ _ r.1
theorem su_init {K : Frag} {qual arg fld tx : PySem.Str} {params : Arguments} {scope : Scope} {dV kV doc pm ct oc : Value} {an od : Option Addr} {osl : Array (Option Value)} {fI cc cda e C t0 : Addr} {v : Value} {j : Nat} {p1 p2 p3 p4 p5 p6 p7 p8 p9 p10 : Pos}
    {ccl cl : Value} {cdd cld : Option Addr} {ccs csl : Array (Option Value)} {vs : Array Value} {file : PySem.Str} {tf : Tok} {cdC : ClassData} {ar : Arg} {mg mb : PySem.Str → Option Value} {bmB : List Value} {newId : String}
    (X : K.In h) (lim : h.NoLimit) (hroom : A.depth < recursionLimit)
    (lk : K.lookup fI = some ⟨oc, od, .func (fnX "__init__" qual params [.Expr (.Call (.Attribute (.Call (.Name "super" p1) [] [] p2) "__init__" p3) [.Constant (.str tx) j p4] [] p5) p6, .Assign [.Attribute (.Name "self" p7) fld p8] (.Name arg p9) p10] scope [("__class__", cc)] dV kV doc pm an (.ref cda) ct), osl⟩)
    (hcd : codeIn K (.ref cda) qual = true) (hcode : K.lookup cda = some ⟨ccl, cdd, .fields vs, ccs⟩) (hvs : vs[2]? = some (.str file tf)) (hfile : ((prog.main.file : PySem.Str) == file) = true)
    (hcell : K.lookup cc = some ⟨cl, cld, .cell (some (.ref C)), csl⟩) (hC : clsIn K C = some cdC)
    (hsub : mroIn K C (.ref C) = some true) (hVE : subIn K (.ref C) (.type "ValueError") = some true) (hsup : ks_superIn K C C "__init__" = some (some (.builtin "ValueError.__init__")))
    (hop : nsIn K cStatics "thirdparty.any" = some none) (hsn : nsIn K mainGlobals "super" = some none) (hG : h.Ns mainGlobals mg) (hB : h.Ns builtinsNs mb) (hbs : mb "super" = some (.type "super")) (htop : (prog.main.scope.names.lookup ("super" : PySem.Str)).isSome = false)
    (q : excInitIn K C bmB newId = true) (FB : ExcBaseFacts "ValueError" newId "ValueError.__init__" bmB)
    (hm : HandSPX.refsVE cdC.mro = true) (hh : cdC.hasDict = true) (hfld : findIn K (.ref C) fld = some none) (hsa : findIn K (.ref C) "__setattr__" = some (some (.builtin "object.__setattr__")))
    (hk : scope.kind = .function) (hco : scope.isCoroutine = false) (hgen : scope.isGenerator = false) (hnc : ∀ x ∈ scope.names, x.2 ≠ .cell) (hself : scope.names.lookup ("self" : PySem.Str) = some .local) (harg : scope.names.lookup arg = some .local)
    (hks : scope.names.lookup ("super" : PySem.Str) = some .globalImplicit) (hkc : scope.names.lookup ("__class__" : PySem.Str) = some .free)
    (hp : (params.posonlyargs ++ params.args).head? = some ar) (hpa : ar.arg = "self") (hne : arg ≠ "self") (hdb : (arg == ("__debug__" : PySem.Str)) = false)
    {pl : Addr → Sem Bool} (hcall : ∀ L, eval (.Call (.Attribute (.Call (.Name "super" p1) [] [] p2) "__init__" p3) [.Constant (.str tx) j p4] [] p5) (ksEnv qual scope L fI (.ref cda) cc) = (do
      let ov ← attributeBase (.Call (.Name "super" p1) [] [] p2) "__init__" (ksEnv qual scope L fI (.ref cda) cc) (eval (.Call (.Name "super" p1) [] [] p2) (ksEnv qual scope L fI (.ref cda) cc))
      standAt p3.atName
      let (f, first) ← holding [ov] (getMethod ov "__init__" (pl L))
      callWith p5 f first (backTo p5 (starEach [.Constant (.str tx) j p4] (ksEnv qual scope L fI (.ref cda) cc))) []))
    (hint : ∀ L, interactive (ksEnv qual scope L fI (.ref cda) cc) = false) (hsw1 : ∀ L, swapsWith (.Call (.Attribute (.Call (.Name "super" p1) [] [] p2) "__init__" p3) [.Constant (.str tx) j p4] [] p5) none p6.line (ksEnv qual scope L fI (.ref cda) cc) = pure false)
    (hsw2 : ∀ L, swapsWith (.Name arg p9) (some (.Attribute (.Name "self" p7) fld p8)) p10.line (ksEnv qual scope L fI (.ref cda) cc) = pure false)
    (he : h.get? e = some (excObj C t0 none .none)) (heK : K.lookup e = none)
    (hbind : BindsTo ⟨h, g, d, t, os⟩ (fnX "__init__" qual params [.Expr (.Call (.Attribute (.Call (.Name "super" p1) [] [] p2) "__init__" p3) [.Constant (.str tx) j p4] [] p5) p6, .Assign [.Attribute (.Name "self" p7) fld p8] (.Name arg p9) p10] scope [("__class__", cc)] dV kV doc pm an (.ref cda) ct) ⟨[.ref e, v], []⟩ [("self", .ref e), (arg, v)])
    (hR : ∀ (h' : Heap) (tk : Nat) (dx t1 : Addr), (∀ b o, b ≠ e → h.get? b = some o → h'.get? b = some o) → h.objs.size ≤ dx → dx ≠ e → h'.get? e = some { cls := .ref C, dict := some dx, data := .fields #[.ref t1, .none, .none, .none, .bool false, .none] } →
      h'.Ns1 dx (fun y => if y = fld then some v else none) → R (.ok (.ret .none)) ⟨h', g, d, tk, os⟩) :
    codeAny (model prog w) A (.call (.ref fI) ⟨[.ref e, v], []⟩) R ⟨h, g, d, t, os⟩ := by
  refine ks_codeAny_call_defAt (fd := fnX "__init__" qual params _ scope [("__class__", cc)] dV kV doc pm an (.ref cda) ct) hroom (X _ _ lk) rfl lim (codeRec_of X hcd) rfl hbind hnc (fun x hx => ?_) (fun h1 hns k1 => ?_) hco hgen hk
  · simp at hx
    rcases hx with rfl | rfl
    · exact hself
    · exact harg
  have X1 : K.In h1 := X.keeps k1
  have he1 := k1 _ _ he
  have m1 : List.lookup ("self" : PySem.Str) ([("self", .ref e), (arg, v)] : List (PySem.Str × Value)).reverse = some (.ref e) := by
    show List.lookup ("self" : PySem.Str) [(arg, v), ("self", .ref e)] = _
    rw [List.lookup_cons]
    have : (("self" : PySem.Str) == arg) = false := by simpa using hne.symm
    rw [this]
    rfl
  have m2 : List.lookup arg ([("self", .ref e), (arg, v)] : List (PySem.Str × Value)).reverse = some v := by
    show List.lookup arg [(arg, v), ("self", .ref e)] = _
    rw [List.lookup_cons]
    simp
  have I1 : InstAt h1 e (excObj C t0 none .none) C none := ⟨he1, rfl, rfl, trivial⟩
  obtain ⟨oC, hC1, hC2⟩ : ∃ oC, h1.get? C = some oC ∧ oC.data = .cls cdC := by
    unfold clsIn at hC
    split at hC
    · rename_i c d cd' sl ho
      cases hC
      exact ⟨_, X1 _ _ ho, rfl⟩
    · cases hC
  refine ks_wpAt_execs_cons (ks_wpAt_Expr_any (ks_wpAt_MethodCall ?_ (hcall h.objs.size)) (hint _) (hsw1 _))
  refine ks_wpAt_super_base (env := callEnv (fnX "__init__" qual params _ scope [("__class__", cc)] dV kV doc pm an (.ref cda) ct) h.objs.size fI) hks hkc (by decide) rfl (X1 _ _ lk) rfl hp rfl (X1 _ _ hcode) rfl hvs hfile htop ?_
  refine ks_loadName_global hk hks (loadGlobal_builtin (hG.keeps k1) (mg_none_of X hG hsn) (hB.keeps k1) hbs ⟨rfl, ?_⟩)
  refine wpAny_loadName_free hk hkc rfl ⟨_, X1 _ _ hcell, rfl⟩ ?_
  rw [hpa]
  refine wpAny_loadName_local hk hself hns m1 ?_
  refine ks_wpAny_isType_cls hC1 hC2 ⟨rfl, ?_⟩
  refine ks_wpAny_call_super hC1 hC2 I1.at_ I1.cls (fun c z => ?_) (looks_mroIn X1 hsub) (fun h2 so k2 => ?_)
  · cases z
  have X2 : K.In h2 := X1.keeps k2
  have he2 := k2 _ _ he1
  have I2 : InstAt h2 e (excObj C t0 none .none) C none := ⟨he2, rfl, rfl, trivial⟩
  have hL2 : h2.Ns h.objs.size (fun x => ([("self", .ref e), (arg, v)] : List (PySem.Str × Value)).reverse.lookup x) := hns.keeps k2
  have along : alongIn K "__init__" ((cdC.mro.dropWhile (· != .ref C)).drop 1) = some (some (.builtin "ValueError.__init__")) := by
    unfold ks_superIn at hsup
    rw [hC] at hsup
    exact hsup
  have look : Looks (model prog w) h2 (mroOf (.ref C)) cdC.mro := (looks_clsIn X2 hC).andThen .now
  refine kxs_getMethod kxs_ValueError so (looks_opaque X2 hop) look rfl X2 along (I2.type.andThen (looks_subIn X2 hVE)) (ks_ne X2 I2 hC) (by decide) ?_
  have k3 : ∀ b o, h2.get? b = some o → (h2.push (kxs_mw "ValueError.__init__" e)).get? b = some o := fun b o z => Heap.get?_push_of_some _ z
  have hu : (h2.push (kxs_mw "ValueError.__init__" e)).get? h2.objs.size = some (kxs_mw "ValueError.__init__" e) := Heap.get?_push_at rfl rfl
  refine kxs_callWith (i := "ValueError.__init__") (x := e) rfl (evalArgs_plain ?_)
  refine Calls.spliced_cons (Calls.Constant_str (k := j) (pos := p4) ?_)
  refine Calls.spliced_nil ⟨hu, ?_⟩
  have he3 := k3 _ _ he2
  obtain ⟨nm, N', qn, bs, bm, hdct, sn, sub, ab, col, dd, c0, c1, c2, c3, c5, hCx, hT⟩ := excInit_of (X2.keeps k3) q
  refine wpAny_call (codeAny_of_tree ?_)
  show wpAny (model prog w) _ (callAny (.ref h2.objs.size) _) _ _ _
  simp only [callAny]
  refine wpAny_bind (wpAny_load hu ?_)
  simp only [kxs_mw]
  refine KFB.if_so (by decide) ?_
  refine wpAny_bind (check_bound_init FB.toExcCallFacts hCx he3 rfl ?_)
  refine wpAny_bind (wpAny_pure (wpAny_pure ⟨plainId_quiet FB.init.plain _, ?_⟩))
  refine codeAny_builtin FB.initEntry (exc_init_tree he3 (by show 1 ≤ sizeLine; decide) fun h4 k4 he4 ht4 => ?_)
  have X4 : K.In h4 := fun a o z => k4 a o (fun y => by
    rw [y, heK] at z
    cases z) (k3 _ _ (X2 _ _ z))
  have hL4 := ns_keep (hL2.keeps k3) he3 (fun _ _ y => by cases y) k4
  refine ks_wpAt_execs_cons (wpAt_of_wpAny (plainObj_wpAny_Assign_Attribute ?_ (hsw2 _)))
  refine wpAny_Name (wpAny_loadName_local hk harg hL4 m2 ?_) hdb
  refine wpAny_Name (wpAny_loadName_local hk hself hL4 m1 ?_) (by decide)
  refine set_plain X4 (ox := { cls := .ref C, dict := none, data := .fields #[.ref (h2.push (kxs_mw "ValueError.__init__" e)).objs.size, .none, .none, .none, .bool false, .none] }) (od := none) ⟨he4, rfl, rfl, trivial⟩ hsa ?_
  refine HandSPX.exc_osa X4 he4 hC hm hh hfld (fun h5 tk dx k5 n5 ne5 he5 hn5 => ?_)
  refine wpAt_of_wpAny ?_
  have sz : h.objs.size ≤ h4.objs.size := by
    obtain ⟨oL, _, _, hL, _⟩ := hL4
    exact Nat.le_of_lt (Heap.lt_size hL)
  refine wpAny_execs_nil ?_
  refine hR h5 tk dx _ (fun b o hb z => k5 b o hb (k4 b o hb (k3 _ _ (k2 _ _ (k1 _ _ z))))) (Nat.le_trans sz n5) ne5 he5 hn5
end
end Su

set_option Elab.async false
set_option linter.all false
set_option maxRecDepth 100000
set_option maxHeartbeats 2000000
/-! raise C(e), C's own __init__ says super().__init__(text); self.f = e -/
namespace Sh
open PySem PySem.Spec PyProof.Rows L2
/-- what is known of such a class -/
structure SuC (P : Program) (w : World) (K : PySem.W.Frag) (mg : Str → Option Value) (C fI : Addr) (f : Str) : Prop where
  run : ∀ {A : Around} {h : Heap} {g : Array GenState} {d : Drawn} {t : Nat} {os : OsState} {R : Result → Shared → Prop} {mb : Str → Option Value} {e t0 : Addr} {v : Value}, K.In h → h.NoLimit → A.depth < recursionLimit → h.Ns mainGlobals mg → h.Ns builtinsNs mb → mb "super" = some (.type "super") →
    h.get? e = some (PySem.HandSPX.excO C t0) → K.lookup e = none →
    (∀ (h' : Heap) (tk : Nat) (dx t1 : Addr), (∀ b o, b ≠ e → h.get? b = some o → h'.get? b = some o) → h.objs.size ≤ dx → dx ≠ e → h'.get? e = some { cls := .ref C, dict := some dx, data := .fields #[.ref t1, .none, .none, .none, .bool false, .none] } →
      h'.Ns1 dx (fun y => if y = f then some v else none) → R (.ok (.ret .none)) ⟨h', g, d, tk, os⟩) → codeAny (model P w) A (.call (.ref fI) ⟨[.ref e, v], []⟩) R ⟨h, g, d, t, os⟩
  exc : PySem.W.excInitIn K C He.veBase "ValueError.__new__" = true
  init : PySem.W.findIn K (.ref C) "__init__" = some (some (.ref fI))
  fn : PySem.W.typeIn K (.ref fI) = some (.type "function")
  keep : PySem.W.keepIn K (.ref C) = true
  bas : PySem.W.subIn K (.ref C) (.type "BaseException") = some true
  typ : PySem.W.typeIn K (.ref C) = some (.type "type")
theorem boot_super : bootBuiltins "super" = some (.type "super") := PyProof.Rows.Boot.«super»
section
variable {X : Cx} {C fI : Addr} {f x : Str} {e : Expr} {te : TE} {p pos : Pos}
theorem pmk_su (S : SuC X.prog X.w X.K X.mg C fI f) (hg : Gl X x) (hm : X.mg x = some (.ref C)) (hr : Room 2 X.A) (he : PE X e te) (hdb : (x == ("__debug__" : Str)) = false := by decide)
    (hs : starEach [e] X.env = (false, eval e X.env) :: starEach [] X.env := by rfl) (hpl : (backTo pos (starEach [] X.env)).any (·.1) = false := by rfl) :
    L2N.PMk X (.Call (.Name x p) [e] [] pos) (fun σ H Q => te σ H fun y H1 => ∀ dd, H1 dd = none → Q (.ref C) (some dd) (upd H1 dd (.xd [(f, y)]))) := by
  intro pins s σ H Q I h
  refine wpAny_Call_Name_kw (ld_glob I hg hm ?_ hdb)
  have ha := (pa_cons he pa_nil hs).run pos pins s σ H (fun vs H1 => match vs with
    | [y] => ∀ dd, H1 dd = none → Q (.ref C) (some dd) (upd H1 dd (.xd [(f, y)]))
    | _ => False) I h
  refine PySem.W.callWith_K (h₀ := X.base) I.ok.mod.kin S.keep (thn ha fun us s1 hh => ?_) hs hpl
  obtain ⟨vs, H1, I1, r1, q1⟩ := hh
  refine ⟨I1.kIn, ?_⟩
  match vs, us, r1, q1 with
  | [y], [u], .cons ru .nil, q1 =>
    show wpAny _ _ (call (.ref C) [u]) _ _ _
    obtain ⟨nm, N', qn, bs, bm, hdct, sn, sub, ab, col, dd, k0, k1, k2, k3, k5, hC, hT⟩ := PySem.W.excInit_of I1.kIn S.exc
    have KX := I1.kIn
    have bk := I1.bk
    obtain ⟨mb, b1, b2⟩ := I1.mod.blt
    have G1 := I1.mod.glob.keeps bk
    have B1 := b1.keeps bk
    have lim := I1.nolimit
    have hlk : ∀ a o, X.K.lookup a = some o → a < s1.heap.objs.size := fun a o z => Heap.lt_size (KX _ _ z)
    obtain ⟨hp, g, dr, tk, os⟩ := s1
    have kk : ∀ b o, hp.get? b = some o → ((hp.push (PySem.W.kdv_tup [u])).push (PySem.HandSPX.excO C hp.objs.size)).get? b = some o := fun b o z => Heap.get?_push_of_some _ (Heap.get?_push_of_some _ z)
    have hget : ((hp.push (PySem.W.kdv_tup [u])).push (PySem.HandSPX.excO C hp.objs.size)).get? (hp.objs.size + 1) = some (PySem.HandSPX.excO C hp.objs.size) := by heap_get
    refine wpAny_call (PySem.HandSPX.call_own F.excBase_ValueError hT hC (PySem.W.looks_findIn KX S.init) (fun self => PySem.W.bind_fn KX self S.fn) (by show 1 ≤ sizeLine; decide) ?_)
    refine S.run (KX.keeps kk) (lim.keeps kk) (hr.make C [u] []).depth (G1.keeps kk) (B1.keeps kk) ((b2 _ (by decide)).trans boot_super) hget ?_ (fun h' tk' dx t1 k n1 n2 he' hn' => ?_)
    · cases z : List.lookup (hp.objs.size + 1) X.K with
      | none => rfl
      | some o => exact absurd (hlk _ _ z) (by show ¬ hp.objs.size + 1 < hp.objs.size; omega)
    · refine ⟨rfl, ?_⟩
      have e1 : hp.objs.size ≤ dx := Nat.le_trans (by rw [Heap.size_push, Heap.size_push]; omega) n1
      have hdx : H1 dx = none := I1.hok.fresh e1
      obtain ⟨G, g1, g2⟩ := restrict h' fun b => decide (b ≠ hp.objs.size + 1)
      have gk : ∀ b, b ≠ hp.objs.size + 1 → G.get? b = h'.get? b := fun b hb => g1 b (decide_eq_true hb)
      have ge : G.get? (hp.objs.size + 1) = none := g2 _ (by simp)
      have kp : ∀ b o, hp.get? b = some o → G.get? b = some o := fun b o z => by
        have hb : b ≠ hp.objs.size + 1 := Nat.ne_of_lt (Nat.lt_succ_of_lt (Heap.lt_size z))
        rw [gk b hb]
        exact k b o hb (kk b o z)
      have ok : ObjOk X.prog X.w (upd H1 dx (.xd [(f, y)])) G dx (.xd [(f, y)]) := ⟨_, hn'.at fun o z => (gk dx n2).trans z, fun fl => by
        by_cases hf : fl = f
        · subst hf
          simp only [List.lookup, beq_self_eq_true, if_true]
          exact ru
        · have e : (fl == f) = false := by simpa using hf
          simp only [List.lookup, e, hf, if_false]
          trivial⟩
      have J : Inv X pins σ (upd H1 dx (.xd [(f, y)])) ⟨G, g, dr, tk', os⟩ := I1.laid (t' := tk') (a := dx) (o := .xd [(f, y)]) (h' := G) kp e1 ok
      exact ⟨hp.objs.size + 1, _, _, ⟨G, g, dr, tk', os⟩, _, .ref C, some dx, rfl, J, fun b o z => by
        by_cases hb : b = hp.objs.size + 1
        · rw [hb, ge] at z
          cases z
        · rw [← gk b hb]
          exact z, ge, he', ⟨rfl, rfl, fun vs z => by cases z; rfl⟩, rfl, rfl, (by rw [upd_ne (Ne.symm n2)]; exact I1.hok.fresh (Nat.le_succ _)), rfl, I1.bare, raises_own S.bas S.typ, q1 dx hdx⟩
end
/-! ### the statement -/
def sRaiseF (c f : Str) (m : EM) : SM := fun ρ g => eS (m ρ g) fun d g1 => .ex ⟨c, [(f, d)]⟩ g1
theorem nc_raiseF {c f : Str} {m : EM} : NC (sRaiseF c f m) := fun ρ g => nc_e fun a g ρ' g' => ⟨nofun, nofun⟩
section
variable {X : Cx} {T : Tb} {W : WX} {c f x : Str} {fI : Addr} {e : Expr} {m : EM} {p pos p3 : Pos}
theorem ms_raiseF (hc : X.calm = true) (tk : L2N.Takes X W) (S : SuC X.prog X.w X.K X.mg (He.ga X.K c) fI f) (hm : X.mg x = some (.ref (He.ga X.K c))) (hg : Gl X x) (hr : Room 2 X.A) (he : ME X T W e m) (hdb : (x == ("__debug__" : Str)) = false := by decide)
    (hs : starEach [e] X.env = (false, eval e X.env) :: starEach [] X.env := by rfl) (hpl : (backTo p3 (starEach [] X.env)).any (·.1) = false := by rfl) :
    MS X T W (.Raise (some (.Call (.Name x p) [e] [] p3)) none pos) (sRaiseF c f m) :=
  PS.weak (L2N.ps_raise hc tk (pmk_su S hg hm hr he hdb hs hpl)) fun D σ H ⟨ρ, μ, g, s, q⟩ => by
    refine ⟨ρ, μ, g, s, (SPst.bindE q).imp fun v H1 ⟨d, μ1, g1, s1, x1, r1, q1⟩ dd hd => ?_⟩
    exact q1 (some dd) ρ σ μ1 _ (s1.new hd) (.of (Ex.new s1 hd)) (.inr ⟨dd, [(f, v)], rfl, by simp, upd_same, s1.freeM hd, s1.freeO hd, .cons (r1.ext (Ex.new s1 hd)) .nil⟩)
end
end Sh

set_option Elab.async false
set_option linter.all false
set_option maxRecDepth 100000
set_option maxHeartbeats 2000000
/-! what the head tells of a class with super().__init__, and a Hook that tells it -/
namespace Sh
open PySem PySem.Spec PyProof.Rows L2
def clsItem (s : Stmt) (i : Nat) : Stmt := match s with
  | .ClassDef _ _ _ b _ _ _ _ _ _ _ => b.getD i (.Pass ⟨0, 0, 0, 0⟩)
  | _ => .Pass ⟨0, 0, 0, 0⟩
/-! ### a def that closes over names -/
abbrev FnZ : Type := Option (Str × Str × Arguments × FuncBody × Scope × Addr × List Str × Addr)
def fnZ (K : PySem.W.Frag) (p : Str × Option Str) : FnZ := match K.lookup (He.fAd K p) with
  | some ⟨_, _, .func fd, _⟩ => some (fd.name, fd.qualname, fd.params, fd.body, fd.scope, fd.globals, fd.closure.map (·.1), fd.builtins)
  | _ => none
structure DefZ where
  at_ : Str × Option Str
  name : Str
  qual : Str
  st : Stmt
  clo : List Str
def DefZ.val (d : DefZ) : FnZ := some (d.name, d.qual, defArgs d.st, .stmts (defBody d.st), defScope d.st, mainGlobals, d.clo, builtinsNs)
/-- the parts of the class that are looked at -/
def codB (K : PySem.W.Frag) (file q : Str) (v : Value) : Bool := match v with
  | .ref a => PySem.W.codeIn K (.ref a) q && (match K.lookup a with
    | some ⟨_, _, .fields vs, _⟩ => (match (vs[2]? : Option Value) with
      | some (Value.str fl _) => decide (file = fl)
      | _ => false)
    | _ => false)
  | _ => false
def celB (K : PySem.W.Frag) (C : Addr) (l : List (Str × Addr)) : Bool := match l with
  | [(_, cc)] => (match K.lookup cc with
    | some ⟨_, _, .cell (some (.ref D)), _⟩ => decide (D = C)
    | _ => false)
  | _ => false
def clsB (K : PySem.W.Frag) (C : Addr) : Bool := match PySem.W.clsIn K C with
  | some cd => PySem.HandSPX.refsVE cd.mro && cd.hasDict
  | none => false
def nonB (v : Value) : Bool := match v with
  | .none => true
  | _ => false
theorem nonB_ok {v : Value} (h : nonB v = true) : v = .none := by
  cases v <;> first | rfl | cases h
def suB (K : PySem.W.Frag) (file c f : Str) : Bool :=
  (match K.lookup (He.ma K (He.ga K c) "__init__") with
    | some ⟨_, _, .func fd, _⟩ => (codB K file fd.qualname fd.code && celB K (He.ga K c) fd.closure) && nonB fd.defaults
    | _ => false) && (clsB K (He.ga K c) && (decide (PySem.W.mroIn K (He.ga K c) (.ref (He.ga K c)) = some true) && (decide (PySem.W.subIn K (.ref (He.ga K c)) (.type "ValueError") = some true) &&
  (decide (PySem.W.ks_superIn K (He.ga K c) (He.ga K c) "__init__" = some (some (.builtin "ValueError.__init__"))) && (decide (PySem.W.nsIn K cStatics "thirdparty.any" = some none) && (decide (PySem.W.nsIn K mainGlobals "super" = some none) &&
  (PySem.W.excInitIn K (He.ga K c) He.veBase "ValueError.__new__" && (decide (PySem.W.findIn K (.ref (He.ga K c)) f = some none) && (decide (PySem.W.findIn K (.ref (He.ga K c)) "__setattr__" = some (some (.builtin "object.__setattr__"))) &&
  (decide (PySem.W.findIn K (.ref (He.ga K c)) "__init__" = some (some (.ref (He.ma K (He.ga K c) "__init__")))) && (decide (PySem.W.typeIn K (.ref (He.ma K (He.ga K c) "__init__")) = some (.type "function")) && (PySem.W.keepIn K (.ref (He.ga K c)) &&
  (decide (PySem.W.subIn K (.ref (He.ga K c)) (.type "BaseException") = some true) && decide (PySem.W.typeIn K (.ref (He.ga K c)) = some (.type "type")))))))))))))))
theorem codB_ok {K : PySem.W.Frag} {file q : Str} {v : Value} (h : codB K file q v = true) : ∃ a oc od vs os tf, v = .ref a ∧ PySem.W.codeIn K (.ref a) q = true ∧ K.lookup a = some ⟨oc, od, .fields vs, os⟩ ∧ vs[2]? = some (.str file tf) := by
  unfold codB at h
  cases v with
  | ref a =>
    simp only [Bool.and_eq_true] at h
    obtain ⟨h1, h2⟩ := h
    split at h2
    · rename_i oc od vs os hl
      split at h2
      · rename_i fl tf hv
        have e : file = fl := of_decide_eq_true h2
        subst e
        exact ⟨a, oc, od, vs, os, tf, rfl, h1, hl, hv⟩
      · cases h2
    · cases h2
  | _ => cases h
theorem celB_ok {K : PySem.W.Frag} {C : Addr} {l : List (Str × Addr)} (h : celB K C l = true) : ∃ n cc oc od os, l = [(n, cc)] ∧ K.lookup cc = some ⟨oc, od, .cell (some (.ref C)), os⟩ := by
  unfold celB at h
  split at h
  · rename_i n cc
    split at h
    · rename_i oc od D os hl
      have e : D = C := of_decide_eq_true h
      subst e
      exact ⟨n, cc, oc, od, os, rfl, hl⟩
    · cases h
  · cases h
theorem suC_of {P : Program} {w : World} {K : PySem.W.Frag} {mg : Str → Option Value} {c f tx arg qual : Str} {params : Arguments} {scope : Scope} {j : Nat} {p1 p2 p3 p4 p5 p6 p7 p8 p9 p10 : Pos} {ar : PySem.Arg} {pl : Addr → Addr → Addr → Addr → Sem Bool}
    (hz : fnZ K (c, some "__init__") = some (("__init__" : Str), qual, params, FuncBody.stmts [.Expr (.Call (.Attribute (.Call (.Name "super" p1) [] [] p2) "__init__" p3) [.Constant (.str tx) j p4] [] p5) p6, .Assign [.Attribute (.Name "self" p7) f p8] (.Name arg p9) p10], scope, mainGlobals, [("__class__" : Str)], builtinsNs))
    (hb : suB K P.main.file c f = true) (htop : (P.main.scope.names.lookup ("super" : Str)).isSome = false)
    (hk : scope.kind = .function) (hco : scope.isCoroutine = false) (hgen : scope.isGenerator = false) (hnc : ∀ x ∈ scope.names, x.2 ≠ .cell) (hself : scope.names.lookup ("self" : Str) = some .local) (harg : scope.names.lookup arg = some .local)
    (hks : scope.names.lookup ("super" : Str) = some .globalImplicit) (hkc : scope.names.lookup ("__class__" : Str) = some .free)
    (hp : (params.posonlyargs ++ params.args).head? = some ar) (hpa : ar.arg = "self") (hne : arg ≠ "self") (hdb : (arg == ("__debug__" : Str)) = false)
    (hcall : ∀ fI cda cc L, eval (.Call (.Attribute (.Call (.Name "super" p1) [] [] p2) "__init__" p3) [.Constant (.str tx) j p4] [] p5) (PySem.W.ksEnv qual scope L fI (.ref cda) cc) = (do
      let ov ← attributeBase (.Call (.Name "super" p1) [] [] p2) "__init__" (PySem.W.ksEnv qual scope L fI (.ref cda) cc) (eval (.Call (.Name "super" p1) [] [] p2) (PySem.W.ksEnv qual scope L fI (.ref cda) cc))
      standAt p3.atName
      let (f, first) ← holding [ov] (getMethod ov "__init__" (pl fI cda cc L))
      callWith p5 f first (backTo p5 (starEach [.Constant (.str tx) j p4] (PySem.W.ksEnv qual scope L fI (.ref cda) cc))) []))
    (hint : ∀ fI cda cc L, interactive (PySem.W.ksEnv qual scope L fI (.ref cda) cc) = false) (hsw1 : ∀ fI cda cc L, swapsWith (.Call (.Attribute (.Call (.Name "super" p1) [] [] p2) "__init__" p3) [.Constant (.str tx) j p4] [] p5) none p6.line (PySem.W.ksEnv qual scope L fI (.ref cda) cc) = pure false)
    (hsw2 : ∀ fI cda cc L, swapsWith (.Name arg p9) (some (.Attribute (.Name "self" p7) f p8)) p10.line (PySem.W.ksEnv qual scope L fI (.ref cda) cc) = pure false)
    (hbind : ∀ (s : Shared) (b : FuncBody) (cc cda : Addr) (kV doc pm ct : Value) (an : Option Addr) (e : Addr) (v : Value), BindsTo s { name := "__init__", qualname := qual, params := params, body := b, scope := scope, globals := mainGlobals, closure := [("__class__", cc)], defaults := .none, kwdefaults := kV, doc := doc, pyModule := pm, annotations := an, code := .ref cda, closureTuple := ct, builtins := builtinsNs } ⟨[.ref e, v], []⟩ [("self", .ref e), (arg, v)]) :
    SuC P w K mg (He.ga K c) (He.ma K (He.ga K c) "__init__") f := by
  unfold suB at hb
  simp only [Bool.and_eq_true, decide_eq_true_eq] at hb
  obtain ⟨b1, b2, b3, b4, b5, b6, b7, b8, b9, b10, b11, b12, b13, b14, b15⟩ := hb
  unfold fnZ He.fAd at hz
  simp only at hz
  split at hz
  · rename_i oc od fd osl hl
    rw [hl] at b1
    simp only [Bool.and_eq_true] at b1
    obtain ⟨nm, qn, pr, bd, sc, gl, cl, dV, kV, doc, pm, an, cdv, ct, bn⟩ := fd
    simp only [Option.some.injEq, Prod.mk.injEq] at hz b1
    obtain ⟨rfl, rfl, rfl, rfl, rfl, rfl, h7, rfl⟩ := hz
    obtain ⟨b1, b0⟩ := b1
    cases nonB_ok b0
    obtain ⟨cda, oc2, od2, vs, os2, tf, rfl, c1, c2, c3⟩ := codB_ok b1.1
    obtain ⟨n, cc, oc3, od3, os3, rfl, c4⟩ := celB_ok b1.2
    simp only [List.map_cons, List.map_nil, List.cons.injEq, and_true] at h7
    subst h7
    unfold clsB at b2
    split at b2
    · rename_i cd hcd
      simp only [Bool.and_eq_true] at b2
      refine ⟨fun {A h g d t os R mb e t0 v} X lim hroom hG hB hbs he heK hR => ?_, b8, b11, b12, b13, b14, b15⟩
      exact Su.su_init (fld := f) (C := He.ga K c) (pl := fun L => pl _ _ _ L) X lim hroom hl c1 c2 c3 (by simp) c4 hcd b3 b4 b5 b6 b7 hG hB hbs htop b8 F.excBase_ValueError b2.1 b2.2 b9 b10 hk hco hgen hnc hself harg hks hkc hp hpa hne hdb
        (hcall _ _ _) (hint _ _ _) (hsw1 _ _ _) (hsw2 _ _ _) he heK (hbind _ _ _ _ _ _ _ _ _ _ _) hR
    · cases b2
  · cases hz
end Sh

set_option Elab.async false
set_option linter.all false
set_option maxRecDepth 100000
set_option maxHeartbeats 2000000
namespace Sh
open PySem PySem.Spec PyProof.Rows L2
/-! ### the Hook: the statics' table, and defs that close over names, too -/
abbrev AlZ : Type := He.AlX × List FnZ
def frZ (n : Nat) (g : Addr → Option Obj) : PySem.W.Frag := He.frT g (cStatics :: He.asD g n)
def obsZK (fa : List He.Fa) (fn : List He.DefD) (ts : List He.Tab) (tf : List He.Defn) (ex : PySem.W.Frag → Bool) (zs : List DefZ) (g : Addr → Option Obj) (K : PySem.W.Frag) : AlZ :=
  ((He.obsT fa fn ts K, ex K && He.tabsB g tf K), zs.map fun d => fnZ K d.at_)
def obsZ (n : Nat) (fa : List He.Fa) (fn : List He.DefD) (ts : List He.Tab) (tf : List He.Defn) (ex : PySem.W.Frag → Bool) (zs : List DefZ) (g : Addr → Option Obj) : AlZ := obsZK fa fn ts tf ex zs g (frZ n g)
def valZ (fn : List He.DefD) (ts : List He.Tab) (zs : List DefZ) (w : World) : AlZ := (He.valX fn ts w, zs.map DefZ.val)
structure SaysZ (fa : List He.Fa) (fn : List He.DefD) (ts : List He.Tab) (tf : List He.Defn) (ex : PySem.W.Frag → Bool) (zs : List DefZ) (w : World) (h : Heap) (K : PySem.W.Frag) : Prop extends He.SaysX fa fn ts tf ex w h K where
  zz : zs.map (fun d => fnZ K d.at_) = zs.map DefZ.val
theorem frZ_in {n : Nat} {h : Heap} : (frZ n h.get?).In h := fun _ _ e => (He.frT_mem e).1
theorem saysZ_of {n : Nat} {fa : List He.Fa} {fn : List He.DefD} {ts : List He.Tab} {tf : List He.Defn} {ex : PySem.W.Frag → Bool} {zs : List DefZ} {w : World} {h : Heap} (e : obsZ n fa fn ts tf ex zs h.get? = valZ fn ts zs w) : SaysZ fa fn ts tf ex zs w h (frZ n h.get?) := by
  have e1 := congrArg (fun z : AlZ => z.1.1) e
  have e2 : (ex (frZ n h.get?) && He.tabsB h.get? tf (frZ n h.get?)) = true := congrArg (fun z : AlZ => z.1.2) e
  have e3 := congrArg (fun z : AlZ => z.2) e
  obtain ⟨q1, q2⟩ := Bool.and_eq_true_iff.mp e2
  have each : ∀ p ∈ tf, PySem.W.codeHdIn (frZ n h.get?) (He.cT (frZ n h.get?) p).1 (He.cT (frZ n h.get?) p).2 = true ∧ ∃ o, h.get? (He.cT (frZ n h.get?) p).2 = some o ∧ He.emptyTab o = true := fun p hp => by
    obtain ⟨a1, a2⟩ := Bool.and_eq_true_iff.mp (List.all_eq_true.mp q2 p hp)
    refine ⟨a1, ?_⟩
    cases z : h.get? (He.cT (frZ n h.get?) p).2 with
    | none =>
      rw [z] at a2
      cases a2
    | some o =>
      rw [z] at a2
      exact ⟨o, rfl, a2⟩
  refine ⟨⟨e1, q1, fun p hp => (each p hp).1, fun p hp => ?_, fun p hp => ?_⟩, e3⟩
  · obtain ⟨_, o, z, em⟩ := each p hp
    exact He.frT_none z em
  · obtain ⟨_, o, z, em⟩ := each p hp
    rw [z, He.emptyTab_eq em]
def hookZ (n : Nat) (fa : List He.Fa) (fn : List He.DefD) (ts : List He.Tab) (tf : List He.Defn) (ex : PySem.W.Frag → Bool) (zs : List DefZ) : PySem.W.Hook where
  α := AlZ
  obs := fun s => obsZ n fa fn ts tf ex zs s.heap.get?
  val := fun w => valZ fn ts zs w
  says := fun w h => ∃ K : PySem.W.Frag, K.In h ∧ SaysZ fa fn ts tf ex zs w h K
  of := fun _ _ e => ⟨_, frZ_in, saysZ_of e⟩
  keeps := fun _ _ _ ⟨K, hK, c⟩ k => ⟨K, PySem.W.Frag.In.keeps hK k, ⟨⟨c.t, c.more, c.hd, c.out, fun p hp => k _ _ (c.empty p hp)⟩, c.zz⟩⟩
theorem obsZ_eq {n : Nat} {fa : List He.Fa} {fn : List He.DefD} {ts : List He.Tab} {tf : List He.Defn} {ex : PySem.W.Frag → Bool} {zs : List DefZ} {g : Addr → Option Obj} {s : Shared} (h : ∀ a, g a = s.heap.get? a) : obsZ n fa fn ts tf ex zs g = (hookZ n fa fn ts tf ex zs).obs s := by
  rw [show g = s.heap.get? from funext h]
  rfl
theorem SaysZ.at {fa : List He.Fa} {fn : List He.DefD} {ts : List He.Tab} {tf : List He.Defn} {ex : PySem.W.Frag → Bool} {zs : List DefZ} {w : World} {h : Heap} {K : PySem.W.Frag} (c : SaysZ fa fn ts tf ex zs w h K) (i : Nat) {d : DefZ} (hd : zs[i]? = some d := by rfl) : fnZ K d.at_ = d.val := by
  have e : (zs.map fun d => fnZ K d.at_)[i]? = (zs.map DefZ.val)[i]? := by rw [c.zz]
  rw [List.getElem?_map, List.getElem?_map, hd] at e
  exact Option.some.inj e
end Sh

set_option Elab.async false
set_option linter.all false
set_option maxRecDepth 100000
set_option maxHeartbeats 0
namespace Cm
open PySem PySem.Spec L2 Sh
def m__law_known : SM := (sSeq (sAsg (gTp 2 (gCn (gNm 0) (gCn (gNm 1) gNl))) (mN oTup (mCons (mN oTup (mCons (mN oTup (mCons (mC (.int 3)) mNil)) (mCons (mN oTup (mCons (mC (.int 7)) mNil)) (mCons (mC (.int 0)) mNil)))) (mCons (mN oTup (mCons (mN oTup (mCons (mC (.int 1)) (mCons (mC (.int 2)) mNil))) (mCons (mN oTup (mCons (mC (.int 5)) (mCons (mC (.int 9)) mNil))) (mCons (mC (.int 0)) mNil)))) mNil))))
  (sRet (mN oTup (mCons (mV 0) (mCons (mV 1) (mCons (mN oTup (mCons (mN oTup (mCons (mC (.int 2)) (mCons (mC (.int 3)) mNil))) (mCons (mN oTup (mCons (mC (.int 4)) (mCons (mC (.int 6)) mNil))) (mCons (mC (.int 0)) mNil)))) (mCons (mN oTup (mCons (mN oTup (mCons (mC (.int 2)) (mCons (mC (.int 3)) mNil))) (mCons (mN oTup (mCons (mC (.int 4)) (mCons (mC (.int 6)) mNil))) (mCons (mC (.int 1)) mNil)))) mNil)))))))
def F__law_known : List D → Gs → Res D := mFn 0 2 m__law_known
def m_has_items : SM := (sRet (mAnd (mU (oIsT "tuple") (mV 0)) (mCh oLe oLe (mV 1) (mN oLen (mCons (mV 0) mNil)) (mV 2))))
def F_has_items : List D → Gs → Res D := mFn 3 3 m_has_items
def m_is_within : SM := (sRet (mAnd (mU (oIsT "int") (mV 0)) (mAnd (mNot (mU (oIsT "bool") (mV 0))) (mCh oLe oLe (mV 1) (mV 0) (mV 2)))))
def F_is_within : List D → Gs → Res D := mFn 3 3 m_is_within
def m_is_lock_value : SM := (sSeq (sIf (bOr (bNot (mB (mN F_has_items (mCons (mV 0) (mCons (mC (.int 3)) (mCons (mC (.int 3)) mNil)))))) (bOr (bNot (mB (mN F_has_items (mCons (mO oIx (mV 0) (mC (.int 0))) (mCons (mC (.int 1)) (mCons (mC (.int 2)) mNil)))))) (bNot (mB (mN F_is_within (mCons (mO oIx (mV 0) (mC (.int 2))) (mCons (mC (.int 0)) (mCons (mC (.int 2)) mNil))))))))
  (sRet (mC (.bl false)))
  sNil)
  (sSeq (sIf (bOr (bNot (mB (mN F_has_items (mCons (mO oIx (mV 0) (mC (.int 1))) (mCons (mN oLen (mCons (mO oIx (mV 0) (mC (.int 0))) mNil)) (mCons (mN oLen (mCons (mO oIx (mV 0) (mC (.int 0))) mNil)) mNil)))))) (bNot (mB (mN oAll (mCons (mLc [1] (mIt (mO oIx (mV 0) (mC (.int 1)))) (gNm 1) bYes (mN F_is_within (mCons (mV 1) (mCons (mC (.int 0)) (mCons (mC (.int 11)) mNil))))) mNil)))))
  (sRet (mC (.bl false)))
  sNil)
  (sRet (mN oAll (mCons (mLc [1] (mIt (mO oIx (mV 0) (mC (.int 0)))) (gNm 1) bYes (mN F_is_within (mCons (mV 1) (mCons (mC (.int 1)) (mCons (mC (.int 3)) mNil))))) mNil)))))
def F_is_lock_value : List D → Gs → Res D := mFn 1 2 m_is_lock_value
def m_is_lock : SM := (sRet (mN F_is_lock_value (mCons (mV 0) mNil)))
def F_is_lock : List D → Gs → Res D := mFn 1 1 m_is_lock
def m_is_turn_value : SM := (sSeq (sIf (bOr (bNot (mB (mN F_has_items (mCons (mV 0) (mCons (mC (.int 2)) (mCons (mC (.int 2)) mNil)))))) (bOr (bNot (mB (mN F_is_within (mCons (mO oIx (mV 0) (mC (.int 0))) (mCons (mU oNeg (mC (.int 3))) (mCons (mC (.int 3)) mNil)))))) (bNot (mB (mN F_is_within (mCons (mO oIx (mV 0) (mC (.int 1))) (mCons (mU oNeg (mC (.int 20))) (mCons (mC (.int 20)) mNil))))))))
  (sRet (mC (.bl false)))
  sNil)
  (sRet (mOr (mO oNe (mO oIx (mV 0) (mC (.int 0))) (mC (.int 0))) (mO oNe (mO oIx (mV 0) (mC (.int 1))) (mC (.int 0))))))
def F_is_turn_value : List D → Gs → Res D := mFn 1 1 m_is_turn_value
def m_is_script_value : SM := (sRet (mAnd (mN F_has_items (mCons (mV 0) (mCons (mC (.int 0)) (mCons (mC (.int 5)) mNil)))) (mN oAll (mCons (mLc [1] (mIt (mV 0)) (gNm 1) bYes (mN F_is_turn_value (mCons (mV 1) mNil))) mNil))))
def F_is_script_value : List D → Gs → Res D := mFn 1 2 m_is_script_value
def m_is_script : SM := (sRet (mN F_is_script_value (mCons (mV 0) mNil)))
def F_is_script : List D → Gs → Res D := mFn 1 1 m_is_script
def m_need_lock : SM := (sIf (bNot (mB (mN F_is_lock_value (mCons (mV 0) mNil))))
  (sRaise "InvalidLock")
  sNil)
def F_need_lock : List D → Gs → Res D := mFn 1 1 m_need_lock
def m_need_number : SM := (sIf (bNot (mB (mN F_is_within (mCons (mV 0) (mCons (mV 1) (mCons (mV 2) mNil))))))
  (sRaise "InvalidNumber")
  sNil)
def F_need_number : List D → Gs → Res D := mFn 3 3 m_need_number
def m_need_marks : SM := (sExpr (mN F_need_number (mCons (mV 0) (mCons (mC (.int 24)) (mCons (mC (.int 1000000000000000000000000000000)) mNil)))))
def F_need_marks : List D → Gs → Res D := mFn 1 1 m_need_marks
def m_is_setting_value : SM := (sSeq (sIf (bNot (mB (mN F_has_items (mCons (mV 2) (mCons (mN oLen (mCons (mO oIx (mV 0) (mC (.int 0))) mNil)) (mCons (mN oLen (mCons (mO oIx (mV 0) (mC (.int 0))) mNil)) mNil))))))
  (sRet (mC (.bl false)))
  sNil)
  (sRet (mN oAll (mCons (mLc [3, 4] (mZip2 (mCons (mV 2) (mCons (mO oIx (mV 0) (mC (.int 0))) mNil))) (gTp 2 (gCn (gNm 3) (gCn (gNm 4) gNl))) bYes (mN F_is_within (mCons (mV 3) (mCons (mC (.int 0)) (mCons (mO oSub (mV 1) (mV 4)) mNil))))) mNil))))
def F_is_setting_value : List D → Gs → Res D := mFn 3 5 m_is_setting_value
def m_is_setting : SM := (sSeq (sExpr (mN F_need_lock (mCons (mV 0) mNil)))
  (sSeq (sExpr (mN F_need_marks (mCons (mV 1) mNil)))
  (sRet (mN F_is_setting_value (mCons (mV 0) (mCons (mV 1) (mCons (mV 2) mNil)))))))
def F_is_setting : List D → Gs → Res D := mFn 3 3 m_is_setting
def m__law_deck : SM := (sSeq (sIf (mB (mO oGe (mV 0) (mO oPow (mC (.int 10)) (mC (.int 18)))))
  (sRet (mN oNew (mCons (mO oSub (mV 0) (mO oPow (mC (.int 10)) (mC (.int 18)))) (mCons (mO oMod (mV 0) (mC (.int 2147483579))) (mCons (mV 1) mNil)))))
  sNil)
  (sRet (mN oNew (mCons (mC (.int 0)) (mCons (mO oMod (mV 0) (mC (.int 2147483579))) (mCons (mV 1) mNil))))))
def F__law_deck : List D → Gs → Res D := mFn 2 2 m__law_deck
def m__law_pick : SM := (sSeq (sIf (mB (mO oGt (mO oIx (mV 0) (mC (.int 0))) (mC (.int 1))))
  (sSeq (sSet 2 (mO oMod (mN oInt (mCons (mO oIx (mV 0) (mC (.int 0))) mNil)) (mV 1)))
  (sSeq (sSub (mO oDiv (mO oIx (mV 0) (mC (.int 0))) (mV 1)) (mV 0) (mC (.int 0)))
  (sRet (mV 2))))
  sNil)
  (sSeq (sSub (mO oAdd (mO oIx (mV 0) (mC (.int 2))) (mC (.int 1))) (mV 0) (mC (.int 2)))
  (sSeq (sSet 3 (mO oMod (mO oPow (mO oAdd (mO oIx (mV 0) (mC (.int 1))) (mO oMul (mC (.int 15485867)) (mO oIx (mV 0) (mC (.int 2))))) (mC (.int 5))) (mC (.int 2147483647))))
  (sSeq (sSet 2 (mO oDiv (mO oMod (mO oPow (mO oAdd (mV 3) (mO oMul (mC (.int 7919)) (mO oIx (mV 0) (mC (.int 2))))) (mC (.int 3))) (mC (.int 2147483629))) (mC (.int 32))))
  (sRet (mO oMod (mN oInt (mCons (mV 2) mNil)) (mV 1)))))))
def F__law_pick : List D → Gs → Res D := mFn 2 4 m__law_pick
def m__law_one : SM := (sRet (mO oIx (mV 1) (mN F__law_pick (mCons (mV 0) (mCons (mN oLen (mCons (mV 1) mNil)) mNil)))))
def F__law_one : List D → Gs → Res D := mFn 2 2 m__law_one
def m__law_lock : SM := (sSeq (sSet 2 (mO oAdd (mC (.int 1)) (mN F__law_pick (mCons (mV 0) (mCons (mV 1) mNil)))))
  (sSeq (sSet 3 (mN oTuple (mCons (mLc [4] (mRgA (mCons (mV 2) mNil)) (gNm 4) bYes (mO oAdd (mC (.int 1)) (mN F__law_pick (mCons (mV 0) (mCons (mC (.int 3)) mNil))))) mNil)))
  (sRet (mN oTup (mCons (mV 3) (mCons (mN oTuple (mCons (mLc [4] (mRgA (mCons (mV 2) mNil)) (gNm 4) bYes (mN F__law_pick (mCons (mV 0) (mCons (mC (.int 12)) mNil)))) mNil)) (mCons (mN F__law_pick (mCons (mV 0) (mCons (mC (.int 3)) mNil))) mNil)))))))
def F__law_lock : List D → Gs → Res D := mFn 2 5 m__law_lock
def B1__law_setting : SM := (sPost (forget [4]) (sApp 3 (mN F__law_one (mCons (mV 0) (mCons (mN oLst (mCons (mC (.int 0)) (mCons (mO oSub (mV 2) (mV 4)) (mCons (mN F__law_pick (mCons (mV 0) (mCons (mO oAdd (mO oSub (mV 2) (mV 4)) (mC (.int 1))) mNil))) (mCons (mN F__law_pick (mCons (mV 0) (mCons (mC (.int 20)) mNil))) mNil))))) mNil)))))
theorem nc_B1__law_setting : NC (B1__law_setting) := (nc_post nc_app)
@[simp] theorem tn_B1__law_setting {f : GM} {d : D} {ds : List D} {ρ : En} {g : Gs} {N : En → Gs → Prop} {R : D → Gs → Prop} : wpS (forGo f (B1__law_setting) (d :: ds) ρ g) N R = gmR f d ρ (fun ρ1 g => wpS ((B1__law_setting) ρ1 g) (fun ρ2 g2 => wpS (forGo f (B1__law_setting) ds ρ2 g2) N R) R) g := wpS_nc nc_B1__law_setting
@[simp] theorem un_B1__law_setting {ρ : En} {g : Gs} {N : En → Gs → Prop} {R : D → Gs → Prop} : wpS ((B1__law_setting) ρ g) N R = wpS ((sPost (forget [4]) (sApp 3 (mN F__law_one (mCons (mV 0) (mCons (mN oLst (mCons (mC (.int 0)) (mCons (mO oSub (mV 2) (mV 4)) (mCons (mN F__law_pick (mCons (mV 0) (mCons (mO oAdd (mO oSub (mV 2) (mV 4)) (mC (.int 1))) mNil))) (mCons (mN F__law_pick (mCons (mV 0) (mCons (mC (.int 20)) mNil))) mNil))))) mNil))))) ρ g) N R := rfl
def m__law_setting : SM := (sSeq (sPar [3] [.f mNil])
  (sSeq (sFor (mIt (mO oIx (mV 1) (mC (.int 0)))) (gNm 4)
  B1__law_setting)
  (sPre (freeze 3) (sRet (mN oTuple (mCons (mV 3) mNil))))))
def F__law_setting : List D → Gs → Res D := mFn 3 5 m__law_setting
def m__law_a_turn : SM := (sSeq (sSet 1 (mN F__law_pick (mCons (mV 0) (mCons (mC (.int 3)) mNil))))
  (sSeq (sSet 2 (mIf (mB (mO oGt (mV 1) (mC (.int 0)))) (mO oSub (mN F__law_pick (mCons (mV 0) (mCons (mC (.int 7)) mNil))) (mC (.int 3))) (mC (.int 0))))
  (sSeq (sSet 3 (mIf (mB (mO oLt (mV 1) (mC (.int 2)))) (mO oSub (mN F__law_pick (mCons (mV 0) (mCons (mC (.int 41)) mNil))) (mC (.int 20))) (mO oSub (mN F__law_pick (mCons (mV 0) (mCons (mC (.int 9)) mNil))) (mC (.int 4)))))
  (sRet (mN oTup (mCons (mV 2) (mCons (mIf (bOr (mB (mO oNe (mV 2) (mC (.int 0)))) (mB (mO oNe (mV 3) (mC (.int 0))))) (mV 3) (mC (.int 1))) mNil)))))))
def F__law_a_turn : List D → Gs → Res D := mFn 1 4 m__law_a_turn
def m__law_turns : SM := (sRet (mN oTuple (mCons (mLc [2] (mRgA (mCons (mN F__law_pick (mCons (mV 0) (mCons (mO oAdd (mV 1) (mC (.int 1))) mNil))) mNil)) (gNm 2) bYes (mN F__law_a_turn (mCons (mV 0) mNil))) mNil)))
def F__law_turns : List D → Gs → Res D := mFn 2 3 m__law_turns
def m__law_sort : SM := (sSeq (sIf (mB (mU (oIsT "bool") (mV 0)))
  (sRet (mC (.int 1)))
  sNil)
  (sSeq (sIf (mB (mU (oIsT "int") (mV 0)))
  (sRet (mC (.int 2)))
  sNil)
  (sSeq (sIf (mB (mU (oIsT "str") (mV 0)))
  (sRet (mC (.int 3)))
  sNil)
  (sSeq (sIf (mB (mU (oIsT "list") (mV 0)))
  (sRet (mC (.int 4)))
  sNil)
  (sRet (mIf (mB (mU (oIsT "tuple") (mV 0))) (mC (.int 5)) (mC (.int 6))))))))
def F__law_sort : List D → Gs → Res D := mFn 1 1 m__law_sort
def m__law_same (Frec : List D → Gs → Res D) : SM := (sSeq (sIf (mB (mO oNe (mN F__law_sort (mCons (mV 0) mNil)) (mN F__law_sort (mCons (mV 1) mNil))))
  (sRet (mC (.bl false)))
  sNil)
  (sSeq (sIf (bAnd (mB (mO oGt (mN F__law_sort (mCons (mV 0) mNil)) (mC (.int 3)))) (mB (mO oLt (mN F__law_sort (mCons (mV 0) mNil)) (mC (.int 6)))))
  (sSeq (sIf (mB (mO oNe (mN oLen (mCons (mV 0) mNil)) (mN oLen (mCons (mV 1) mNil))))
  (sRet (mC (.bl false)))
  sNil)
  (sRet (mO oEq (mLc [2, 3] (mEnum (mCons (mV 0) mNil)) (gTp 2 (gCn (gNm 2) (gCn (gNm 3) gNl))) (bNot (mB (mN Frec (mCons (mV 3) (mCons (mO oIx (mV 1) (mV 2)) mNil))))) (mV 2)) (mN oLst mNil))))
  sNil)
  (sRet (mO oEq (mV 0) (mV 1)))))
def F__law_same : Nat → List D → Gs → Res D
  | 0 => fun _ _ => .bad
  | k + 1 => mFn 2 4 (m__law_same (F__law_same k))
def m_need_setting : SM := (sIf (bNot (mB (mN F_is_setting_value (mCons (mV 0) (mCons (mV 1) (mCons (mV 2) mNil))))))
  (sRaise "InvalidSetting")
  sNil)
def F_need_setting : List D → Gs → Res D := mFn 3 3 m_need_setting
def m_need_script : SM := (sIf (bNot (mB (mN F_is_script_value (mCons (mV 0) mNil))))
  (sRaise "InvalidScript")
  sNil)
def F_need_script : List D → Gs → Res D := mFn 1 1 m_need_script
def m_ticks_of : SM := (sRet (mO oAdd (mO oMul (mO oIx (mV 0) (mC (.int 0))) (mV 1)) (mO oIx (mV 0) (mC (.int 1)))))
def F_ticks_of : List D → Gs → Res D := mFn 2 2 m_ticks_of
def B1_turned : SM := (sPost (forget [7, 9, 8]) (sSeq (sSet 9 (mN oMin2 (mCons (mO oSub (mV 1) (mV 8)) (mCons (mN oMax2 (mCons (mC (.int 0)) (mCons (mO oAdd (mV 7) (mV 5)) mNil))) mNil))))
  (sSeq (sSet 5 (mO oSub (mO oAdd (mV 7) (mV 5)) (mV 9)))
  (sSeq (sAug 6 oAddI (mIf (mB (mO oNe (mV 5) (mC (.int 0)))) (mC (.int 1)) (mC (.int 0))))
  (sSet 4 (mO oAdd (mV 4) (mN oTup (mCons (mV 9) mNil))))))))
theorem nc_B1_turned : NC (B1_turned) := (nc_post (nc_seq nc_set (nc_seq nc_set (nc_seq nc_aug nc_set))))
@[simp] theorem tn_B1_turned {f : GM} {d : D} {ds : List D} {ρ : En} {g : Gs} {N : En → Gs → Prop} {R : D → Gs → Prop} : wpS (forGo f (B1_turned) (d :: ds) ρ g) N R = gmR f d ρ (fun ρ1 g => wpS ((B1_turned) ρ1 g) (fun ρ2 g2 => wpS (forGo f (B1_turned) ds ρ2 g2) N R) R) g := wpS_nc nc_B1_turned
@[simp] theorem un_B1_turned {ρ : En} {g : Gs} {N : En → Gs → Prop} {R : D → Gs → Prop} : wpS ((B1_turned) ρ g) N R = wpS ((sPost (forget [7, 9, 8]) (sSeq (sSet 9 (mN oMin2 (mCons (mO oSub (mV 1) (mV 8)) (mCons (mN oMax2 (mCons (mC (.int 0)) (mCons (mO oAdd (mV 7) (mV 5)) mNil))) mNil))))
  (sSeq (sSet 5 (mO oSub (mO oAdd (mV 7) (mV 5)) (mV 9)))
  (sSeq (sAug 6 oAddI (mIf (mB (mO oNe (mV 5) (mC (.int 0)))) (mC (.int 1)) (mC (.int 0))))
  (sSet 4 (mO oAdd (mV 4) (mN oTup (mCons (mV 9) mNil)))))))) ρ g) N R := rfl
def m_turned : SM := (sSeq (sPar [4, 5, 6] [.v (mN oTup mNil), .v (mV 3), .v (mC (.int 0))])
  (sSeq (sFor (mZip2 (mCons (mV 2) (mCons (mO oIx (mV 0) (mC (.int 0))) mNil))) (gTp 2 (gCn (gNm 7) (gCn (gNm 8) gNl)))
  B1_turned)
  (sRet (mN oTup (mCons (mV 4) (mCons (mV 6) mNil))))))
def F_turned : List D → Gs → Res D := mFn 4 10 m_turned
def B1_run : SM := (sPost (forget [8, 7, 6]) (sSeq (sSet 7 (mN F_ticks_of (mCons (mV 6) (mCons (mV 1) mNil))))
  (sSeq (sAsg (gTp 2 (gCn (gNm 2) (gCn (gNm 8) gNl))) (mN F_turned (mCons (mV 0) (mCons (mV 1) (mCons (mV 2) (mCons (mV 7) mNil))))))
  (sPar [4, 5] [.v (mO oAdd (mV 4) (mV 7)), .v (mO oAdd (mV 5) (mN oTup (mCons (mV 8) mNil)))]))))
theorem nc_B1_run : NC (B1_run) := (nc_post (nc_seq nc_set (nc_seq nc_asg nc_par)))
@[simp] theorem tn_B1_run {f : GM} {d : D} {ds : List D} {ρ : En} {g : Gs} {N : En → Gs → Prop} {R : D → Gs → Prop} : wpS (forGo f (B1_run) (d :: ds) ρ g) N R = gmR f d ρ (fun ρ1 g => wpS ((B1_run) ρ1 g) (fun ρ2 g2 => wpS (forGo f (B1_run) ds ρ2 g2) N R) R) g := wpS_nc nc_B1_run
@[simp] theorem un_B1_run {ρ : En} {g : Gs} {N : En → Gs → Prop} {R : D → Gs → Prop} : wpS ((B1_run) ρ g) N R = wpS ((sPost (forget [8, 7, 6]) (sSeq (sSet 7 (mN F_ticks_of (mCons (mV 6) (mCons (mV 1) mNil))))
  (sSeq (sAsg (gTp 2 (gCn (gNm 2) (gCn (gNm 8) gNl))) (mN F_turned (mCons (mV 0) (mCons (mV 1) (mCons (mV 2) (mCons (mV 7) mNil))))))
  (sPar [4, 5] [.v (mO oAdd (mV 4) (mV 7)), .v (mO oAdd (mV 5) (mN oTup (mCons (mV 8) mNil)))])))) ρ g) N R := rfl
def m_run : SM := (sSeq (sAsg (gTp 2 (gCn (gNm 4) (gCn (gNm 5) gNl))) (mN oTup (mCons (mC (.int 0)) (mCons (mN oTup mNil) mNil))))
  (sSeq (sFor (mIt (mV 3)) (gNm 6)
  B1_run)
  (sRet (mN oTup (mCons (mV 4) (mCons (mV 2) (mCons (mV 5) mNil)))))))
def F_run : List D → Gs → Res D := mFn 4 9 m_run
def m_setting_behind : SM := (sSeq (sExpr (mN F_need_lock (mCons (mV 0) mNil)))
  (sSeq (sExpr (mN F_need_marks (mCons (mV 1) mNil)))
  (sSeq (sExpr (mN F_need_setting (mCons (mV 0) (mCons (mV 1) (mCons (mV 2) mNil)))))
  (sSeq (sExpr (mN F_need_script (mCons (mV 3) mNil)))
  (sRet (mO oIx (mN F_run (mCons (mV 0) (mCons (mV 1) (mCons (mV 2) (mCons (mV 3) mNil))))) (mC (.int 1))))))))
def F_setting_behind : List D → Gs → Res D := mFn 4 4 m_setting_behind
def B1_places_of : SM := (sPost (forget [4]) (sSeq (sSet 1 (mO oSub (mV 1) (mV 4)))
  (sSet 3 (mO oAdd (mV 3) (mN oTup (mCons (mO oMod (mV 1) (mV 0)) mNil))))))
theorem nc_B1_places_of : NC (B1_places_of) := (nc_post (nc_seq nc_set nc_set))
@[simp] theorem tn_B1_places_of {f : GM} {d : D} {ds : List D} {ρ : En} {g : Gs} {N : En → Gs → Prop} {R : D → Gs → Prop} : wpS (forGo f (B1_places_of) (d :: ds) ρ g) N R = gmR f d ρ (fun ρ1 g => wpS ((B1_places_of) ρ1 g) (fun ρ2 g2 => wpS (forGo f (B1_places_of) ds ρ2 g2) N R) R) g := wpS_nc nc_B1_places_of
@[simp] theorem un_B1_places_of {ρ : En} {g : Gs} {N : En → Gs → Prop} {R : D → Gs → Prop} : wpS ((B1_places_of) ρ g) N R = wpS ((sPost (forget [4]) (sSeq (sSet 1 (mO oSub (mV 1) (mV 4)))
  (sSet 3 (mO oAdd (mV 3) (mN oTup (mCons (mO oMod (mV 1) (mV 0)) mNil)))))) ρ g) N R := rfl
def m_places_of : SM := (sSeq (sSet 3 (mN oTup (mCons (mO oMod (mV 1) (mV 0)) mNil)))
  (sSeq (sFor (mIt (mV 2)) (gNm 4)
  B1_places_of)
  (sRet (mV 3))))
def F_places_of : List D → Gs → Res D := mFn 3 5 m_places_of
def m_places : SM := (sSeq (sExpr (mN F_need_lock (mCons (mV 0) mNil)))
  (sSeq (sExpr (mN F_need_marks (mCons (mV 1) mNil)))
  (sSeq (sExpr (mN F_need_setting (mCons (mV 0) (mCons (mV 1) (mCons (mV 2) mNil)))))
  (sSeq (sExpr (mN F_need_script (mCons (mV 3) mNil)))
  (sSeq (sAsg (gTp 3 (gCn (gNm 4) (gCn (gNm 5) (gCn (gNm 6) gNl)))) (mN F_run (mCons (mV 0) (mCons (mV 1) (mCons (mV 2) (mCons (mV 3) mNil))))))
  (sRet (mN F_places_of (mCons (mV 1) (mCons (mV 4) (mCons (mV 5) mNil))))))))))
def F_places : List D → Gs → Res D := mFn 4 7 m_places
def m_felt : SM := (sSeq (sExpr (mN F_need_lock (mCons (mV 0) mNil)))
  (sSeq (sExpr (mN F_need_marks (mCons (mV 1) mNil)))
  (sSeq (sExpr (mN F_need_setting (mCons (mV 0) (mCons (mV 1) (mCons (mV 2) mNil)))))
  (sSeq (sExpr (mN F_need_script (mCons (mV 3) mNil)))
  (sRet (mO oIx (mN F_run (mCons (mV 0) (mCons (mV 1) (mCons (mV 2) (mCons (mV 3) mNil))))) (mC (.int 2))))))))
def F_felt : List D → Gs → Res D := mFn 4 4 m_felt
def m__law_lags : SM := (sRet (mN oTuple (mCons (mLc [2, 3] (mZip2 (mCons (mO oAdd (mN oLst (mCons (mV 0) mNil)) (mV 1)) (mCons (mV 1) mNil))) (gTp 2 (gCn (gNm 2) (gCn (gNm 3) gNl))) bYes (mO oSub (mV 2) (mV 3))) mNil)))
def F__law_lags : List D → Gs → Res D := mFn 2 4 m__law_lags
def B1__law_behind : SM := (sPost (forget [7]) (sApp 5 (mO oSub (mIf (mB (mMlEq true 5 (mN oLst mNil))) (mMlIx 5 (mU oNeg (mC (.int 1)))) (mC (.int 0))) (mV 7))))
theorem nc_B1__law_behind : NC (B1__law_behind) := (nc_post nc_app)
@[simp] theorem tn_B1__law_behind {f : GM} {d : D} {ds : List D} {ρ : En} {g : Gs} {N : En → Gs → Prop} {R : D → Gs → Prop} : wpS (forGo f (B1__law_behind) (d :: ds) ρ g) N R = gmR f d ρ (fun ρ1 g => wpS ((B1__law_behind) ρ1 g) (fun ρ2 g2 => wpS (forGo f (B1__law_behind) ds ρ2 g2) N R) R) g := wpS_nc nc_B1__law_behind
@[simp] theorem un_B1__law_behind {ρ : En} {g : Gs} {N : En → Gs → Prop} {R : D → Gs → Prop} : wpS ((B1__law_behind) ρ g) N R = wpS ((sPost (forget [7]) (sApp 5 (mO oSub (mIf (mB (mMlEq true 5 (mN oLst mNil))) (mMlIx 5 (mU oNeg (mC (.int 1)))) (mC (.int 0))) (mV 7)))) ρ g) N R := rfl
def B2__law_behind : SM := (sPost (forget [13, 12, 14]) (sSeq (sSet 13 (mIf (mB (mMlEq true 11 (mN oLst mNil))) (mMlIx 11 (mU oNeg (mC (.int 1)))) (mV 4)))
  (sSeq (sSet 14 (mN oMin2 (mCons (mN oMax2 (mCons (mO oIx (mV 5) (mV 12)) (mCons (mO oAdd (mO oSub (mV 13) (mV 1)) (mO oIx (mO oIx (mV 0) (mC (.int 0))) (mV 12))) mNil))) (mCons (mV 13) mNil))))
  (sSeq (sSet 10 (mO oAdd (mV 10) (mN oInt (mCons (mO oNe (mV 14) (mO oIx (mV 5) (mV 12))) mNil))))
  (sApp 11 (mV 14))))))
theorem nc_B2__law_behind : NC (B2__law_behind) := (nc_post (nc_seq nc_set (nc_seq nc_set (nc_seq nc_set nc_app))))
@[simp] theorem tn_B2__law_behind {f : GM} {d : D} {ds : List D} {ρ : En} {g : Gs} {N : En → Gs → Prop} {R : D → Gs → Prop} : wpS (forGo f (B2__law_behind) (d :: ds) ρ g) N R = gmR f d ρ (fun ρ1 g => wpS ((B2__law_behind) ρ1 g) (fun ρ2 g2 => wpS (forGo f (B2__law_behind) ds ρ2 g2) N R) R) g := wpS_nc nc_B2__law_behind
@[simp] theorem un_B2__law_behind {ρ : En} {g : Gs} {N : En → Gs → Prop} {R : D → Gs → Prop} : wpS ((B2__law_behind) ρ g) N R = wpS ((sPost (forget [13, 12, 14]) (sSeq (sSet 13 (mIf (mB (mMlEq true 11 (mN oLst mNil))) (mMlIx 11 (mU oNeg (mC (.int 1)))) (mV 4)))
  (sSeq (sSet 14 (mN oMin2 (mCons (mN oMax2 (mCons (mO oIx (mV 5) (mV 12)) (mCons (mO oAdd (mO oSub (mV 13) (mV 1)) (mO oIx (mO oIx (mV 0) (mC (.int 0))) (mV 12))) mNil))) (mCons (mV 13) mNil))))
  (sSeq (sSet 10 (mO oAdd (mV 10) (mN oInt (mCons (mO oNe (mV 14) (mO oIx (mV 5) (mV 12))) mNil))))
  (sApp 11 (mV 14)))))) ρ g) N R := rfl
def B3__law_behind : SM := (sPost (forget [13, 12, 11, 10, 8, 14, 9]) (sSeq (sPar [4, 10, 11] [.v (mO oAdd (mO oAdd (mV 4) (mO oMul (mV 8) (mV 1))) (mV 9)), .v (mC (.int 0)), .f mNil])
  (sSeq (sFor (mRgA (mCons (mN oLen (mCons (mV 5) mNil)) mNil)) (gNm 12)
  B2__law_behind)
  (sSeq (sPre (freeze 11) (sSet 5 (mV 11)))
  (sApp 6 (mV 10))))))
theorem nc_B3__law_behind : NC (B3__law_behind) := (nc_post (nc_seq nc_par (nc_seq nc_for (nc_seq (nc_pre nc_set) nc_app))))
@[simp] theorem tn_B3__law_behind {f : GM} {d : D} {ds : List D} {ρ : En} {g : Gs} {N : En → Gs → Prop} {R : D → Gs → Prop} : wpS (forGo f (B3__law_behind) (d :: ds) ρ g) N R = gmR f d ρ (fun ρ1 g => wpS ((B3__law_behind) ρ1 g) (fun ρ2 g2 => wpS (forGo f (B3__law_behind) ds ρ2 g2) N R) R) g := wpS_nc nc_B3__law_behind
@[simp] theorem un_B3__law_behind {ρ : En} {g : Gs} {N : En → Gs → Prop} {R : D → Gs → Prop} : wpS ((B3__law_behind) ρ g) N R = wpS ((sPost (forget [13, 12, 11, 10, 8, 14, 9]) (sSeq (sPar [4, 10, 11] [.v (mO oAdd (mO oAdd (mV 4) (mO oMul (mV 8) (mV 1))) (mV 9)), .v (mC (.int 0)), .f mNil])
  (sSeq (sFor (mRgA (mCons (mN oLen (mCons (mV 5) mNil)) mNil)) (gNm 12)
  B2__law_behind)
  (sSeq (sPre (freeze 11) (sSet 5 (mV 11)))
  (sApp 6 (mV 10)))))) ρ g) N R := rfl
def m__law_behind : SM := (sSeq (sPar [4, 5, 6] [.v (mC (.int 0)), .f mNil, .f mNil])
  (sSeq (sFor (mIt (mV 2)) (gNm 7)
  B1__law_behind)
  (sSeq (sPre (freeze 5) (sFor (mIt (mV 3)) (gTp 2 (gCn (gNm 8) (gCn (gNm 9) gNl)))
  B3__law_behind))
  (sPre (freeze 6) (sRet (mN oTup (mCons (mV 4) (mCons (mV 5) (mCons (mN oTuple (mCons (mV 6) mNil)) mNil)))))))))
def F__law_behind : List D → Gs → Res D := mFn 4 15 m__law_behind
def m_lowest : SM := (sRet (mN oTuple (mCons (mLc [1] (mIt (mO oIx (mV 0) (mC (.int 0)))) (gNm 1) bYes (mC (.int 0))) mNil)))
def F_lowest : List D → Gs → Res D := mFn 1 2 m_lowest
def m_highest : SM := (sRet (mN oTuple (mCons (mLc [2] (mIt (mO oIx (mV 0) (mC (.int 0)))) (gNm 2) bYes (mO oSub (mV 1) (mV 2))) mNil)))
def F_highest : List D → Gs → Res D := mFn 2 3 m_highest
def m_behind_dial : SM := (sRet (mN oTuple (mCons (mLc [1] (mRgA (mCons (mN oLen (mCons (mV 0) mNil)) mNil)) (gNm 1) bYes (mN oSum (mCons (mSl (mV 0) pNo (pAt (mO oAdd (mV 1) (mC (.int 1))))) mNil))) mNil)))
def F_behind_dial : List D → Gs → Res D := mFn 1 2 m_behind_dial
def m_spans_of : SM := (sSeq (sAsg (gTp 3 (gCn (gNm 3) (gCn (gNm 4) (gCn (gNm 5) gNl)))) (mN F_run (mCons (mV 0) (mCons (mV 1) (mCons (mN F_lowest (mCons (mV 0) mNil)) (mCons (mV 2) mNil))))))
  (sSeq (sSet 6 (mO oIx (mN F_run (mCons (mV 0) (mCons (mV 1) (mCons (mN F_highest (mCons (mV 0) (mCons (mV 1) mNil))) (mCons (mV 2) mNil))))) (mC (.int 1))))
  (sRet (mN oTup (mCons (mV 3) (mCons (mN oLZip (mCons (mN F_behind_dial (mCons (mV 4) mNil)) (mCons (mN F_behind_dial (mCons (mV 6) mNil)) mNil))) mNil))))))
def F_spans_of : List D → Gs → Res D := mFn 3 7 m_spans_of
def m_is_up : SM := (sSeq (sSet 4 (mO oMod (mO oSub (mV 1) (mV 2)) (mV 0)))
  (sRet (mOr (mO oLe (mV 4) (mV 3)) (mO oLe (mO oSub (mV 0) (mV 4)) (mV 3)))))
def F_is_up : List D → Gs → Res D := mFn 4 5 m_is_up
def m_always_up : SM := (sSeq (sAsg (gTp 2 (gCn (gNm 5) (gCn (gNm 6) gNl))) (mV 2))
  (sSeq (sIf (mB (mO oGt (mO oSub (mV 6) (mV 5)) (mO oMul (mC (.int 2)) (mV 4))))
  (sRet (mC (.bl false)))
  sNil)
  (sRet (mN oAll (mCons (mLc [7] (mRgB (mCons (mV 5) (mCons (mO oAdd (mV 6) (mC (.int 1))) mNil))) (gNm 7) bYes (mN F_is_up (mCons (mV 0) (mCons (mO oSub (mV 1) (mV 7)) (mCons (mV 3) (mCons (mV 4) mNil)))))) mNil)))))
def F_always_up : List D → Gs → Res D := mFn 5 8 m_always_up
def m_opens_from_all : SM := (sSeq (sAsg (gTp 2 (gCn (gNm 3) (gCn (gNm 4) gNl))) (mN F_spans_of (mCons (mV 0) (mCons (mV 1) (mCons (mV 2) mNil)))))
  (sRet (mN oAll (mCons (mLc [5, 6] (mZip2 (mCons (mV 4) (mCons (mO oIx (mV 0) (mC (.int 1))) mNil))) (gTp 2 (gCn (gNm 5) (gCn (gNm 6) gNl))) bYes (mN F_always_up (mCons (mV 1) (mCons (mV 3) (mCons (mV 5) (mCons (mV 6) (mCons (mO oIx (mV 0) (mC (.int 2))) mNil))))))) mNil))))
def F_opens_from_all : List D → Gs → Res D := mFn 3 7 m_opens_from_all
def m_opens_all : SM := (sSeq (sExpr (mN F_need_lock (mCons (mV 0) mNil)))
  (sSeq (sExpr (mN F_need_marks (mCons (mV 1) mNil)))
  (sSeq (sExpr (mN F_need_script (mCons (mV 2) mNil)))
  (sRet (mN F_opens_from_all (mCons (mV 0) (mCons (mV 1) (mCons (mV 2) mNil))))))))
def F_opens_all : List D → Gs → Res D := mFn 3 3 m_opens_all
def B1__law_settings : SM := (sPost (forget [5]) (sSet 4 (mO oAdd (mV 4) (mLc [6] (mRgA (mCons (mO oAdd (mO oSub (mV 1) (mV 3)) (mC (.int 1))) mNil)) (gNm 6) bYes (mO oAdd (mV 5) (mN oTup (mCons (mV 6) mNil)))))))
theorem nc_B1__law_settings : NC (B1__law_settings) := (nc_post nc_set)
@[simp] theorem tn_B1__law_settings {f : GM} {d : D} {ds : List D} {ρ : En} {g : Gs} {N : En → Gs → Prop} {R : D → Gs → Prop} : wpS (forGo f (B1__law_settings) (d :: ds) ρ g) N R = gmR f d ρ (fun ρ1 g => wpS ((B1__law_settings) ρ1 g) (fun ρ2 g2 => wpS (forGo f (B1__law_settings) ds ρ2 g2) N R) R) g := wpS_nc nc_B1__law_settings
@[simp] theorem un_B1__law_settings {ρ : En} {g : Gs} {N : En → Gs → Prop} {R : D → Gs → Prop} : wpS ((B1__law_settings) ρ g) N R = wpS ((sPost (forget [5]) (sSet 4 (mO oAdd (mV 4) (mLc [6] (mRgA (mCons (mO oAdd (mO oSub (mV 1) (mV 3)) (mC (.int 1))) mNil)) (gNm 6) bYes (mO oAdd (mV 5) (mN oTup (mCons (mV 6) mNil))))))) ρ g) N R := rfl
def B2__law_settings : SM := (sPost (forget [4, 3, 5]) (sSeq (sSet 4 (mN oLst mNil))
  (sSeq (sFor (mIt (mV 2)) (gNm 5)
  B1__law_settings)
  (sSet 2 (mV 4)))))
theorem nc_B2__law_settings : NC (B2__law_settings) := (nc_post (nc_seq nc_set (nc_seq nc_for nc_set)))
@[simp] theorem tn_B2__law_settings {f : GM} {d : D} {ds : List D} {ρ : En} {g : Gs} {N : En → Gs → Prop} {R : D → Gs → Prop} : wpS (forGo f (B2__law_settings) (d :: ds) ρ g) N R = gmR f d ρ (fun ρ1 g => wpS ((B2__law_settings) ρ1 g) (fun ρ2 g2 => wpS (forGo f (B2__law_settings) ds ρ2 g2) N R) R) g := wpS_nc nc_B2__law_settings
@[simp] theorem un_B2__law_settings {ρ : En} {g : Gs} {N : En → Gs → Prop} {R : D → Gs → Prop} : wpS ((B2__law_settings) ρ g) N R = wpS ((sPost (forget [4, 3, 5]) (sSeq (sSet 4 (mN oLst mNil))
  (sSeq (sFor (mIt (mV 2)) (gNm 5)
  B1__law_settings)
  (sSet 2 (mV 4))))) ρ g) N R := rfl
def m__law_settings : SM := (sSeq (sSet 2 (mN oLst (mCons (mN oTup mNil) mNil)))
  (sSeq (sFor (mIt (mO oIx (mV 0) (mC (.int 0)))) (gNm 3)
  B2__law_settings)
  (sRet (mV 2))))
def F__law_settings : List D → Gs → Res D := mFn 2 7 m__law_settings
def m__law_is_up : SM := (sRet (mO oNe (mLc [4] (mRgB (mCons (mU oNeg (mV 3)) (mCons (mO oAdd (mV 3) (mC (.int 1))) mNil))) (gNm 4) (mB (mO oEq (mO oMod (mO oSub (mO oAdd (mV 2) (mV 4)) (mV 1)) (mV 0)) (mC (.int 0)))) (mC (.int 1))) (mN oLst mNil)))
def F__law_is_up : List D → Gs → Res D := mFn 4 5 m__law_is_up
def B1__law_is_open : SM := (sPost (forget [4, 3]) (sIf (bNot (mB (mN F__law_is_up (mCons (mV 1) (mCons (mV 3) (mCons (mV 4) (mCons (mO oIx (mV 0) (mC (.int 2))) mNil)))))))
  (sRet (mC (.bl false)))
  sNil))
theorem nc_B1__law_is_open : NC (B1__law_is_open) := (nc_post (nc_if nc_ret nc_nil))
@[simp] theorem tn_B1__law_is_open {f : GM} {d : D} {ds : List D} {ρ : En} {g : Gs} {N : En → Gs → Prop} {R : D → Gs → Prop} : wpS (forGo f (B1__law_is_open) (d :: ds) ρ g) N R = gmR f d ρ (fun ρ1 g => wpS ((B1__law_is_open) ρ1 g) (fun ρ2 g2 => wpS (forGo f (B1__law_is_open) ds ρ2 g2) N R) R) g := wpS_nc nc_B1__law_is_open
@[simp] theorem un_B1__law_is_open {ρ : En} {g : Gs} {N : En → Gs → Prop} {R : D → Gs → Prop} : wpS ((B1__law_is_open) ρ g) N R = wpS ((sPost (forget [4, 3]) (sIf (bNot (mB (mN F__law_is_up (mCons (mV 1) (mCons (mV 3) (mCons (mV 4) (mCons (mO oIx (mV 0) (mC (.int 2))) mNil)))))))
  (sRet (mC (.bl false)))
  sNil)) ρ g) N R := rfl
def m__law_is_open : SM := (sSeq (sFor (mZip2 (mCons (mV 2) (mCons (mO oIx (mV 0) (mC (.int 1))) mNil))) (gTp 2 (gCn (gNm 3) (gCn (gNm 4) gNl)))
  B1__law_is_open)
  (sRet (mC (.bl true))))
def F__law_is_open : List D → Gs → Res D := mFn 3 5 m__law_is_open
def m_spans : SM := (sSeq (sExpr (mN F_need_lock (mCons (mV 0) mNil)))
  (sSeq (sExpr (mN F_need_marks (mCons (mV 1) mNil)))
  (sSeq (sExpr (mN F_need_script (mCons (mV 2) mNil)))
  (sRet (mO oIx (mN F_spans_of (mCons (mV 0) (mCons (mV 1) (mCons (mV 2) mNil)))) (mC (.int 1)))))))
def F_spans : List D → Gs → Res D := mFn 3 3 m_spans
def m_does_settle : SM := (sRet (mN oAll (mCons (mLc [3, 4] (mIt (mO oIx (mN F_spans_of (mCons (mV 0) (mCons (mV 1) (mCons (mV 2) mNil)))) (mC (.int 1)))) (gTp 2 (gCn (gNm 3) (gCn (gNm 4) gNl))) bYes (mO oEq (mV 3) (mV 4))) mNil)))
def F_does_settle : List D → Gs → Res D := mFn 3 5 m_does_settle
def m_settles : SM := (sSeq (sExpr (mN F_need_lock (mCons (mV 0) mNil)))
  (sSeq (sExpr (mN F_need_marks (mCons (mV 1) mNil)))
  (sSeq (sExpr (mN F_need_script (mCons (mV 2) mNil)))
  (sRet (mN F_does_settle (mCons (mV 0) (mCons (mV 1) (mCons (mV 2) mNil))))))))
def F_settles : List D → Gs → Res D := mFn 3 3 m_settles
def m_all_up : SM := (sSeq (sSet 4 (mSl (mN F_places_of (mCons (mV 1) (mCons (mV 2) (mCons (mV 3) mNil)))) (pAt (mC (.int 1))) pNo))
  (sRet (mN oAll (mCons (mLc [5, 6] (mZip2 (mCons (mV 4) (mCons (mO oIx (mV 0) (mC (.int 1))) mNil))) (gTp 2 (gCn (gNm 5) (gCn (gNm 6) gNl))) bYes (mN F_is_up (mCons (mV 1) (mCons (mV 5) (mCons (mV 6) (mCons (mO oIx (mV 0) (mC (.int 2))) mNil)))))) mNil))))
def F_all_up : List D → Gs → Res D := mFn 4 7 m_all_up
def m_opens : SM := (sSeq (sExpr (mN F_need_lock (mCons (mV 0) mNil)))
  (sSeq (sExpr (mN F_need_marks (mCons (mV 1) mNil)))
  (sSeq (sExpr (mN F_need_setting (mCons (mV 0) (mCons (mV 1) (mCons (mV 2) mNil)))))
  (sSeq (sExpr (mN F_need_script (mCons (mV 3) mNil)))
  (sSeq (sAsg (gTp 3 (gCn (gNm 4) (gCn (gNm 5) (gCn (gNm 6) gNl)))) (mN F_run (mCons (mV 0) (mCons (mV 1) (mCons (mV 2) (mCons (mV 3) mNil))))))
  (sRet (mN F_all_up (mCons (mV 0) (mCons (mV 1) (mCons (mV 4) (mCons (mV 5) mNil)))))))))))
def F_opens : List D → Gs → Res D := mFn 4 7 m_opens
def m_need_word : SM := (sIf (bOr (bNot (mB (mU (oIsT "str") (mV 0)))) (mB (mO oNin (mV 0) (mV 1))))
  (sRaise "InvalidSetting")
  sNil)
def F_need_word : List D → Gs → Res D := mFn 2 2 m_need_word
def m_begun : SM := (sRet (mIf (mB (mO oEq (mV 2) (mC (.str "none")))) (mN F_lowest (mCons (mV 0) mNil)) (mN F_highest (mCons (mV 0) (mCons (mV 1) mNil)))))
def F_begun : List D → Gs → Res D := mFn 3 3 m_begun
def m_is_open_with : SM := (sSeq (sIf (mB (mO oEq (mV 3) (mC (.str "all"))))
  (sRet (mN F_opens_from_all (mCons (mV 0) (mCons (mV 1) (mCons (mV 2) mNil)))))
  sNil)
  (sSeq (sAsg (gTp 3 (gCn (gNm 4) (gCn (gNm 5) (gCn (gNm 6) gNl)))) (mN F_run (mCons (mV 0) (mCons (mV 1) (mCons (mN F_begun (mCons (mV 0) (mCons (mV 1) (mCons (mV 3) mNil)))) (mCons (mV 2) mNil))))))
  (sRet (mN F_all_up (mCons (mV 0) (mCons (mV 1) (mCons (mV 4) (mCons (mV 5) mNil))))))))
def F_is_open_with : List D → Gs → Res D := mFn 4 7 m_is_open_with
def m_lags_with : SM := (sRet (mO oIx (mN F_run (mCons (mV 0) (mCons (mV 1) (mCons (mN F_begun (mCons (mV 0) (mCons (mV 1) (mCons (mV 3) mNil)))) (mCons (mV 2) mNil))))) (mC (.int 1))))
def F_lags_with : List D → Gs → Res D := mFn 4 4 m_lags_with
def B1_pushes_of : SM := (sPost (forget [7, 6]) (sSeq (sSet 7 (mO oAdd (mV 2) (mN F_ticks_of (mCons (mV 6) (mCons (mV 1) mNil)))))
  (sSeq (sSet 2 (mN oMin2 (mCons (mV 5) (mCons (mN oMax2 (mCons (mC (.int 0)) (mCons (mV 7) mNil))) mNil))))
  (sApp 4 (mO oSub (mV 7) (mV 2))))))
theorem nc_B1_pushes_of : NC (B1_pushes_of) := (nc_post (nc_seq nc_set (nc_seq nc_set nc_app)))
@[simp] theorem tn_B1_pushes_of {f : GM} {d : D} {ds : List D} {ρ : En} {g : Gs} {N : En → Gs → Prop} {R : D → Gs → Prop} : wpS (forGo f (B1_pushes_of) (d :: ds) ρ g) N R = gmR f d ρ (fun ρ1 g => wpS ((B1_pushes_of) ρ1 g) (fun ρ2 g2 => wpS (forGo f (B1_pushes_of) ds ρ2 g2) N R) R) g := wpS_nc nc_B1_pushes_of
@[simp] theorem un_B1_pushes_of {ρ : En} {g : Gs} {N : En → Gs → Prop} {R : D → Gs → Prop} : wpS ((B1_pushes_of) ρ g) N R = wpS ((sPost (forget [7, 6]) (sSeq (sSet 7 (mO oAdd (mV 2) (mN F_ticks_of (mCons (mV 6) (mCons (mV 1) mNil)))))
  (sSeq (sSet 2 (mN oMin2 (mCons (mV 5) (mCons (mN oMax2 (mCons (mC (.int 0)) (mCons (mV 7) mNil))) mNil))))
  (sApp 4 (mO oSub (mV 7) (mV 2)))))) ρ g) N R := rfl
def m_pushes_of : SM := (sSeq (sPar [4, 5] [.f mNil, .v (mO oSub (mV 1) (mO oIx (mO oIx (mV 0) (mC (.int 0))) (mC (.int 0))))])
  (sSeq (sFor (mIt (mV 3)) (gNm 6)
  B1_pushes_of)
  (sPre (freeze 4) (sRet (mN oTup (mCons (mV 2) (mCons (mV 4) mNil)))))))
def F_pushes_of : List D → Gs → Res D := mFn 4 8 m_pushes_of
def B1_second_of : SM := (sPost (forget [7]) (sSeq (sAug 4 oAddI (mV 7))
  (sSeq (sSet 5 (mN oMin2 (mCons (mV 3) (mCons (mN oMax2 (mCons (mC (.int 0)) (mCons (mO oAdd (mV 5) (mV 7)) mNil))) mNil))))
  (sSet 6 (mN oMin2 (mCons (mV 3) (mCons (mN oMax2 (mCons (mC (.int 0)) (mCons (mO oAdd (mV 6) (mV 7)) mNil))) mNil)))))))
theorem nc_B1_second_of : NC (B1_second_of) := (nc_post (nc_seq nc_aug (nc_seq nc_set nc_set)))
@[simp] theorem tn_B1_second_of {f : GM} {d : D} {ds : List D} {ρ : En} {g : Gs} {N : En → Gs → Prop} {R : D → Gs → Prop} : wpS (forGo f (B1_second_of) (d :: ds) ρ g) N R = gmR f d ρ (fun ρ1 g => wpS ((B1_second_of) ρ1 g) (fun ρ2 g2 => wpS (forGo f (B1_second_of) ds ρ2 g2) N R) R) g := wpS_nc nc_B1_second_of
@[simp] theorem un_B1_second_of {ρ : En} {g : Gs} {N : En → Gs → Prop} {R : D → Gs → Prop} : wpS ((B1_second_of) ρ g) N R = wpS ((sPost (forget [7]) (sSeq (sAug 4 oAddI (mV 7))
  (sSeq (sSet 5 (mN oMin2 (mCons (mV 3) (mCons (mN oMax2 (mCons (mC (.int 0)) (mCons (mO oAdd (mV 5) (mV 7)) mNil))) mNil))))
  (sSet 6 (mN oMin2 (mCons (mV 3) (mCons (mN oMax2 (mCons (mC (.int 0)) (mCons (mO oAdd (mV 6) (mV 7)) mNil))) mNil))))))) ρ g) N R := rfl
def m_second_of : SM := (sSeq (sSet 3 (mO oSub (mV 1) (mO oIx (mO oIx (mV 0) (mC (.int 0))) (mC (.int 1)))))
  (sSeq (sPar [4, 5, 6] [.v (mC (.int 0)), .v (mC (.int 0)), .v (mV 3)])
  (sSeq (sFor (mIt (mV 2)) (gNm 7)
  B1_second_of)
  (sRet (mN oTup (mCons (mV 4) (mCons (mV 5) (mCons (mV 6) mNil))))))))
def F_second_of : List D → Gs → Res D := mFn 3 8 m_second_of
def m_good_lags : SM := (sSeq (sSet 5 (mLc [6] (mRgB (mCons (mU oNeg (mV 3)) (mCons (mO oAdd (mV 3) (mC (.int 1))) mNil))) (gNm 6) bYes (mO oMod (mO oAdd (mO oSub (mV 1) (mV 2)) (mV 6)) (mV 0))))
  (sRet (mLc [7] (mIt (mV 5)) (gNm 7) (mB (mO oLe (mV 7) (mO oSub (mV 0) (mV 4)))) (mV 7))))
def F_good_lags : List D → Gs → Res D := mFn 5 8 m_good_lags
def m_number_with : SM := (sSeq (sAsg (gTp 3 (gCn (gNm 3) (gCn (gNm 4) (gCn (gNm 5) gNl)))) (mV 0))
  (sSeq (sIf (bOr (mB (mO oLt (mV 2) (mV 4))) (mB (mO oGt (mV 2) (mV 5))))
  (sRet (mC (.int 0)))
  sNil)
  (sSeq (sIf (mB (mO oEq (mV 4) (mV 5)))
  (sRet (mO oAdd (mV 1) (mC (.int 1))))
  sNil)
  (sSeq (sIf (mB (mO oEq (mV 2) (mV 4)))
  (sRet (mO oAdd (mN oMin2 (mCons (mV 1) (mCons (mO oSub (mV 4) (mV 3)) mNil))) (mC (.int 1))))
  sNil)
  (sRet (mIf (mB (mO oEq (mV 2) (mV 5))) (mO oAdd (mO oSub (mV 1) (mO oSub (mV 5) (mV 3))) (mC (.int 1))) (mC (.int 1))))))))
def F_number_with : List D → Gs → Res D := mFn 3 6 m_number_with
def m_number_open : SM := (sSeq (sAsg (gTp 2 (gCn (gNm 5) (gCn (gNm 6) gNl))) (mN F_pushes_of (mCons (mV 0) (mCons (mV 1) (mCons (mV 3) (mCons (mV 4) mNil))))))
  (sSeq (sIf (mB (mO oNin (mV 5) (mN F_good_lags (mCons (mV 1) (mCons (mV 2) (mCons (mO oIx (mO oIx (mV 0) (mC (.int 1))) (mC (.int 0))) (mCons (mO oIx (mV 0) (mC (.int 2))) (mCons (mO oIx (mO oIx (mV 0) (mC (.int 0))) (mC (.int 0))) mNil))))))))
  (sRet (mC (.int 0)))
  sNil)
  (sSeq (sIf (mB (mO oEq (mN oLen (mCons (mO oIx (mV 0) (mC (.int 0))) mNil)) (mC (.int 1))))
  (sRet (mC (.int 1)))
  sNil)
  (sSeq (sSet 7 (mN F_second_of (mCons (mV 0) (mCons (mV 1) (mCons (mV 6) mNil)))))
  (sSeq (sSet 8 (mN F_good_lags (mCons (mV 1) (mCons (mO oSub (mV 2) (mV 5)) (mCons (mO oIx (mO oIx (mV 0) (mC (.int 1))) (mC (.int 1))) (mCons (mO oIx (mV 0) (mC (.int 2))) (mCons (mO oIx (mO oIx (mV 0) (mC (.int 0))) (mC (.int 1))) mNil)))))))
  (sRet (mN oSum (mCons (mLc [9] (mIt (mV 8)) (gNm 9) bYes (mN F_number_with (mCons (mV 7) (mCons (mO oSub (mV 1) (mO oIx (mO oIx (mV 0) (mC (.int 0))) (mC (.int 1)))) (mCons (mV 9) mNil))))) mNil))))))))
def F_number_open : List D → Gs → Res D := mFn 5 10 m_number_open
def m_number_at : SM := (sSeq (sSet 3 (mN oSum (mCons (mLc [4] (mIt (mV 2)) (gNm 4) bYes (mN F_ticks_of (mCons (mV 4) (mCons (mV 1) mNil)))) mNil)))
  (sRet (mN oSum (mCons (mLc [5] (mRgA (mCons (mO oAdd (mO oSub (mV 1) (mO oIx (mO oIx (mV 0) (mC (.int 0))) (mC (.int 0)))) (mC (.int 1))) mNil)) (gNm 5) bYes (mN F_number_open (mCons (mV 0) (mCons (mV 1) (mCons (mV 3) (mCons (mV 5) (mCons (mV 2) mNil))))))) mNil))))
def F_number_at : List D → Gs → Res D := mFn 3 6 m_number_at
def m_told_by : SM := (sRet (mO oDiv (mO oAdd (mO oAdd (mO oMul (mO oMul (mO oIx (mV 0) (mC (.int 0))) (mV 1)) (mV 1)) (mO oMul (mO oIx (mV 0) (mC (.int 1))) (mV 1))) (mO oIx (mV 0) (mC (.int 2)))) (mC (.int 2))))
def F_told_by : List D → Gs → Res D := mFn 2 2 m_told_by
def m_square_of : SM := (sSeq (sAsg (gTp 3 (gCn (gNm 2) (gCn (gNm 3) (gCn (gNm 4) gNl)))) (mLc [7] (mRgA (mCons (mC (.int 3)) mNil)) (gNm 7) bYes (mO oMul (mC (.int 2)) (mN F_number_at (mCons (mV 0) (mCons (mO oAdd (mC (.int 300)) (mV 7)) (mCons (mV 1) mNil)))))))
  (sSeq (sSet 5 (mO oDiv (mO oAdd (mO oSub (mV 4) (mO oMul (mC (.int 2)) (mV 3))) (mV 2)) (mC (.int 2))))
  (sSeq (sSet 6 (mO oSub (mO oSub (mV 3) (mV 2)) (mO oMul (mV 5) (mO oAdd (mO oMul (mC (.int 2)) (mC (.int 300))) (mC (.int 1))))))
  (sRet (mN oTup (mCons (mV 5) (mCons (mV 6) (mCons (mO oSub (mO oSub (mV 2) (mO oMul (mO oMul (mV 5) (mC (.int 300))) (mC (.int 300)))) (mO oMul (mV 6) (mC (.int 300)))) mNil))))))))
def F_square_of : List D → Gs → Res D := mFn 2 8 m_square_of
def m_count_open : SM := (sSeq (sExpr (mN F_need_lock (mCons (mV 0) mNil)))
  (sSeq (sExpr (mN F_need_marks (mCons (mV 1) mNil)))
  (sSeq (sExpr (mN F_need_script (mCons (mV 2) mNil)))
  (sRet (mIf (mB (mO oLe (mV 1) (mC (.int 300)))) (mN F_number_at (mCons (mV 0) (mCons (mV 1) (mCons (mV 2) mNil)))) (mN F_told_by (mCons (mN F_square_of (mCons (mV 0) (mCons (mV 2) mNil))) (mCons (mV 1) mNil))))))))
def F_count_open : List D → Gs → Res D := mFn 3 3 m_count_open
def m_need_felt : SM := (sIf (bOr (bNot (mB (mN F_has_items (mCons (mV 2) (mCons (mN oLen (mCons (mV 1) mNil)) (mCons (mN oLen (mCons (mV 1) mNil)) mNil)))))) (bNot (mB (mN oAll (mCons (mLc [3] (mIt (mV 2)) (gNm 3) bYes (mN F_is_within (mCons (mV 3) (mCons (mC (.int 0)) (mCons (mN oLen (mCons (mO oIx (mV 0) (mC (.int 0))) mNil)) mNil))))) mNil)))))
  (sRaise "InvalidFelt")
  sNil)
def F_need_felt : List D → Gs → Res D := mFn 3 4 m_need_felt
def m_need_all : SM := (sSeq (sExpr (mN F_need_lock (mCons (mV 0) mNil)))
  (sSeq (sExpr (mN F_need_script (mCons (mV 1) mNil)))
  (sExpr (mN F_need_script (mCons (mV 2) mNil)))))
def F_need_all : List D → Gs → Res D := mFn 3 3 m_need_all
def m_are_same : SM := (sRet (mAnd (mO oEq (mSl (mV 0) (pAt (mC (.int 1))) pNo) (mSl (mV 1) (pAt (mC (.int 1))) pNo)) (mOr (mO oEq (mO oIx (mV 0) (mC (.int 1))) (mO oIx (mV 0) (mC (.int 2)))) (mO oEq (mO oIx (mV 0) (mC (.int 0))) (mO oIx (mV 1) (mC (.int 0)))))))
def F_are_same : List D → Gs → Res D := mFn 2 2 m_are_same
def B1_first_lag : SM := (sPost (forget [7, 8]) (sSeq (sSet 8 (mN oTup (mCons (mV 4) (mCons (mV 7) mNil))))
  (sIf (mB (mO oNe (mO oIx (mN F_run (mCons (mV 0) (mCons (mV 1) (mCons (mV 8) (mCons (mV 2) mNil))))) (mC (.int 1))) (mO oIx (mN F_run (mCons (mV 0) (mCons (mV 1) (mCons (mV 8) (mCons (mV 3) mNil))))) (mC (.int 1)))))
  (sRet (mV 8))
  sNil)))
theorem nc_B1_first_lag : NC (B1_first_lag) := (nc_post (nc_seq nc_set (nc_if nc_ret nc_nil)))
@[simp] theorem tn_B1_first_lag {f : GM} {d : D} {ds : List D} {ρ : En} {g : Gs} {N : En → Gs → Prop} {R : D → Gs → Prop} : wpS (forGo f (B1_first_lag) (d :: ds) ρ g) N R = gmR f d ρ (fun ρ1 g => wpS ((B1_first_lag) ρ1 g) (fun ρ2 g2 => wpS (forGo f (B1_first_lag) ds ρ2 g2) N R) R) g := wpS_nc nc_B1_first_lag
@[simp] theorem un_B1_first_lag {ρ : En} {g : Gs} {N : En → Gs → Prop} {R : D → Gs → Prop} : wpS ((B1_first_lag) ρ g) N R = wpS ((sPost (forget [7, 8]) (sSeq (sSet 8 (mN oTup (mCons (mV 4) (mCons (mV 7) mNil))))
  (sIf (mB (mO oNe (mO oIx (mN F_run (mCons (mV 0) (mCons (mV 1) (mCons (mV 8) (mCons (mV 2) mNil))))) (mC (.int 1))) (mO oIx (mN F_run (mCons (mV 0) (mCons (mV 1) (mCons (mV 8) (mCons (mV 3) mNil))))) (mC (.int 1)))))
  (sRet (mV 8))
  sNil))) ρ g) N R := rfl
def m_first_lag : SM := (sSeq (sPar [5, 6] [.v (mN F_pushes_of (mCons (mV 0) (mCons (mV 1) (mCons (mV 4) (mCons (mV 2) mNil))))), .v (mN F_pushes_of (mCons (mV 0) (mCons (mV 1) (mCons (mV 4) (mCons (mV 3) mNil)))))])
  (sSeq (sIf (mB (mO oEq (mN oLen (mCons (mO oIx (mV 0) (mC (.int 0))) mNil)) (mC (.int 1))))
  (sRet (mIf (mB (mO oEq (mO oIx (mV 5) (mC (.int 0))) (mO oIx (mV 6) (mC (.int 0))))) (mC .non) (mN oTup (mCons (mV 4) mNil))))
  sNil)
  (sSeq (sIf (bAnd (mB (mO oEq (mO oIx (mV 5) (mC (.int 0))) (mO oIx (mV 6) (mC (.int 0))))) (mB (mN F_are_same (mCons (mN F_second_of (mCons (mV 0) (mCons (mV 1) (mCons (mO oIx (mV 5) (mC (.int 1))) mNil)))) (mCons (mN F_second_of (mCons (mV 0) (mCons (mV 1) (mCons (mO oIx (mV 6) (mC (.int 1))) mNil)))) mNil)))))
  (sRet (mC .non))
  sNil)
  (sSeq (sFor (mRgA (mCons (mO oAdd (mO oSub (mV 1) (mO oIx (mO oIx (mV 0) (mC (.int 0))) (mC (.int 1)))) (mC (.int 1))) mNil)) (gNm 7)
  B1_first_lag)
  (sRet (mC .non))))))
def F_first_lag : List D → Gs → Res D := mFn 5 9 m_first_lag
def B1_parted_at : SM := (sPost (forget [6, 5]) (sSeq (sSet 6 (mN F_first_lag (mCons (mV 0) (mCons (mV 1) (mCons (mV 2) (mCons (mV 3) (mCons (mV 5) mNil)))))))
  (sIf (mB (mO oIsN (mV 6) (mC .non)))
  (sRet (mV 6))
  sNil)))
theorem nc_B1_parted_at : NC (B1_parted_at) := (nc_post (nc_seq nc_set (nc_if nc_ret nc_nil)))
@[simp] theorem tn_B1_parted_at {f : GM} {d : D} {ds : List D} {ρ : En} {g : Gs} {N : En → Gs → Prop} {R : D → Gs → Prop} : wpS (forGo f (B1_parted_at) (d :: ds) ρ g) N R = gmR f d ρ (fun ρ1 g => wpS ((B1_parted_at) ρ1 g) (fun ρ2 g2 => wpS (forGo f (B1_parted_at) ds ρ2 g2) N R) R) g := wpS_nc nc_B1_parted_at
@[simp] theorem un_B1_parted_at {ρ : En} {g : Gs} {N : En → Gs → Prop} {R : D → Gs → Prop} : wpS ((B1_parted_at) ρ g) N R = wpS ((sPost (forget [6, 5]) (sSeq (sSet 6 (mN F_first_lag (mCons (mV 0) (mCons (mV 1) (mCons (mV 2) (mCons (mV 3) (mCons (mV 5) mNil)))))))
  (sIf (mB (mO oIsN (mV 6) (mC .non)))
  (sRet (mV 6))
  sNil))) ρ g) N R := rfl
def m_parted_at : SM := (sSeq (sSet 4 (mO oSub (mN oSum (mCons (mLc [7] (mIt (mV 2)) (gNm 7) bYes (mN F_ticks_of (mCons (mV 7) (mCons (mV 1) mNil)))) mNil)) (mN oSum (mCons (mLc [7] (mIt (mV 3)) (gNm 7) bYes (mN F_ticks_of (mCons (mV 7) (mCons (mV 1) mNil)))) mNil))))
  (sSeq (sIf (mB (mO oNe (mO oMod (mV 4) (mV 1)) (mC (.int 0))))
  (sRet (mN oTuple (mCons (mLc [8] (mIt (mO oIx (mV 0) (mC (.int 0)))) (gNm 8) bYes (mC (.int 0))) mNil)))
  sNil)
  (sSeq (sFor (mRgA (mCons (mO oAdd (mO oSub (mV 1) (mO oIx (mO oIx (mV 0) (mC (.int 0))) (mC (.int 0)))) (mC (.int 1))) mNil)) (gNm 5)
  B1_parted_at)
  (sRet (mC .non)))))
def F_parted_at : List D → Gs → Res D := mFn 4 9 m_parted_at
def B1_parted : SM := (sPost (forget [4, 3]) (sSeq (sSet 4 (mN F_parted_at (mCons (mV 0) (mCons (mV 3) (mCons (mV 1) (mCons (mV 2) mNil))))))
  (sIf (mB (mO oIsN (mV 4) (mC .non)))
  (sRet (mN oTup (mCons (mV 3) (mCons (mV 4) mNil))))
  sNil)))
theorem nc_B1_parted : NC (B1_parted) := (nc_post (nc_seq nc_set (nc_if nc_ret nc_nil)))
@[simp] theorem tn_B1_parted {f : GM} {d : D} {ds : List D} {ρ : En} {g : Gs} {N : En → Gs → Prop} {R : D → Gs → Prop} : wpS (forGo f (B1_parted) (d :: ds) ρ g) N R = gmR f d ρ (fun ρ1 g => wpS ((B1_parted) ρ1 g) (fun ρ2 g2 => wpS (forGo f (B1_parted) ds ρ2 g2) N R) R) g := wpS_nc nc_B1_parted
@[simp] theorem un_B1_parted {ρ : En} {g : Gs} {N : En → Gs → Prop} {R : D → Gs → Prop} : wpS ((B1_parted) ρ g) N R = wpS ((sPost (forget [4, 3]) (sSeq (sSet 4 (mN F_parted_at (mCons (mV 0) (mCons (mV 3) (mCons (mV 1) (mCons (mV 2) mNil))))))
  (sIf (mB (mO oIsN (mV 4) (mC .non)))
  (sRet (mN oTup (mCons (mV 3) (mCons (mV 4) mNil))))
  sNil))) ρ g) N R := rfl
def m_parted : SM := (sSeq (sFor (mRgB (mCons (mC (.int 24)) (mCons (mO oAdd (mC (.int 300)) (mC (.int 1))) mNil))) (gNm 3)
  B1_parted)
  (sRet (mC .non)))
def F_parted : List D → Gs → Res D := mFn 3 5 m_parted
def m_alike : SM := (sSeq (sExpr (mN F_need_all (mCons (mV 0) (mCons (mV 1) (mCons (mV 2) mNil)))))
  (sRet (mO oIs (mN F_parted (mCons (mV 0) (mCons (mV 1) (mCons (mV 2) mNil)))) (mC .non))))
def F_alike : List D → Gs → Res D := mFn 3 3 m_alike
def m_parting : SM := (sSeq (sExpr (mN F_need_all (mCons (mV 0) (mCons (mV 1) (mCons (mV 2) mNil)))))
  (sRet (mN F_parted (mCons (mV 0) (mCons (mV 1) (mCons (mV 2) mNil))))))
def F_parting : List D → Gs → Res D := mFn 3 3 m_parting
def m_opens_always : SM := (sRet (mN oAll (mCons (mLc [2] (mRgB (mCons (mC (.int 24)) (mCons (mO oAdd (mC (.int 300)) (mC (.int 1))) mNil))) (gNm 2) bYes (mN F_opens_from_all (mCons (mV 0) (mCons (mV 2) (mCons (mV 1) mNil))))) mNil)))
def F_opens_always : List D → Gs → Res D := mFn 2 3 m_opens_always
def m_always_opens : SM := (sSeq (sExpr (mN F_need_lock (mCons (mV 0) mNil)))
  (sSeq (sExpr (mN F_need_script (mCons (mV 1) mNil)))
  (sRet (mN F_opens_always (mCons (mV 0) (mCons (mV 1) mNil))))))
def F_always_opens : List D → Gs → Res D := mFn 2 2 m_always_opens
def B1_all_turns : SM := (sPost (forget [1]) (sSet 0 (mO oAdd (mV 0) (mLc [2] (mRgB (mCons (mU oNeg (mC (.int 20))) (mCons (mC (.int 21)) mNil))) (gNm 2) (bOr (mB (mO oNe (mV 1) (mC (.int 0)))) (mB (mO oNe (mV 2) (mC (.int 0))))) (mN oTup (mCons (mV 1) (mCons (mV 2) mNil)))))))
theorem nc_B1_all_turns : NC (B1_all_turns) := (nc_post nc_set)
@[simp] theorem tn_B1_all_turns {f : GM} {d : D} {ds : List D} {ρ : En} {g : Gs} {N : En → Gs → Prop} {R : D → Gs → Prop} : wpS (forGo f (B1_all_turns) (d :: ds) ρ g) N R = gmR f d ρ (fun ρ1 g => wpS ((B1_all_turns) ρ1 g) (fun ρ2 g2 => wpS (forGo f (B1_all_turns) ds ρ2 g2) N R) R) g := wpS_nc nc_B1_all_turns
@[simp] theorem un_B1_all_turns {ρ : En} {g : Gs} {N : En → Gs → Prop} {R : D → Gs → Prop} : wpS ((B1_all_turns) ρ g) N R = wpS ((sPost (forget [1]) (sSet 0 (mO oAdd (mV 0) (mLc [2] (mRgB (mCons (mU oNeg (mC (.int 20))) (mCons (mC (.int 21)) mNil))) (gNm 2) (bOr (mB (mO oNe (mV 1) (mC (.int 0)))) (mB (mO oNe (mV 2) (mC (.int 0))))) (mN oTup (mCons (mV 1) (mCons (mV 2) mNil))))))) ρ g) N R := rfl
def m_all_turns : SM := (sSeq (sSet 0 (mN oLst mNil))
  (sSeq (sFor (mRgB (mCons (mU oNeg (mC (.int 3))) (mCons (mC (.int 4)) mNil))) (gNm 1)
  B1_all_turns)
  (sRet (mV 0))))
def F_all_turns : List D → Gs → Res D := mFn 0 3 m_all_turns
def m_led : SM := (sSeq (sAsg (gTp 3 (gCn (gNm 3) (gCn (gNm 4) (gCn (gNm 5) gNl)))) (mV 1))
  (sSeq (sSet 6 (mN F_ticks_of (mCons (mV 2) (mCons (mC (.int 300)) mNil))))
  (sRet (mN oTup (mCons (mO oAdd (mV 3) (mV 6)) (mCons (mO oIx (mN F_turned (mCons (mV 0) (mCons (mC (.int 300)) (mCons (mV 4) (mCons (mV 6) mNil))))) (mC (.int 0))) (mCons (mO oIx (mN F_turned (mCons (mV 0) (mCons (mC (.int 300)) (mCons (mV 5) (mCons (mV 6) mNil))))) (mC (.int 0))) mNil)))))))
def F_led : List D → Gs → Res D := mFn 3 7 m_led
def m_numbers_in : SM := (sSeq (sAsg (gTp 2 (gCn (gNm 2) (gCn (gNm 3) gNl))) (mKd [("pins", [1, 3]), ("gates", [0, 11]), ("width", [0, 2])] (mV 0)))
  (sSeq (sSet 4 (mTx oSplit (mV 1) (mC (.str ","))))
  (sSeq (sIf (bOr (mB (mO oGt (mN oLen (mCons (mV 4) mNil)) (mIf (mB (mO oEq (mV 0) (mC (.str "width")))) (mC (.int 1)) (mC (.int 2))))) (bNot (mB (mN oAll (mCons (mLc [6] (mIt (mV 4)) (gNm 6) bYes (mO oIn (mV 6) (mC (.tup [.str "0", .str "1", .str "2", .str "3", .str "4", .str "5", .str "6", .str "7", .str "8", .str "9", .str "10", .str "11"])))) mNil)))))
  (sRet (mC .non))
  sNil)
  (sSeq (sSet 5 (mN oTuple (mCons (mLc [6] (mIt (mV 4)) (gNm 6) bYes (mN oInt (mCons (mV 6) mNil))) mNil)))
  (sRet (mIf (bAnd (mB (mO oLe (mV 2) (mN oMin1 (mCons (mV 5) mNil)))) (mB (mO oLe (mN oMax1 (mCons (mV 5) mNil)) (mV 3)))) (mV 5) (mC .non)))))))
def F_numbers_in : List D → Gs → Res D := mFn 2 7 m_numbers_in
def m_part_of : SM := (sSeq (sSet 1 (mTx oSplit (mV 0) (mC (.str " "))))
  (sSeq (sIf (bOr (mB (mO oNe (mN oLen (mCons (mV 1) mNil)) (mC (.int 2)))) (mB (mO oNin (mO oIx (mV 1) (mC (.int 0))) (mC (.tup [.str "pins", .str "gates", .str "width"])))))
  (sRet (mC .non))
  sNil)
  (sSeq (sSet 2 (mN F_numbers_in (mCons (mO oIx (mV 1) (mC (.int 0))) (mCons (mO oIx (mV 1) (mC (.int 1))) mNil))))
  (sRet (mIf (mB (mO oIsN (mV 2) (mC .non))) (mN oTup (mCons (mO oIx (mV 1) (mC (.int 0))) (mCons (mV 2) mNil))) (mC .non))))))
def F_part_of : List D → Gs → Res D := mFn 1 3 m_part_of
def B1_lock_of : SM := (sPost (forget [2, 4, 3]) (sSeq (sSet 4 (mN F_part_of (mCons (mV 3) mNil)))
  (sSeq (sIf (mB (mO oIs (mV 4) (mC .non)))
  (sRaiseF "InvalidText" "line" (mO oAdd (mV 2) (mC (.int 1))))
  sNil)
  (sApp 1 (mV 4)))))
theorem nc_B1_lock_of : NC (B1_lock_of) := (nc_post (nc_seq nc_set (nc_seq (nc_if nc_raiseF nc_nil) nc_app)))
@[simp] theorem tn_B1_lock_of {f : GM} {d : D} {ds : List D} {ρ : En} {g : Gs} {N : En → Gs → Prop} {R : D → Gs → Prop} : wpS (forGo f (B1_lock_of) (d :: ds) ρ g) N R = gmR f d ρ (fun ρ1 g => wpS ((B1_lock_of) ρ1 g) (fun ρ2 g2 => wpS (forGo f (B1_lock_of) ds ρ2 g2) N R) R) g := wpS_nc nc_B1_lock_of
@[simp] theorem un_B1_lock_of {ρ : En} {g : Gs} {N : En → Gs → Prop} {R : D → Gs → Prop} : wpS ((B1_lock_of) ρ g) N R = wpS ((sPost (forget [2, 4, 3]) (sSeq (sSet 4 (mN F_part_of (mCons (mV 3) mNil)))
  (sSeq (sIf (mB (mO oIs (mV 4) (mC .non)))
  (sRaiseF "InvalidText" "line" (mO oAdd (mV 2) (mC (.int 1))))
  sNil)
  (sApp 1 (mV 4))))) ρ g) N R := rfl
def m_lock_of : SM := (sSeq (sIf (bNot (mB (mU (oIsT "str") (mV 0))))
  (sRaiseF "InvalidText" "line" (mC (.int 0)))
  sNil)
  (sSeq (sPar [1] [.f mNil])
  (sSeq (sFor (mEnum (mCons (mTx oSplit (mV 0) (mC (.str "\n"))) mNil)) (gTp 2 (gCn (gNm 2) (gCn (gNm 3) gNl)))
  B1_lock_of)
  (sSeq (sPre (freeze 1) (sIf (mB (mO oNe (mN oTuple (mCons (mLc [6, 7] (mIt (mV 1)) (gTp 2 (gCn (gNm 6) (gCn (gNm 7) gNl))) bYes (mV 6)) mNil)) (mC (.tup [.str "pins", .str "gates", .str "width"]))))
  (sRaiseF "InvalidText" "line" (mO oAdd (mN oLen (mCons (mV 1) mNil)) (mC (.int 1))))
  sNil))
  (sSeq (sSet 5 (mN oTup (mCons (mO oIx (mO oIx (mV 1) (mC (.int 0))) (mC (.int 1))) (mCons (mO oIx (mO oIx (mV 1) (mC (.int 1))) (mC (.int 1))) (mCons (mO oIx (mO oIx (mO oIx (mV 1) (mC (.int 2))) (mC (.int 1))) (mC (.int 0))) mNil)))))
  (sSeq (sIf (bNot (mB (mN F_is_lock_value (mCons (mV 5) mNil))))
  (sRaiseF "InvalidText" "line" (mO oAdd (mN oLen (mCons (mV 1) mNil)) (mC (.int 1))))
  sNil)
  (sRet (mV 5))))))))
def F_lock_of : List D → Gs → Res D := mFn 1 8 m_lock_of
def m_read_lock : SM := (sRet (mN F_lock_of (mCons (mV 0) mNil)))
def F_read_lock : List D → Gs → Res D := mFn 1 1 m_read_lock
def B1__law_writing : SM := (sPost (forget [5]) (sSet 4 (mO oAdd (mO oAdd (mV 4) (mC (.str ","))) (mN oStr (mCons (mV 5) mNil)))))
theorem nc_B1__law_writing : NC (B1__law_writing) := (nc_post nc_set)
@[simp] theorem tn_B1__law_writing {f : GM} {d : D} {ds : List D} {ρ : En} {g : Gs} {N : En → Gs → Prop} {R : D → Gs → Prop} : wpS (forGo f (B1__law_writing) (d :: ds) ρ g) N R = gmR f d ρ (fun ρ1 g => wpS ((B1__law_writing) ρ1 g) (fun ρ2 g2 => wpS (forGo f (B1__law_writing) ds ρ2 g2) N R) R) g := wpS_nc nc_B1__law_writing
@[simp] theorem un_B1__law_writing {ρ : En} {g : Gs} {N : En → Gs → Prop} {R : D → Gs → Prop} : wpS ((B1__law_writing) ρ g) N R = wpS ((sPost (forget [5]) (sSet 4 (mO oAdd (mO oAdd (mV 4) (mC (.str ","))) (mN oStr (mCons (mV 5) mNil))))) ρ g) N R := rfl
def B2__law_writing : SM := (sPost (forget [2, 4, 5, 3]) (sSeq (sSet 4 (mO oAdd (mO oAdd (mV 2) (mC (.str " "))) (mN oStr (mCons (mO oIx (mV 3) (mC (.int 0))) mNil))))
  (sSeq (sFor (mIt (mSl (mV 3) (pAt (mC (.int 1))) pNo)) (gNm 5)
  B1__law_writing)
  (sApp 1 (mV 4)))))
theorem nc_B2__law_writing : NC (B2__law_writing) := (nc_post (nc_seq nc_set (nc_seq nc_for nc_app)))
@[simp] theorem tn_B2__law_writing {f : GM} {d : D} {ds : List D} {ρ : En} {g : Gs} {N : En → Gs → Prop} {R : D → Gs → Prop} : wpS (forGo f (B2__law_writing) (d :: ds) ρ g) N R = gmR f d ρ (fun ρ1 g => wpS ((B2__law_writing) ρ1 g) (fun ρ2 g2 => wpS (forGo f (B2__law_writing) ds ρ2 g2) N R) R) g := wpS_nc nc_B2__law_writing
@[simp] theorem un_B2__law_writing {ρ : En} {g : Gs} {N : En → Gs → Prop} {R : D → Gs → Prop} : wpS ((B2__law_writing) ρ g) N R = wpS ((sPost (forget [2, 4, 5, 3]) (sSeq (sSet 4 (mO oAdd (mO oAdd (mV 2) (mC (.str " "))) (mN oStr (mCons (mO oIx (mV 3) (mC (.int 0))) mNil))))
  (sSeq (sFor (mIt (mSl (mV 3) (pAt (mC (.int 1))) pNo)) (gNm 5)
  B1__law_writing)
  (sApp 1 (mV 4))))) ρ g) N R := rfl
def m__law_writing : SM := (sSeq (sPar [1] [.f mNil])
  (sSeq (sFor (mIt (mN oLst (mCons (mN oTup (mCons (mC (.str "pins")) (mCons (mO oIx (mV 0) (mC (.int 0))) mNil))) (mCons (mN oTup (mCons (mC (.str "gates")) (mCons (mO oIx (mV 0) (mC (.int 1))) mNil))) (mCons (mN oTup (mCons (mC (.str "width")) (mCons (mN oTup (mCons (mO oIx (mV 0) (mC (.int 2))) mNil)) mNil))) mNil))))) (gTp 2 (gCn (gNm 2) (gCn (gNm 3) gNl)))
  B2__law_writing)
  (sPre (freeze 1) (sRet (mTx oJoin (mC (.str "\n")) (mV 1))))))
def F__law_writing : List D → Gs → Res D := mFn 1 6 m__law_writing
def m_lock_rows : SM := (sSeq (sAsg (gTp 3 (gCn (gNm 1) (gCn (gNm 2) (gCn (gNm 3) gNl)))) (mV 0))
  (sRet (mN oLst (mCons (mO oAdd (mC (.str "pins ")) (mTx oJoin (mC (.str ",")) (mLc [4] (mIt (mV 1)) (gNm 4) bYes (mN oStr (mCons (mV 4) mNil))))) (mCons (mO oAdd (mC (.str "gates ")) (mTx oJoin (mC (.str ",")) (mLc [5] (mIt (mV 2)) (gNm 5) bYes (mN oStr (mCons (mV 5) mNil))))) (mCons (mFs "width " (mV 3)) mNil))))))
def F_lock_rows : List D → Gs → Res D := mFn 1 6 m_lock_rows
def m_lock_text : SM := (sSeq (sExpr (mN F_need_lock (mCons (mV 0) mNil)))
  (sRet (mTx oJoin (mC (.str "\n")) (mN F_lock_rows (mCons (mV 0) mNil)))))
def F_lock_text : List D → Gs → Res D := mFn 1 1 m_lock_text
def m__law_put : SM := (sSeq (sSet 2 (mV 0))
  (sSeq (sAug 2 oAddI (mV 1))
  (sRet (mO oEq (mV 2) (mV 0)))))
def F__law_put : List D → Gs → Res D := mFn 2 3 m__law_put
def B1_idle_turns : SM := (sPost (forget [3]) (sIf (mB (mO oIs (mN F_parted (mCons (mV 0) (mCons (mV 1) (mCons (mO oAdd (mSl (mV 1) pNo (pAt (mV 3))) (mSl (mV 1) (pAt (mO oAdd (mV 3) (mC (.int 1)))) pNo)) mNil)))) (mC .non)))
  (sApp 2 (mV 3))
  sNil))
theorem nc_B1_idle_turns : NC (B1_idle_turns) := (nc_post (nc_if nc_app nc_nil))
@[simp] theorem tn_B1_idle_turns {f : GM} {d : D} {ds : List D} {ρ : En} {g : Gs} {N : En → Gs → Prop} {R : D → Gs → Prop} : wpS (forGo f (B1_idle_turns) (d :: ds) ρ g) N R = gmR f d ρ (fun ρ1 g => wpS ((B1_idle_turns) ρ1 g) (fun ρ2 g2 => wpS (forGo f (B1_idle_turns) ds ρ2 g2) N R) R) g := wpS_nc nc_B1_idle_turns
@[simp] theorem un_B1_idle_turns {ρ : En} {g : Gs} {N : En → Gs → Prop} {R : D → Gs → Prop} : wpS ((B1_idle_turns) ρ g) N R = wpS ((sPost (forget [3]) (sIf (mB (mO oIs (mN F_parted (mCons (mV 0) (mCons (mV 1) (mCons (mO oAdd (mSl (mV 1) pNo (pAt (mV 3))) (mSl (mV 1) (pAt (mO oAdd (mV 3) (mC (.int 1)))) pNo)) mNil)))) (mC .non)))
  (sApp 2 (mV 3))
  sNil)) ρ g) N R := rfl
def m_idle_turns : SM := (sSeq (sExpr (mN F_need_lock (mCons (mV 0) mNil)))
  (sSeq (sExpr (mN F_need_script (mCons (mV 1) mNil)))
  (sSeq (sPar [2] [.f mNil])
  (sSeq (sFor (mRgA (mCons (mN oLen (mCons (mV 1) mNil)) mNil)) (gNm 3)
  B1_idle_turns)
  (sPre (freeze 2) (sRet (mV 2)))))))
def F_idle_turns : List D → Gs → Res D := mFn 2 4 m_idle_turns
end Cm

set_option Elab.async false
set_option linter.all false
set_option maxRecDepth 100000
set_option maxHeartbeats 1000000
namespace Sh
open PySem PySem.Spec PyProof.Rows L2
/-! ### a written dict with texts as keys -/
theorem zip_kv : ∀ (ks : List Str) (vs : List V), (ks.map V.str).zip vs = ((ks.map Sum.inr).zip vs).map fun (kv : Key × V) => (kV kv.1, kv.2)
  | [], _ => rfl
  | _ :: _, [] => rfl
  | k :: ks, v :: vs => by
    simp only [List.map_cons, List.zip_cons_cons]
    rw [zip_kv ks vs]
    rfl
theorem put_new {kvs : List (Key × V)} {k : Key} {v : V} (h : ∀ p ∈ kvs, p.1 ≠ k) : putK kvs k v = kvs ++ [(k, v)] := by
  unfold putK
  rw [if_neg]
  intro z
  obtain ⟨p, hp, e⟩ := List.any_eq_true.mp z
  exact h p hp (of_decide_eq_true e)
theorem merge_new : ∀ (more kvs : List (Key × V)), (∀ p ∈ kvs, ∀ q ∈ more, p.1 ≠ q.1) → (more.map (·.1)).Nodup → mergeK kvs more = kvs ++ more
  | [], kvs, _, _ => by simp [mergeK]
  | (k, v) :: more, kvs, h, hn => by
    have e : mergeK kvs ((k, v) :: more) = mergeK (putK kvs k v) more := rfl
    rw [List.map_cons, List.nodup_cons] at hn
    rw [e, put_new fun p hp => h p hp (k, v) (by simp), merge_new more _ (fun p hp q hq => ?_) hn.2]
    · simp
    · rcases List.mem_append.mp hp with hp | hp
      · exact h p hp q (List.mem_cons_of_mem _ hq)
      · have : p = (k, v) := by simpa using hp
        subst this
        exact fun z => hn.1 (List.mem_map.mpr ⟨q, hq, z.symm⟩)
theorem zip_keys : ∀ (ks : List Str) (vs : List V), ks.length = vs.length → ((ks.map Sum.inr).zip vs).map (·.1) = ks.map (Sum.inr : Str → Key)
  | [], _, _ => rfl
  | k :: ks, v :: vs, h => by
    simp only [List.map_cons, List.zip_cons_cons]
    rw [zip_keys ks vs (by simpa using h)]
  | _ :: _, [], h => by simp at h
section
variable {K : PySem.W.Frag} {T : Tb} {μ : List Addr} {g : Gs} {ρ : En} {σ : L2.St} {H : Hp} {p : Addr}
/-- an empty dict that nobody tells of is filled -/
theorem StR.fill {kvs : List (Key × V)} (s : StR K T μ g ρ σ H) (h : H p = some (.dK [])) : StR K T μ g ρ σ (upd H p (.dK kvs)) := by
  have sm : ∀ b u, H b = some u → u ≠ .dK [] → upd H p (.dK kvs) b = some u := fun b u e n => by
    rw [upd_ne fun z => n (by rw [z, h] at e; exact (Option.some.inj e).symm)]
    exact e
  have ht : ∀ a vs, TupAt K H μ (ow T ρ σ) a vs → TupAt K (upd H p (.dK kvs)) μ (ow T ρ σ) a vs := fun a vs t => t.imp (fun ⟨e, n⟩ => ⟨sm _ _ e (fun z => by cases z), n⟩) id
  have hl : ∀ a vs, LstAt K H μ (ow T ρ σ) a vs → LstAt K (upd H p (.dK kvs)) μ (ow T ρ σ) a vs := fun a vs t => t.imp (fun ⟨r, n⟩ => ⟨r.imp (fun e => sm _ _ e (fun z => by cases z)) fun ⟨ob, e⟩ => ⟨ob, sm _ _ e (fun z => by cases z)⟩, n⟩) id
  have hdc : ∀ a ks vs, DicAt H μ (ow T ρ σ) a ks vs → DicAt (upd H p (.dK kvs)) μ (ow T ρ σ) a ks vs := fun a ks vs ⟨e, n, o, k1, k2, k3⟩ => ⟨sm _ _ e (fun z => by
    cases ks with
    | nil => exact k1 rfl
    | cons k ks =>
      cases vs with
      | nil => simp at k3
      | cons v vs => cases z), n, o, k1, k2, k3⟩
  have hr := Rp.mapP ht hl (fun _ _ h => h) hdc
  have hrs := Rps.mapP ht hl (fun _ _ h => h) hdc
  refine ⟨s.len, s.nd, fun l a x e1 e2 => (s.gl l a x e1 e2).mapP (fun u e q => sm _ _ e ?_) hr hrs fun dx n1 n2 q => ⟨sm _ _ q (fun z => by cases z), n1, n2⟩, s.el, fun i x e => ?_, fun i xs e => ?_, s.sep, fun a q => ⟨(s.ob a q).1.imp fun vs e => sm _ _ e (fun z => by cases z), (s.ob a q).2⟩, s.os, fun q hq => ?_⟩
  · rcases q with ⟨xs, rfl⟩ | ⟨C, dx, fs, rfl⟩ <;> exact fun z => by cases z
  · obtain ⟨v, e1, r⟩ := s.en i x e
    exact ⟨v, e1, hr _ _ r⟩
  · obtain ⟨a, vs, e1, e2, n, r⟩ := s.em i xs e
    exact ⟨a, vs, e1, sm _ _ e2 (fun z => by cases z), n, hrs _ _ r⟩
  · obtain ⟨ps, h1, h2, h3⟩ := s.tb q hq
    refine ⟨ps, sm _ _ h1 (fun z => by cases z), h2, fun pos cv hc => ?_⟩
    obtain ⟨c, e1, e2⟩ := h3 pos cv hc
    exact ⟨c, e1, sm _ _ e2 (fun z => by unfold LamX.CodeO at z; cases z)⟩
end
def mDic (ks : List Str) (l : LM) : EM := fun ρ g => (l ρ g).bind fun xs g1 => if ks ≠ [] ∧ ks.Nodup ∧ ks.length = xs.length ∧ ks.length ≤ 15 then .ok (.dic ks xs) g1 else .bad
section
variable {X : Cx} {T : Tb} {W : WX} {pos p p2 : Pos} {e v : Expr} {keys : List (Option Expr)} {values : List Expr} {ks : List Str} {m ma mb : EM} {l : LM}
structure MPs (X : Cx) (T : Tb) (W : WX) (pos : Pos) (keys : List (Option Expr)) (values : List Expr) (ks : List Str) (l : LM) : Prop where
  ex : ∃ trs, PPs X pos keys values trs ∧ ∀ (σ : L2.St) (H : Hp) (R : List V → Hp → Prop) (Q : List (V × V) → Hp → Prop), (∀ vs H', vs.length = ks.length → R vs H' → Q ((ks.map V.str).zip vs) H') → tL X.K T W l σ H R → tPairs trs σ H Q
theorem mps_nil : MPs X T W pos [] [] [] mNil := ⟨[], pps_nil, fun σ H R Q hq ⟨ρ, μ, g, s, q⟩ => hq [] H rfl (q [] μ H s (.refl _ _) .nil)⟩
theorem mps_cons {k : Str} {j : Nat} (hv : ME X T W v m) (hr : MPs X T W pos keys values ks l) : MPs X T W pos (some (.Constant (.str k) j p) :: keys) (v :: values) (k :: ks) (mCons m l) := by
  obtain ⟨trs, hp, hc⟩ := hr.ex
  refine ⟨(tC (.str k), tE X.K T W m) :: trs, pps_cons pe_str hv hp, fun σ H R Q hq h => ?_⟩
  show tE X.K T W m σ H fun y H2 => tPairs trs σ H2 fun ps H3 => Q ((.str k, y) :: ps) H3
  refine tG_bind (k := fun ρ x g1 => (l ρ g1).bind fun xs g2 => .ok (x :: xs) g2) h fun d y ρ μ g H1 s r q => ?_
  refine hc σ H1 (fun vs H' => R (y :: vs) H') _ (fun vs H' hl hR => hq (y :: vs) H' (by simp [hl]) hR) ⟨ρ, μ, g, s, (Pst.bind q).imp fun vs H2 ⟨xs, μ2, g2, s2, e2, r2, q2⟩ => ?_⟩
  exact q2 (y :: vs) μ2 H2 s2 (.refl _ _) (.cons (r.ext e2) r2)
theorem me_dic (h : MPs X T W pos keys values ks l) (hall : keys.all (·.isSome) = true := by rfl) (hl : keys.length = values.length := by rfl) (h0 : keys ≠ [] := by exact List.cons_ne_nil _ _) (h15 : keys.length ≤ 15 := by decide) : ME X T W (.Dict keys values pos) (mDic ks l) := by
  obtain ⟨trs, hp, hc⟩ := h.ex
  refine PE.weak (pe_disp hp hall hl h0 h15) fun σ H Q ⟨ρ, μ, g, s, q⟩ p hp => ?_
  unfold mDic at q
  refine hc σ _ (fun vs H2 => H2 p = some (.dK []) ∧ ks.length = vs.length ∧ ks.length ≤ 15 ∧ Q (.ref p) (upd H2 p (.dK (mergeK [] ((ks.map Sum.inr).zip vs))))) _ (fun vs H' hlen ⟨h1, h2, h3, h4⟩ => ⟨h1, (ks.map Sum.inr).zip vs, zip_kv ks vs, ?_, h4⟩) ⟨ρ, μ, g, s.new (o := .dK []) hp, ?_⟩
  · rw [List.length_zip, List.length_map]
    omega
  · cases hm : l ρ g with
    | ok xs g1 =>
      rw [hm] at q
      intro vs μ2 H2 s2 e2 r2
      simp only [Res.bind_ok] at q
      split at q
      · rename_i hcond
        obtain ⟨c1, c2, c3, c4⟩ := hcond
        obtain ⟨k1, k2⟩ := e2.keep p (.dK []) upd_same (dK_nt _) (s.freeM hp)
        have hlen : ks.length = vs.length := by rw [← r2.len]; exact c3
        refine ⟨k1, hlen, c4, ?_⟩
        have em : mergeK [] ((ks.map Sum.inr).zip vs) = (ks.map Sum.inr).zip vs := by
          rw [merge_new _ [] (fun p hp => by simp at hp)]
          · rfl
          · rw [zip_keys ks vs hlen]
            unfold List.Nodup at c2 ⊢
            rw [List.pairwise_map]
            exact c2.imp fun h z => h (Sum.inr.inj z)
        rw [em]
        have sm : ∀ b u, H2 b = some u → u ≠ .dK [] → upd H2 p (.dK ((ks.map Sum.inr).zip vs)) b = some u := fun b u z n => by
          rw [upd_ne fun y => n (by rw [y, k1] at z; exact (Option.some.inj z).symm)]
          exact z
        have s3 := s2.fill (kvs := (ks.map Sum.inr).zip vs) k1
        have ex : Ex μ H μ2 (upd H2 p (.dK ((ks.map Sum.inr).zip vs))) := by
          have b := (Ex.new (o := .dK []) s hp).trans e2
          refine ⟨b.pre, fun a o z n m => ?_, fun a o z n => ?_⟩
          · obtain ⟨y1, y2⟩ := b.keep a o z n m
            exact ⟨by rw [upd_ne (ne_of_none z hp)]; exact y1, y2⟩
          · obtain ⟨u, y1, y2⟩ := b.th a o z n
            exact ⟨u, by rw [upd_ne (ne_of_none z hp)]; exact y1, y2⟩
        have r3 : Rps X.K (upd H2 p (.dK ((ks.map Sum.inr).zip vs))) μ2 (ow T ρ σ) xs vs := by
          refine Rps.mapP (fun a ws t => t.imp (fun ⟨z, n⟩ => ⟨sm _ _ z (fun y => by cases y), n⟩) id) (fun a ws t => t.imp (fun ⟨r, n⟩ => ⟨r.imp (fun z => sm _ _ z (fun y => by cases y)) fun ⟨ob, z⟩ => ⟨ob, sm _ _ z (fun y => by cases y)⟩, n⟩) id) (fun _ _ h => h) (fun a ks2 ws ⟨z, n, o, k1, k2, k3⟩ => ⟨sm _ _ z (fun y => ?_), n, o, k1, k2, k3⟩) _ _ r2
          cases ks2 with
          | nil => exact k1 rfl
          | cons k ks2 =>
            cases ws with
            | nil => simp at k3
            | cons v ws => cases y
        exact q _ μ2 _ s3 ex (.dic ⟨upd_same, k2, s.freeO hp, c1, c2, hlen⟩ r3)
      · exact q.elim
    | ex x g1 =>
      rw [hm] at q
      intro d μ2 H2 s2 e2 r2
      exact q d μ2 H2 s2 ((Ex.new (o := .dK []) s hp).trans e2) r2
    | bad =>
      rw [hm] at q
      exact q.elim
/-! ### d[k], k in d -/
def oDix : D → D → Gs → Res D
  | .dic ks xs, .str k, g => (match (ks.zip xs).lookup k with
    | some x => .ok x g
    | none => .bad)
  | _, _, _ => .bad
def oDin (neg : Bool) : D → D → Gs → Res D
  | .str k, .dic ks _, g => .ok (.bl (if neg then !ks.contains k else ks.contains k)) g
  | _, _, _ => .bad
theorem val_look {K : PySem.W.Frag} {H : Hp} {μ : List Addr} {o : Addr → Prop} {k : Str} : ∀ {ks : List Str} {xs : List D} {vs : List V}, Rps K H μ o xs vs → ks.length = vs.length →
    match (ks.zip xs).lookup k with
    | some x => ∃ v, valV ((ks.map Sum.inr).zip vs) (Sum.inr k : Key) = some v ∧ Rp K H μ o x v
    | none => valV ((ks.map Sum.inr).zip vs) (Sum.inr k : Key) = none
  | [], _, _, _, _ => rfl
  | k2 :: ks, x :: xs, v :: vs, .cons r rs, h => by
    simp only [List.map_cons, List.zip_cons_cons, List.lookup_cons]
    by_cases e : k = k2
    · subst e
      simp only [beq_self_eq_true]
      exact ⟨v, valV_pos rfl, r⟩
    · have e2 : (k == k2) = false := by simpa using e
      rw [e2]
      have ih := val_look (k := k) rs (by simpa using h)
      have e3 : valV ((Sum.inr k2, v) :: (ks.map Sum.inr).zip vs) (Sum.inr k : Key) = valV ((ks.map Sum.inr).zip vs) (Sum.inr k) := valV_neg fun z => e (Sum.inr.inj z).symm
      simp only [e3]
      exact ih
  | k2 :: ks, _, [], _, h => by simp at h
theorem look_in {k : Str} : ∀ {ks : List Str} {xs : List D}, ks.length = xs.length → ((ks.zip xs).lookup k).isSome = ks.contains k
  | [], _, _ => rfl
  | k2 :: ks, x :: xs, h => by
    simp only [List.zip_cons_cons, List.lookup_cons, List.contains_cons]
    have ih := look_in (k := k) (ks := ks) (xs := xs) (by simpa using h)
    cases e : (k == k2) with
    | true => rfl
    | false => simpa using ih
  | k2 :: ks, [], h => by simp at h
theorem me_dix {kk : Nat} (hr : Room kk X.A) (ha : ME X T W e ma) (hb : ME X T W v mb) (hs : NoSl v := by exact fun _ _ => rfl) : ME X T W (.Subscript e v pos) (mO oDix ma mb) :=
  PE.weak (pe_dget (hu_of hr) ha hb hs) fun σ H Q h => by
    obtain ⟨ρ, μ, g, s, q⟩ := h
    refine ⟨ρ, μ, g, s, (Pst.bind q).imp fun x H1 ⟨d, μ1, g1, s1, e1, r1, q1⟩ => ⟨ρ, μ1, g1, s1, (Pst.bind q1).imp fun y H2 ⟨k, μ2, g2, s2, e2, r2, q2⟩ => ?_⟩⟩
    match d, k, r1, r2, q2 with
    | .dic ks xs, .str k, .dic t rs, .str _, q2 =>
      have t2 := t.ext e2
      have rs2 := rs.ext e2
      unfold oDix at q2
      have z := val_look (k := k) rs2 t2.2.2.2.2.2
      cases hl : (ks.zip xs).lookup k with
      | none =>
        simp only [hl] at q2
        exact q2.elim
      | some x =>
        rw [hl] at z
        simp only [hl] at q2
        obtain ⟨w, hw, rw'⟩ := z
        refine ⟨_, w, rfl, ?_, Pst.pure q2 s2 rw'⟩
        rw [← hw]
        exact DGet.k (k := Sum.inr k) t2.1
theorem w_dnin {σ : L2.St} {H : Hp} {Q : VK} (h : tE X.K T W (mO (oDin true) ma mb) σ H Q) : tDNotIn (tE X.K T W ma) (tE X.K T W mb) σ H Q := by
  obtain ⟨ρ, μ, g, s, q⟩ := h
  refine ⟨ρ, μ, g, s, (Pst.bind q).imp fun x H1 ⟨k, μ1, g1, s1, e1, r1, q1⟩ => ⟨ρ, μ1, g1, s1, (Pst.bind q1).imp fun y H2 ⟨d, μ2, g2, s2, e2, r2, q2⟩ => ?_⟩⟩
  match k, d, r1, r2, q2 with
  | .str k, .dic ks xs, .str _, @Rp.dic _ _ _ _ _ _ _ vs t rs, q2 =>
    have z := val_look (k := k) rs t.2.2.2.2.2
    have i := look_in (k := k) (ks := ks) (xs := xs) (by rw [rs.len]; exact t.2.2.2.2.2)
    refine ⟨_, _, rfl, DGet.k (k := Sum.inr k) t.1, ?_⟩
    have e3 : (valV ((ks.map Sum.inr).zip vs) (Sum.inr k : Key)).isSome = ks.contains k := by
      rw [← i]
      cases hl : (ks.zip xs).lookup k with
      | none =>
        rw [hl] at z
        rw [z]
        rfl
      | some x =>
        rw [hl] at z
        obtain ⟨w, hw, _⟩ := z
        rw [hw]
        rfl
    rw [e3]
    exact Pst.pure q2 s2 (.bl _)
theorem me_dnin {kk : Nat} (hr : Room kk X.A) (ha : ME X T W e ma) (hb : ME X T W v mb) (hm : behindInMarks .NotIn v = false := by rfl) : ME X T W (.Compare e [.NotIn] [v] pos) (mO (oDin true) ma mb) := PE.weak (pe_cmp (pc_dnotin (hu_of hr) ha hb) hm) fun σ H Q h => w_dnin h
theorem mt_dnin {kk : Nat} (hr : Room kk X.A) (ha : ME X T W e ma) (hb : ME X T W v mb) (hm : behindInMarks .NotIn v = false := by rfl) : MT X T W (.Compare e [.NotIn] [v] pos) (mB (mO (oDin true) ma mb)) := PT.weak (pt_cmp (pc_dnotin (hu_of hr) ha hb) hm) fun σ H Q h => w_dnin (w_b h)
end
section
variable {ρ : En} {g : Gs} {QD : D → Gs → Prop} {ks : List Str} {xs : List D} {k : Str} {l : LM}
@[simp] theorem wp_mDic : wp (mDic ks l ρ g) QD = wp (l ρ g) fun xs g1 => (ks ≠ [] ∧ ks.Nodup ∧ ks.length = xs.length ∧ ks.length ≤ 15) ∧ QD (.dic ks xs) g1 := by
  unfold mDic
  rw [wp_bind]
  congr 1
  funext xs g1
  by_cases h : ks ≠ [] ∧ ks.Nodup ∧ ks.length = xs.length ∧ ks.length ≤ 15
  · rw [if_pos h, wp_ok]
    exact propext ⟨fun q => ⟨h, q⟩, fun q => q.2⟩
  · rw [if_neg h]
    exact propext ⟨fun q => q.elim, fun q => h q.1⟩
@[simp] theorem oDix_wp : wp (oDix (.dic ks xs) (.str k) g) QD = atR ((ks.zip xs).lookup k) QD g := by
  unfold oDix
  simp only
  cases (ks.zip xs).lookup k <;> rfl
@[simp] theorem oDin_wp {n : Bool} : wp (oDin n (.str k) (.dic ks xs) g) QD = QD (.bl (if n then !ks.contains k else ks.contains k)) g := rfl
end
end Sh

set_option Elab.async false
set_option linter.all false
set_option maxRecDepth 100000
set_option maxHeartbeats 1000000
/-! behind the first token: a def with a parameter runs where one has been given out -/
namespace Sh
open PySem PySem.Spec PyProof.Rows L2
section
variable {M : Model} {B : Around} {α : Type} {t : Sem α} {Q Q2 : α → Shared → Prop} {E : Value → Shared → Prop} {s : Shared} {n : Nat}
theorem tkm (hn : n ≤ s.toks) (h : wpAny M B t Q E s) (k : ∀ v s', n ≤ s'.toks → Q v s' → Q2 v s') : wpAny M B t Q2 E s := wpAny_mono (wpAny_toks_of hn h) (fun v s' x => k v s' x.1 x.2) fun _ _ x => x.2
end
section
variable {X : Cx} {T : Tb} {W : WX} {st : Stmt} {sts rest : List Stmt} {t t' u : TS} {m m1 m2 : SM} {tg it e a b : Expr} {es : List Expr} {wi : TI} {g : TG} {tb : TS} {pos p p2 c0 c1 apos : Pos} {is : List Nat} {f : GM} {mi : LM} {ml : LM} {ma mb : EM} {y z : Str} {j k : Nat}
theorem PST.weak (h : PST X st t) (w : ∀ D σ H, t' D σ H → t D σ H) : PST X st t' := fun pins s σ H D h0 I q => h pins s σ H D h0 I (w D σ H q)
theorem PSsT.weak (h : PSsT X sts t) (w : ∀ D σ H, t' D σ H → t D σ H) : PSsT X sts t' := fun pins s σ H D h0 I q => h pins s σ H D h0 I (w D σ H q)
theorem PET.weak {te te' : TE} (h : PET X e te) (w : ∀ σ H Q, te' σ H Q → te σ H Q) : PET X e te' := fun pins s σ H Q h0 I q => h pins s σ H Q h0 I (w σ H Q q)
theorem PAT.weak {te te' : TA} (h : PAT X es te) (w : ∀ σ H Q, te' σ H Q → te σ H Q) : PAT X es te' := fun pos pins s σ H Q h0 I q => h pos pins s σ H Q h0 I (w σ H Q q)
theorem PIT.weak {ti ti' : TI} (h : PIT X tg it ti) (w : ∀ σ H Q, ti' σ H Q → ti σ H Q) : PIT X tg it ti' := fun pins s σ H Q h0 I q => h pins s σ H Q h0 I (w σ H Q q)
theorem pit_of {ti : TI} (h : PI X tg it ti) : PIT X tg it ti := fun pins s σ H Q _ I q => h.run pins s σ H Q I q
abbrev MST (X : Cx) (T : Tb) (W : WX) (st : Stmt) (m : SM) : Prop := PST X st (tS X.K T W m)
abbrev MSsT (X : Cx) (T : Tb) (W : WX) (st : List Stmt) (m : SM) : Prop := PSsT X st (tS X.K T W m)
abbrev MET (X : Cx) (T : Tb) (W : WX) (e : Expr) (m : EM) : Prop := PET X e (tE X.K T W m)
abbrev MAT (X : Cx) (T : Tb) (W : WX) (es : List Expr) (m : LM) : Prop := PAT X es (tL X.K T W m)
abbrev MIT (X : Cx) (T : Tb) (W : WX) (tg e : Expr) (m : LM) : Prop := PIT X tg e (tG X.K T rIt W m)
theorem mst_of (h : MS X T W st m) : MST X T W st m := PST.of h
theorem msst_of (h : MSs X T W sts m) : MSsT X T W sts m := PSsT.of h
theorem met_of (h : ME X T W e ma) : MET X T W e ma := CwR.PET.of h
theorem mit_of (h : MI X T W tg it mi) : MIT X T W tg it mi := pit_of h
theorem w_seq {D : Ends} {σ : L2.St} {H : Hp} (h : tS X.K T W (sSeq m1 m2) D σ H) : tSeq (tS X.K T W m1) (tS X.K T W m2) D σ H := by
  obtain ⟨ρ, μ, g, s, p⟩ := h
  refine ⟨ρ, μ, g, s, ?_⟩
  unfold sSeq at p
  cases q : m1 ρ g with
  | nx ρ' g' =>
    rw [q] at p
    exact fun σ' μ' H' s' x => ⟨ρ', μ', g', s', p.rebase x⟩
  | _ =>
    rw [q] at p
    exact p
theorem msst_cons (h1 : MST X T W st m1) (h2 : MSsT X T W rest m2) : MSsT X T W (st :: rest) (sSeq m1 m2) := PSsT.weak (psst_cons h1 h2) fun D σ H h => w_seq h
theorem msst_one (h : MST X T W st m) : MSsT X T W [st] m := fun pins s σ H D h0 I q => by
  refine wpAny_execs_cons (thn (h pins s σ H D h0 I q) fun f s1 z => ?_)
  cases f with
  | next =>
    obtain ⟨σ', H', I', q'⟩ := z
    exact wpAny_execs_nil ⟨σ', H', I', q'⟩
  | ret v => exact z
  | brk => exact z
  | cont => exact z
theorem msst_post {f : En → En} (w : Wk f) (h : MSsT X T W sts m) : MSsT X T W sts (sPost f m) := PSsT.weak h fun _ _ _ q => w_post w q
theorem mst_pre {f : En → En} (w : Wk f) (h : MST X T W st m) : MST X T W st (sPre f m) := PST.weak h fun _ _ _ q => w_pre w q
/-- a for whose turns, too, run behind the first token -/
theorem psT_for (own : PassesOwn (model X.prog X.w) X.A X.env X.xe) (calm : X.calm = true) (src : PIT X tg it wi) (tgt : PG X tg g) (bod : PSsT X sts tb)
    (fold : ∀ x, foldedSetIterable it X.env x = pure x := by intro _; rfl) : PST X (.For tg it sts [] pos) (tFor wi g tb) := by
  intro pins s σ H D t0 I hw
  refine wpAny_For (tkm t0 (src pins s σ H _ t0 I hw) fun v sA kA hA => tkm kA hA fun itv sB kB hB => ?_) fold
  obtain ⟨itx, fps, tns, JJ, HB, eqv, IB, TT, stB, fpB, WW, ⟨n0, w0⟩, trn⟩ := hB
  subst eqv
  have oks : ∀ {H' : Hp}, (∀ q ∈ fps, H' q = none) → ∀ q ∈ fps, FpOk X pins H' q := fun hn q hq => ⟨hn q hq, (fpB q hq).2⟩
  refine codeAny_forLoop_any (fun n s' => 1 ≤ s'.toks ∧ ∃ i σ' H', Inv X pins σ' H' s' ∧ tns i s'.heap ∧ (∀ q ∈ fps, H' q = none) ∧ WW i n σ' H') ?_ n0 ⟨kB, 0, σ, HB, IB, stB, fun q hq => (fpB q hq).1, w0⟩
  rintro n sC ⟨kC, i, σC, HC, IC, stC, frC, wC⟩
  rcases trn i n σC HC wC with ⟨stop, qn⟩ | ⟨go, NN, hNN, stp⟩
  · refine wpAny_passesOwn own (thn (TT.done X rfl rfl rfl calm i pins sC σC HC X.xe IC (oks frC) stC stop) fun r sD ⟨hr, ID⟩ => ?_)
    subst hr
    exact wpAny_execs_nil ⟨σC, HC, ID, qn⟩
  · refine wpAny_passesOwn own (tkm kC (TT.item X rfl rfl rfl calm i pins sC σC HC X.xe IC (oks frC) stC go) fun r sD kD ⟨u, hr, hD⟩ => ?_)
    subst hr
    refine wpAny_passesOwn own (tkm kD hD fun _ sE kE ⟨x, HE, IE, rE, yE, stE, frE⟩ => ?_)
    have IE' := IE.pinned (oks frE) (TT.obj _ _ stE)
    refine wpAny_passesOwn own (tkm kE (tgt.run _ sE σC HE x u _ IE' rE (stp x HE yE)) fun _ sF kF ⟨σF, HF, IF, qF⟩ => ?_)
    refine wpAny_passesOwn own (tkm kF (bod _ sF σF HF _ kF IF qF) fun f sG kG qG => ?_)
    have more : ∀ {σG : L2.St} {HG : Hp}, Inv X (pins ++ pinsAt fps sE.heap) σG HG sG → NN σG HG → ∃ m, m < n ∧ 1 ≤ sG.toks ∧ ∃ i σ' H', Inv X pins σ' H' sG ∧ tns i sG.heap ∧ (∀ q ∈ fps, H' q = none) ∧ WW i m σ' H' := fun {σG HG} IG nG => by
      obtain ⟨m', hm, wG⟩ := hNN σG HG nG
      refine ⟨m', hm, kG, i + 1, σG, HG, IG.unpinned, TT.keep _ _ _ stE fun q hq o e => (IG.pin (q, o) (List.mem_append_right _ (List.mem_append_right _ (mem_pinsAt hq e)))).1, fun q hq => ?_, wG⟩
      obtain ⟨o, e, d⟩ := TT.obj _ _ stE q hq
      exact (IG.pin (q, o) (List.mem_append_right _ (List.mem_append_right _ (mem_pinsAt hq e)))).2.1
    cases f with
    | next =>
      obtain ⟨σG, HG, IG, nG⟩ := qG
      exact more IG nG
    | cont =>
      obtain ⟨σG, HG, IG, nG⟩ := qG
      exact more IG nG
    | brk =>
      obtain ⟨σG, HG, IG, nG⟩ := qG
      exact ⟨σG, HG, IG.unpinned, nG⟩
    | ret v =>
      obtain ⟨xG, σG, HG, IG, rG, nG⟩ := qG
      exact ⟨xG, σG, HG, IG.unpinned, rG, nG⟩
end
end Sh

set_option Elab.async false
set_option linter.all false
set_option maxRecDepth 100000
set_option maxHeartbeats 1000000
/-! behind the first token, of D: +, [..], e.replace(c, d), for, and a law's own def -/
namespace Sh
open PySem PySem.Spec PyProof.Rows L2
section
variable {X : Cx} {T : Tb} {W : WX} {st : Stmt} {sts rest : List Stmt} {m m1 m2 : SM} {tg it e o a b : Expr} {es : List Expr} {pos p p2 c0 c1 apos : Pos} {is : List Nat} {f : GM} {mi : LM} {ml : LM} {ma mb mo : EM} {y z : Str} {j k : Nat}
theorem met_op {opr : Operator} {op : D → D → Gs → Res D} (ho : OpR X (binaryOp opr) (rO X.K T W op)) (ha : MET X T W a ma) (hb : MET X T W b mb) : MET X T W (.BinOp a opr b pos) (mO op ma mb) := PET.weak (CwR.pet_op ho ha hb) fun _ _ _ h => w_op h
theorem mat_nil : MAT X T W [] mNil := PAT.weak pat_nil fun σ H Q ⟨ρ, μ, g, s, p⟩ => Pst.pure p s .nil
theorem mat_cons (ha : MET X T W e ma) (hr : MAT X T W es ml) (hs : starEach (e :: es) X.env = (false, eval e X.env) :: starEach es X.env := by rfl) : MAT X T W (e :: es) (mCons ma ml) := PAT.weak (pat_cons ha hr hs) fun σ H Q h =>
  tG_bind (k := fun ρ x g1 => (ml ρ g1).bind fun xs g2 => .ok (x :: xs) g2) h fun d x ρ μ g H1 s r p => ⟨ρ, μ, g, s, (Pst.bind p).imp fun y H2 ⟨e, μ2, g2, s2, e2, r2, p2⟩ => Pst.pure p2 s2 (.cons (r.ext e2) r2)⟩
theorem met_lst (h : MAT X T W es ml) : MET X T W (.List es pos) (mN oLst ml) := PET.weak (pet_lst h) fun σ H Q h =>
  tG_bind (k := fun _ => oLst) h fun d x ρ μ g H1 s r p => by
    unfold oLst at p
    split at p
    · rename_i hz
      exact ⟨by rw [← r.len]; exact lim_ok hz, fun q hq => new_lst s r p hq⟩
    · exact p.elim
def oRpl (y z : Str) (d : D) (g : Gs) : Res D := match d with
  | .str x => if x.length + (x.length + 1) * z.length ≤ 1000000 then .ok (.str (Txt.replace x y z)) g else .bad
  | _ => .bad
def mRpl (y z : Str) (o : EM) : EM := fun ρ g => (o ρ g).bind (oRpl y z)
theorem met_rpl (ho : ME X T W o mo) (hyz : (y == z) = false := by decide)
    (hst : starEach [.Constant (.str y) j c0, .Constant (.str z) k c1] X.env = [(false, eval (.Constant (.str y) j c0) X.env), (false, eval (.Constant (.str z) k c1) X.env)] := by rfl)
    (hbase : attributeBase o "replace" X.env (eval o X.env) = eval o X.env := by rfl) (hline : (apos.endLine == pos.line) = true := by rfl) :
    MET X T W (.Call (.Attribute o "replace" apos) [.Constant (.str y) j c0, .Constant (.str z) k c1] [] pos) (mRpl y z mo) := PET.weak (CwR.pet_replC ho hyz hst hbase hline) fun σ H Q h =>
  tG_bind (k := fun _ => oRpl y z) h fun d x ρ μ g H1 s r p => by
    cases d with
    | str xx =>
      cases r
      unfold oRpl at p
      simp only at p
      split at p
      · rename_i hz
        exact ⟨xx, rfl, by omega, Pst.pure p s (.str _)⟩
      · exact p.elim
    | _ => exact p.elim
theorem pit_seqT {l : Expr} {tl : TE} (hl : PET X l tl) : PIT X tg l (iSeq X.K tl) := by
  intro pins s σ H R h0 I h
  refine thn (hl pins s σ H _ h0 I h) fun v s1 ⟨x, H1, I1, r1, a, e, q1⟩ => ?_
  subst e
  cases r1
  have fr : ∀ b ∈ [s1.heap.objs.size], FpOk X pins H1 b := fun b hb => by
    have e : b = s1.heap.objs.size := by simpa using hb
    subst e
    exact I1.fpOk (Nat.le_refl _) (I1.hok.fresh (Nat.le_refl _))
  rcases q1 with ⟨⟨xs, hq⟩, q⟩ | ⟨⟨xs, hq⟩, q⟩
  · obtain ⟨its, rv, p, hz⟩ := I1.list hq
    refine wpAny_pyIter_list p.isList ?_
    exact ⟨s1.heap.objs.size, [s1.heap.objs.size], _, _, H1, rfl, I1.kept (t' := s1.toks) fun b o e => Heap.get?_push_of_some _ e, turn_list a _, ⟨_, Heap.get?_push_size _ rfl, rfl, rfl⟩, fr, q⟩
  · obtain ⟨its, rv, p, hz⟩ := I1.tuple hq
    refine wpAny_pyIter_tuple (show s1.heap.IsTuple a its.toArray from p) ?_
    exact ⟨s1.heap.objs.size, [s1.heap.objs.size], _, _, H1, rfl, I1.kept (t' := s1.toks) fun b o e => Heap.get?_push_of_some _ e, turn_tuple a _, ⟨_, Heap.get?_push_size _ rfl, rfl, rfl⟩, fr, q⟩
theorem mit_seq (h : MET X T W it ma) : MIT X T W tg it (mIt ma) := PIT.weak (pit_seqT h) fun σ H R q =>
  tG_bind (k := fun _ d g1 => match seqD d with
    | some xs => .ok xs g1
    | none => .bad) q fun d x ρ μ g H1 s r p => by
    cases hs : seqD d with
    | none => rw [hs] at p; exact p.elim
    | some xs =>
      rw [hs] at p
      obtain ⟨a, vs, rfl, rs, ⟨_, hl⟩ | ⟨_, hl⟩⟩ := r.seq hs
      · exact ⟨a, rfl, .inl ⟨⟨vs, hl.sq⟩, Pst.pure p s (rit_list hl rs)⟩⟩
      · exact ⟨a, rfl, .inr ⟨⟨vs, hl.sq⟩, Pst.pure p s (rit_tup hl rs)⟩⟩
theorem msT_for (hp : PassesOwn (model X.prog X.w) X.A X.env X.xe) (hc : X.calm = true) (hi : MIT X T W tg it mi) (hg : MG X T tg is f) (hb : MSsT X T W sts m)
    (hs : ∀ x, foldedSetIterable it X.env x = pure x := by intro _; rfl) : MST X T W (.For tg it sts [] pos) (sFor mi f m) := PST.weak (psT_for hp hc hi hg.pg hb hs) fun D σ H ⟨ρ, μ, g, s, q⟩ => by
  refine ⟨ρ, μ, g, s, (SPst.bindE (rel := rIt) q).imp fun J H1 ⟨ds, μ1, g1, s1, e1, r1, q1⟩ => ?_⟩
  refine ⟨fun i m' σ' H' => (m' = ds.length - i ∧ i ≤ ds.length) ∧ ∃ ρ' μ' g', StR X.K T μ' g' ρ' σ' H' ∧ ExS μ1 (sl ρ σ) H1 μ' (sl ρ' σ') H' ∧ SPst X.K T W ρ' σ' μ' H' D (forGo f m (ds.drop i) ρ' g'), ⟨_, ⟨rfl, Nat.zero_le _⟩, ρ, μ1, g1, s1, .refl _ _ _, q1⟩, ?_⟩
  rintro i m' σ' H' ⟨⟨rfl, hle⟩, ρ', μ', g', s', e', q'⟩
  obtain ⟨h1, h2⟩ := r1 μ' _ H' (Kp.of s1 s' e') i
  by_cases hlt : i < ds.length
  · refine .inr ⟨(h1 hlt).1, fun σ2 H2 => ∃ ρ2 μ2 g2, StR X.K T μ2 g2 ρ2 σ2 H2 ∧ ExS μ1 (sl ρ σ) H1 μ2 (sl ρ2 σ2) H2 ∧ SPst X.K T W ρ2 σ2 μ2 H2 D (forGo f m (ds.drop (i + 1)) ρ2 g2), fun σ2 H2 ⟨ρ2, μ2, g2, z⟩ => ⟨_, by omega, ⟨rfl, hlt⟩, ρ2, μ2, g2, z⟩, fun x H2 hy => ?_⟩
    obtain ⟨hh, d, hd, rd⟩ := (h1 hlt).2 x H2 hy
    obtain ⟨s2, e2⟩ := yld_new s' hh
    rw [List.drop_eq_getElem_cons hlt] at q'
    have ed : ds[i] = d := by rw [List.getElem?_eq_getElem hlt] at hd; exact Option.some.inj hd
    rw [ed] at q'
    unfold forGo at q'
    cases hf : f d ρ' with
    | none => rw [hf] at q'; exact q'.elim
    | some ρ1 =>
      rw [hf] at q'
      simp only at q'
      refine ⟨ρ', μ', g', d, s2, rd, ρ1, hf, fun σ3 s3 l3 _ => ⟨ρ1, μ', g', s3, ?_⟩⟩
      have e3 : ExS μ' (sl ρ' σ') H' μ' (sl ρ1 σ3) H2 := (ExS.of (o := sl ρ' σ') e2).mono (fun _ h => h) l3
      cases hm : m ρ1 g' with
      | nx ρ2 g2 =>
        rw [hm] at q'
        exact fun σ4 μ4 H4 s4 e4 => ⟨ρ2, μ4, g2, s4, e'.trans (e3.trans e4), SPst.rebase q' (e3.trans e4)⟩
      | ct ρ2 g2 =>
        rw [hm] at q'
        exact fun σ4 μ4 H4 s4 e4 => ⟨ρ2, μ4, g2, s4, e'.trans (e3.trans e4), SPst.rebase q' (e3.trans e4)⟩
      | bk ρ2 g2 =>
        rw [hm] at q'
        exact fun σ4 μ4 H4 s4 e4 => q' σ4 μ4 H4 s4 (e3.trans e4)
      | rt d2 g2 =>
        rw [hm] at q'
        exact fun v ρ4 σ4 μ4 H4 s4 e4 => q' v ρ4 σ4 μ4 H4 s4 (e3.trans e4)
      | ex x2 g2 =>
        rw [hm] at q'
        exact fun v ρ4 σ4 μ4 H4 s4 e4 => q' v ρ4 σ4 μ4 H4 s4 (e3.trans e4)
      | bad => rw [hm] at q'; exact q'.elim
  · refine .inl ⟨h2 (Nat.le_of_not_lt hlt) hle, ?_⟩
    rw [List.drop_of_length_le (Nat.le_of_not_lt hlt)] at q'
    exact q' σ' μ' H' s' (.refl _ _ _)
end
/-- a new frame for one parameter, no cell: a token is out -/
theorem frame1 {M : Model} {A : Around} {E : Value → Shared → Prop} {s : Shared} {scope : Scope} {globals : Addr} {n : Str} {v : Value} {qual : Str} {func : Option Addr} {code : Value} {builtins : Addr} {Q : Env → Shared → Prop}
    (hk : scope.kind = .function) (hl : scope.names.lookup n = some .local)
    (hQ : ∀ env, env = newEnv scope s.heap.objs.size globals (cellsFrom (s.heap.objs.size + 1) scope.names []) qual func code none builtins →
      ∀ s', 1 ≤ s'.toks → InCallC s env.locals (bindL env.kindOf [(n, v)] fun _ => none) env.cells (bindC env.kindOf [(n, v)] fun _ => none) s' → Q env s') :
    wpAny M A (newFunctionEnv scope globals [] [(n, v)] qual func code none builtins) Q E s := by
  simp only [newFunctionEnv, Option.isSome_none, Bool.false_eq_true, if_false]
  refine wpAny_bind (wpAny_alloc ?_)
  refine wpAny_bind (wpAny_layCells _ (fun nm kd cs => by cases hkc : kd == NameKind.cell <;> simp [hkc]) _ _ _ _ ?_)
  have okc := cellsFrom_ok scope.names (s.heap.push { cls := .type "frame", data := .dict #[] }) (s.heap.objs.size + 1) [] ⟨fun _ _ hm => (nomatch hm), List.Pairwise.nil⟩ (by rw [Heap.size_push]; exact Nat.le_refl _)
  rw [Heap.size_push] at okc
  rw [show ({ s with heap := s.heap.push { cls := .type "frame", data := .dict #[] } } : Shared).heap.objs.size = s.heap.objs.size + 1 from Heap.size_push ..]
  have x0 : InCallC s s.heap.objs.size (fun _ => none) (cellsFrom (s.heap.objs.size + 1) scope.names []) (fun _ => none) { s with heap := pushCells (s.heap.push { cls := .type "frame", data := .dict #[] }) scope.names } :=
    ⟨⟨⟨_, _, rfl⟩, (Heap.Ns.new s.heap (.type "frame")).keeps (pushCells_keeps _ _), fun b o e => pushCells_keeps _ _ b o (Heap.get?_push_of_some _ e), Nat.le_refl _⟩,
      fun n c hc => (okc.empty n c (mem_of_lookup hc)).1, okc.apart, fun n c hm => (okc.empty n c hm).2⟩
  have hl' : (newEnv scope s.heap.objs.size globals (cellsFrom (s.heap.objs.size + 1) scope.names []) qual func code none builtins).kindOf n = some .local := hl
  refine wpAny_bind ?_
  rw [List.forIn_cons]
  refine wpAny_bind (wpAny_bind (wpAny_storeName_local hl' x0.toInCall.ns (fun h' hn' hs' => wpAny_pure ?_) (by show (scope.kind == _ || (scope.kind == _ && _)) = false; rw [hk]; rfl)))
  simp only [List.forIn_nil]
  refine wpAny_pure (wpAny_pure (hQ _ rfl _ (Nat.succ_le_succ (Nat.zero_le _)) ?_))
  have e1 : bindL (newEnv scope s.heap.objs.size globals (cellsFrom (s.heap.objs.size + 1) scope.names []) qual func code none builtins).kindOf [(n, v)] (fun _ => none) = fun y => if y = n then some v else none := by
    unfold bindL bindL
    rw [if_pos hl']
  have e2 : bindC (newEnv scope s.heap.objs.size globals (cellsFrom (s.heap.objs.size + 1) scope.names []) qual func code none builtins).kindOf [(n, v)] (fun _ => none) = fun _ => none := by
    unfold bindC bindC
    rw [if_pos hl']
  rw [e1, e2]
  exact ⟨⟨⟨h', _, rfl⟩, hn', fun b o e => hs'.extBut b o (Nat.ne_of_lt (Heap.lt_size e)) (x0.toInCall.keep b o e), Nat.le_refl _⟩, fun k c hc => (x0.cell k c hc).sameBut hs' (Nat.ne_of_gt (x0.above k c (mem_of_lookup hc))), x0.apart, x0.above⟩
/-- a def of one parameter, by its body behind the token -/
theorem fn_ofT {CX : CXT} {P : Program} {w : World} {K : PySem.W.Frag} {mg : Str → Option Value} {base : Heap} {k : Nat} {f : Addr} {name qual : Str} {params : Arguments} {body : List Stmt} {scope : Scope} {dV kV doc pm cdv ct oc : Value} {an od : Option Addr}
    {osl : Array (Option Value)} {N : List Str} {p0 : Str} {sp : Sp} (lk : K.lookup f = some ⟨oc, od, .func (PySem.W.fnOf name qual params body scope dV kV doc pm an cdv ct), osl⟩) (hcd : PySem.W.codeIn K cdv qual = true) (S : FnScope N [p0] scope)
    (hp0 : scope.names.lookup p0 = some .local)
    (len : ∀ vs H Q E, sp vs H Q E → vs.length = 1)
    (hbody : ∀ (A : Around) (outer : List Env) (s : Shared) (H : Hp) (vs : List V) (Q : VK) (E : XK), Room k (A.deeper (envOfC qual scope s.heap.objs.size f cdv)) → sp vs H Q E →
      ∃ t, PSsT (cxOf CX P w K mg base N qual scope f cdv A outer s H E) body t ∧ t { nx := fun _ H' => Q .non H', rt := Q } (L2.start N vs) H) :
    FnOk P w K mg base CX (k + 1) f (PySem.W.fnOf name qual params body scope dV kV doc pm an cdv ct) [p0] sp := by
  refine ⟨len, fun A outer s H args us vs Q E hr e0 hb r hsp => ?_⟩
  have hl : vs.length = [p0].length := len _ _ _ _ hsp
  have KX : K.In s.heap := e0.mod.kin.keeps fun b o e => (e0.bs b o e).1
  have lim : s.heap.NoLimit := e0.mod.nolimit.keeps fun b o e => (e0.bs b o e).1
  have hlu : us.length = 1 := by rw [← r.length]; exact hl
  obtain ⟨u0, rfl⟩ : ∃ u0, us = [u0] := by
    cases us with
    | nil => simp at hlu
    | cons q qs =>
      cases qs with
      | nil => exact ⟨q, rfl⟩
      | cons _ _ => simp at hlu
  refine codeAny_call_function hr.depth (KX _ _ lk) rfl S.co S.gen rfl (PySem.W.codeRec_of KX hcd) (hb _ _ _ _ ?_)
  refine frame1 S.kind hp0 fun env he s1 k1 x => ?_
  subst he
  refine ⟨lim.keeps x.toInCall.keep, codeAny_func ?_⟩
  obtain ⟨t, ht, hq⟩ := hbody A outer s H vs Q E (hr.deeper _) hsp
  have I : Inv (cxOf CX P w K mg base N qual scope f cdv A outer s H E) [] (L2.start N vs) H s1 := inv_start S hr.hd e0 hl r x
  refine wpAny_mono (ht [] s1 (L2.start N vs) H _ k1 I hq) (fun fl s' hs => ?_) fun e s' hs => hs
  have fin : ∀ {σ' : L2.St} {H' : Hp} {v : V} {u : Value}, Inv (cxOf CX P w K mg base N qual scope f cdv A outer s H E) [] σ' H' s' → RelV v u → Q v H' → CE outer P w H s Q u s' :=
    fun {σ' H' v u} J rv q => ⟨v, H', J.os, J.bare, J.base, J.hok, rv, q⟩
  cases fl with
  | ret u =>
    obtain ⟨v, σ', H', J, rv, q⟩ := hs
    exact fin J rv q
  | next =>
    obtain ⟨σ', H', J, q⟩ := hs
    exact fin (v := V.non) (u := Value.none) J rfl q
  | brk =>
    obtain ⟨_, _, _, q⟩ := hs
    exact False.elim q
  | cont =>
    obtain ⟨_, _, _, q⟩ := hs
    exact False.elim q
theorem law_okT {P : Program} {w : World} {K : PySem.W.Frag} {mg : Str → Option Value} {base : Heap} {t : List (Addr × Str)} {x qual a : Str} {params : Arguments} {body : List Stmt} {scope : Scope} {fd : FuncData} {N : List Str} {k : Nat} {m : SM}
    (F : FunD K x qual params body scope [] [] (He.ga K x) fd) (S : FnScope N [a] scope) (hp0 : scope.names.lookup a = some .local) (der : ∀ (A : Around) (outer : List Env) (s : Shared) (H : Hp) (E : XK) (T : Tb), T.t = t → Room k (A.deeper (envOfC qual scope s.heap.objs.size (He.ga K x) (.ref (He.codeOf K (x, none))))) →
      MSsT (cxOf CX0 P w K mg base N qual scope (He.ga K x) (.ref (He.codeOf K (x, none))) A outer s H E) T WF body m) (pure : ∀ ns : List Int, ns.length ≤ 63 → ∃ g, mFn 1 N.length m [.lst (ns.map .int)] [] = .ok (.bl true) g) : FnOk P w K mg base CX0 (k + 1) (He.ga K x) fd [a] (spLaw K t) := by
  obtain ⟨oc, od, dV, kV, doc, pm, an, cdv, ct, osl, rfl, lk, hcd, _, _⟩ := F.ex
  obtain ⟨c, rfl⟩ := He.codeIn_ref hcd
  have ec := He.codeOf_eq (p := (x, none)) lk rfl
  refine fn_ofT lk hcd S hp0 (fun vs H Q E h => ?_) fun A outer s H vs Q E hr h => ?_
  · obtain ⟨a, ns, rfl, _⟩ := h
    rfl
  obtain ⟨a, ns, rfl, hl, hS, ht, hQ⟩ := h
  have s0 : StR K ⟨t, fun _ => False⟩ [] [] [] [] H := ⟨rfl, .nil, fun l a x e => by simp at e, rfl, fun i x e => by simp at e, fun i x e => by simp at e, fun i j x y a e => by simp at e, fun a z => z.elim, fun i x a e => by simp at e, ht⟩
  have no : ∀ a, ¬ ow ⟨t, fun _ => False⟩ [] [] a := fun a z => z.elim id fun ⟨i, xs, e, _⟩ => by simp at e
  have r0 : Rps K H [] (ow ⟨t, fun _ => False⟩ [] []) [.lst (ns.map .int)] [.ref a] := by
    refine .cons (.lst ?_ (Rps.ints ns)) .nil
    rcases hS with h | h
    · exact .inl ⟨h, by simp, no a⟩
    · exact .inr h
  rw [← ec] at hr ⊢
  refine ⟨_, der A outer s H E ⟨t, ow ⟨t, fun _ => False⟩ [] []⟩ rfl hr, enter_run s0 r0 (W := WF) (fun _ _ _ _ _ h => h) ?_⟩
  obtain ⟨g, e⟩ := pure ns hl
  unfold mFn at e
  rw [if_pos (show [D.lst (ns.map D.int)].length = 1 from rfl)] at e
  rw [e]
  intro v μ' H' s' x r
  cases r
  exact hQ _
end Sh

set_option Elab.async false
set_option linter.all false
set_option maxRecDepth 100000
set_option maxHeartbeats 0
namespace k14
open PySem PySem.Spec L2 Sh Cm
def m__law_text_bent : SM := (sSeq (sPar [2, 3] [.v (mN F__law_pick (mCons (mV 0) (mCons (mC (.int 6)) mNil))), .v (mTx oSplit (mV 1) (mC (.str "\n")))])
  (sSeq (sPar [4, 5] [.v (mN F__law_pick (mCons (mV 0) (mCons (mO oAdd (mN oLen (mCons (mV 1) mNil)) (mC (.int 1))) mNil))), .v (mN F__law_pick (mCons (mV 0) (mCons (mN oLen (mCons (mV 3) mNil)) mNil)))])
  (sSeq (sSet 6 (mSl (mV 3) pNo (pAt (mV 5))))
  (sSeq (sIf (mB (mO oEq (mV 2) (mC (.int 0))))
  (sRet (mO oAdd (mSl (mV 1) pNo (pAt (mV 4))) (mSl (mV 1) (pAt (mO oAdd (mV 4) (mC (.int 1)))) pNo)))
  sNil)
  (sSeq (sIf (mB (mO oEq (mV 2) (mC (.int 1))))
  (sRet (mO oAdd (mO oAdd (mSl (mV 1) pNo (pAt (mV 4))) (mN F__law_one (mCons (mV 0) (mCons (mN oLst (mCons (mC (.str " ")) (mCons (mC (.str "\n")) (mCons (mC (.str "0")) (mCons (mC (.str ",1")) (mCons (mC (.str "x")) (mCons (mC (.str "-")) (mCons (mC (.str "1")) (mCons (mC (.str "3")) mNil))))))))) mNil)))) (mSl (mV 1) (pAt (mV 4)) pNo)))
  sNil)
  (sSeq (sIf (mB (mO oEq (mV 2) (mC (.int 2))))
  (sSet 3 (mO oAdd (mO oAdd (mV 6) (mSl (mV 3) (pAt (mV 5)) (pAt (mO oAdd (mV 5) (mC (.int 1)))))) (mSl (mV 3) (pAt (mV 5)) pNo)))
  sNil)
  (sSeq (sIf (mB (mO oEq (mV 2) (mC (.int 3))))
  (sSet 3 (mO oAdd (mV 6) (mSl (mV 3) (pAt (mO oAdd (mV 5) (mC (.int 1)))) pNo)))
  sNil)
  (sSeq (sIf (mB (mO oEq (mV 2) (mC (.int 4))))
  (sSet 3 (mO oAdd (mO oAdd (mV 6) (mU oRev (mSl (mV 3) (pAt (mV 5)) (pAt (mO oAdd (mV 5) (mC (.int 2))))))) (mSl (mV 3) (pAt (mO oAdd (mV 5) (mC (.int 2)))) pNo)))
  sNil)
  (sSeq (sIf (mB (mO oLt (mV 2) (mC (.int 5))))
  (sRet (mTx oJoin (mC (.str "\n")) (mV 3)))
  sNil)
  (sSeq (sSet 7 (mN F__law_one (mCons (mV 0) (mCons (mN oLst (mCons (mC (.str "pins 4")) (mCons (mC (.str "pins 1")) (mCons (mC (.str "gates 0,0")) (mCons (mC (.str "gates 12")) (mCons (mC (.str "width 0,0")) (mCons (mC (.str "width 3")) (mCons (mC (.str "gates 01")) (mCons (mC (.str "pin 1")) (mCons (mC (.str "")) mNil)))))))))) mNil))))
  (sRet (mTx oJoin (mC (.str "\n")) (mO oAdd (mO oAdd (mV 6) (mN oLst (mCons (mV 7) mNil))) (mSl (mV 3) (pAt (mO oAdd (mV 5) (mC (.int 1)))) pNo))))))))))))))
def F__law_text_bent : List D → Gs → Res D := mFn 2 8 m__law_text_bent
def m__law_read_line : SM := (sSeq (sSet 1 (mTx oSplit (mV 0) (mC (.str " "))))
  (sSeq (sSet 2 (mDic ["pins", "gates", "width"] (mCons (mN oTup (mCons (mC (.int 1)) (mCons (mC (.int 3)) (mCons (mC (.int 2)) mNil)))) (mCons (mN oTup (mCons (mC (.int 0)) (mCons (mC (.int 11)) (mCons (mC (.int 2)) mNil)))) (mCons (mN oTup (mCons (mC (.int 0)) (mCons (mC (.int 2)) (mCons (mC (.int 1)) mNil)))) mNil)))))
  (sSeq (sIf (bOr (mB (mO oNe (mN oLen (mCons (mV 1) mNil)) (mC (.int 2)))) (mB (mO (oDin true) (mO oIx (mV 1) (mC (.int 0))) (mV 2))))
  (sRet (mC .non))
  sNil)
  (sSeq (sAsg (gTp 3 (gCn (gNm 3) (gCn (gNm 4) (gCn (gNm 5) gNl)))) (mO oDix (mV 2) (mO oIx (mV 1) (mC (.int 0)))))
  (sSeq (sSet 6 (mTx oSplit (mO oIx (mV 1) (mC (.int 1))) (mC (.str ","))))
  (sSeq (sSet 7 (mLc [8] (mRgB (mCons (mV 3) (mCons (mO oAdd (mV 4) (mC (.int 1))) mNil))) (gNm 8) bYes (mN oStr (mCons (mV 8) mNil))))
  (sSeq (sIf (bOr (mB (mO oGt (mN oLen (mCons (mV 6) mNil)) (mV 5))) (mB (mO oNe (mLc [9] (mIt (mV 6)) (gNm 9) (mB (mO oNin (mV 9) (mV 7))) (mV 9)) (mN oLst mNil))))
  (sRet (mC .non))
  sNil)
  (sRet (mN oLst (mCons (mO oIx (mV 1) (mC (.int 0))) (mCons (mN oTuple (mCons (mLc [9] (mIt (mV 6)) (gNm 9) bYes (mN oInt (mCons (mV 9) mNil))) mNil)) mNil)))))))))))
def F__law_read_line : List D → Gs → Res D := mFn 1 10 m__law_read_line
def B1__law_due : SM := (sPost (forget [3, 4, 5]) (sSeq (sSet 5 (mN F__law_read_line (mCons (mV 4) mNil)))
  (sSeq (sIf (mB (mO oIs (mV 5) (mC .non)))
  (sRet (mO oAdd (mV 3) (mC (.int 1))))
  sNil)
  (sApp 2 (mV 5)))))
theorem nc_B1__law_due : NC (B1__law_due) := (nc_post (nc_seq nc_set (nc_seq (nc_if nc_ret nc_nil) nc_app)))
@[simp] theorem tn_B1__law_due {f : GM} {d : D} {ds : List D} {ρ : En} {g : Gs} {N : En → Gs → Prop} {R : D → Gs → Prop} : wpS (forGo f (B1__law_due) (d :: ds) ρ g) N R = gmR f d ρ (fun ρ1 g => wpS ((B1__law_due) ρ1 g) (fun ρ2 g2 => wpS (forGo f (B1__law_due) ds ρ2 g2) N R) R) g := wpS_nc nc_B1__law_due
@[simp] theorem un_B1__law_due {ρ : En} {g : Gs} {N : En → Gs → Prop} {R : D → Gs → Prop} : wpS ((B1__law_due) ρ g) N R = wpS ((sPost (forget [3, 4, 5]) (sSeq (sSet 5 (mN F__law_read_line (mCons (mV 4) mNil)))
  (sSeq (sIf (mB (mO oIs (mV 5) (mC .non)))
  (sRet (mO oAdd (mV 3) (mC (.int 1))))
  sNil)
  (sApp 2 (mV 5))))) ρ g) N R := rfl
def m__law_due : SM := (sSeq (sIf (bNot (mB (mU (oIsT "str") (mV 0))))
  (sRet (mC (.int 0)))
  sNil)
  (sSeq (sPar [1, 2] [.v (mTx oSplit (mV 0) (mC (.str "\n"))), .f mNil])
  (sSeq (sFor (mEnum (mCons (mV 1) mNil)) (gTp 2 (gCn (gNm 3) (gCn (gNm 4) gNl)))
  B1__law_due)
  (sSeq (sPre (freeze 2) (sIf (mB (mO oEq (mLc [5] (mIt (mV 2)) (gNm 5) bYes (mO oIx (mV 5) (mC (.int 0)))) (mN oLst (mCons (mC (.str "pins")) (mCons (mC (.str "gates")) (mCons (mC (.str "width")) mNil))))))
  (sIf (mB (mO oEq (mN oLen (mCons (mO oIx (mO oIx (mV 2) (mC (.int 0))) (mC (.int 1))) mNil)) (mN oLen (mCons (mO oIx (mO oIx (mV 2) (mC (.int 1))) (mC (.int 1))) mNil))))
  (sRet (mN oLst (mCons (mN oTup (mCons (mO oIx (mO oIx (mV 2) (mC (.int 0))) (mC (.int 1))) (mCons (mO oIx (mO oIx (mV 2) (mC (.int 1))) (mC (.int 1))) (mCons (mO oIx (mO oIx (mO oIx (mV 2) (mC (.int 2))) (mC (.int 1))) (mC (.int 0))) mNil)))) mNil)))
  sNil)
  sNil))
  (sRet (mO oAdd (mN oLen (mCons (mV 1) mNil)) (mC (.int 1))))))))
def F__law_due : List D → Gs → Res D := mFn 1 6 m__law_due
def B1_law : SM := (sPost (forget [7, 8]) (sSeq (sSet 7 (mN F__law_due (mCons (mV 6) mNil)))
  (sSeq (sSet 8 (mIf (mB (mU (oIsT "list") (mV 7))) (mN oTup (mCons (mC (.str "told")) (mCons (mO oIx (mV 7) (mC (.int 0))) mNil))) (mN oTup (mCons (mC (.str "text +")) (mCons (mV 7) mNil)))))
  (sIf (mB (mO oNe (mTry (mN F_read_lock (mCons (mV 6) mNil))) (mV 8)))
  (sRet (mC (.bl false)))
  sNil))))
theorem nc_B1_law : NC (B1_law) := (nc_post (nc_seq nc_set (nc_seq nc_set (nc_if nc_ret nc_nil))))
@[simp] theorem tn_B1_law {f : GM} {d : D} {ds : List D} {ρ : En} {g : Gs} {N : En → Gs → Prop} {R : D → Gs → Prop} : wpS (forGo f (B1_law) (d :: ds) ρ g) N R = gmR f d ρ (fun ρ1 g => wpS ((B1_law) ρ1 g) (fun ρ2 g2 => wpS (forGo f (B1_law) ds ρ2 g2) N R) R) g := wpS_nc nc_B1_law
@[simp] theorem un_B1_law {ρ : En} {g : Gs} {N : En → Gs → Prop} {R : D → Gs → Prop} : wpS ((B1_law) ρ g) N R = wpS ((sPost (forget [7, 8]) (sSeq (sSet 7 (mN F__law_due (mCons (mV 6) mNil)))
  (sSeq (sSet 8 (mIf (mB (mU (oIsT "list") (mV 7))) (mN oTup (mCons (mC (.str "told")) (mCons (mO oIx (mV 7) (mC (.int 0))) mNil))) (mN oTup (mCons (mC (.str "text +")) (mCons (mV 7) mNil)))))
  (sIf (mB (mO oNe (mTry (mN F_read_lock (mCons (mV 6) mNil))) (mV 8)))
  (sRet (mC (.bl false)))
  sNil)))) ρ g) N R := rfl
def B2_law : SM := (sPost (forget [4, 1, 2, 7, 5, 8, 3]) (sSeq (sSet 2 (mN F__law_deck (mCons (mV 1) (mCons (mC (.int 14)) mNil))))
  (sSeq (sSet 3 (mN F__law_writing (mCons (mN F__law_lock (mCons (mV 2) (mCons (mC (.int 2)) mNil))) mNil)))
  (sSeq (sSet 4 (mLc [12] (mRgA (mCons (mC (.int 26)) mNil)) (gNm 12) bYes (mN F__law_text_bent (mCons (mV 2) (mCons (mV 3) mNil)))))
  (sSeq (sSet 4 (mO oAdd (mV 4) (mLc [6] (mIt (mV 4)) (gNm 6) bYes (mN F__law_text_bent (mCons (mV 2) (mCons (mV 6) mNil))))))
  (sSeq (sSet 5 (mN oLst (mCons (mC .non) (mCons (mC (.int 7)) (mCons (mN oLst (mCons (mV 3) mNil)) (mCons (mN oTup mNil) (mCons (mC (.str "")) (mCons (mC (.str "\n")) (mCons (mC (.str "pins 1")) (mCons (mO oAdd (mC (.str " ")) (mV 3)) (mCons (mO oAdd (mV 3) (mC (.str "\n"))) (mCons (mC (.str "width 0")) (mCons (mV 3) mNil)))))))))))))
  (sFor (mIt (mO oAdd (mO oAdd (mV 4) (mV 5)) (mN oLst (mCons (mRpl " " "  " (mV 3)) mNil)))) (gNm 6)
  B1_law)))))))
theorem nc_B2_law : NC (B2_law) := (nc_post (nc_seq nc_set (nc_seq nc_set (nc_seq nc_set (nc_seq nc_set (nc_seq nc_set nc_for))))))
@[simp] theorem tn_B2_law {f : GM} {d : D} {ds : List D} {ρ : En} {g : Gs} {N : En → Gs → Prop} {R : D → Gs → Prop} : wpS (forGo f (B2_law) (d :: ds) ρ g) N R = gmR f d ρ (fun ρ1 g => wpS ((B2_law) ρ1 g) (fun ρ2 g2 => wpS (forGo f (B2_law) ds ρ2 g2) N R) R) g := wpS_nc nc_B2_law
@[simp] theorem un_B2_law {ρ : En} {g : Gs} {N : En → Gs → Prop} {R : D → Gs → Prop} : wpS ((B2_law) ρ g) N R = wpS ((sPost (forget [4, 1, 2, 7, 5, 8, 3]) (sSeq (sSet 2 (mN F__law_deck (mCons (mV 1) (mCons (mC (.int 14)) mNil))))
  (sSeq (sSet 3 (mN F__law_writing (mCons (mN F__law_lock (mCons (mV 2) (mCons (mC (.int 2)) mNil))) mNil)))
  (sSeq (sSet 4 (mLc [12] (mRgA (mCons (mC (.int 26)) mNil)) (gNm 12) bYes (mN F__law_text_bent (mCons (mV 2) (mCons (mV 3) mNil)))))
  (sSeq (sSet 4 (mO oAdd (mV 4) (mLc [6] (mIt (mV 4)) (gNm 6) bYes (mN F__law_text_bent (mCons (mV 2) (mCons (mV 6) mNil))))))
  (sSeq (sSet 5 (mN oLst (mCons (mC .non) (mCons (mC (.int 7)) (mCons (mN oLst (mCons (mV 3) mNil)) (mCons (mN oTup mNil) (mCons (mC (.str "")) (mCons (mC (.str "\n")) (mCons (mC (.str "pins 1")) (mCons (mO oAdd (mC (.str " ")) (mV 3)) (mCons (mO oAdd (mV 3) (mC (.str "\n"))) (mCons (mC (.str "width 0")) (mCons (mV 3) mNil)))))))))))))
  (sFor (mIt (mO oAdd (mO oAdd (mV 4) (mV 5)) (mN oLst (mCons (mRpl " " "  " (mV 3)) mNil)))) (gNm 6)
  B1_law))))))) ρ g) N R := rfl
def B3_law : SM := (sPost (forget [11, 10]) (sIf (mB (mO oNe (mTry (mN F_read_lock (mCons (mV 10) mNil))) (mN oTup (mCons (mC (.str "text +")) (mCons (mV 11) mNil)))))
  (sRet (mC (.bl false)))
  sNil))
theorem nc_B3_law : NC (B3_law) := (nc_post (nc_if nc_ret nc_nil))
@[simp] theorem tn_B3_law {f : GM} {d : D} {ds : List D} {ρ : En} {g : Gs} {N : En → Gs → Prop} {R : D → Gs → Prop} : wpS (forGo f (B3_law) (d :: ds) ρ g) N R = gmR f d ρ (fun ρ1 g => wpS ((B3_law) ρ1 g) (fun ρ2 g2 => wpS (forGo f (B3_law) ds ρ2 g2) N R) R) g := wpS_nc nc_B3_law
@[simp] theorem un_B3_law {ρ : En} {g : Gs} {N : En → Gs → Prop} {R : D → Gs → Prop} : wpS ((B3_law) ρ g) N R = wpS ((sPost (forget [11, 10]) (sIf (mB (mO oNe (mTry (mN F_read_lock (mCons (mV 10) mNil))) (mN oTup (mCons (mC (.str "text +")) (mCons (mV 11) mNil)))))
  (sRet (mC (.bl false)))
  sNil)) ρ g) N R := rfl
def m_law : SM := (sSeq (sFor (mIt (mSl (mO oAdd (mN oLst (mCons (mC (.int 0)) mNil)) (mV 0)) pNo (pAt (mC (.int 10))))) (gNm 1)
  B2_law)
  (sSeq (sSet 9 (mN oLst (mCons (mN oTup (mCons (mC (.str "pins 1\ngates 1,2\nwidth 0")) (mCons (mC (.int 4)) mNil))) (mCons (mN oTup (mCons (mC (.str "pins 0\ngates 1\nwidth 0")) (mCons (mC (.int 1)) mNil))) (mCons (mN oTup (mCons (mC (.str "gates 1\npins 1\nwidth 0")) (mCons (mC (.int 4)) mNil))) mNil)))))
  (sSeq (sSet 9 (mO oAdd (mV 9) (mN oLst (mCons (mN oTup (mCons (mC (.str "pins 1\ngates 12\nwidth 0")) (mCons (mC (.int 2)) mNil))) (mCons (mN oTup (mCons (mC (.str "pins 1\ngates 1\nwidth 3")) (mCons (mC (.int 3)) mNil))) (mCons (mN oTup (mCons (mC (.str "pins 1\ngates 1")) (mCons (mC (.int 3)) mNil))) mNil))))))
  (sSeq (sSet 9 (mO oAdd (mV 9) (mN oLst (mCons (mN oTup (mCons (mC (.str "pins 1,2,3\ngates 1\nwidth 0")) (mCons (mC (.int 1)) mNil))) (mCons (mN oTup (mCons (mC (.str "pins 1\ngates -1\nwidth 0")) (mCons (mC (.int 2)) mNil))) (mCons (mN oTup (mCons (mC (.str "")) (mCons (mC (.int 1)) mNil))) mNil))))))
  (sSeq (sSet 9 (mO oAdd (mV 9) (mN oLst (mCons (mN oTup (mCons (mC (.str "pins 1\ngates 1\nwidth 0,0")) (mCons (mC (.int 3)) mNil))) (mCons (mN oTup (mCons (mC (.str "pins 1\ngates 1\nwidth 0\nwidth 0")) (mCons (mC (.int 5)) mNil))) mNil)))))
  (sSeq (sFor (mIt (mV 9)) (gTp 2 (gCn (gNm 10) (gCn (gNm 11) gNl)))
  B3_law)
  (sRet (mC (.bl true)))))))))
def F_law : List D → Gs → Res D := mFn 1 13 m_law
end k14

set_option Elab.async false
set_option linter.all false
set_option maxRecDepth 100000
set_option maxHeartbeats 1000000
namespace Cm
open PySem PySem.Spec L2 Sh
theorem big_of {i : Int} (h1 : -(10 ^ 50) ≤ i) (h2 : i ≤ 10 ^ 50) : big i = true := by
  unfold big
  apply decide_eq_true
  omega
/-- a deck stands at l; its count is at most b -/
def Dk (g : Gs) (l : Nat) (b : Int) : Prop := ∃ d0 d1 d2 : Int, getLs g l = some [.int d0, .int d1, .int d2] ∧ 0 ≤ d1 ∧ d1 < 2147483579 ∧ 0 ≤ d2 ∧ d2 ≤ b
theorem Dk.mono {g : Gs} {l : Nat} {b b' : Int} (h : Dk g l b) (hb : b ≤ b') : Dk g l b' := by
  obtain ⟨d0, d1, d2, h0, h1, h2, h3, h4⟩ := h
  exact ⟨d0, d1, d2, h0, h1, h2, h3, by omega⟩
theorem getLs_set {g : Gs} {l : Nat} {xs ys : List D} (h : getLs g l = some xs) : getLs (g.set l (.lst ys)) l = some ys := by
  have hl : l < g.length := by
    unfold getLs at h
    cases q : g[l]? with
    | none => rw [q] at h; cases h
    | some o => exact (List.getElem?_eq_some_iff.mp q).1
  unfold getLs
  rw [List.getElem?_set_self hl]
theorem sp_pick {g : Gs} {l : Nat} {b size : Int} {Q : D → Gs → Prop} (hD : Dk g l b) (hb : b ≤ 1000000000) (hs : 0 < size) (hz : size ≤ 10 ^ 40) (h : ∀ r g', 0 ≤ r → r < size → Dk g' l (b + 1) → Q (.int r) g') : wp (F__law_pick [.loc l, .int size] g) Q := by
  obtain ⟨d0, d1, d2, e0, h1, h2, h3, h4⟩ := hD
  unfold F__law_pick
  rw [wp_fn (by rfl)]
  unfold m__law_pick
  have hbig : big size = true := big_of (by omega) (by omega)
  by_cases hd : 1 < d0
  · simp [e0, hd, hs, hbig]
    exact ⟨0, rfl, h _ _ (Int.emod_nonneg _ (by omega)) (Int.emod_lt_of_pos _ hs) ⟨d0 / size, d1, d2, getLs_set e0, h1, h2, h3, by omega⟩⟩
  · simp [e0, hd]
    refine ⟨2, rfl, ?_⟩
    rw [getLs_set e0]
    have b1 : big 15485867 = true := big_of (by omega) (by omega)
    have b2 : big (d2 + 1) = true := big_of (by omega) (by omega)
    have b3 : big 7919 = true := big_of (by omega) (by omega)
    have b4 : big 32 = true := big_of (by omega) (by omega)
    have m1 : 0 ≤ (d1 + 15485867 * (d2 + 1)) ^ 5 % 2147483647 := Int.emod_nonneg _ (by omega)
    have m2 : (d1 + 15485867 * (d2 + 1)) ^ 5 % 2147483647 < 2147483647 := Int.emod_lt_of_pos _ (by omega)
    simp [b1, b2, b3, b4, hs, List.set, getLs_set e0]
    generalize (d1 + 15485867 * (d2 + 1)) ^ 5 % 2147483647 = n at m1 m2 ⊢
    refine ⟨by omega, by omega, h _ _ (Int.emod_nonneg _ (by omega)) (Int.emod_lt_of_pos _ hs) ⟨d0, d1, d2 + 1, getLs_set e0, h1, h2, by omega, by omega⟩⟩

theorem big_s {i : Int} (h1 : -(10 ^ 50) ≤ i := by omega) (h2 : i ≤ 10 ^ 50 := by omega) : big i = true := big_of h1 h2
theorem okR_of {i : Int} (h1 : 0 ≤ i) (h2 : i ≤ 1000000) : okR i = true := decide_eq_true ⟨by omega, by omega⟩
theorem ints_ex {p : Int → Prop} : ∀ {xs : List D}, (∀ (k : Nat) x, xs[k]? = some x → ∃ i, x = .int i ∧ p i) → ∃ is : List Int, xs = is.map .int ∧ is.length = xs.length ∧ ∀ i ∈ is, p i
  | [], _ => ⟨[], rfl, rfl, fun i h => by simp at h⟩
  | x :: xs, h => by
    obtain ⟨i, rfl, hi⟩ := h 0 x rfl
    obtain ⟨is, rfl, hl, hp⟩ := ints_ex (xs := xs) fun k x e => h (k + 1) x (by simpa using e)
    exact ⟨i :: is, rfl, by simp, fun j hj => by
      rcases List.mem_cons.mp hj with rfl | hj
      · exact hi
      · exact hp j hj⟩
/-! ### locks, settings, turns -/
def LockD (ps xs : List Int) (s : Int) : D := .tup [.tup (ps.map .int), .tup (xs.map .int), .int s]
structure LockOk (ps xs : List Int) (s : Int) : Prop where
  l1 : 1 ≤ ps.length
  l2 : ps.length ≤ 2
  lx : xs.length = ps.length
  p : ∀ p ∈ ps, 1 ≤ p ∧ p ≤ 3
  x : ∀ x ∈ xs, 0 ≤ x ∧ x ≤ 11
  s0 : 0 ≤ s
  s2 : s ≤ 2
theorem sp_lock {g : Gs} {l : Nat} {b : Int} {Q : D → Gs → Prop} (hD : Dk g l b) (hb : b ≤ 100000000) (h : ∀ ps xs s g', LockOk ps xs s → Dk g' l (b + 6) → Q (LockD ps xs s) g') : wp (F__law_lock [.loc l, .int 2] g) Q := by
  unfold F__law_lock
  rw [wp_fn (by rfl)]
  unfold m__law_lock
  simp
  refine sp_pick hD (by omega) (by omega) (by omega) fun r g1 h1 h2 d1 => ?_
  simp
  refine wp_lcInv (fun k g => Dk g l (b + 1 + k)) (fun _ x => ∃ i, x = .int i ∧ (1 ≤ i ∧ i ≤ 3)) (by simpa using d1) (fun k d g hk hI => ?_) fun xs g2 hl hp hI => ?_
  · have hk2 : k < (rngD 0 (1 + r).toNat).length := (List.getElem?_eq_some_iff.mp hk).1
    have hk3 : k < 2 := by
      simp [rngD] at hk2
      omega
    simp
    exact sp_pick hI (by omega) (by omega) (by omega) fun r g' h1 h2 d => ⟨⟨_, rfl, by omega, by omega⟩, by refine d.mono ?_; omega⟩
  · have hl2 : xs.length = (1 + r).toNat := by rw [hl]; simp [rngD]
    obtain ⟨ps, rfl, hps, pp⟩ := ints_ex hp
    refine ⟨by omega, ?_⟩
    refine wp_lcInv (fun k g => Dk g l (b + 3 + k)) (fun _ x => ∃ i, x = .int i ∧ (0 ≤ i ∧ i ≤ 11)) (hI.mono (by simp [rngD]; omega)) (fun k d g hk hI => ?_) fun ys g3 hl' hp' hI' => ?_
    · have hk2 : k < (rngD 0 (1 + r).toNat).length := (List.getElem?_eq_some_iff.mp hk).1
      have hk3 : k < 2 := by
        simp [rngD] at hk2
        omega
      simp
      exact sp_pick hI (by omega) (by omega) (by omega) fun r g' h1 h2 d => by
        exact ⟨⟨_, rfl, by omega, by omega⟩, by refine d.mono ?_; omega⟩
    · have hl3 : ys.length = (1 + r).toNat := by rw [hl']; simp [rngD]
      obtain ⟨xs, rfl, hxs, px⟩ := ints_ex hp'
      refine ⟨by omega, ?_⟩
      refine sp_pick hI' (by simp [rngD]; omega) (by omega) (by omega) fun s g4 h5 h6 d6 => ?_
      exact h ps xs s g4 ⟨by simp at hl2; omega, by simp at hl2; omega, by simp at hl2 hl3; omega, pp, px, h5, by omega⟩ (d6.mono (by simp [rngD]; omega))
theorem sp_one {g : Gs} {l : Nat} {b : Int} {xs : List D} {Q : D → Gs → Prop} (hD : Dk g l b) (hb : b ≤ 100000000) (h0 : 0 < xs.length) (hl : xs.length ≤ 1000) (h : ∀ (k : Nat) x g', xs[k]? = some x → Dk g' l (b + 1) → Q x g') : wp (F__law_one [.loc l, .lst xs] g) Q := by
  unfold F__law_one
  rw [wp_fn (by rfl)]
  unfold m__law_one
  simp
  refine sp_pick hD (by omega) (by omega) (by omega) fun r g1 h1 h2 d1 => ?_
  obtain ⟨k, rfl⟩ : ∃ k : Nat, r = (k : Int) := ⟨r.toNat, by omega⟩
  have hk : k < xs.length := by omega
  simp [Sh.atI_nat, List.getElem?_eq_getElem hk]
  exact h k _ g1 (List.getElem?_eq_getElem hk) d1
structure TurnOk (t : Int × Int) : Prop where
  r1 : -3 ≤ t.1
  r2 : t.1 ≤ 3
  t1 : -20 ≤ t.2
  t2 : t.2 ≤ 20
  nz : t.1 ≠ 0 ∨ t.2 ≠ 0
def TurnD (t : Int × Int) : D := .tup [.int t.1, .int t.2]
theorem sp_a_turn {g : Gs} {l : Nat} {b : Int} {Q : D → Gs → Prop} (hD : Dk g l b) (hb : b ≤ 100000000) (h : ∀ t g', TurnOk t → Dk g' l (b + 3) → Q (TurnD t) g') : wp (F__law_a_turn [.loc l] g) Q := by
  unfold F__law_a_turn
  rw [wp_fn (by rfl)]
  unfold m__law_a_turn
  simp
  refine sp_pick hD (by omega) (by omega) (by omega) fun way g1 h1 h2 d1 => ?_
  have key : ∀ (ro ti : Int) g', -3 ≤ ro → ro ≤ 3 → -20 ≤ ti → ti ≤ 20 → Dk g' l (b + 3) → if ro = 0 then (if ti = 0 then Q (.tup [.int ro, .int 1]) g' else Q (.tup [.int ro, .int ti]) g') else Q (.tup [.int ro, .int ti]) g' := fun ro ti g' a1 a2 a3 a4 d => by
    split
    · split
      · exact h (ro, 1) g' ⟨a1, a2, by show (-20 : Int) ≤ 1; omega, by show (1 : Int) ≤ 20; omega, .inr (by show (1 : Int) ≠ 0; omega)⟩ d
      · rename_i h1 h2
        exact h (ro, ti) g' ⟨a1, a2, a3, a4, .inr h2⟩ d
    · rename_i h1
      exact h (ro, ti) g' ⟨a1, a2, a3, a4, .inl h1⟩ d
  by_cases w0 : 0 < way
  · simp [w0]
    refine sp_pick d1 (by omega) (by omega) (by omega) fun ro g2 h3 h4 d2 => ?_
    simp
    by_cases w2 : way < 2
    · simp [w2]
      refine sp_pick d2 (by omega) (by omega) (by omega) fun ti g3 h5 h6 d3 => ?_
      simp
      exact key (ro - 3) (ti - 20) g3 (by omega) (by omega) (by omega) (by omega) (d3.mono (by omega))
    · simp [w2]
      refine sp_pick d2 (by omega) (by omega) (by omega) fun ti g3 h5 h6 d3 => ?_
      simp
      exact key (ro - 3) (ti - 4) g3 (by omega) (by omega) (by omega) (by omega) (d3.mono (by omega))
  · simp [w0]
    by_cases w2 : way < 2
    · simp [w2]
      refine sp_pick d1 (by omega) (by omega) (by omega) fun ti g3 h5 h6 d3 => ?_
      simp
      simpa using key 0 (ti - 20) g3 (by omega) (by omega) (by omega) (by omega) (d3.mono (by omega))
    · omega
theorem turns_ex {p : Int × Int → Prop} : ∀ {xs : List D}, (∀ (k : Nat) x, xs[k]? = some x → ∃ t, x = TurnD t ∧ p t) → ∃ ts : List (Int × Int), xs = ts.map TurnD ∧ ts.length = xs.length ∧ ∀ t ∈ ts, p t
  | [], _ => ⟨[], rfl, rfl, fun i h => by simp at h⟩
  | x :: xs, h => by
    obtain ⟨i, rfl, hi⟩ := h 0 x rfl
    obtain ⟨is, rfl, hl, hp⟩ := turns_ex (xs := xs) fun k x e => h (k + 1) x (by simpa using e)
    exact ⟨i :: is, rfl, by simp, fun j hj => by
      rcases List.mem_cons.mp hj with rfl | hj
      · exact hi
      · exact hp j hj⟩
theorem sp_turns {g : Gs} {l : Nat} {b : Int} {Q : D → Gs → Prop} (hD : Dk g l b) (hb : b ≤ 10000000) (h : ∀ (ts : List (Int × Int)) g', ts.length ≤ 5 → (∀ t ∈ ts, TurnOk t) → Dk g' l (b + 20) → Q (.tup (ts.map TurnD)) g') : wp (F__law_turns [.loc l, .int 5] g) Q := by
  unfold F__law_turns
  rw [wp_fn (by rfl)]
  unfold m__law_turns
  simp
  refine sp_pick hD (by omega) (by omega) (by omega) fun r g1 h1 h2 d1 => ?_
  simp
  refine wp_lcInv (fun k g => Dk g l (b + 1 + 3 * k)) (fun _ x => ∃ t : Int × Int, x = TurnD t ∧ TurnOk t) (by simpa using d1) (fun k d g hk hI => ?_) fun xs g2 hl hp hI => ?_
  · have hk2 : k < (rngD 0 r.toNat).length := (List.getElem?_eq_some_iff.mp hk).1
    simp [rngD] at hk2
    simp
    exact sp_a_turn hI (by omega) fun t g' ht d => ⟨⟨t.1, t.2, rfl, ht⟩, d.mono (by omega)⟩
  · have hl2 : xs.length = r.toNat := by rw [hl]; simp [rngD]
    obtain ⟨ts, rfl, hts, pt⟩ := turns_ex hp
    exact ⟨by omega, h ts g2 (by omega) pt (hI.mono (by simp [rngD]; omega))⟩
/-! ### one or two wheels -/
inductive Two {α β : Type} : List α → List β → Prop
  | one (a : α) (b : β) : Two [a] [b]
  | two (a a' : α) (b b' : β) : Two [a, a'] [b, b']
theorem Two.of {α β : Type} {xs : List α} {ys : List β} (h1 : 1 ≤ xs.length) (h2 : xs.length ≤ 2) (h3 : ys.length = xs.length) : Two xs ys := by
  match xs, ys, h1, h2, h3 with
  | [a], [b], _, _, _ => exact .one a b
  | [a, a'], [b, b'], _, _, _ => exact .two a a' b b'
/-- a setting of the lock -/
inductive SetOk (n : Int) : List Int → List Int → Prop
  | nil : SetOk n [] []
  | cons {p l : Int} {ps ls : List Int} : 0 ≤ l → l ≤ n - p → SetOk n ps ls → SetOk n (p :: ps) (l :: ls)
theorem SetOk.len {n : Int} {ps ls : List Int} (h : SetOk n ps ls) : ls.length = ps.length := by
  induction h with
  | nil => rfl
  | cons _ _ _ ih => simp [ih]
theorem sp_setting {g : Gs} {l : Nat} {b n s : Int} {ps xs : List Int} {Q : D → Gs → Prop} (hL : LockOk ps xs s) (hn : 24 ≤ n) (hn2 : n ≤ 10 ^ 30) (hD : Dk g l b) (hb : b ≤ 10000000) (h : ∀ (ls : List Int) g', SetOk n ps ls → Dk g' l (b + 6) → Q (.tup (ls.map .int)) g') : wp (F__law_setting [.loc l, LockD ps xs s, .int n] g) Q := by
  unfold F__law_setting
  rw [wp_fn (by rfl)]
  unfold m__law_setting
  have one : ∀ (g : Gs) (b p : Int) (Q : D → Gs → Prop), Dk g l b → b ≤ 20000000 → 1 ≤ p → p ≤ 3 → (∀ i g', 0 ≤ i → i ≤ n - p → Dk g' l (b + 3) → Q (.int i) g') →
      wp (F__law_pick [.loc l, .int (n - p + 1)] g) fun x g1 => wp (F__law_pick [.loc l, .int 20] g1) fun y g2 => wp (F__law_one [.loc l, .lst [.int 0, .int (n - p), x, y]] g2) Q := fun g b p Q hD hb p1 p2 h => by
    refine sp_pick hD (by omega) (by omega) (by omega) fun r g1 h1 h2 d1 => ?_
    refine sp_pick d1 (by omega) (by omega) (by omega) fun r2 g2 h3 h4 d2 => ?_
    refine sp_one d2 (by omega) (by simp) (by simp) fun k x g3 hk d3 => ?_
    match k, hk with
    | 0, hk => cases hk; exact h _ _ (by omega) (by omega) (d3.mono (by omega))
    | 1, hk => cases hk; exact h _ _ (by omega) (by omega) (d3.mono (by omega))
    | 2, hk => cases hk; exact h _ _ (by omega) (by omega) (d3.mono (by omega))
    | 3, hk => cases hk; exact h _ _ (by omega) (by omega) (d3.mono (by omega))
    | k + 4, hk => simp at hk
  have hp := hL.p
  cases Two.of hL.l1 hL.l2 hL.lx with
  | one p x =>
    simp [LockD]
    refine one g b p _ hD (by omega) (hp p (by simp)).1 (hp p (by simp)).2 fun i g' i1 i2 d => ?_
    exact h [i] g' (.cons i1 i2 .nil) (d.mono (by omega))
  | two p p' x x' =>
    simp [LockD]
    refine one g b p _ hD (by omega) (hp p (by simp)).1 (hp p (by simp)).2 fun i g' i1 i2 d => ?_
    refine one g' (b + 3) p' _ d (by omega) (hp p' (by simp)).1 (hp p' (by simp)).2 fun i' g'' i1' i2' d' => ?_
    exact h [i, i'] g'' (.cons i1 i2 (.cons i1' i2' .nil)) (d'.mono (by omega))
end Cm

set_option Elab.async false
set_option linter.all false
set_option maxRecDepth 100000
set_option maxHeartbeats 1000000
namespace Cm
open PySem PySem.Spec L2 Sh
/-! ### the library -/
def later (n : Int) (l p k : Int) : Int := min (n - p) (max 0 (l + k))
def turnedP (n : Int) : List Int → List Int → Int → List Int × Int
  | p :: ps, l :: ls, k => (later n l p k :: (turnedP n ps ls (l + k - later n l p k)).1, (if l + k - later n l p k = 0 then 0 else 1) + (turnedP n ps ls (l + k - later n l p k)).2)
  | _, _, _ => ([], 0)
theorem turnedP_len {n k : Int} : ∀ {ps ls : List Int}, ls.length = ps.length → (turnedP n ps ls k).1.length = ps.length
  | [], _, _ => by simp [turnedP]
  | p :: ps, l :: ls, h => by
    simp [turnedP]
    exact turnedP_len (by simpa using h)
  | p :: ps, [], h => by simp at h
theorem sp_turned {g : Gs} {n s k : Int} {ps xs ls : List Int} {Q : D → Gs → Prop} (hL : LockOk ps xs s) (hl : ls.length = ps.length) (h : Q (.tup [.tup ((turnedP n ps ls k).1.map .int), .int (turnedP n ps ls k).2]) g) : wp (F_turned [LockD ps xs s, .int n, .tup (ls.map .int), .int k] g) Q := by
  unfold F_turned
  rw [wp_fn (by rfl)]
  unfold m_turned
  cases Two.of hL.l1 hL.l2 (by rw [hl] : ls.length = ps.length) with
  | one p l =>
    simp [LockD, zipD]
    simp [turnedP, later] at h
    split <;> simp_all
  | two p p' l l' =>
    simp [LockD, zipD]
    simp [turnedP, later] at h
    split <;> split <;> simp_all
theorem sp_ticks {g : Gs} {n : Int} {t : Int × Int} {Q : D → Gs → Prop} (ht : TurnOk t) (hn : 24 ≤ n) (hn2 : n ≤ 10 ^ 30) (h : Q (.int (t.1 * n + t.2)) g) : wp (F_ticks_of [TurnD t, .int n] g) Q := by
  unfold F_ticks_of
  rw [wp_fn (by rfl)]
  unfold m_ticks_of
  have := ht.r1
  have := ht.r2
  simp [TurnD]
  exact ⟨⟨big_of (by omega) (by omega), big_of (by omega) (by omega)⟩, h⟩
def runP (n : Int) (ps : List Int) : List (Int × Int) → Int → List Int → List Int → Int × List Int × List Int
  | [], d, ls, fe => (d, ls, fe)
  | t :: ts, d, ls, fe => runP n ps ts (d + (t.1 * n + t.2)) (turnedP n ps ls (t.1 * n + t.2)).1 (fe ++ [(turnedP n ps ls (t.1 * n + t.2)).2])
theorem sp_run {g : Gs} {n s : Int} {ps xs ls : List Int} {ts : List (Int × Int)} {Q : D → Gs → Prop} (hL : LockOk ps xs s) (hl : ls.length = ps.length) (hn : 24 ≤ n) (hn2 : n ≤ 10 ^ 30) (ht : ∀ t ∈ ts, TurnOk t) (hts : ts.length ≤ 5)
    (h : Q (.tup [.int (runP n ps ts 0 ls []).1, .tup ((runP n ps ts 0 ls []).2.1.map .int), .tup ((runP n ps ts 0 ls []).2.2.map .int)]) g) : wp (F_run [LockD ps xs s, .int n, .tup (ls.map .int), .tup (ts.map TurnD)] g) Q := by
  unfold F_run
  rw [wp_fn (by rfl)]
  unfold m_run
  simp
  have go : ∀ (ts : List (Int × Int)) (d : Int) (ls fe : List Int), ls.length = ps.length → (∀ t ∈ ts, TurnOk t) → ts.length + fe.length ≤ 5 →
      Q (.tup [.int (runP n ps ts d ls fe).1, .tup ((runP n ps ts d ls fe).2.1.map .int), .tup ((runP n ps ts d ls fe).2.2.map .int)]) g → ∀ sc,
      wpS (forGo (gNm 6) B1_run (ts.map TurnD) [.d (LockD ps xs s), .d (.int n), .d (.tup (ls.map .int)), sc, .d (.int d), .d (.tup (fe.map .int)), .no, .no, .no] g)
        (fun ρ' g' => dR ρ'[4]? (fun x g1 => dR ρ'[2]? (fun x_1 g1 => dR ρ'[5]? (fun x_2 g1 => Q (D.tup [x, x_1, x_2]) g1) g1) g1) g') Q := by
    intro ts
    induction ts with
    | nil =>
      intro d ls fe _ _ _ h sc
      simpa [runP] using h
    | cons t ts ih =>
      intro d ls fe hl ht hb h sc
      rw [List.map_cons]
      simp
      refine sp_ticks (ht t (by simp)) hn hn2 ?_
      refine sp_turned hL hl ?_
      simp at hb
      simp
      refine ⟨by omega, ?_⟩
      have := ih (d + (t.1 * n + t.2)) (turnedP n ps ls (t.1 * n + t.2)).1 (fe ++ [(turnedP n ps ls (t.1 * n + t.2)).2]) (turnedP_len hl) (fun t h => ht t (List.mem_cons_of_mem _ h)) (by simp; omega) h sc
      simpa using this
  have := go ts 0 ls [] hl ht (by simpa using hts) h (.d (.tup (ts.map TurnD)))
  simpa using this

theorem sp_has {g : Gs} {d : D} {a b : Int} {Q : D → Gs → Prop} (xs : List D) (hd : d = .tup xs) (h1 : a ≤ xs.length) (h2 : xs.length ≤ b) (h : Q (.bl true) g) : wp (F_has_items [d, .int a, .int b] g) Q := by
  subst hd
  unfold F_has_items
  rw [wp_fn (by rfl)]
  unfold m_has_items
  simp [isTy, leI_of h1, leI_of h2, h]
theorem sp_within {g : Gs} {i a b : Int} {Q : D → Gs → Prop} (h1 : a ≤ i) (h2 : i ≤ b) (h : Q (.bl true) g) : wp (F_is_within [.int i, .int a, .int b] g) Q := by
  unfold F_is_within
  rw [wp_fn (by rfl)]
  unfold m_is_within
  simp [isTy, leI_of h1, leI_of h2, h]
theorem trues {xs : List D} (h : ∀ (k : Nat) x, xs[k]? = some x → x = .bl true) : xs = (List.replicate xs.length true).map .bl := by
  induction xs with
  | nil => rfl
  | cons x xs ih =>
    have h0 := h 0 x rfl
    have := ih fun k x e => h (k + 1) x (by simpa using e)
    rw [h0, List.length_cons, List.replicate_succ, List.map_cons, ← this]
theorem sp_allT {g : Gs} {xs : List D} {Q : D → Gs → Prop} (h : ∀ (k : Nat) x, xs[k]? = some x → x = .bl true) (hq : Q (.bl true) g) : wp (oAll [.lst xs] g) Q := by
  rw [trues h, oAll_lst]
  have : ∀ n : Nat, (List.replicate n true).all id = true := by intro n; induction n <;> simp_all
  rw [this]
  exact hq
theorem int_at {xs : List Int} {k : Nat} {d : D} (h : (xs.map D.int)[k]? = some d) : ∃ i, d = .int i ∧ i ∈ xs ∧ xs[k]? = some i := by
  rw [List.getElem?_map] at h
  cases e : xs[k]? with
  | none => rw [e] at h; cases h
  | some i =>
    rw [e] at h
    cases h
    exact ⟨i, rfl, List.mem_of_getElem? e, rfl⟩
theorem sp_lockv {g : Gs} {s : Int} {ps xs : List Int} {Q : D → Gs → Prop} (hL : LockOk ps xs s) (h : Q (.bl true) g) : wp (F_is_lock_value [LockD ps xs s] g) Q := by
  have h1 := hL.l1
  have h2 := hL.l2
  have h3 := hL.lx
  unfold F_is_lock_value
  rw [wp_fn (by rfl)]
  unfold m_is_lock_value
  simp [LockD]
  refine sp_has _ rfl (by simp) (by simp) ?_
  simp
  refine sp_has _ rfl (by simp; omega) (by simp; omega) ?_
  simp
  refine sp_within hL.s0 hL.s2 ?_
  simp
  refine sp_has _ rfl (by simp; omega) (by simp; omega) ?_
  simp
  refine wp_lcInv (fun _ g' => g' = g) (fun _ x => x = .bl true) rfl (fun k d g' hk hI => ?_) fun ys g' hl hp hI => ?_
  · obtain ⟨i, rfl, hm, _⟩ := int_at hk
    subst hI
    simp
    exact sp_within (hL.x i hm).1 (hL.x i hm).2 ⟨rfl, rfl⟩
  · subst hI
    refine ⟨by rw [hl]; simp; omega, sp_allT hp ?_⟩
    simp
    refine wp_lcInv (fun _ g2 => g2 = g') (fun _ x => x = .bl true) rfl (fun k d g2 hk hI => ?_) fun ys g2 hl hp hI => ?_
    · obtain ⟨i, rfl, hm, _⟩ := int_at hk
      subst hI
      simp
      exact sp_within (hL.p i hm).1 (hL.p i hm).2 ⟨rfl, rfl⟩
    · subst hI
      exact ⟨by rw [hl]; simp; omega, sp_allT hp h⟩
theorem sp_need_lock {g : Gs} {s : Int} {ps xs : List Int} {Q : D → Gs → Prop} (hL : LockOk ps xs s) (h : Q .non g) : wp (F_need_lock [LockD ps xs s] g) Q := by
  unfold F_need_lock
  rw [wp_fn (by rfl)]
  unfold m_need_lock
  simp
  refine sp_lockv hL ?_
  simpa using h
theorem sp_need_marks {g : Gs} {n : Int} {Q : D → Gs → Prop} (hn : 24 ≤ n) (hn2 : n ≤ 10 ^ 30) (h : Q .non g) : wp (F_need_marks [.int n] g) Q := by
  unfold F_need_marks
  rw [wp_fn (by rfl)]
  unfold m_need_marks
  simp
  unfold F_need_number
  rw [wp_fn (by rfl)]
  unfold m_need_number
  simp
  refine sp_within hn (by omega) ?_
  simpa using h
theorem zipD_at {ls ps : List Int} {k : Nat} {d : D} : (zipD (ls.map .int) (ps.map .int))[k]? = some d → ∃ l p, d = .tup [.int l, .int p] ∧ ls[k]? = some l ∧ ps[k]? = some p := by
  induction ls generalizing ps k with
  | nil => simp [zipD]
  | cons l ls ih =>
    cases ps with
    | nil => simp [zipD]
    | cons p ps =>
      simp only [List.map_cons, zipD]
      cases k with
      | zero => simp; intro h; exact h.symm
      | succ k => simpa using ih
theorem SetOk.at {n : Int} {ps ls : List Int} (h : SetOk n ps ls) : ∀ {k : Nat} {l p : Int}, ls[k]? = some l → ps[k]? = some p → 0 ≤ l ∧ l ≤ n - p := by
  induction h with
  | nil => intro k l p e; simp at e
  | cons a b _ ih =>
    intro k l p e1 e2
    cases k with
    | zero => simp at e1 e2; subst e1 e2; exact ⟨a, b⟩
    | succ k => exact ih (by simpa using e1) (by simpa using e2)
theorem sp_need_setting {g : Gs} {n s : Int} {ps xs ls : List Int} {Q : D → Gs → Prop} (hL : LockOk ps xs s) (hs : SetOk n ps ls) (h : Q .non g) : wp (F_need_setting [LockD ps xs s, .int n, .tup (ls.map .int)] g) Q := by
  have h1 := hL.l1
  have h2 := hL.l2
  have h3 := hs.len
  unfold F_need_setting
  rw [wp_fn (by rfl)]
  unfold m_need_setting
  simp
  unfold F_is_setting_value
  rw [wp_fn (by rfl)]
  unfold m_is_setting_value
  simp [LockD]
  refine sp_has _ rfl (by simp; omega) (by simp; omega) ?_
  simp
  refine wp_lcInv (fun _ g' => g' = g) (fun _ x => x = .bl true) rfl (fun k d g' hk hI => ?_) fun ys g' hl hp hI => ?_
  · obtain ⟨l, p, rfl, e1, e2⟩ := zipD_at hk
    subst hI
    simp
    exact sp_within (hs.at e1 e2).1 (hs.at e1 e2).2 ⟨rfl, rfl⟩
  · subst hI
    refine ⟨by rw [hl, zipD_len]; simp; omega, sp_allT hp ?_⟩
    simpa using h
theorem sp_need_script {g : Gs} {ts : List (Int × Int)} {Q : D → Gs → Prop} (ht : ∀ t ∈ ts, TurnOk t) (hts : ts.length ≤ 5) (h : Q .non g) : wp (F_need_script [.tup (ts.map TurnD)] g) Q := by
  unfold F_need_script
  rw [wp_fn (by rfl)]
  unfold m_need_script
  simp
  unfold F_is_script_value
  rw [wp_fn (by rfl)]
  unfold m_is_script_value
  simp
  refine sp_has _ rfl (by simp) (by simp; omega) ?_
  simp
  refine wp_lcInv (fun _ g' => g' = g) (fun _ x => x = .bl true) rfl (fun k d g' hk hI => ?_) fun ys g' hl hp hI => ?_
  · subst hI
    rw [List.getElem?_map] at hk
    cases e : ts[k]? with
    | none => rw [e] at hk; cases hk
    | some t =>
      rw [e] at hk
      cases hk
      have to := ht t (List.mem_of_getElem? e)
      have nz := to.nz
      simp
      unfold F_is_turn_value
      rw [wp_fn (by rfl)]
      unfold m_is_turn_value
      simp [TurnD]
      refine sp_has _ rfl (by simp) (by simp) ?_
      simp
      refine sp_within to.r1 to.r2 ?_
      simp
      refine sp_within to.t1 to.t2 ?_
      simp
      omega
  · subst hI
    refine ⟨by rw [hl]; simp; omega, sp_allT hp ?_⟩
    simpa using h

theorem runP_len {n : Int} {ps : List Int} : ∀ {ts : List (Int × Int)} {d : Int} {ls fe : List Int}, ls.length = ps.length → (runP n ps ts d ls fe).2.1.length = ps.length
  | [], d, ls, fe, h => h
  | t :: ts, d, ls, fe, h => by
    rw [runP]
    exact runP_len (turnedP_len h)
/-! ### what is the same -/
@[simp] theorem sort_int {g : Gs} {i : Int} {Q : D → Gs → Prop} : wp (F__law_sort [.int i] g) Q = Q (.int 2) g := by
  unfold F__law_sort
  rw [wp_fn (by rfl)]
  unfold m__law_sort
  simp [isTy]
@[simp] theorem sort_tup {g : Gs} {xs : List D} {Q : D → Gs → Prop} : wp (F__law_sort [.tup xs] g) Q = Q (.int 5) g := by
  unfold F__law_sort
  rw [wp_fn (by rfl)]
  unfold m__law_sort
  simp [isTy]
theorem same_int {g : Gs} {i : Int} {k : Nat} {Q : D → Gs → Prop} (h : Q (.bl true) g) : wp (F__law_same (k + 1) [.int i, .int i] g) Q := by
  unfold F__law_same
  rw [wp_fn (by rfl)]
  unfold m__law_same
  simp
  exact h
theorem same_tup {g : Gs} {xs : List Int} {k : Nat} {Q : D → Gs → Prop} (hl : xs.length ≤ 1000) (h : Q (.bl true) g) : wp (F__law_same (k + 2) [.tup (xs.map .int), .tup (xs.map .int)] g) Q := by
  unfold F__law_same
  rw [wp_fn (by rfl)]
  unfold m__law_same
  simp
  have go : ∀ (ys : List Int) (j : Nat) (QL : List D → Gs → Prop), xs.drop j = ys → QL [] g → wp (lcGo (gTp 2 (gCn (gNm 2) (gCn (gNm 3) gNl)))
      (bNot (mB (mN (F__law_same (k + 1)) (mCons (mV 3) (mCons (mO oIx (mV 1) (mV 2)) mNil))))) (mV 2)
      [Sl.d (D.tup (List.map D.int xs)), Sl.d (D.tup (List.map D.int xs)), Sl.no, Sl.no] (enumD j (ys.map .int)) g) QL := by
    intro ys
    induction ys with
    | nil =>
      intro j QL _ h
      exact h
    | cons y ys ih =>
      intro j QL hd h
      have hj : xs[j]? = some y := by
        have := congrArg (fun z => z[0]?) hd
        simpa using this
      have hd2 : xs.drop (j + 1) = ys := by
        have := congrArg List.tail hd
        simpa using this
      rw [List.map_cons, enumD]
      simp [Sh.atI_nat, hj]
      refine same_int ?_
      simpa using ih (j + 1) QL hd2 h
  refine go xs 0 _ (by simp) ?_
  simp [Sh.plain, Sh.plains, eqD, eqDs, h]
end Cm

set_option Elab.async false
set_option linter.all false
set_option maxRecDepth 100000
set_option maxHeartbeats 1000000
namespace Cm
open PySem PySem.Spec L2 Sh
/-! ### the law's own reckoning, by the wheels' places -/
def wheelsP : Int → List Int → List Int
  | _, [] => []
  | d, l :: ls => (d - l) :: wheelsP (d - l) ls
def lagsP : Int → List Int → List Int
  | _, [] => []
  | d, w :: ws => (d - w) :: lagsP w ws
def there (n a w p : Int) : Int := min (max w (a - n + p)) a
def stepP (n : Int) : List Int → List Int → Int → List Int × Int
  | p :: ps, w :: ws, a => (there n a w p :: (stepP n ps ws (there n a w p)).1, b2i (!eqI (there n a w p) w) + (stepP n ps ws (there n a w p)).2)
  | _, _, _ => ([], 0)
theorem lagsP_len {d : Int} {ws : List Int} : (lagsP d ws).length = ws.length := by
  induction ws generalizing d with
  | nil => rfl
  | cons w ws ih => simp [lagsP, ih]
theorem wheelsP_len {d : Int} {ws : List Int} : (wheelsP d ws).length = ws.length := by
  induction ws generalizing d with
  | nil => rfl
  | cons w ws ih => simp [wheelsP, ih]
theorem lags_wheels {d : Int} {ls : List Int} : lagsP d (wheelsP d ls) = ls := by
  induction ls generalizing d with
  | nil => rfl
  | cons l ls ih =>
    simp only [wheelsP, lagsP, ih]
    congr 1
    omega
theorem stepP_len {n a : Int} : ∀ {ps ws : List Int}, ws.length = ps.length → (stepP n ps ws a).1.length = ps.length
  | [], _, _ => by simp [stepP]
  | p :: ps, l :: ls, h => by
    simp [stepP]
    exact stepP_len (by simpa using h)
  | p :: ps, [], h => by simp at h
/-- lags and wheels tell the same -/
theorem step_eq {n k : Int} : ∀ {ps ws : List Int} {d : Int}, ws.length = ps.length → (∀ p ∈ ps, p ≤ n) → turnedP n ps (lagsP d ws) k = (lagsP (d + k) (stepP n ps ws (d + k)).1, (stepP n ps ws (d + k)).2)
  | [], [], d, _, _ => by simp [turnedP, lagsP, stepP]
  | p :: ps, w :: ws, d, h, hp => by
    have hp1 := hp p (by simp)
    have e1 : later n (d - w) p k = d + k - there n (d + k) w p := by unfold later there; omega
    have e2 : d - w + k - later n (d - w) p k = there n (d + k) w p - w := by rw [e1]; omega
    have ih := step_eq (n := n) (k := there n (d + k) w p - w) (ps := ps) (ws := ws) (d := w) (by simpa using h) fun p h => hp p (List.mem_cons_of_mem _ h)
    have e3 : w + (there n (d + k) w p - w) = there n (d + k) w p := by omega
    rw [e3] at ih
    simp only [lagsP, turnedP, stepP]
    rw [e2, ih]
    simp only [e1]
    have e4 : (if there n (d + k) w p - w = 0 then (0 : Int) else 1) = b2i (!eqI (there n (d + k) w p) w) := by
      by_cases h : there n (d + k) w p = w
      · simp [h, b2i, eqI]
      · have h2 : ¬ there n (d + k) w p - w = 0 := by omega
        simp [h, h2, b2i, eqI]
    rw [e4]
def behindP (n : Int) (ps : List Int) : List (Int × Int) → Int → List Int → List Int → Int × List Int × List Int
  | [], d, ws, fe => (d, ws, fe)
  | t :: ts, d, ws, fe => behindP n ps ts (d + t.1 * n + t.2) (stepP n ps ws (d + t.1 * n + t.2)).1 (fe ++ [(stepP n ps ws (d + t.1 * n + t.2)).2])
theorem run_eq {n : Int} {ps : List Int} (hp : ∀ p ∈ ps, p ≤ n) : ∀ {ts : List (Int × Int)} {d : Int} {ws fe : List Int}, ws.length = ps.length → runP n ps ts d (lagsP d ws) fe = ((behindP n ps ts d ws fe).1, lagsP (behindP n ps ts d ws fe).1 (behindP n ps ts d ws fe).2.1, (behindP n ps ts d ws fe).2.2)
  | [], d, ws, fe, h => rfl
  | t :: ts, d, ws, fe, h => by
    rw [runP, behindP, step_eq h hp]
    rw [show d + (t.1 * n + t.2) = d + t.1 * n + t.2 by omega]
    exact run_eq hp (stepP_len h)
theorem behindP_len {n : Int} {ps : List Int} : ∀ {ts : List (Int × Int)} {d : Int} {ws fe : List Int}, ws.length = ps.length → (behindP n ps ts d ws fe).2.1.length = ps.length ∧ (behindP n ps ts d ws fe).2.2.length = fe.length + ts.length
  | [], d, ls, fe, h => ⟨h, rfl⟩
  | t :: ts, d, ls, fe, h => by
    rw [behindP]
    obtain ⟨a, b⟩ := behindP_len (n := n) (ts := ts) (d := d + t.1 * n + t.2) (fe := fe ++ [(stepP n ps ls (d + t.1 * n + t.2)).2]) (stepP_len (n := n) (a := d + t.1 * n + t.2) h)
    refine ⟨a, ?_⟩
    rw [b]
    simp
    omega
/-- greater lags end greater -/
inductive LeL : List Int → List Int → Prop
  | nil : LeL [] []
  | cons {a b : Int} {as bs : List Int} : a ≤ b → LeL as bs → LeL (a :: as) (b :: bs)
theorem LeL.len {as bs : List Int} (h : LeL as bs) : as.length = bs.length := by
  induction h with
  | nil => rfl
  | cons _ _ ih => simp [ih]
theorem turned_mono {n : Int} {ps ls ls' : List Int} (h : LeL ls ls') : ∀ {k k' : Int}, k ≤ k' → LeL (turnedP n ps ls k).1 (turnedP n ps ls' k').1 := by
  induction h generalizing ps with
  | nil =>
    intro k k' _
    cases ps <;> exact .nil
  | cons ab _ ih =>
    intro k k' hk
    cases ps with
    | nil => exact .nil
    | cons p ps =>
      simp only [turnedP]
      refine .cons (by unfold later; omega) (ih (by unfold later; omega))
theorem run_mono {n : Int} {ps : List Int} : ∀ {ts : List (Int × Int)} {d : Int} {ls ls' fe fe' : List Int}, LeL ls ls' → LeL (runP n ps ts d ls fe).2.1 (runP n ps ts d ls' fe').2.1
  | [], _, _, _, _, _, h => h
  | t :: ts, d, ls, ls', fe, fe', h => by
    rw [runP, runP]
    exact run_mono (turned_mono h (Int.le_refl _))
end Cm

set_option Elab.async false
set_option linter.all false
set_option maxRecDepth 100000
set_option maxHeartbeats 1000000
namespace Cm
open PySem PySem.Spec L2 Sh
@[simp] theorem eq_nil {x : D} {xs : List D} : eqD (.lst (x :: xs)) (.lst []) = false := by simp [eqD, eqDs]
@[simp] theorem eq_nil0 : eqD (.lst []) (.lst []) = true := by simp [eqD, eqDs]
@[simp] theorem eq_nila {x : D} {xs : List D} : eqD (.lst (xs ++ [x])) (.lst []) = false := by cases xs <;> simp [eqD, eqDs]
theorem plains_ints {n : Nat} : ∀ {xs : List Int}, Sh.plains (n + 1) (xs.map .int) = true
  | [] => by simp [Sh.plains]
  | x :: xs => by
    rw [List.map_cons, Sh.plains]
    simp [plains_ints (xs := xs)]
@[simp] theorem plains1 {n : Nat} {i : Int} : Sh.plains (n + 1) [.int i] = true := by simp [Sh.plains]
@[simp] theorem plains0 {n : Nat} : Sh.plains n [] = true := by simp [Sh.plains]
theorem plain_nil : Sh.plain 50 (.lst []) = true := by decide +kernel
def allF : (Fin 0) → Bool := fun _ => true
theorem sp_lbehind {g : Gs} {n s : Int} {ps xs ls : List Int} {ts : List (Int × Int)} {Q : D → Gs → Prop} (hL : LockOk ps xs s) (hs : ls.length = ps.length) (hn : 24 ≤ n) (hn2 : n ≤ 10 ^ 30) (ht : ∀ t ∈ ts, TurnOk t) (hts : ts.length ≤ 5)
    (h : Q (.tup [.int (behindP n ps ts 0 (wheelsP 0 ls) []).1, .lst ((behindP n ps ts 0 (wheelsP 0 ls) []).2.1.map .int), .tup ((behindP n ps ts 0 (wheelsP 0 ls) []).2.2.map .int)]) g) : wp (F__law_behind [LockD ps xs s, .int n, .tup (ls.map .int), .tup (ts.map TurnD)] g) Q := by
  unfold F__law_behind
  rw [wp_fn (by rfl)]
  unfold m__law_behind
  have go : ∀ (ts : List (Int × Int)) (d : Int) (ws fe : List Int) (sc sc2 : Sl), ws.length = ps.length → (∀ t ∈ ts, TurnOk t) → ts.length + fe.length ≤ 5 →
      Q (.tup [.int (behindP n ps ts d ws fe).1, .lst ((behindP n ps ts d ws fe).2.1.map .int), .tup ((behindP n ps ts d ws fe).2.2.map .int)]) g →
      wpS (forGo (gTp 2 (gCn (gNm 8) (gCn (gNm 9) gNl))) B3__law_behind (ts.map TurnD) [.d (LockD ps xs s), .d (.int n), sc, sc2, .d (.int d), .d (.lst (ws.map .int)), .ml (fe.map .int), .no, .no, .no, .no, .no, .no, .no, .no] g)
        (fun ρ' g' => wpS (sPre (freeze 6) (sRet (mN oTup (mCons (mV 4) (mCons (mV 5) (mCons (mN oTuple (mCons (mV 6) mNil)) mNil))))) ρ' g') (fun _ g' => Q .non g') Q) Q := by
    intro ts
    induction ts with
    | nil =>
      intro d ws fe sc sc2 _ _ _ h
      simpa [behindP] using h
    | cons t ts ih =>
      intro d ws fe sc sc2 hl ht hb h
      rw [List.map_cons]
      have to := ht t (by simp)
      have := to.r1
      have := to.r2
      have b1 : big t.1 = true := big_of (by omega) (by omega)
      have b2 : big n = true := big_of (by omega) (by omega)
      rw [behindP] at h
      have ih' := ih (d + t.1 * n + t.2) (stepP n ps ws (d + t.1 * n + t.2)).1 (fe ++ [(stepP n ps ws (d + t.1 * n + t.2)).2]) sc sc2 (stepP_len hl) (fun t h => ht t (List.mem_cons_of_mem _ h)) (by simp at hb ⊢; omega) h
      simp at hb
      cases Two.of hL.l1 hL.l2 hl with
      | one p w =>
        simp [TurnD, b1, b2, LockD, plain_nil]
        refine ⟨by omega, ?_⟩
        simpa [stepP, there, LockD] using ih'
      | two p p' w w' =>
        simp [TurnD, b1, b2, LockD, plain_nil]
        refine ⟨by omega, ?_⟩
        simpa [stepP, there, LockD] using ih'
  have h2 := hL.l2
  cases Two.of hL.l1 hL.l2 hs with
  | one p l =>
    simp [plain_nil]
    have := go ts 0 (wheelsP 0 [l]) [] (.d (.tup [.int l])) (.d (.tup (ts.map TurnD))) rfl ht (by simpa using hts) h
    simpa [wheelsP] using this
  | two p p' l l' =>
    simp [plain_nil]
    have := go ts 0 (wheelsP 0 [l, l']) [] (.d (.tup [.int l, .int l'])) (.d (.tup (ts.map TurnD))) rfl ht (by simpa using hts) h
    simpa [wheelsP] using this
end Cm

set_option Elab.async false
set_option linter.all false
set_option maxRecDepth 100000
set_option maxHeartbeats 1000000
namespace Cm
open PySem PySem.Spec L2 Sh
theorem sp_turnsN {g : Gs} {l m : Nat} {b : Int} {Q : D → Gs → Prop} (hm : m ≤ 5) (hD : Dk g l b) (hb : b ≤ 10000000) (h : ∀ (ts : List (Int × Int)) g', ts.length ≤ m → (∀ t ∈ ts, TurnOk t) → Dk g' l (b + 20) → Q (.tup (ts.map TurnD)) g') : wp (F__law_turns [.loc l, .int m] g) Q := by
  unfold F__law_turns
  rw [wp_fn (by rfl)]
  unfold m__law_turns
  simp
  refine sp_pick hD (by omega) (by omega) (by omega) fun r g1 h1 h2 d1 => ?_
  simp
  refine wp_lcInv (fun k g => Dk g l (b + 1 + 3 * k)) (fun _ x => ∃ t : Int × Int, x = TurnD t ∧ TurnOk t) (by simpa using d1) (fun k d g hk hI => ?_) fun xs g2 hl hp hI => ?_
  · have hk2 : k < (rngD 0 r.toNat).length := (List.getElem?_eq_some_iff.mp hk).1
    simp [rngD] at hk2
    simp
    exact sp_a_turn hI (by omega) fun t g' ht d => ⟨⟨t.1, t.2, rfl, ht⟩, d.mono (by omega)⟩
  · have hl2 : xs.length = r.toNat := by rw [hl]; simp [rngD]
    obtain ⟨ts, rfl, hts, pt⟩ := turns_ex hp
    exact ⟨by omega, h ts g2 (by omega) pt (hI.mono (by simp [rngD]; omega))⟩
/-! ### the same, of any nesting -/
@[simp] theorem sort_lst {g : Gs} {xs : List D} {Q : D → Gs → Prop} : wp (F__law_sort [.lst xs] g) Q = Q (.int 4) g := by
  unfold F__law_sort
  rw [wp_fn (by rfl)]
  unfold m__law_sort
  simp [isTy]
@[simp] theorem sort_bl {g : Gs} {k : Bool} {Q : D → Gs → Prop} : wp (F__law_sort [.bl k] g) Q = Q (.int 1) g := by
  unfold F__law_sort
  rw [wp_fn (by rfl)]
  unfold m__law_sort
  simp [isTy]
theorem same_bl {g : Gs} {i : Bool} {k : Nat} {Q : D → Gs → Prop} (h : Q (.bl true) g) : wp (F__law_same (k + 1) [.bl i, .bl i] g) Q := by
  unfold F__law_same
  rw [wp_fn (by rfl)]
  unfold m__law_same
  simp
  have : eqD (.bl i) (.bl i) = true := by cases i <;> rfl
  rw [this]
  exact h
theorem same_go {g : Gs} {k : Nat} {xs : List D} {o : D} (ho : o = .lst xs ∨ o = .tup xs) (hx : ∀ x ∈ xs, ∀ (g : Gs) (Q : D → Gs → Prop), Q (.bl true) g → wp (F__law_same k [x, x] g) Q) : ∀ (ys : List D) (j : Nat) (QL : List D → Gs → Prop), xs.drop j = ys → QL [] g → wp (lcGo (gTp 2 (gCn (gNm 2) (gCn (gNm 3) gNl)))
      (bNot (mB (mN (F__law_same k) (mCons (mV 3) (mCons (mO oIx (mV 1) (mV 2)) mNil))))) (mV 2)
      [Sl.d o, Sl.d o, Sl.no, Sl.no] (enumD j ys) g) QL := by
  intro ys
  induction ys with
  | nil =>
    intro j QL _ h
    exact h
  | cons y ys ih =>
    intro j QL hd h
    have hj : xs[j]? = some y := by
      have := congrArg (fun z => z[0]?) hd
      simpa using this
    have hd2 : xs.drop (j + 1) = ys := by
      have := congrArg List.tail hd
      simpa using this
    have hm : y ∈ xs := List.mem_of_getElem? hj
    rw [enumD]
    rcases ho with rfl | rfl
    · simp [Sh.atI_nat, hj]
      refine hx y hm _ _ ?_
      simpa using ih (j + 1) QL hd2 h
    · simp [Sh.atI_nat, hj]
      refine hx y hm _ _ ?_
      simpa using ih (j + 1) QL hd2 h
theorem same_lst {g : Gs} {xs : List D} {k : Nat} {Q : D → Gs → Prop} (hx : ∀ x ∈ xs, ∀ (g : Gs) (Q : D → Gs → Prop), Q (.bl true) g → wp (F__law_same k [x, x] g) Q) (h : Q (.bl true) g) : wp (F__law_same (k + 1) [.lst xs, .lst xs] g) Q := by
  rw [F__law_same]
  rw [wp_fn (by rfl)]
  unfold m__law_same
  simp
  refine same_go (.inl rfl) hx xs 0 _ (by simp) ?_
  simp [Sh.plain, Sh.plains, eqD, eqDs, h]
theorem same_tupD {g : Gs} {xs : List D} {k : Nat} {Q : D → Gs → Prop} (hx : ∀ x ∈ xs, ∀ (g : Gs) (Q : D → Gs → Prop), Q (.bl true) g → wp (F__law_same k [x, x] g) Q) (h : Q (.bl true) g) : wp (F__law_same (k + 1) [.tup xs, .tup xs] g) Q := by
  rw [F__law_same]
  rw [wp_fn (by rfl)]
  unfold m__law_same
  simp
  refine same_go (.inr rfl) hx xs 0 _ (by simp) ?_
  simp [Sh.plain, Sh.plains, eqD, eqDs, h]
/-! ### places of wheels, by the dial -/
def distP (d : Int) (ws : List Int) : List Int := ws.map (d - ·)
def pairD (as bs : List Int) : List D := zipD (as.map .int) (bs.map .int)
theorem sp_bdial {g : Gs} {d : Int} {ws : List Int} {Q : D → Gs → Prop} (h1 : 1 ≤ ws.length) (h2 : ws.length ≤ 2) (h : Q (.tup ((distP d ws).map .int)) g) : wp (F_behind_dial [.tup ((lagsP d ws).map .int)] g) Q := by
  unfold F_behind_dial
  rw [wp_fn (by rfl)]
  unfold m_behind_dial
  match ws, h1, h2 with
  | [w], _, _ =>
    simp [lagsP]
    have e : cutD [D.int (d - w)] none (some 1) = [d - w].map D.int := rfl
    rw [e, oSum_tup]
    simpa [distP] using h
  | [w, w'], _, _ =>
    simp [lagsP]
    have e : cutD [D.int (d - w), D.int (w - w')] none (some 1) = [d - w].map D.int := rfl
    have e2 : cutD [D.int (d - w), D.int (w - w')] none (some 2) = [d - w, w - w'].map D.int := rfl
    rw [e, oSum_tup, e2, oSum_tup]
    have e3 : d - w + (w - w') = d - w' := by omega
    simpa [distP, e3] using h
/-! ### gates -/
def upP (n m gt w : Int) : Bool := decide ((m - gt) % n ≤ w ∨ n - (m - gt) % n ≤ w)
theorem sp_is_up {g : Gs} {n m gt w : Int} {Q : D → Gs → Prop} (hn : 24 ≤ n) (h : Q (.bl (upP n m gt w)) g) : wp (F_is_up [.int n, .int m, .int gt, .int w] g) Q := by
  unfold F_is_up
  rw [wp_fn (by rfl)]
  unfold m_is_up
  have hn0 : 0 < n := by omega
  unfold upP at h
  simp [hn0]
  by_cases h1 : (m - gt) % n ≤ w
  · simpa [h1] using h
  · have e : decide ((m - gt) % n ≤ w ∨ n - (m - gt) % n ≤ w) = leI (n - (m - gt) % n) w := by simp [h1, leI]
    rw [e] at h
    simpa [h1] using h
end Cm

set_option Elab.async false
set_option linter.all false
set_option maxRecDepth 100000
set_option maxHeartbeats 1000000
namespace Cm
open PySem PySem.Spec L2 Sh
/-- a comprehension that picks and maps, the state left as it is -/
theorem wp_lcFilter {f : GM} {c : BM} {a : EM} {ρ : En} {g : Gs} {QL : List D → Gs → Prop} {ds : List D} (P : D → Bool) (V : D → D) (step : ∀ d ∈ ds, gmR f d ρ (fun ρ1 g' => wp (c ρ1 g') fun k g1 => (k = P d ∧ g1 = g) ∧ (P d = true → wp (a ρ1 g) fun x g2 => x = V d ∧ g2 = g)) g)
    (h : QL ((ds.filter P).map V) g) : wp (lcGo f c a ρ ds g) QL := by
  induction ds generalizing QL with
  | nil => exact h
  | cons d ds ih =>
    rw [wp_lcCons]
    have st := step d (List.mem_cons_self ..)
    unfold gmR at st ⊢
    cases hf : f d ρ with
    | none => rw [hf] at st; exact st.elim
    | some ρ1 =>
      rw [hf] at st
      show wp (c ρ1 g) _
      refine st.mono fun k g1 ⟨⟨hk, hg⟩, hv⟩ => ?_
      subst hg
      subst hk
      rw [List.filter_cons] at h
      by_cases hp : P d = true
      · rw [if_pos hp] at h ⊢
        refine (hv hp).mono fun x g2 ⟨hx, hg2⟩ => ?_
        subst hg2
        subst hx
        exact ih (fun d hd => step d (List.mem_cons_of_mem _ hd)) h
      · rw [if_neg hp] at h ⊢
        exact ih (fun d hd => step d (List.mem_cons_of_mem _ hd)) h
/-! ### up -/
def UpI (n m x w : Int) : Prop := ∃ a k : Int, -w ≤ a ∧ a ≤ w ∧ m = x + a + k * n
theorem emod_of {n a k : Int} (h0 : 0 ≤ a) (h1 : a < n) : (a + k * n) % n = a := by
  rw [Int.add_mul_emod_self_right]
  exact Int.emod_eq_of_lt h0 h1
theorem emod_neg {n a k : Int} (h0 : a < 0) (h1 : -n ≤ a) : (a + k * n) % n = a + n := by
  have e : a + k * n = (a + n) + (k - 1) * n := by rw [Int.sub_mul]; omega
  rw [e]
  exact emod_of (by omega) (by omega)
theorem upP_iff {n m x w : Int} (hn : 24 ≤ n) (hw : 0 ≤ w) (hw2 : w ≤ 2) : upP n m x w = true ↔ UpI n m x w := by
  unfold upP UpI
  rw [decide_eq_true_iff]
  have e := Int.emod_add_mul_ediv (m - x) n
  have r0 := Int.emod_nonneg (m - x) (show n ≠ 0 by omega)
  have r1 := Int.emod_lt_of_pos (m - x) (show 0 < n by omega)
  constructor
  · rintro (h | h)
    · refine ⟨(m - x) % n, (m - x) / n, by omega, h, ?_⟩
      rw [Int.mul_comm ((m - x) / n) n]
      omega
    · refine ⟨(m - x) % n - n, (m - x) / n + 1, by omega, by omega, ?_⟩
      rw [Int.add_mul, Int.mul_comm ((m - x) / n) n]
      omega
  · rintro ⟨a, k, h1, h2, h3⟩
    have e2 : m - x = a + k * n := by omega
    rw [e2]
    by_cases ha : 0 ≤ a
    · left
      rw [emod_of ha (by omega)]
      exact h2
    · right
      rw [emod_neg (by omega) (by omega)]
      omega
/-- small and a multiple: nothing -/
theorem small_mul {n j d : Int} (hn : 24 ≤ n) (h : j * n = d) (h1 : -24 < d) (h2 : d < 24) : d = 0 := by
  by_cases hj : j = 0
  · rw [hj, Int.zero_mul] at h
    omega
  · by_cases h3 : 1 ≤ j
    · have := Int.mul_le_mul_of_nonneg_right h3 (show 0 ≤ n by omega)
      omega
    · have := Int.mul_le_mul_of_nonneg_right (show j ≤ -1 by omega) (show 0 ≤ n by omega)
      omega
theorem up_gap {n x w d lo hi : Int} (hn : 24 ≤ n) (hw : 0 ≤ w) (hw2 : w ≤ 2) (h : ∀ f, lo ≤ f → f ≤ hi → UpI n (d - f) x w) (hl : lo ≤ hi) : hi - lo ≤ 2 * w := by
  false_or_by_contra
  rename_i hc
  obtain ⟨a, k, h1, h2, h3⟩ := h lo (by omega) hl
  obtain ⟨b, j, h4, h5, h6⟩ := h (lo + a + w + 1) (by omega) (by omega)
  have e : (k - j) * n = b + w + 1 := by rw [Int.sub_mul]; omega
  have := small_mul hn e (by omega) (by omega)
  omega
theorem upP_mod {n m x w : Int} : upP n (m % n) x w = upP n m x w := by
  unfold upP
  rw [Int.emod_sub_emod]
theorem upP_self {n m x w : Int} (hn : 24 ≤ n) (hw : 0 ≤ w) (hw2 : w ≤ 2) (h : ∃ k, m = x + k * n) : upP n m x w = true := by
  rw [upP_iff hn hw hw2]
  obtain ⟨k, h⟩ := h
  exact ⟨0, k, by omega, hw, by omega⟩
/-- all gates up -/
def upB (n s : Int) : List Int → List Int → Bool
  | w :: ws, x :: xs => upP n w x s && upB n s ws xs
  | _, _ => true
/-- the law's own test -/
theorem sp_law_is_up {g : Gs} {n m x w : Int} {Q : D → Gs → Prop} (hn : 24 ≤ n) (hw : 0 ≤ w) (hw2 : w ≤ 2) (h : Q (.bl (upP n m x w)) g) : wp (F__law_is_up [.int n, .int m, .int x, .int w] g) Q := by
  unfold F__law_is_up
  rw [wp_fn (by rfl)]
  unfold m__law_is_up
  have hn0 : 0 < n := by omega
  simp
  refine wp_lcFilter (fun d => match d with | .int a => eqI ((x + a - m) % n) 0 | _ => false) (fun _ => .int 1) (fun d hd => ?_) ?_
  · obtain ⟨i, hi, rfl⟩ := List.mem_map.mp hd
    simp [hn0]
  · have hlen : ((List.filter (fun d => match d with | .int a => eqI ((x + a - m) % n) 0 | _ => false) (rngD (-w) (w + 1 + w).toNat)).map fun _ => D.int 1).length ≤ 1000000 := by
      rw [List.length_map]
      refine Nat.le_trans (List.length_filter_le ..) ?_
      simp [rngD]
      omega
    have hall : ∀ l : List D, (∀ y ∈ l, y = .int 1) → Sh.plain 50 (.lst l) = true := fun l hl => by
      rw [Sh.plain]
      induction l with
      | nil => rfl
      | cons y l ih =>
        have := hl y (by simp)
        subst this
        rw [Sh.plains]
        simp [ih fun y hy => hl y (List.mem_cons_of_mem _ hy)]
    refine ⟨hlen, ⟨hall _ fun y hy => ?_, plain_nil⟩, ?_⟩
    · obtain ⟨_, _, rfl⟩ := List.mem_map.mp hy
      rfl
    · have e : (!eqD (.lst ((List.filter (fun d => match d with | .int a => eqI ((x + a - m) % n) 0 | _ => false) (rngD (-w) (w + 1 + w).toNat)).map fun _ => D.int 1)) (.lst [])) = upP n m x w := by
        cases hf : List.filter (fun d => match d with | .int a => eqI ((x + a - m) % n) 0 | _ => false) (rngD (-w) (w + 1 + w).toNat) with
        | nil =>
          have hno : ¬ UpI n m x w := fun ⟨a, k, h1, h2, h3⟩ => by
            have hm : D.int a ∈ rngD (-w) (w + 1 + w).toNat := List.mem_map.mpr ⟨(a + w).toNat, List.mem_range.mpr (by omega), by congr 1; omega⟩
            have := List.filter_eq_nil_iff.mp hf _ hm
            apply this
            have e : x + a - m = 0 + (-k) * n := by rw [Int.neg_mul]; omega
            show eqI ((x + a - m) % n) 0 = true
            rw [e, emod_of (by omega) (by omega)]
            rfl
          have : upP n m x w = false := by
            rw [← Bool.not_eq_true, upP_iff hn hw hw2]
            exact hno
          rw [this]
          simp
        | cons y l =>
          have hy : y ∈ List.filter (fun d => match d with | .int a => eqI ((x + a - m) % n) 0 | _ => false) (rngD (-w) (w + 1 + w).toNat) := by rw [hf]; simp
          obtain ⟨hy1, hy2⟩ := List.mem_filter.mp hy
          obtain ⟨i, hi, rfl⟩ := List.mem_map.mp hy1
          have hi := List.mem_range.mp hi
          have hy2 : eqI ((x + (-w + (i : Int)) - m) % n) 0 = true := hy2
          rw [eqI_t] at hy2
          have : UpI n m x w := by
            have e := Int.emod_add_mul_ediv (x + (-w + (i : Int)) - m) n
            refine ⟨-w + i, -((x + (-w + (i : Int)) - m) / n), by omega, by omega, ?_⟩
            rw [Int.neg_mul, Int.mul_comm _ n]
            omega
          rw [← upP_iff hn hw hw2] at this
          rw [this]
          simp
      rw [e]
      exact h
/-- whether all gates are up, by the wheels -/
theorem sp_law_is_open {g : Gs} {n s : Int} {ps xs ws : List Int} {Q : D → Gs → Prop} (hL : LockOk ps xs s) (hn : 24 ≤ n) (hl : ws.length = ps.length) (h : Q (.bl (upB n s ws xs)) g) : wp (F__law_is_open [LockD ps xs s, .int n, .lst (ws.map .int)] g) Q := by
  unfold F__law_is_open
  rw [wp_fn (by rfl)]
  unfold m__law_is_open
  cases Two.of (show 1 ≤ ws.length by have := hL.l1; omega) (show ws.length ≤ 2 by have := hL.l2; omega) (show xs.length = ws.length by rw [hL.lx, hl]) with
  | one w x =>
    simp [LockD, zipD]
    refine sp_law_is_up hn hL.s0 hL.s2 ?_
    simp [upB] at h
    cases hu : upP n w x s <;> simp [hu] at h ⊢ <;> exact h
  | two w w' x x' =>
    simp [LockD, zipD]
    refine sp_law_is_up hn hL.s0 hL.s2 ?_
    simp [upB] at h
    cases hu : upP n w x s
    · simp [hu] at h ⊢
      exact h
    · simp [hu] at h ⊢
      refine sp_law_is_up hn hL.s0 hL.s2 ?_
      cases hu2 : upP n w' x' s <;> simp [hu2] at h ⊢ <;> exact h
/-! ### the library -/
theorem sp_places_of {g : Gs} {n d : Int} {ls : List Int} {Q : D → Gs → Prop} (hn : 24 ≤ n) (h1 : 1 ≤ ls.length) (h2 : ls.length ≤ 2) (h : Q (.tup ((d % n :: (wheelsP d ls).map (· % n)).map .int)) g) : wp (F_places_of [.int n, .int d, .tup (ls.map .int)] g) Q := by
  unfold F_places_of
  rw [wp_fn (by rfl)]
  unfold m_places_of
  have hn0 : 0 < n := by omega
  match ls, h1, h2 with
  | [l], _, _ =>
    simp [hn0]
    simpa [wheelsP] using h
  | [l, l'], _, _ =>
    simp [hn0]
    simpa [wheelsP] using h
theorem sp_all_up {g : Gs} {n d s : Int} {ps xs ls : List Int} {Q : D → Gs → Prop} (hL : LockOk ps xs s) (hn : 24 ≤ n) (hl : ls.length = ps.length) (h : Q (.bl (upB n s (wheelsP d ls) xs)) g) : wp (F_all_up [LockD ps xs s, .int n, .int d, .tup (ls.map .int)] g) Q := by
  unfold F_all_up
  rw [wp_fn (by rfl)]
  unfold m_all_up
  have l1 := hL.l1
  have l2 := hL.l2
  simp
  refine sp_places_of hn (by omega) (by omega) ?_
  cases Two.of (show 1 ≤ ls.length by omega) (show ls.length ≤ 2 by omega) (show xs.length = ls.length by rw [hL.lx, hl]) with
  | one l x =>
    simp [wheelsP, LockD]
    have e : cutD [D.int (d % n), D.int ((d - l) % n)] (some 1) none = [D.int ((d - l) % n)] := rfl
    rw [e]
    simp [zipD]
    refine sp_is_up hn ?_
    have e2 : [D.bl (upP n ((d - l) % n) x s)] = [upP n ((d - l) % n) x s].map D.bl := rfl
    rw [e2, oAll_lst]
    simpa [upB, wheelsP, upP_mod] using h
  | two l l' x x' =>
    simp [wheelsP, LockD]
    have e : cutD [D.int (d % n), D.int ((d - l) % n), D.int ((d - l - l') % n)] (some 1) none = [D.int ((d - l) % n), D.int ((d - l - l') % n)] := rfl
    rw [e]
    simp [zipD]
    refine sp_is_up hn ?_
    refine sp_is_up hn ?_
    have e2 : [D.bl (upP n ((d - l) % n) x s), D.bl (upP n ((d - l - l') % n) x' s)] = [upP n ((d - l) % n) x s, upP n ((d - l - l') % n) x' s].map D.bl := rfl
    rw [e2, oAll_lst]
    simpa [upB, wheelsP, upP_mod] using h
def loP (ps : List Int) : List Int := ps.map fun _ => 0
def hiP (n : Int) (ps : List Int) : List Int := ps.map (n - ·)
theorem sp_lowest {g : Gs} {s : Int} {ps xs : List Int} {Q : D → Gs → Prop} (hL : LockOk ps xs s) (h : Q (.tup ((loP ps).map .int)) g) : wp (F_lowest [LockD ps xs s] g) Q := by
  unfold F_lowest
  rw [wp_fn (by rfl)]
  unfold m_lowest
  cases Two.of hL.l1 hL.l2 hL.lx with
  | one p x => simpa [LockD, loP] using h
  | two p p' x x' => simpa [LockD, loP] using h
theorem sp_highest {g : Gs} {n s : Int} {ps xs : List Int} {Q : D → Gs → Prop} (hL : LockOk ps xs s) (h : Q (.tup ((hiP n ps).map .int)) g) : wp (F_highest [LockD ps xs s, .int n] g) Q := by
  unfold F_highest
  rw [wp_fn (by rfl)]
  unfold m_highest
  cases Two.of hL.l1 hL.l2 hL.lx with
  | one p x => simpa [LockD, hiP] using h
  | two p p' x x' => simpa [LockD, hiP] using h
/-- by how much the dial is ahead of each wheel -/
def farP : List Int → List Int
  | [l] => [l]
  | [l, l'] => [l, l + l']
  | _ => []
theorem sp_behind_dial {g : Gs} {ls : List Int} {Q : D → Gs → Prop} (h1 : 1 ≤ ls.length) (h2 : ls.length ≤ 2) (h : Q (.tup ((farP ls).map .int)) g) : wp (F_behind_dial [.tup (ls.map .int)] g) Q := by
  have e : ls = lagsP 0 (wheelsP 0 ls) := lags_wheels.symm
  rw [e]
  refine sp_bdial (by rw [wheelsP_len]; exact h1) (by rw [wheelsP_len]; exact h2) ?_
  have e2 : distP 0 (wheelsP 0 ls) = farP ls := by
    match ls, h1, h2 with
    | [l], _, _ => simp [distP, wheelsP, farP]
    | [l, l'], _, _ =>
      simp [distP, wheelsP, farP]
      omega
  rw [e2]
  exact h
def runL (n : Int) (ps : List Int) (ts : List (Int × Int)) (ls : List Int) : List Int := (runP n ps ts 0 ls []).2.1
def runD (n : Int) (ts : List (Int × Int)) : Int := (ts.map fun t => t.1 * n + t.2).sum
theorem runP_dial {n : Int} {ps : List Int} : ∀ {ts : List (Int × Int)} {d : Int} {ls fe : List Int}, (runP n ps ts d ls fe).1 = d + runD n ts
  | [], d, ls, fe => by simp [runP, runD]
  | t :: ts, d, ls, fe => by
    rw [runP, runP_dial]
    simp only [runD, List.map_cons, List.sum_cons]
    omega
theorem runL_len {n : Int} {ps ls : List Int} {ts : List (Int × Int)} (h : ls.length = ps.length) : (runL n ps ts ls).length = ps.length := runP_len h
structure TsOk (ts : List (Int × Int)) : Prop where
  ok : ∀ t ∈ ts, TurnOk t
  len : ts.length ≤ 5
/-- the spans: of the ends -/
def spanP (n : Int) (ps : List Int) (ts : List (Int × Int)) : List D := zipD ((farP (runL n ps ts (loP ps))).map .int) ((farP (runL n ps ts (hiP n ps))).map .int)
theorem farP_len {ls : List Int} (h1 : 1 ≤ ls.length) (h2 : ls.length ≤ 2) : (farP ls).length = ls.length := by
  match ls, h1, h2 with
  | [l], _, _ => rfl
  | [l, l'], _, _ => rfl
theorem sp_spans_of {g : Gs} {n s : Int} {ps xs : List Int} {ts : List (Int × Int)} {Q : D → Gs → Prop} (hL : LockOk ps xs s) (hn : 24 ≤ n) (hn2 : n ≤ 10 ^ 30) (ht : TsOk ts) (h : Q (.tup [.int (runD n ts), .lst (spanP n ps ts)]) g) : wp (F_spans_of [LockD ps xs s, .int n, .tup (ts.map TurnD)] g) Q := by
  unfold F_spans_of
  rw [wp_fn (by rfl)]
  unfold m_spans_of
  have l1 := hL.l1
  have l2 := hL.l2
  have hlo : (loP ps).length = ps.length := by simp [loP]
  have hhi : (hiP n ps).length = ps.length := by simp [hiP]
  simp
  refine sp_lowest hL ?_
  refine sp_run hL hlo hn hn2 ht.ok ht.len ?_
  simp
  refine sp_highest hL ?_
  refine sp_run hL hhi hn hn2 ht.ok ht.len ?_
  simp
  have r1 : (runL n ps ts (loP ps)).length = ps.length := runL_len hlo
  have r2 : (runL n ps ts (hiP n ps)).length = ps.length := runL_len hhi
  refine sp_behind_dial (by show 1 ≤ (runL n ps ts (loP ps)).length; omega) (by show (runL n ps ts (loP ps)).length ≤ 2; omega) ?_
  refine sp_behind_dial (by show 1 ≤ (runL n ps ts (hiP n ps)).length; omega) (by show (runL n ps ts (hiP n ps)).length ≤ 2; omega) ?_
  have f1 : (farP (runL n ps ts (loP ps))).length = ps.length := by rw [farP_len (by omega) (by omega), r1]
  rw [oLZip_tup]
  refine ⟨?_, ?_⟩
  · rw [zipD_len]
    simp [runL] at f1 ⊢
    omega
  · rw [runP_dial, Int.zero_add]
    exact h
/-- up, wherever between two ends -/
def spanUp (n d lo hi x w : Int) : Bool := if hi - lo > 2 * w then false else (List.range (hi + 1 - lo).toNat).all fun (i : Nat) => upP n (d - (lo + (i : Int))) x w
theorem spanUp_iff {n d lo hi x w : Int} (hn : 24 ≤ n) (hw : 0 ≤ w) (hw2 : w ≤ 2) (hl : lo ≤ hi) : spanUp n d lo hi x w = true ↔ ∀ f, lo ≤ f → f ≤ hi → upP n (d - f) x w = true := by
  unfold spanUp
  split
  · rename_i hc
    refine ⟨nofun, fun h => ?_⟩
    have := up_gap hn hw hw2 (fun f h1 h2 => (upP_iff hn hw hw2).mp (h f h1 h2)) hl
    omega
  · rw [List.all_eq_true]
    constructor
    · intro h f h1 h2
      have := h (f - lo).toNat (List.mem_range.mpr (by omega))
      rw [show lo + ((f - lo).toNat : Int) = f by omega] at this
      exact this
    · intro h i hi
      have := List.mem_range.mp hi
      exact h _ (by omega) (by omega)
theorem sp_always_up {g : Gs} {n d lo hi x w : Int} {Q : D → Gs → Prop} (hn : 24 ≤ n) (hw : 0 ≤ w) (hw2 : w ≤ 2) (h : Q (.bl (spanUp n d lo hi x w)) g) : wp (F_always_up [.int n, .int d, .tup [.int lo, .int hi], .int x, .int w] g) Q := by
  unfold F_always_up
  rw [wp_fn (by rfl)]
  unfold m_always_up
  have b1 : big 2 = true := big_s
  have b2 : big w = true := big_s
  unfold spanUp at h
  simp [b1, b2]
  by_cases hc : 2 * w < hi - lo
  · simp [hc] at h ⊢
    exact h
  · have hc2 : ¬ (hi - lo > 2 * w) := hc
    rw [if_neg hc2] at h
    simp [hc]
    refine wp_lcMap (fun dd => match dd with | .int f => .bl (upP n (d - f) x w) | _ => .non) (fun dd hd => ?_) ?_
    · obtain ⟨i, hi, rfl⟩ := List.mem_map.mp hd
      simp
      exact sp_is_up hn ⟨rfl, rfl⟩
    · refine ⟨by simp [rngD]; omega, ?_⟩
      have e : (rngD lo (hi + 1 - lo).toNat).map (fun dd => match dd with | .int f => D.bl (upP n (d - f) x w) | _ => .non) = ((List.range (hi + 1 - lo).toNat).map fun (i : Nat) => upP n (d - (lo + (i : Int))) x w).map D.bl := by
        simp [rngD, Function.comp_def]
      rw [e, oAll_lst, List.all_map]
      exact h
/-- whether a script opens from all, by the spans -/
def openAll (n s : Int) (ps xs : List Int) (ts : List (Int × Int)) : Bool :=
  match farP (runL n ps ts (loP ps)), farP (runL n ps ts (hiP n ps)), xs with
  | [a], [b], [x] => spanUp n (runD n ts) a b x s
  | [a, a'], [b, b'], [x, x'] => spanUp n (runD n ts) a b x s && spanUp n (runD n ts) a' b' x' s
  | _, _, _ => false
theorem sp_opens_from_all {g : Gs} {n s : Int} {ps xs : List Int} {ts : List (Int × Int)} {Q : D → Gs → Prop} (hL : LockOk ps xs s) (hn : 24 ≤ n) (hn2 : n ≤ 10 ^ 30) (ht : TsOk ts) (h : Q (.bl (openAll n s ps xs ts)) g) : wp (F_opens_from_all [LockD ps xs s, .int n, .tup (ts.map TurnD)] g) Q := by
  unfold F_opens_from_all
  rw [wp_fn (by rfl)]
  unfold m_opens_from_all
  have l1 := hL.l1
  have l2 := hL.l2
  have hlo : (loP ps).length = ps.length := by simp [loP]
  have hhi : (hiP n ps).length = ps.length := by simp [hiP]
  have r1 : (runL n ps ts (loP ps)).length = ps.length := runL_len hlo
  have r2 : (runL n ps ts (hiP n ps)).length = ps.length := runL_len hhi
  have f1 := farP_len (ls := runL n ps ts (loP ps)) (by omega) (by omega)
  have f2 := farP_len (ls := runL n ps ts (hiP n ps)) (by omega) (by omega)
  simp
  refine sp_spans_of hL hn hn2 ht ?_
  simp
  unfold openAll at h
  unfold spanP
  generalize farP (runL n ps ts (loP ps)) = as at h f1
  generalize farP (runL n ps ts (hiP n ps)) = bs at h f2
  cases Two.of (show 1 ≤ as.length by omega) (show as.length ≤ 2 by omega) (show bs.length = as.length by omega) with
  | one a b =>
    cases Two.of (show 1 ≤ [a].length by simp) (by simp) (show xs.length = [a].length by have := hL.lx; omega) with
    | one _ x =>
      simp [zipD, LockD]
      refine sp_always_up hn hL.s0 hL.s2 ?_
      have e2 : [D.bl (spanUp n (runD n ts) a b x s)] = [spanUp n (runD n ts) a b x s].map D.bl := rfl
      rw [e2, oAll_lst]
      simpa using h
  | two a a' b b' =>
    cases Two.of (show 1 ≤ [a, a'].length by simp) (by simp) (show xs.length = [a, a'].length by have := hL.lx; omega) with
    | two _ _ x x' =>
      simp [zipD, LockD]
      refine sp_always_up hn hL.s0 hL.s2 ?_
      refine sp_always_up hn hL.s0 hL.s2 ?_
      have e2 : [D.bl (spanUp n (runD n ts) a b x s), D.bl (spanUp n (runD n ts) a' b' x' s)] = [spanUp n (runD n ts) a b x s, spanUp n (runD n ts) a' b' x' s].map D.bl := rfl
      rw [e2, oAll_lst]
      simpa using h
def settleP (n : Int) (ps : List Int) (ts : List (Int × Int)) : Bool := decide (farP (runL n ps ts (loP ps)) = farP (runL n ps ts (hiP n ps)))
theorem sp_does_settle {g : Gs} {n s : Int} {ps xs : List Int} {ts : List (Int × Int)} {Q : D → Gs → Prop} (hL : LockOk ps xs s) (hn : 24 ≤ n) (hn2 : n ≤ 10 ^ 30) (ht : TsOk ts) (h : Q (.bl (settleP n ps ts)) g) : wp (F_does_settle [LockD ps xs s, .int n, .tup (ts.map TurnD)] g) Q := by
  unfold F_does_settle
  rw [wp_fn (by rfl)]
  unfold m_does_settle
  have l1 := hL.l1
  have l2 := hL.l2
  have hlo : (loP ps).length = ps.length := by simp [loP]
  have hhi : (hiP n ps).length = ps.length := by simp [hiP]
  have r1 : (runL n ps ts (loP ps)).length = ps.length := runL_len hlo
  have r2 : (runL n ps ts (hiP n ps)).length = ps.length := runL_len hhi
  have f1 := farP_len (ls := runL n ps ts (loP ps)) (by omega) (by omega)
  have f2 := farP_len (ls := runL n ps ts (hiP n ps)) (by omega) (by omega)
  simp
  refine sp_spans_of hL hn hn2 ht ?_
  simp
  unfold settleP at h
  unfold spanP
  generalize farP (runL n ps ts (loP ps)) = as at h f1
  generalize farP (runL n ps ts (hiP n ps)) = bs at h f2
  cases Two.of (show 1 ≤ as.length by omega) (show as.length ≤ 2 by omega) (show bs.length = as.length by omega) with
  | one a b =>
    simp [zipD]
    have e2 : [D.bl (eqI a b)] = [eqI a b].map D.bl := rfl
    rw [e2, oAll_lst]
    simpa [eqI] using h
  | two a a' b b' =>
    simp [zipD]
    have e2 : [D.bl (eqI a b), D.bl (eqI a' b')] = [eqI a b, eqI a' b'].map D.bl := rfl
    rw [e2, oAll_lst]
    simpa [eqI] using h
theorem sp_opens {g : Gs} {n s : Int} {ps xs ls : List Int} {ts : List (Int × Int)} {Q : D → Gs → Prop} (hL : LockOk ps xs s) (hs : SetOk n ps ls) (hn : 24 ≤ n) (hn2 : n ≤ 10 ^ 30) (ht : TsOk ts) (h : Q (.bl (upB n s (wheelsP (runD n ts) (runL n ps ts ls)) xs)) g) : wp (F_opens [LockD ps xs s, .int n, .tup (ls.map .int), .tup (ts.map TurnD)] g) Q := by
  unfold F_opens
  rw [wp_fn (by rfl)]
  unfold m_opens
  simp
  refine sp_need_lock hL ?_
  refine sp_need_marks hn hn2 ?_
  refine sp_need_setting hL hs ?_
  refine sp_need_script ht.ok ht.len ?_
  refine sp_run hL hs.len hn hn2 ht.ok ht.len ?_
  simp
  rw [runP_dial, Int.zero_add]
  exact sp_all_up hL hn (runL_len hs.len) h
theorem sp_spans {g : Gs} {n s : Int} {ps xs : List Int} {ts : List (Int × Int)} {Q : D → Gs → Prop} (hL : LockOk ps xs s) (hn : 24 ≤ n) (hn2 : n ≤ 10 ^ 30) (ht : TsOk ts) (h : Q (.lst (spanP n ps ts)) g) : wp (F_spans [LockD ps xs s, .int n, .tup (ts.map TurnD)] g) Q := by
  unfold F_spans
  rw [wp_fn (by rfl)]
  unfold m_spans
  simp
  refine sp_need_lock hL ?_
  refine sp_need_marks hn hn2 ?_
  refine sp_need_script ht.ok ht.len ?_
  refine sp_spans_of hL hn hn2 ht ?_
  simpa using h
theorem sp_settles {g : Gs} {n s : Int} {ps xs : List Int} {ts : List (Int × Int)} {Q : D → Gs → Prop} (hL : LockOk ps xs s) (hn : 24 ≤ n) (hn2 : n ≤ 10 ^ 30) (ht : TsOk ts) (h : Q (.bl (settleP n ps ts)) g) : wp (F_settles [LockD ps xs s, .int n, .tup (ts.map TurnD)] g) Q := by
  unfold F_settles
  rw [wp_fn (by rfl)]
  unfold m_settles
  simp
  refine sp_need_lock hL ?_
  refine sp_need_marks hn hn2 ?_
  refine sp_need_script ht.ok ht.len ?_
  exact sp_does_settle hL hn hn2 ht h
theorem sp_opens_all {g : Gs} {n s : Int} {ps xs : List Int} {ts : List (Int × Int)} {Q : D → Gs → Prop} (hL : LockOk ps xs s) (hn : 24 ≤ n) (hn2 : n ≤ 10 ^ 30) (ht : TsOk ts) (h : Q (.bl (openAll n s ps xs ts)) g) : wp (F_opens_all [LockD ps xs s, .int n, .tup (ts.map TurnD)] g) Q := by
  unfold F_opens_all
  rw [wp_fn (by rfl)]
  unfold m_opens_all
  simp
  refine sp_need_lock hL ?_
  refine sp_need_marks hn hn2 ?_
  refine sp_need_script ht.ok ht.len ?_
  exact sp_opens_from_all hL hn hn2 ht h
end Cm

set_option Elab.async false
set_option linter.all false
set_option maxRecDepth 100000
set_option maxHeartbeats 1000000
namespace Cm
open PySem PySem.Spec L2 Sh
@[simp] theorem oIs_bl {a b : Bool} {g : Gs} {Q : D → Gs → Prop} : wp (oIs (.bl a) (.bl b) g) Q = Q (.bl (a == b)) g := rfl
@[simp] theorem oIsN_bl {a b : Bool} {g : Gs} {Q : D → Gs → Prop} : wp (oIsN (.bl a) (.bl b) g) Q = Q (.bl (!(a == b))) g := rfl
@[simp] theorem oIs_non {x : D} {g : Gs} {Q : D → Gs → Prop} : wp (oIs x .non g) Q = Q (.bl (isNon x)) g := by cases x <;> rfl
@[simp] theorem oIsN_non {x : D} {g : Gs} {Q : D → Gs → Prop} : wp (oIsN x .non g) Q = Q (.bl (!isNon x)) g := by cases x <;> rfl
theorem sp_turnsI {g : Gs} {l : Nat} {m b : Int} {Q : D → Gs → Prop} (h0 : 0 ≤ m) (hm : m ≤ 5) (hD : Dk g l b) (hb : b ≤ 10000000) (h : ∀ (ts : List (Int × Int)) g', (ts.length : Int) ≤ m → (∀ t ∈ ts, TurnOk t) → Dk g' l (b + 20) → Q (.tup (ts.map TurnD)) g') : wp (F__law_turns [.loc l, .int m] g) Q := by
  obtain ⟨k, rfl⟩ : ∃ k : Nat, m = (k : Int) := ⟨m.toNat, by omega⟩
  exact sp_turnsN (m := k) (by omega) hD hb fun ts g' h1 h2 h3 => h ts g' (by omega) h2 h3
theorem wheels_lags {d : Int} {ws : List Int} : wheelsP d (lagsP d ws) = ws := by
  induction ws generalizing d with
  | nil => rfl
  | cons w ws ih =>
    simp only [wheelsP, lagsP]
    rw [show d - (d - w) = w by omega, ih]
def runF (n : Int) (ps : List Int) (ts : List (Int × Int)) (ls : List Int) : List Int := (runP n ps ts 0 ls []).2.2
theorem LockOk.pn {ps xs : List Int} {s n : Int} (hL : LockOk ps xs s) (hn : 24 ≤ n) : ∀ p ∈ ps, p ≤ n := fun p h => by
  have := hL.p p h
  omega
/-- the law's reckoning, by the library's -/
theorem behind_eq {n s : Int} {ps xs ls : List Int} {ts : List (Int × Int)} (hL : LockOk ps xs s) (hn : 24 ≤ n) (hl : ls.length = ps.length) :
    behindP n ps ts 0 (wheelsP 0 ls) [] = (runD n ts, wheelsP (runD n ts) (runL n ps ts ls), runF n ps ts ls) := by
  have R := run_eq (n := n) (ps := ps) (hL.pn hn) (ts := ts) (d := 0) (ws := wheelsP 0 ls) (fe := []) (by rw [wheelsP_len, hl])
  rw [lags_wheels] at R
  have e1 : (runP n ps ts 0 ls []).1 = runD n ts := by rw [runP_dial, Int.zero_add]
  unfold runL runF
  rw [← e1, R]
  simp only [wheels_lags]
theorem sp_lbeh {g : Gs} {n s : Int} {ps xs ls : List Int} {ts : List (Int × Int)} {Q : D → Gs → Prop} (hL : LockOk ps xs s) (hl : ls.length = ps.length) (hn : 24 ≤ n) (hn2 : n ≤ 10 ^ 30) (ht : TsOk ts)
    (h : Q (.tup [.int (runD n ts), .lst ((wheelsP (runD n ts) (runL n ps ts ls)).map .int), .tup ((runF n ps ts ls).map .int)]) g) : wp (F__law_behind [LockD ps xs s, .int n, .tup (ls.map .int), .tup (ts.map TurnD)] g) Q := by
  refine sp_lbehind hL hl hn hn2 ht.ok ht.len ?_
  rw [behind_eq hL hn hl]
  exact h
theorem dist_far {d : Int} {ls : List Int} (h1 : 1 ≤ ls.length) (h2 : ls.length ≤ 2) : distP d (wheelsP d ls) = farP ls := by
  match ls, h1, h2 with
  | [l], _, _ => simp [distP, wheelsP, farP]; omega
  | [l, l'], _, _ => simp [distP, wheelsP, farP]; omega
theorem runF_len {n : Int} {ps : List Int} : ∀ {ts : List (Int × Int)} {d : Int} {ls fe : List Int}, (runP n ps ts d ls fe).2.2.length = fe.length + ts.length
  | [], _, _, fe => by simp [runP]
  | t :: ts, d, ls, fe => by
    rw [runP, runF_len]
    simp
    omega
theorem LeL.refl : ∀ (as : List Int), LeL as as
  | [] => .nil
  | _ :: as => .cons (Int.le_refl _) (LeL.refl as)
theorem SetOk.lo {n : Int} {ps ls : List Int} (h : SetOk n ps ls) : LeL (loP ps) ls := by
  induction h with
  | nil => exact .nil
  | cons a _ _ ih => exact .cons a ih
theorem SetOk.hi {n : Int} {ps ls : List Int} (h : SetOk n ps ls) : LeL ls (hiP n ps) := by
  induction h with
  | nil => exact .nil
  | cons _ b _ ih => exact .cons b ih
theorem runL_mono {n : Int} {ps ls ls' : List Int} {ts : List (Int × Int)} (h : LeL ls ls') : LeL (runL n ps ts ls) (runL n ps ts ls') := run_mono h
theorem sp_known {g : Gs} {Q : D → Gs → Prop} (h : Q (.tup [LockD [3] [7] 0, LockD [1, 2] [5, 9] 0, LockD [2, 3] [4, 6] 0, LockD [2, 3] [4, 6] 1]) g) : wp (F__law_known [] g) Q := by
  have e : F__law_known [] g = .ok (.tup [LockD [3] [7] 0, LockD [1, 2] [5, 9] 0, LockD [2, 3] [4, 6] 0, LockD [2, 3] [4, 6] 1]) g := rfl
  rw [e]
  exact h
theorem sp_deck {g : Gs} {c k : Int} {Q : D → Gs → Prop} (h0 : 0 ≤ k) (hk : k ≤ 1000) (h : ∀ l g', Dk g' l k → Q (.loc l) g') : wp (F__law_deck [.int c, .int k] g) Q := by
  unfold F__law_deck
  rw [wp_fn (by rfl)]
  unfold m__law_deck
  have m1 : 0 ≤ c % 2147483579 := Int.emod_nonneg _ (by omega)
  have m2 : c % 2147483579 < 2147483579 := Int.emod_lt_of_pos _ (by omega)
  have key : ∀ x : Int, Dk (g ++ [.lst [.int x, .int (c % 2147483579), .int k]]) g.length k := fun x => ⟨x, c % 2147483579, k, by unfold getLs; simp, m1, m2, by omega, by omega⟩
  simp
  split
  · exact h _ _ (key _)
  · exact h _ _ (key _)
theorem cut_intsK {ns : List Int} {m : Int} {k : Nat} {d : D} (h : (cutD (.int 0 :: ns.map .int) none (some m))[k]? = some d) : ∃ c, d = .int c := by
  have hm := List.mem_of_getElem? h
  unfold cutD at hm
  have hm := List.mem_of_mem_drop (List.mem_of_mem_take hm)
  rcases List.mem_cons.mp hm with rfl | hm
  · exact ⟨_, rfl⟩
  · obtain ⟨i, _, rfl⟩ := List.mem_map.mp hm
    exact ⟨i, rfl⟩
theorem TsOk.app {a b : List (Int × Int)} (h1 : ∀ t ∈ a, TurnOk t) (h2 : ∀ t ∈ b, TurnOk t) (h3 : a.length + b.length ≤ 5) : TsOk (a ++ b) :=
  ⟨fun t h => (List.mem_append.mp h).elim (h1 t) (h2 t), by rw [List.length_append]; exact h3⟩
/-! ### setting_behind, places, felt -/
theorem sp_setting_behind {g : Gs} {n s : Int} {ps xs ls : List Int} {ts : List (Int × Int)} {Q : D → Gs → Prop} (hL : LockOk ps xs s) (hs : SetOk n ps ls) (hn : 24 ≤ n) (hn2 : n ≤ 10 ^ 30) (ht : TsOk ts) (h : Q (.tup ((runL n ps ts ls).map .int)) g) : wp (F_setting_behind [LockD ps xs s, .int n, .tup (ls.map .int), .tup (ts.map TurnD)] g) Q := by
  unfold F_setting_behind
  rw [wp_fn (by rfl)]
  unfold m_setting_behind
  simp
  refine sp_need_lock hL ?_
  refine sp_need_marks hn hn2 ?_
  refine sp_need_setting hL hs ?_
  refine sp_need_script ht.ok ht.len ?_
  refine sp_run hL hs.len hn hn2 ht.ok ht.len ?_
  simp
  exact h
theorem sp_places {g : Gs} {n s : Int} {ps xs ls : List Int} {ts : List (Int × Int)} {Q : D → Gs → Prop} (hL : LockOk ps xs s) (hs : SetOk n ps ls) (hn : 24 ≤ n) (hn2 : n ≤ 10 ^ 30) (ht : TsOk ts) (h : Q (.tup ((runD n ts % n :: (wheelsP (runD n ts) (runL n ps ts ls)).map (· % n)).map .int)) g) : wp (F_places [LockD ps xs s, .int n, .tup (ls.map .int), .tup (ts.map TurnD)] g) Q := by
  unfold F_places
  rw [wp_fn (by rfl)]
  unfold m_places
  simp
  refine sp_need_lock hL ?_
  refine sp_need_marks hn hn2 ?_
  refine sp_need_setting hL hs ?_
  refine sp_need_script ht.ok ht.len ?_
  refine sp_run hL hs.len hn hn2 ht.ok ht.len ?_
  simp
  have l1 := hL.l1
  have l2 := hL.l2
  have r1 : (runL n ps ts ls).length = ps.length := runL_len hs.len
  rw [runP_dial, Int.zero_add]
  exact sp_places_of hn (by show 1 ≤ (runL n ps ts ls).length; omega) (by show (runL n ps ts ls).length ≤ 2; omega) h
theorem sp_felt {g : Gs} {n s : Int} {ps xs ls : List Int} {ts : List (Int × Int)} {Q : D → Gs → Prop} (hL : LockOk ps xs s) (hs : SetOk n ps ls) (hn : 24 ≤ n) (hn2 : n ≤ 10 ^ 30) (ht : TsOk ts) (h : Q (.tup ((runF n ps ts ls).map .int)) g) : wp (F_felt [LockD ps xs s, .int n, .tup (ls.map .int), .tup (ts.map TurnD)] g) Q := by
  unfold F_felt
  rw [wp_fn (by rfl)]
  unfold m_felt
  simp
  refine sp_need_lock hL ?_
  refine sp_need_marks hn hn2 ?_
  refine sp_need_setting hL hs ?_
  refine sp_need_script ht.ok ht.len ?_
  refine sp_run hL hs.len hn hn2 ht.ok ht.len ?_
  simp
  exact h
end Cm

set_option Elab.async false
set_option linter.all false
set_option maxRecDepth 100000
set_option maxHeartbeats 1000000
namespace Cm
open PySem PySem.Spec L2 Sh
/-! ### all settings, one by one -/
def extS (n p : Int) (row : List Int) : List (List Int) := (List.range (n - p + 1).toNat).map fun (i : Nat) => row ++ [(i : Int)]
def rowsF (n : Int) : List (List Int) → List Int → List (List Int)
  | rows, [] => rows
  | rows, p :: ps => rowsF n (rows.flatMap (extS n p)) ps
def allS (n : Int) (ps : List Int) : List (List Int) := rowsF n [[]] ps
theorem mem_rowsF {n : Int} : ∀ {ps : List Int} {rows : List (List Int)} {ls : List Int}, ls ∈ rowsF n rows ps ↔ ∃ row ∈ rows, ∃ t, SetOk n ps t ∧ ls = row ++ t
  | [], rows, ls => by
    constructor
    · exact fun h => ⟨ls, h, [], .nil, by simp⟩
    · rintro ⟨row, h, t, ht, rfl⟩
      cases ht
      simpa [rowsF] using h
  | p :: ps, rows, ls => by
    rw [rowsF, mem_rowsF]
    constructor
    · rintro ⟨row, h, t, ht, rfl⟩
      obtain ⟨r, hr, h⟩ := List.mem_flatMap.mp h
      obtain ⟨i, hi, rfl⟩ := List.mem_map.mp h
      have := List.mem_range.mp hi
      exact ⟨r, hr, (i : Int) :: t, .cons (by omega) (by omega) ht, by simp⟩
    · rintro ⟨r, hr, t, ht, rfl⟩
      cases ht with
      | @cons _ l _ ls h1 h2 ht =>
        refine ⟨r ++ [l], List.mem_flatMap.mpr ⟨r, hr, List.mem_map.mpr ⟨l.toNat, List.mem_range.mpr (by omega), by rw [Int.toNat_of_nonneg h1]⟩⟩, ls, ht, by simp⟩
theorem mem_allS {n : Int} {ps ls : List Int} : ls ∈ allS n ps ↔ SetOk n ps ls := by
  unfold allS
  rw [mem_rowsF]
  simp
theorem sum_same (c : Nat) : ∀ rows : List (List Int), (rows.map fun _ => c).sum = rows.length * c
  | [] => by simp
  | r :: rows => by
    rw [List.map_cons, List.sum_cons, sum_same c rows, List.length_cons, Nat.add_mul]
    omega
theorem rowsF_len {n : Int} {m : Nat} (hn : n ≤ m) : ∀ {ps : List Int} {rows : List (List Int)}, (∀ p ∈ ps, 1 ≤ p) → (rowsF n rows ps).length ≤ rows.length * m ^ ps.length
  | [], rows, _ => by simp [rowsF]
  | p :: ps, rows, hp => by
    rw [rowsF]
    refine Nat.le_trans (rowsF_len hn fun q hq => hp q (List.mem_cons_of_mem _ hq)) ?_
    have e : (rows.flatMap (extS n p)).length = rows.length * (n - p + 1).toNat := by
      rw [List.length_flatMap]
      simp only [extS, List.length_map, List.length_range]
      exact sum_same _ _
    rw [e, List.length_cons, Nat.pow_succ, Nat.mul_assoc, Nat.mul_comm (m ^ _) m]
    have := hp p (by simp)
    exact Nat.mul_le_mul_left _ (Nat.mul_le_mul_right _ (by omega))
theorem allS_len {n : Int} {ps : List Int} (hn2 : n ≤ 900) (h2 : ps.length ≤ 2) (hp : ∀ p ∈ ps, 1 ≤ p) : (allS n ps).length ≤ 810000 := by
  refine Nat.le_trans (rowsF_len (m := 900) hn2 hp) ?_
  have : 900 ^ ps.length ≤ 900 ^ 2 := Nat.pow_le_pow_right (by decide) h2
  simp
  omega
/-! ### step by step -/
inductive St1 : List Int → List Int → Prop
  | refl (as : List Int) : St1 as as
  | here {a : Int} {as : List Int} : St1 (a :: as) ((a + 1) :: as)
  | there {a : Int} {as bs : List Int} : St1 as bs → St1 (a :: as) (a :: bs)
theorem later_up {n l p k : Int} : (later n l p (k + 1) = later n l p k + 1) ∨ (later n l p (k + 1) = later n l p k) := by
  unfold later
  omega
theorem turned_k {n : Int} : ∀ {ps ls : List Int} {k : Int}, St1 (turnedP n ps ls k).1 (turnedP n ps ls (k + 1)).1
  | [], ls, k => by simp only [turnedP]; exact .refl _
  | p :: ps, [], k => by simp only [turnedP]; exact .refl _
  | p :: ps, l :: ls, k => by
    simp only [turnedP]
    rcases later_up (n := n) (l := l) (p := p) (k := k) with e | e
    · rw [e, show l + (k + 1) - (later n l p k + 1) = l + k - later n l p k by omega]
      exact .here
    · rw [e, show l + (k + 1) - later n l p k = (l + k - later n l p k) + 1 by omega]
      exact .there turned_k
theorem turned_l {n : Int} : ∀ {ps ls ls' : List Int} {k : Int}, St1 ls ls' → St1 (turnedP n ps ls k).1 (turnedP n ps ls' k).1
  | [], ls, ls', k, h => by
    have e : ∀ xs, (turnedP n [] xs k).1 = [] := fun xs => by simp [turnedP]
    rw [e, e]
    exact .refl _
  | p :: ps, _, _, k, .refl _ => .refl _
  | p :: ps, _, _, k, @St1.here l ls => by
    have e : turnedP n (p :: ps) ((l + 1) :: ls) k = turnedP n (p :: ps) (l :: ls) (k + 1) := by
      simp only [turnedP]
      have e1 : later n (l + 1) p k = later n l p (k + 1) := by unfold later; rw [show l + 1 + k = l + (k + 1) by omega]
      rw [e1, show l + 1 + k = l + (k + 1) by omega]
    rw [e]
    exact turned_k
  | p :: ps, _, _, k, .there h => by
    simp only [turnedP]
    exact .there (turned_l h)
theorem run_st1 {n : Int} {ps : List Int} : ∀ {ts : List (Int × Int)} {d : Int} {ls ls' fe fe' : List Int}, St1 ls ls' → St1 (runP n ps ts d ls fe).2.1 (runP n ps ts d ls' fe').2.1
  | [], d, ls, ls', fe, fe', h => h
  | t :: ts, d, ls, ls', fe, fe', h => by
    rw [runP, runP]
    exact run_st1 (turned_l h)
theorem ivt {φ : Nat → Int} : ∀ (m : Nat), (∀ k, k < m → φ (k + 1) = φ k ∨ φ (k + 1) = φ k + 1) → ∀ f, φ 0 ≤ f → f ≤ φ m → ∃ k, k ≤ m ∧ φ k = f
  | 0, _, f, h1, h2 => ⟨0, Nat.le_refl _, by omega⟩
  | m + 1, h, f, h1, h2 => by
    by_cases e : f ≤ φ m
    · obtain ⟨k, hk, ek⟩ := ivt m (fun k hk => h k (by omega)) f h1 e
      exact ⟨k, by omega, ek⟩
    · refine ⟨m + 1, Nat.le_refl _, ?_⟩
      have := h m (by omega)
      omega
/-- a way from the lowest setting to the highest -/
def wayS (n : Int) : List Int → Nat → List Int
  | [_], k => [(k : Int)]
  | [p, _], k => [min (k : Int) (n - p), max 0 ((k : Int) - (n - p))]
  | _, _ => []
def waySz (n : Int) : List Int → Nat
  | [p] => (n - p).toNat
  | [p, p'] => (n - p).toNat + (n - p').toNat
  | _ => 0
theorem way_set {n : Int} {ps : List Int} (h1 : 1 ≤ ps.length) (h2 : ps.length ≤ 2) (hp : ∀ p ∈ ps, p ≤ n) {k : Nat} (hk : k ≤ waySz n ps) : SetOk n ps (wayS n ps k) := by
  match ps, h1, h2 with
  | [p], _, _ =>
    have := hp p (by simp)
    simp only [waySz] at hk
    exact .cons (by omega) (by omega) .nil
  | [p, p'], _, _ =>
    have := hp p (by simp)
    have := hp p' (by simp)
    simp only [waySz] at hk
    exact .cons (by omega) (by omega) (.cons (by omega) (by omega) .nil)
theorem way_st1 {n : Int} {ps : List Int} (h1 : 1 ≤ ps.length) (h2 : ps.length ≤ 2) (hp : ∀ p ∈ ps, p ≤ n) {k : Nat} : St1 (wayS n ps k) (wayS n ps (k + 1)) := by
  match ps, h1, h2 with
  | [p], _, _ =>
    simp only [wayS]
    rw [show ((k + 1 : Nat) : Int) = (k : Int) + 1 by omega]
    exact .here
  | [p, p'], _, _ =>
    have := hp p (by simp)
    simp only [wayS]
    by_cases e : (k : Int) < n - p
    · rw [show min ((k + 1 : Nat) : Int) (n - p) = min (k : Int) (n - p) + 1 by omega, show max 0 (((k + 1 : Nat) : Int) - (n - p)) = max 0 ((k : Int) - (n - p)) by omega]
      exact .here
    · rw [show min ((k + 1 : Nat) : Int) (n - p) = min (k : Int) (n - p) by omega, show max 0 (((k + 1 : Nat) : Int) - (n - p)) = max 0 ((k : Int) - (n - p)) + 1 by omega]
      exact .there .here
theorem way_lo {n : Int} {ps : List Int} (h1 : 1 ≤ ps.length) (h2 : ps.length ≤ 2) (hp : ∀ p ∈ ps, p ≤ n) : wayS n ps 0 = loP ps := by
  match ps, h1, h2 with
  | [p], _, _ => rfl
  | [p, p'], _, _ =>
    have := hp p (by simp)
    simp only [wayS, loP, List.map]
    rw [show min ((0 : Nat) : Int) (n - p) = 0 by omega, show max 0 (((0 : Nat) : Int) - (n - p)) = 0 by omega]
theorem way_hi {n : Int} {ps : List Int} (h1 : 1 ≤ ps.length) (h2 : ps.length ≤ 2) (hp : ∀ p ∈ ps, p ≤ n) : wayS n ps (waySz n ps) = hiP n ps := by
  match ps, h1, h2 with
  | [p], _, _ =>
    have := hp p (by simp)
    simp only [wayS, waySz, hiP, List.map]
    rw [Int.toNat_of_nonneg (by omega)]
  | [p, p'], _, _ =>
    have := hp p (by simp)
    have := hp p' (by simp)
    simp only [wayS, waySz, hiP, List.map]
    rw [show min (((n - p).toNat + (n - p').toNat : Nat) : Int) (n - p) = n - p by omega, show max 0 ((((n - p).toNat + (n - p').toNat : Nat) : Int) - (n - p)) = n - p' by omega]
/-- how far the i-th wheel is behind the dial: each number between the ends is some setting's -/
theorem far_all {n : Int} {ps : List Int} {ts : List (Int × Int)} (h1 : 1 ≤ ps.length) (h2 : ps.length ≤ 2) (hp : ∀ p ∈ ps, p ≤ n) {i : Nat} {f a b : Int} (ea : (farP (runL n ps ts (loP ps)))[i]? = some a) (eb : (farP (runL n ps ts (hiP n ps)))[i]? = some b) (ha : a ≤ f) (hb : f ≤ b) :
    ∃ ls, SetOk n ps ls ∧ (farP (runL n ps ts ls))[i]? = some f := by
  let φ : Nat → Int := fun k => ((farP (runL n ps ts (wayS n ps k)))[i]?).getD 0
  have len : ∀ k, k ≤ waySz n ps → (runL n ps ts (wayS n ps k)).length = ps.length := fun k hk => runL_len (way_set h1 h2 hp hk).len
  have hi : i < ps.length := by
    have := (List.getElem?_eq_some_iff.mp ea).1
    have e := farP_len (ls := runL n ps ts (loP ps)) (by rw [runL_len (by simp [loP])]; exact h1) (by rw [runL_len (by simp [loP])]; exact h2)
    rw [e, runL_len (by simp [loP])] at this
    exact this
  have step : ∀ k, k < waySz n ps → φ (k + 1) = φ k ∨ φ (k + 1) = φ k + 1 := fun k hk => by
    have st : St1 (runL n ps ts (wayS n ps k)) (runL n ps ts (wayS n ps (k + 1))) := run_st1 (way_st1 h1 h2 hp)
    have l1 := len k (by omega)
    have l2 := len (k + 1) (by omega)
    show ((farP (runL n ps ts (wayS n ps (k + 1))))[i]?).getD 0 = ((farP (runL n ps ts (wayS n ps k)))[i]?).getD 0 ∨ ((farP (runL n ps ts (wayS n ps (k + 1))))[i]?).getD 0 = ((farP (runL n ps ts (wayS n ps k)))[i]?).getD 0 + 1
    revert st l1 l2
    generalize runL n ps ts (wayS n ps k) = as
    generalize runL n ps ts (wayS n ps (k + 1)) = bs
    intro st l1 l2
    match ps, h1, h2, as, bs, l1, l2, st with
    | [p], _, _, [x], [y], _, _, st =>
      have : i = 0 := by simpa using hi
      subst this
      cases st with
      | refl => left; rfl
      | here => right; rfl
      | there h => left; rfl
    | [p, p'], _, _, [x, x'], [y, y'], _, _, st =>
      have : i = 0 ∨ i = 1 := by simp at hi; omega
      rcases this with rfl | rfl
      · cases st with
        | refl => left; rfl
        | here => right; rfl
        | there h => left; rfl
      · cases st with
        | refl => left; rfl
        | here =>
          right
          show x + 1 + x' = x + x' + 1
          omega
        | there h =>
          cases h with
          | refl => left; rfl
          | here =>
            right
            show x + (x' + 1) = x + x' + 1
            omega
          | there h => left; rfl
  obtain ⟨k, hk, ek⟩ := ivt (φ := φ) (waySz n ps) step f (by show ((farP (runL n ps ts (wayS n ps 0)))[i]?).getD 0 ≤ f; rw [way_lo h1 h2 hp, ea]; exact ha) (by show f ≤ ((farP (runL n ps ts (wayS n ps (waySz n ps))))[i]?).getD 0; rw [way_hi h1 h2 hp, eb]; exact hb)
  have hs := way_set h1 h2 hp hk
  refine ⟨_, hs, ?_⟩
  have e := farP_len (ls := runL n ps ts (wayS n ps k)) (by rw [len k hk]; exact h1) (by rw [len k hk]; exact h2)
  have hi2 : i < (farP (runL n ps ts (wayS n ps k))).length := by rw [e, len k hk]; exact hi
  have ek2 : ((farP (runL n ps ts (wayS n ps k)))[i]?).getD 0 = f := ek
  rw [List.getElem?_eq_getElem hi2] at ek2 ⊢
  simpa using ek2
end Cm

set_option Elab.async false
set_option linter.all false
set_option maxRecDepth 100000
set_option maxHeartbeats 1000000
namespace Cm
open PySem PySem.Spec L2 Sh
/-! ### errors -/
theorem wp_try_ex {m : EM} {ρ : En} {g g' : Gs} {c : Str} {Q : D → Gs → Prop} (h : m ρ g = .ex ⟨c, []⟩ g') (hc : c ∈ plainN) (hq : Q (.str (kinStr c)) g') : wp (mTry m ρ g) Q := by
  unfold mTry
  rw [h]
  show wp (if ([] : List (Str × D)) = [] ∧ c ∈ plainN then Res.ok (D.str (kinStr c)) g' else .bad) Q
  rw [if_pos ⟨rfl, hc⟩]
  exact hq
theorem wp_try_ok {m : EM} {ρ : En} {g : Gs} {Q : D → Gs → Prop} (h : wp (m ρ g) fun d g' => Q (.tup [.str "told", d]) g') : wp (mTry m ρ g) Q := by
  obtain ⟨d, g', e, q⟩ := h.to
  unfold mTry
  rw [e]
  exact q
theorem kin_number : kinStr "InvalidNumber" = "number +" := by decide +kernel
theorem kin_script : kinStr "InvalidScript" = "script +" := by decide +kernel
theorem kin_setting : kinStr "InvalidSetting" = "setting +" := by decide +kernel
theorem kin_lock : kinStr "InvalidLock" = "lock +" := by decide +kernel
theorem kin_wheel : kinStr "InvalidWheel" = "wheel +" := by decide +kernel
theorem kin_felt : kinStr "InvalidFelt" = "felt +" := by decide +kernel
theorem kin_turn : kinStr "InvalidTurn" = "turn +" := by decide +kernel
@[simp] theorem eqD_str {x y : Str} : eqD (.str x) (.str y) = (x == y) := by unfold eqD; rfl
@[simp] theorem plain_str {n : Nat} {x : Str} : Sh.plain n (.str x) = true := by unfold Sh.plain; rfl
theorem ok_of {α : Type} {r : Res α} {x : α} {g : Gs} (h : wp r fun a g' => a = x ∧ g' = g) : r = .ok x g := by
  obtain ⟨a, g', e, rfl, rfl⟩ := h.to
  exact e
theorem ok_lock {g : Gs} {s : Int} {ps xs : List Int} (hL : LockOk ps xs s) : F_need_lock [LockD ps xs s] g = .ok .non g := ok_of (sp_need_lock hL ⟨rfl, rfl⟩)
theorem ok_marks {g : Gs} {n : Int} (hn : 24 ≤ n) (hn2 : n ≤ 10 ^ 30) : F_need_marks [.int n] g = .ok .non g := ok_of (sp_need_marks hn hn2 ⟨rfl, rfl⟩)
theorem ok_setting {g : Gs} {n s : Int} {ps xs ls : List Int} (hL : LockOk ps xs s) (hs : SetOk n ps ls) : F_need_setting [LockD ps xs s, .int n, .tup (ls.map .int)] g = .ok .non g := ok_of (sp_need_setting hL hs ⟨rfl, rfl⟩)
theorem spans_n {L n t : D} {g g' : Gs} {e : Xn} (h1 : F_need_lock [L] g = .ok .non g) (h2 : F_need_marks [n] g = .ex e g') : F_spans [L, n, t] g = .ex e g' := by
  unfold F_spans m_spans
  simp [mFn, runB, sSeq, sExpr, mN, mCons, mNil, mV, eS, Res.bind, stE, h1, h2]
theorem spans_s {L n t : D} {g g' : Gs} {e : Xn} (h1 : F_need_lock [L] g = .ok .non g) (h2 : F_need_marks [n] g = .ok .non g) (h3 : F_need_script [t] g = .ex e g') : F_spans [L, n, t] g = .ex e g' := by
  unfold F_spans m_spans
  simp [mFn, runB, sSeq, sExpr, mN, mCons, mNil, mV, eS, Res.bind, stE, h1, h2, h3]
theorem settles_n {L n t : D} {g g' : Gs} {e : Xn} (h1 : F_need_lock [L] g = .ok .non g) (h2 : F_need_marks [n] g = .ex e g') : F_settles [L, n, t] g = .ex e g' := by
  unfold F_settles m_settles
  simp [mFn, runB, sSeq, sExpr, mN, mCons, mNil, mV, eS, Res.bind, stE, h1, h2]
theorem settles_s {L n t : D} {g g' : Gs} {e : Xn} (h1 : F_need_lock [L] g = .ok .non g) (h2 : F_need_marks [n] g = .ok .non g) (h3 : F_need_script [t] g = .ex e g') : F_settles [L, n, t] g = .ex e g' := by
  unfold F_settles m_settles
  simp [mFn, runB, sSeq, sExpr, mN, mCons, mNil, mV, eS, Res.bind, stE, h1, h2, h3]
theorem opens_all_n {L n t : D} {g g' : Gs} {e : Xn} (h1 : F_need_lock [L] g = .ok .non g) (h2 : F_need_marks [n] g = .ex e g') : F_opens_all [L, n, t] g = .ex e g' := by
  unfold F_opens_all m_opens_all
  simp [mFn, runB, sSeq, sExpr, mN, mCons, mNil, mV, eS, Res.bind, stE, h1, h2]
theorem opens_all_s {L n t : D} {g g' : Gs} {e : Xn} (h1 : F_need_lock [L] g = .ok .non g) (h2 : F_need_marks [n] g = .ok .non g) (h3 : F_need_script [t] g = .ex e g') : F_opens_all [L, n, t] g = .ex e g' := by
  unfold F_opens_all m_opens_all
  simp [mFn, runB, sSeq, sExpr, mN, mCons, mNil, mV, eS, Res.bind, stE, h1, h2, h3]
theorem opens_n {L n l t : D} {g g' : Gs} {e : Xn} (h1 : F_need_lock [L] g = .ok .non g) (h2 : F_need_marks [n] g = .ex e g') : F_opens [L, n, l, t] g = .ex e g' := by
  unfold F_opens m_opens
  simp [mFn, runB, sSeq, sExpr, mN, mCons, mNil, mV, eS, Res.bind, stE, h1, h2]
theorem opens_l {L n l t : D} {g g' : Gs} {e : Xn} (h1 : F_need_lock [L] g = .ok .non g) (h2 : F_need_marks [n] g = .ok .non g) (h3 : F_need_setting [L, n, l] g = .ex e g') : F_opens [L, n, l, t] g = .ex e g' := by
  unfold F_opens m_opens
  simp [mFn, runB, sSeq, sExpr, mN, mCons, mNil, mV, eS, Res.bind, stE, h1, h2, h3]
/-- a setting that is no tuple -/
theorem setting_non {L n : D} {g : Gs} {ps xs : List Int} {s : Int} (hL : L = LockD ps xs s) : F_need_setting [L, n, .non] g = .ex ⟨"InvalidSetting", []⟩ g := by
  subst hL
  rfl
/-! ### all settings -/
def rowD (ls : List Int) : D := .tup (ls.map .int)
theorem ext_map {n p : Int} {row : List Int} : (rngD 0 (n - p + 1).toNat).map (fun d => match d with | .int i => D.tup (row.map .int ++ [.int i]) | _ => .non) = (extS n p row).map rowD := by
  unfold rngD extS rowD
  rw [List.map_map, List.map_map]
  refine List.map_congr_left fun i _ => ?_
  simp
theorem settings_inner {g : Gs} {n p : Int} {L s2 : D} {N : En → Gs → Prop} {R : D → Gs → Prop} : ∀ (rows acc : List (List Int)), (∀ row ∈ rows, row.length ≤ 1000) → acc.length + (rows.flatMap (extS n p)).length ≤ 1000000 →
    N [.d L, .d (.int n), .d s2, .d (.int p), .d (.lst ((acc ++ rows.flatMap (extS n p)).map rowD)), .no, .no] g →
    wpS (forGo (gNm 5) B1__law_settings (rows.map rowD) [.d L, .d (.int n), .d s2, .d (.int p), .d (.lst (acc.map rowD)), .no, .no] g) N R
  | [], acc, hr, hl, h => by simpa using h
  | row :: rows, acc, hr, hl, h => by
    rw [List.flatMap_cons, List.length_append] at hl
    have el : (extS n p row).length = (n - p + 1).toNat := by simp [extS]
    simp
    refine wp_lcMap (fun d => match d with | .int i => D.tup (row.map .int ++ [.int i]) | _ => .non) (fun d hd => ?_) ?_
    · obtain ⟨i, _, rfl⟩ := List.mem_map.mp hd
      simp [rowD]
      have := hr row (by simp)
      omega
    · rw [ext_map]
      refine ⟨by rw [List.length_map]; omega, by rw [List.length_map]; omega, ?_⟩
      rw [← List.map_append]
      refine settings_inner rows (acc ++ extS n p row) (fun r h => hr r (List.mem_cons_of_mem _ h)) (by rw [List.length_append]; omega) ?_
      rw [List.append_assoc, ← List.flatMap_cons]
      exact h
theorem sp_settings {g : Gs} {n s : Int} {ps xs : List Int} {Q : D → Gs → Prop} (hL : LockOk ps xs s) (hn2 : n ≤ 900) (h : Q (.lst ((allS n ps).map rowD)) g) : wp (F__law_settings [LockD ps xs s, .int n] g) Q := by
  unfold F__law_settings
  rw [wp_fn (by rfl)]
  unfold m__law_settings
  have hp : ∀ p ∈ ps, 1 ≤ p := fun p h => (hL.p p h).1
  have len := allS_len hn2 hL.l2 hp
  have first : ∀ (p : Int) (L : D) {QL : List D → Gs → Prop}, QL ((extS n p []).map rowD) g → wp (lcGo (gNm 6) bYes (mO oAdd (mV 5) (mN oTup (mCons (mV 6) mNil))) [Sl.d L, Sl.d (D.int n), Sl.d (D.lst [D.tup []]), Sl.d (D.int p), Sl.d (D.lst []), Sl.d (D.tup []), Sl.no] (rngD 0 (n - p + 1).toNat) g) QL := fun p L QL hq => by
    refine wp_lcMap (fun d => match d with | .int i => D.tup (([] : List Int).map .int ++ [.int i]) | _ => .non) (fun d hd => ?_) ?_
    · obtain ⟨i, _, rfl⟩ := List.mem_map.mp hd
      simp
    · rw [ext_map]
      exact hq
  have efl : ∀ p : Int, ([[]] : List (List Int)).flatMap (extS n p) = extS n p [] := fun p => by simp
  have el : ∀ p : Int, 1 ≤ p → (extS n p []).length ≤ 1000 := fun p hp => by simp [extS]; omega
  cases Two.of hL.l1 hL.l2 hL.lx with
  | one p x =>
    have e2 : allS n [p] = ([[]] : List (List Int)).flatMap (extS n p) := rfl
    rw [efl] at e2
    rw [e2] at h len
    simp [LockD]
    refine first p _ ?_
    have := el p (hp p (by simp))
    exact ⟨by rw [List.length_map]; omega, h⟩
  | two p p' x x' =>
    have e2 : allS n [p, p'] = (([[]] : List (List Int)).flatMap (extS n p)).flatMap (extS n p') := rfl
    rw [efl] at e2
    rw [e2] at h len
    simp [LockD]
    refine first p _ ?_
    have l1 := el p (hp p (by simp))
    refine ⟨by rw [List.length_map]; omega, ?_⟩
    refine settings_inner (n := n) (p := p') _ [] (fun r hr => ?_) (by simp at len ⊢; omega) ?_
    · obtain ⟨i, _, rfl⟩ := List.mem_map.mp hr
      simp
    · simpa using h
theorem eqDs_ints : ∀ (as bs : List Int), eqDs (as.map .int) (bs.map .int) = decide (as = bs)
  | [], [] => rfl
  | [], _ :: _ => rfl
  | _ :: _, [] => rfl
  | a :: as, b :: bs => by
    rw [List.map_cons, List.map_cons, eqDs, eqD_int, eqDs_ints as bs]
    unfold eqI
    by_cases h : a = b <;> by_cases h2 : as = bs <;> simp [h, h2]
theorem eqD_ints (as bs : List Int) : eqD (.lst (as.map .int)) (.lst (bs.map .int)) = decide (as = bs) := by
  rw [eqD, eqDs_ints]
theorem plain_ints (as : List Int) : Sh.plain 50 (.lst (as.map .int)) = true := by
  rw [Sh.plain]
  exact plains_ints
theorem same_pairs {g : Gs} {k : Nat} {as bs : List Int} {Q : D → Gs → Prop} (h : Q (.bl true) g) : wp (F__law_same (k + 3) [.lst (zipD (as.map .int) (bs.map .int)), .lst (zipD (as.map .int) (bs.map .int))] g) Q := by
  refine same_lst (k := k + 2) (fun x hx g Q h => ?_) h
  obtain ⟨j, hj⟩ := List.mem_iff_getElem?.mp hx
  obtain ⟨a, b, rfl, _, _⟩ := zipD_at hj
  refine same_tupD (k := k + 1) (fun y hy g Q h => ?_) h
  simp at hy
  rcases hy with rfl | rfl
  · exact same_int h
  · exact same_int h
theorem far_mono {as bs : List Int} (h : LeL as bs) (h1 : 1 ≤ as.length) (h2 : as.length ≤ 2) : LeL (farP as) (farP bs) := by
  cases h with
  | nil => simp at h1
  | cons a r =>
    cases r with
    | nil => exact .cons a .nil
    | cons b r =>
      cases r with
      | nil => exact .cons a (.cons (by omega) .nil)
      | cons _ _ => simp at h2
end Cm

set_option Elab.async false
set_option linter.all false
set_option maxRecDepth 100000
set_option maxHeartbeats 1000000
namespace Cm
open PySem PySem.Spec L2 Sh
section
variable {g : Gs} {Q : D → Gs → Prop} {xs : List D} {i a b : Int} {k : Bool} {s : Str}
theorem hi_tup : wp (F_has_items [.tup xs, .int a, .int b] g) Q = Q (.bl (leI a xs.length && leI xs.length b)) g := by
  unfold F_has_items
  rw [wp_fn (by rfl)]
  unfold m_has_items
  simp [isTy]
  by_cases h : a ≤ (xs.length : Int)
  · simp [h, leI_of h]
  · have e : leI a xs.length = false := leI_no h
    simp [h, e]
theorem hi_lst : wp (F_has_items [.lst xs, .int a, .int b] g) Q = Q (.bl false) g := by
  unfold F_has_items
  rw [wp_fn (by rfl)]
  unfold m_has_items
  simp [isTy]
theorem hi_non : wp (F_has_items [.non, .int a, .int b] g) Q = Q (.bl false) g := by
  unfold F_has_items
  rw [wp_fn (by rfl)]
  unfold m_has_items
  simp [isTy]
theorem hi_int : wp (F_has_items [.int i, .int a, .int b] g) Q = Q (.bl false) g := by
  unfold F_has_items
  rw [wp_fn (by rfl)]
  unfold m_has_items
  simp [isTy]
theorem hi_bl : wp (F_has_items [.bl k, .int a, .int b] g) Q = Q (.bl false) g := by
  unfold F_has_items
  rw [wp_fn (by rfl)]
  unfold m_has_items
  simp [isTy]
theorem hi_str : wp (F_has_items [.str s, .int a, .int b] g) Q = Q (.bl false) g := by
  unfold F_has_items
  rw [wp_fn (by rfl)]
  unfold m_has_items
  simp [isTy]
theorem iw_int : wp (F_is_within [.int i, .int a, .int b] g) Q = Q (.bl (leI a i && leI i b)) g := by
  unfold F_is_within
  rw [wp_fn (by rfl)]
  unfold m_is_within
  simp [isTy]
  by_cases h : a ≤ i
  · simp [h, leI_of h]
  · have e : leI a i = false := leI_no h
    simp [h, e]
theorem iw_bl : wp (F_is_within [.bl k, .int a, .int b] g) Q = Q (.bl false) g := by
  unfold F_is_within
  rw [wp_fn (by rfl)]
  unfold m_is_within
  simp [isTy]
theorem iw_non : wp (F_is_within [.non, .int a, .int b] g) Q = Q (.bl false) g := by
  unfold F_is_within
  rw [wp_fn (by rfl)]
  unfold m_is_within
  simp [isTy]
theorem iw_str : wp (F_is_within [.str s, .int a, .int b] g) Q = Q (.bl false) g := by
  unfold F_is_within
  rw [wp_fn (by rfl)]
  unfold m_is_within
  simp [isTy]
theorem iw_tup : wp (F_is_within [.tup xs, .int a, .int b] g) Q = Q (.bl false) g := by
  unfold F_is_within
  rw [wp_fn (by rfl)]
  unfold m_is_within
  simp [isTy]
theorem iw_lst : wp (F_is_within [.lst xs, .int a, .int b] g) Q = Q (.bl false) g := by
  unfold F_is_within
  rw [wp_fn (by rfl)]
  unfold m_is_within
  simp [isTy]
end
theorem bad_setting {g : Gs} {L n d : D} (h : wp (F_is_setting_value [L, n, d] g) fun r g' => r = .bl false ∧ g' = g) : F_need_setting [L, n, d] g = .ex ⟨"InvalidSetting", []⟩ g := by
  have e := ok_of h
  unfold F_need_setting m_need_setting
  simp [mFn, runB, sIf, bNot, mB, sRaise, mN, mCons, mNil, mV, eS, Res.bind, stE, e]
theorem bad_script {g : Gs} {d : D} (h : wp (F_is_script_value [d] g) fun r g' => r = .bl false ∧ g' = g) : F_need_script [d] g = .ex ⟨"InvalidScript", []⟩ g := by
  have e := ok_of h
  unfold F_need_script m_need_script
  simp [mFn, runB, sIf, bNot, mB, sRaise, mN, mCons, mNil, mV, eS, Res.bind, stE, e]
/-- a setting of another length -/
theorem setting_len {g : Gs} {s n : Int} {ps xs : List Int} {ys : List D} {Q : D → Gs → Prop} (hl : ys.length ≠ ps.length) (h : Q (.bl false) g) : wp (F_is_setting_value [LockD ps xs s, .int n, .tup ys] g) Q := by
  unfold F_is_setting_value
  rw [wp_fn (by rfl)]
  unfold m_is_setting_value
  simp [LockD, hi_tup]
  split
  · omega
  · exact h
/-- a setting whose first value is no good -/
theorem setting_first {g : Gs} {s n : Int} {ps xs : List Int} {y : D} {Q : D → Gs → Prop} (hL : LockOk ps xs s) (hy : ∀ (p : Int), p ∈ ps → ∀ (g : Gs) (Q : D → Gs → Prop), Q (.bl false) g → wp (F_is_within [y, .int 0, .int (n - p)] g) Q) (h : Q (.bl false) g) : wp (F_is_setting_value [LockD ps xs s, .int n, .tup (List.replicate ps.length y)] g) Q := by
  unfold F_is_setting_value
  rw [wp_fn (by rfl)]
  unfold m_is_setting_value
  cases Two.of hL.l1 hL.l2 hL.lx with
  | one p x =>
    simp [LockD, hi_tup, zipD]
    refine hy p (by simp) _ _ ?_
    simpa [oAll, bools?, wp] using h
  | two p p' x x' =>
    simp [LockD, hi_tup, zipD]
    refine hy p (by simp) _ _ ?_
    refine hy p' (by simp) _ _ ?_
    simpa [oAll, bools?, wp] using h
theorem lo_set {n : Int} : ∀ {ps : List Int}, (∀ p ∈ ps, p ≤ n) → SetOk n ps (loP ps)
  | [], _ => .nil
  | p :: ps, h => .cons (show (0 : Int) ≤ 0 by omega) (by have := h p (by simp); show (0 : Int) ≤ n - p; omega) (lo_set fun q hq => h q (List.mem_cons_of_mem _ hq))
theorem hi_set {n : Int} : ∀ {ps : List Int}, (∀ p ∈ ps, p ≤ n) → SetOk n ps (hiP n ps)
  | [], _ => .nil
  | p :: ps, h => .cons (by have := h p (by simp); show 0 ≤ n - p; omega) (Int.le_refl _) (hi_set fun q hq => h q (List.mem_cons_of_mem _ hq))
end Cm

set_option Elab.async false
set_option linter.all false
set_option maxRecDepth 100000
set_option maxHeartbeats 1000000
namespace Cm
open PySem PySem.Spec L2 Sh
/-! ### texts: split and join -/
theorem eqD_str2 {x y : Str} : eqD (.str x) (.str y) = decide (x = y) := by
  rw [eqD_str, Bool.eq_iff_iff, beq_iff_eq, decide_eq_true_iff]
theorem any_strs (v : Str) : ∀ xs : List Str, ((xs.map D.str).any fun y => eqD y (.str v)) = decide (v ∈ xs)
  | [] => rfl
  | x :: xs => by
    rw [List.map_cons, List.any_cons, any_strs v xs, eqD_str2]
    by_cases h : x = v
    · subst h
      simp
    · have h2 : ¬ v = x := fun z => h z.symm
      simp [h, h2]
theorem plains_strs (k : Nat) : ∀ xs : List Str, Sh.plains k (xs.map .str) = true
  | [] => by simp [Sh.plains]
  | x :: xs => by simp [Sh.plains, plains_strs k xs]
def NUMS : List Str := ["0", "1", "2", "3", "4", "5", "6", "7", "8", "9", "10", "11"]
def LABS : List Str := ["pins", "gates", "width"]
def limT : List (Str × List Int) := [("pins", [1, 3]), ("gates", [0, 11]), ("width", [0, 2])]
def loT (l : Str) : Int := if l = "pins" then 1 else 0
def hiT (l : Str) : Int := if l = "pins" then 3 else if l = "gates" then 11 else 2
def nI (w : Str) : Int := (PySem.intText? w).getD 0
def numsS (l t : Str) : Option (List Int) :=
  if (if l = "width" then 1 else 2) < (Txt.split t ",").length ∨ ¬ (∀ w ∈ Txt.split t ",", w ∈ NUMS) then none
  else if ∀ w ∈ Txt.split t ",", loT l ≤ nI w ∧ nI w ≤ hiT l then some ((Txt.split t ",").map nI) else none
def tupO : Option (List Int) → D
  | none => .non
  | some ns => .tup (ns.map .int)
theorem num_ok : ∀ w ∈ NUMS, PySem.intText? w = some (nI w) ∧ w.length ≤ 640 := by decide +kernel
theorem lab_lim : ∀ l ∈ LABS, limT.lookup l = some [loT l, hiT l] := by decide +kernel
theorem min_ok {ns : List Int} {g : Gs} {Q : D → Gs → Prop} (h0 : ns ≠ []) (h2 : ns.length ≤ 2) (h : ∀ m : Int, (∀ lo, lo ≤ m ↔ ∀ i ∈ ns, lo ≤ i) → Q (.int m) g) : wp (oMin1 [.tup (ns.map .int)] g) Q := by
  unfold oMin1 intsR
  match ns, h0, h2 with
  | [a], _, _ =>
    simp [seqD, ints?, minL]
    exact h a fun lo => by simp
  | [a, b], _, _ =>
    simp [seqD, ints?, minL]
    exact h _ fun lo => by simp; omega
theorem max_ok {ns : List Int} {g : Gs} {Q : D → Gs → Prop} (h0 : ns ≠ []) (h2 : ns.length ≤ 2) (h : ∀ m : Int, (∀ hi, m ≤ hi ↔ ∀ i ∈ ns, i ≤ hi) → Q (.int m) g) : wp (oMax1 [.tup (ns.map .int)] g) Q := by
  unfold oMax1 intsR
  match ns, h0, h2 with
  | [a], _, _ =>
    simp [seqD, ints?, maxL]
    exact h a fun lo => by simp
  | [a, b], _, _ =>
    simp [seqD, ints?, maxL]
    exact h _ fun lo => by simp; omega
@[simp] theorem oSplit_wp {a b : Str} {g : Gs} {Q : D → Gs → Prop} : wp (oSplit a (.str b) g) Q = ((b.length ≠ 0 ∧ a.length ≤ 1000000) ∧ Q (.lst ((Txt.split a b).map .str)) g) := by
  unfold oSplit
  simp only
  by_cases h : b.length ≠ 0 ∧ a.length ≤ 1000000
  · rw [if_pos h]
    simp [h, wp]
  · rw [if_neg h]
    simp only [wp]
    simp [h]
theorem sp_numbers {l t : Str} {g : Gs} {Q : D → Gs → Prop} (hl : l ∈ LABS) (ht : t.length ≤ 1000000) (h : Q (tupO (numsS l t)) g) : wp (F_numbers_in [.str l, .str t] g) Q := by
  unfold F_numbers_in
  rw [wp_fn (by rfl)]
  unfold m_numbers_in
  have hk : ∀ {Q : D → Gs → Prop}, wp (kKd [("pins", [1, 3]), ("gates", [0, 11]), ("width", [0, 2])] (.str l) g) Q = Q (.tup [.int (loT l), .int (hiT l)]) g := fun {Q} => by
    unfold kKd
    have := lab_lim l hl
    unfold limT at this
    simp only [this]
    rfl
  have c1 : (("," : Str).length = 0) = False := by decide +kernel
  generalize hws : Txt.split t (Str.ofString ",") = ws
  have ne : ws ≠ [] := by
    rw [← hws]
    intro z
    have := PyProof.Rows.split_pos t (Str.ofString ",")
    rw [z] at this
    simp at this
  have ev : ∀ (r4 : Sl) (a b : Sl), ws.length ≤ 2 → (if (∀ w ∈ ws, w ∈ NUMS) then (if ∀ w ∈ ws, loT l ≤ nI w ∧ nI w ≤ hiT l then Q (.tup ((ws.map nI).map .int)) g else Q .non g) else Q .non g) →
      wp (lcGo (gNm 6) bYes (mO oIn (mV 6) (mC (.tup (NUMS.map .str)))) [.d (.str l), .d (.str t), .d (.int (loT l)), .d (.int (hiT l)), r4, .no, .no] (ws.map D.str) g) fun xs g2 => xs.length ≤ 1000000 ∧ wp (oAll [D.lst xs] g2) fun x g1 => wp (tb x g1) fun k g1 =>
        if k = true then wp (lcGo (gNm 6) bYes (mN oInt (mCons (mV 6) mNil)) [.d (.str l), .d (.str t), .d (.int (loT l)), .d (.int (hiT l)), r4, .no, .no] (ws.map D.str) g1) fun xs g2 => xs.length ≤ 1000000 ∧
          wp (oMin1 [D.tup xs] g2) fun y g2 => wp (oLe (D.int (loT l)) y g2) fun x g1 => wp (tb x g1) fun k g1 => if k = true then wp (oMax1 [D.tup xs] g1) fun x g1 => wp (oLe x (D.int (hiT l)) g1) fun x g1 => wp (tb x g1) fun k g1 => if k = true then Q (D.tup xs) g1 else Q D.non g1 else Q D.non g1
        else Q D.non g1 := fun r4 a b h2 h => by
    refine wp_lcMap (fun d => match d with | .str w => .bl (decide (w ∈ NUMS)) | _ => .non) (fun d hd => ?_) ?_
    · obtain ⟨w, hw, rfl⟩ := List.mem_map.mp hd
      simp
      unfold oIn
      simp only [plain_str, plains_strs, Bool.and_self, if_true, any_strs]
      exact ⟨rfl, rfl⟩
    have e1 : (ws.map D.str).map (fun d => match d with | .str w => D.bl (decide (w ∈ NUMS)) | _ => .non) = (ws.map fun w => decide (w ∈ NUMS)).map .bl := by
      simp [Function.comp_def]
    rw [e1, oAll_lst]
    refine ⟨by simp; omega, ?_⟩
    simp only [tb_bl, wp_ok]
    by_cases q : ∀ w ∈ ws, w ∈ NUMS
    · rw [if_pos q] at h
      rw [if_pos (by simpa using q)]
      refine wp_lcMap (fun d => match d with | .str w => .int (nI w) | _ => .non) (fun d hd => ?_) ?_
      · obtain ⟨w, hw, rfl⟩ := List.mem_map.mp hd
        obtain ⟨n1, n2⟩ := num_ok w (q w hw)
        simp
        unfold oInt
        simp only [n1, n2, if_true]
        exact ⟨rfl, rfl⟩
      have e2 : (ws.map D.str).map (fun d => match d with | .str w => D.int (nI w) | _ => .non) = (ws.map nI).map .int := by
        simp [Function.comp_def]
      rw [e2]
      refine ⟨by simp; omega, ?_⟩
      refine min_ok (by simpa using ne) (by simpa using h2) fun m hm => ?_
      simp only [oLe_int, tb_bl, wp_ok]
      have hm := hm (loT l)
      by_cases q1 : loT l ≤ m
      · have q2 := hm.mp q1
        rw [if_pos (leI_of q1)]
        refine max_ok (by simpa using ne) (by simpa using h2) fun k hk => ?_
        simp only [oLe_int, tb_bl, wp_ok]
        have hk := hk (hiT l)
        by_cases q3 : k ≤ hiT l
        · have q4 := hk.mp q3
          rw [if_pos (leI_of q3)]
          rw [if_pos (fun w hw => ⟨q2 _ (List.mem_map.mpr ⟨w, hw, rfl⟩), q4 _ (List.mem_map.mpr ⟨w, hw, rfl⟩)⟩)] at h
          exact h
        · rw [if_neg (by rw [leI_no q3]; decide)]
          rw [if_neg (fun z => q3 (hk.mpr fun i hi => by obtain ⟨w, hw, rfl⟩ := List.mem_map.mp hi; exact (z w hw).2))] at h
          exact h
      · rw [if_neg (by rw [leI_no q1]; decide)]
        rw [if_neg (fun z => q1 (hm.mpr fun i hi => by obtain ⟨w, hw, rfl⟩ := List.mem_map.mp hi; exact (z w hw).1))] at h
        exact h
    · rw [if_neg q] at h
      rw [if_neg (by simpa using q)]
      exact h
  have fin : ∀ k : Nat, (if l = Str.ofString "width" then 1 else 2) = k → (ws.length ≤ k → (if (∀ w ∈ ws, w ∈ NUMS) then (if ∀ w ∈ ws, loT l ≤ nI w ∧ nI w ≤ hiT l then Q (.tup ((ws.map nI).map .int)) g else Q .non g) else Q .non g)) ∧ (k < ws.length → Q .non g) := fun k hk => by
    unfold numsS at h
    rw [hws, hk] at h
    constructor
    · intro hle
      by_cases q : ∀ w ∈ ws, w ∈ NUMS
      · rw [if_neg (by rintro (z | z); · omega
                       exact z q)] at h
        rw [if_pos q]
        split at h
        · rename_i q2
          rw [if_pos q2]
          exact h
        · rename_i q2
          rw [if_neg q2]
          exact h
      · rw [if_pos (.inr q)] at h
        rw [if_neg q]
        exact h
    · intro hlt
      rw [if_pos (.inl hlt)] at h
      exact h
  simp [hk, ht, c1, hws]
  by_cases lw : l = Str.ofString "width"
  · obtain ⟨f1, f2⟩ := fin 1 (if_pos lw)
    rw [if_pos lw]
    by_cases q : (1 : Int) < ws.length
    · rw [if_pos q]
      exact f2 (by omega)
    · rw [if_neg q]
      exact ev _ .no .no (by omega) (f1 (by omega))
  · obtain ⟨f1, f2⟩ := fin 2 (if_neg lw)
    rw [if_neg lw]
    by_cases q : (2 : Int) < ws.length
    · rw [if_pos q]
      exact f2 (by omega)
    · rw [if_neg q]
      exact ev _ .no .no (by omega) (f1 (by omega))
end Cm

set_option Elab.async false
set_option linter.all false
set_option maxRecDepth 100000
set_option maxHeartbeats 1000000
namespace Cm
open PySem PySem.Spec L2 Sh
/-! ### a text that is joined of lines is split into them -/
theorem app_toList (a b : Str) : (a ++ b).cps.toList = a.cps.toList ++ b.cps.toList := by
  show (a.cps ++ b.cps).toList = _
  exact Array.toList_append
theorem str_ext {a b : Str} (h : a.cps.toList = b.cps.toList) : a = b := by
  cases a
  cases b
  simp only at h
  rw [Array.toList_inj.mp h]
def joinL (c : Nat) : List (List Nat) → List Nat
  | [] => []
  | [x] => x
  | x :: r => x ++ c :: joinL c r
theorem join_toList (c : Nat) : ∀ xs : List Str, (Str.join ⟨#[c]⟩ xs).cps.toList = joinL c (xs.map (·.cps.toList))
  | [] => rfl
  | [x] => rfl
  | x :: y :: r => by
    show (x ++ ⟨#[c]⟩ ++ Str.join ⟨#[c]⟩ (y :: r)).cps.toList = _
    rw [app_toList, app_toList, join_toList c (y :: r)]
    simp [joinL]
theorem first_eq {c : Nat} : ∀ {x y a b : List Nat}, c ∉ x → c ∉ y → x ++ c :: a = y ++ c :: b → x = y ∧ a = b
  | [], [], _, _, _, _, h => ⟨rfl, by simpa using h⟩
  | [], u :: y, _, _, _, hy, h => by
    simp at h
    exact absurd (by rw [h.1]; simp) hy
  | u :: x, [], _, _, hx, _, h => by
    simp at h
    exact absurd (by rw [h.1]; simp) hx
  | u :: x, v :: y, a, b, hx, hy, h => by
    simp only [List.cons_append, List.cons.injEq] at h
    obtain ⟨e1, e2⟩ := first_eq (fun z => hx (List.mem_cons_of_mem _ z)) (fun z => hy (List.mem_cons_of_mem _ z)) h.2
    exact ⟨by rw [h.1, e1], e2⟩
theorem joinL_uniq {c : Nat} : ∀ {xs ys : List (List Nat)}, xs ≠ [] → ys ≠ [] → (∀ x ∈ xs, c ∉ x) → (∀ y ∈ ys, c ∉ y) → joinL c xs = joinL c ys → xs = ys
  | [], _, h, _, _, _, _ => absurd rfl h
  | _, [], _, h, _, _, _ => absurd rfl h
  | [x], [y], _, _, _, _, h => by
    have h : x = y := h
    rw [h]
  | [x], y :: y' :: r, _, _, hx, _, h => by
    have h : x = y ++ c :: joinL c (y' :: r) := h
    exact absurd (by rw [h]; simp) (hx x (by simp))
  | x :: x' :: r, [y], _, _, _, hy, h => by
    have h : x ++ c :: joinL c (x' :: r) = y := h
    exact absurd (by rw [← h]; simp) (hy y (by simp))
  | x :: x' :: r, y :: y' :: r', _, _, hx, hy, h => by
    have h : x ++ c :: joinL c (x' :: r) = y ++ c :: joinL c (y' :: r') := h
    obtain ⟨e1, e2⟩ := first_eq (hx x (by simp)) (hy y (by simp)) h
    have := joinL_uniq (xs := x' :: r) (ys := y' :: r') (by simp) (by simp) (fun z hz => hx z (List.mem_cons_of_mem _ hz)) (fun z hz => hy z (List.mem_cons_of_mem _ hz)) e2
    rw [e1, this]
theorem map_cps_inj : ∀ {xs ys : List Str}, xs.map (·.cps.toList) = ys.map (·.cps.toList) → xs = ys
  | [], [], _ => rfl
  | [], _ :: _, h => by simp at h
  | _ :: _, [], h => by simp at h
  | x :: xs, y :: ys, h => by
    simp only [List.map_cons, List.cons.injEq] at h
    rw [str_ext h.1, map_cps_inj h.2]
theorem split_ne (x y : Str) : Txt.split x y ≠ [] := fun z => by
  have := PyProof.Rows.split_pos x y
  rw [z] at this
  simp at this
theorem split_join {c : Nat} {xs : List Str} (h0 : xs ≠ []) (hf : ∀ x ∈ xs, c ∉ x.cps.toList) : Txt.split (Txt.join ⟨#[c]⟩ xs) ⟨#[c]⟩ = xs := by
  have ej : Txt.join ⟨#[c]⟩ xs = Str.join ⟨#[c]⟩ xs := StrLaws.glued_eq_join _ _
  rw [ej]
  have e := StrLaws.join_split (Str.join ⟨#[c]⟩ xs) ⟨#[c]⟩
  have f := StrLaws.split_free (Str.join ⟨#[c]⟩ xs) c
  apply map_cps_inj
  refine joinL_uniq (c := c) (by simpa using split_ne _ _) (by simpa using h0) (fun y hy => ?_) (fun y hy => ?_) ?_
  · obtain ⟨z, hz, rfl⟩ := List.mem_map.mp hy
    exact f z hz
  · obtain ⟨z, hz, rfl⟩ := List.mem_map.mp hy
    exact hf z hz
  · rw [← join_toList, ← join_toList, e]
/-! ### one line -/
def partS (x : Str) : Option (Str × List Int) := match Txt.split x " " with
  | [l, t] => if l ∈ LABS then (numsS l t).map fun ns => (l, ns) else none
  | _ => none
def partD : Option (Str × List Int) → D
  | none => .non
  | some (l, ns) => .tup [.str l, .tup (ns.map .int)]
theorem sp_part_of {x : Str} {g : Gs} {Q : D → Gs → Prop} (hx : x.length ≤ 1000000) (h : Q (partD (partS x)) g) : wp (F_part_of [.str x] g) Q := by
  unfold F_part_of
  rw [wp_fn (by rfl)]
  unfold m_part_of
  have c1 : ((" " : Str).length = 0) = False := by decide +kernel
  have len : ∀ a ∈ Txt.split x " ", a.length ≤ 1000000 := fun a ha => Nat.le_trans (PyProof.Rows.part_short ha) hx
  unfold partS at h
  simp [c1, hx]
  generalize Txt.split x (Str.ofString " ") = ws at *
  match ws with
  | [] => simp [eqI]; exact h
  | [a] => simp [eqI]; exact h
  | a :: b :: c :: r =>
    have e : ¬ ((r.length : Int) + 1 + 1 + 1 = 2) := by omega
    simp [e]
    exact h
  | [a, b] =>
    simp
    unfold oNin
    have ea := any_strs a LABS
    have pl := plains_strs 50 LABS
    simp only [LABS, List.map_cons, List.map_nil] at ea pl
    simp only [plain_str, pl, Bool.and_self, if_true, ea]
    simp only [wp_ok, tb_bl]
    change Q (partD (if a ∈ LABS then (numsS a b).map fun ns => (a, ns) else none)) g at h
    by_cases q : a ∈ LABS
    · have q' : a ∈ ([Str.ofString "pins", Str.ofString "gates", Str.ofString "width"] : List Str) := q
      rw [if_pos q] at h
      rw [if_neg (by simp only [q', decide_true]; decide)]
      refine sp_numbers q (len b (by simp)) ?_
      cases e : numsS a b with
      | none =>
        rw [e] at h
        simp [tupO, Sh.isNon]
        exact h
      | some ns =>
        rw [e] at h
        simp [tupO, Sh.isNon]
        exact h
    · have q' : ¬ a ∈ ([Str.ofString "pins", Str.ofString "gates", Str.ofString "width"] : List Str) := q
      rw [if_neg q] at h
      rw [if_pos (by simp only [q', decide_false]; decide)]
      exact h
/-! ### the lines of a lock -/
def tS (i : Int) : Str := toString i
def numsT : List Int → Str
  | [] => Str.empty
  | [a] => tS a
  | a :: r => tS a ++ "," ++ numsT r
def lineS (l : Str) (ns : List Int) : Str := l ++ " " ++ numsT ns
def allP : List (List Int) := (List.range 3).flatMap fun (i : Nat) => [(i : Int) + 1] :: (List.range 3).map fun (j : Nat) => [(i : Int) + 1, (j : Int) + 1]
def allX : List (List Int) := (List.range 12).flatMap fun (i : Nat) => [(i : Int)] :: (List.range 12).map fun (j : Nat) => [(i : Int), (j : Int)]
def allW : List (List Int) := (List.range 3).map fun (i : Nat) => [(i : Int)]
theorem in_allP {ps : List Int} (h1 : 1 ≤ ps.length) (h2 : ps.length ≤ 2) (h : ∀ p ∈ ps, 1 ≤ p ∧ p ≤ 3) : ps ∈ allP := by
  unfold allP
  match ps, h1, h2, h with
  | [a], _, _, h =>
    have := h a (by simp)
    exact List.mem_flatMap.mpr ⟨(a - 1).toNat, List.mem_range.mpr (by omega), by rw [show ((a - 1).toNat : Int) + 1 = a by omega]; simp⟩
  | [a, b], _, _, h =>
    have ha := h a (by simp)
    have hb := h b (by simp)
    refine List.mem_flatMap.mpr ⟨(a - 1).toNat, List.mem_range.mpr (by omega), ?_⟩
    rw [show ((a - 1).toNat : Int) + 1 = a by omega]
    exact List.mem_cons_of_mem _ (List.mem_map.mpr ⟨(b - 1).toNat, List.mem_range.mpr (by omega), by rw [show ((b - 1).toNat : Int) + 1 = b by omega]⟩)
theorem in_allX {xs : List Int} (h1 : 1 ≤ xs.length) (h2 : xs.length ≤ 2) (h : ∀ x ∈ xs, 0 ≤ x ∧ x ≤ 11) : xs ∈ allX := by
  unfold allX
  match xs, h1, h2, h with
  | [a], _, _, h =>
    have := h a (by simp)
    exact List.mem_flatMap.mpr ⟨a.toNat, List.mem_range.mpr (by omega), by rw [show (a.toNat : Int) = a by omega]; simp⟩
  | [a, b], _, _, h =>
    have ha := h a (by simp)
    have hb := h b (by simp)
    refine List.mem_flatMap.mpr ⟨a.toNat, List.mem_range.mpr (by omega), ?_⟩
    rw [show (a.toNat : Int) = a by omega]
    exact List.mem_cons_of_mem _ (List.mem_map.mpr ⟨b.toNat, List.mem_range.mpr (by omega), by rw [show (b.toNat : Int) = b by omega]⟩)
theorem in_allW {s : Int} (h0 : 0 ≤ s) (h2 : s ≤ 2) : [s] ∈ allW := List.mem_map.mpr ⟨s.toNat, List.mem_range.mpr (by omega), by rw [show (s.toNat : Int) = s by omega]⟩
theorem ok_P : ∀ ps ∈ allP, partS (lineS "pins" ps) = some (("pins" : Str), ps) ∧ 10 ∉ (lineS "pins" ps).cps.toList ∧ (lineS "pins" ps).length ≤ 100 ∧ ("pins " : Str) ++ Txt.join "," (ps.map tS) = lineS "pins" ps ∧ (ps.map fun p => (tS p).length).sum ≤ 100 := by decide +kernel
theorem ok_X : ∀ xs ∈ allX, partS (lineS "gates" xs) = some (("gates" : Str), xs) ∧ 10 ∉ (lineS "gates" xs).cps.toList ∧ (lineS "gates" xs).length ≤ 100 ∧ ("gates " : Str) ++ Txt.join "," (xs.map tS) = lineS "gates" xs ∧ (xs.map fun p => (tS p).length).sum ≤ 100 := by decide +kernel
theorem ok_W : ∀ ws ∈ allW, partS (lineS "width" ws) = some (("width" : Str), ws) ∧ 10 ∉ (lineS "width" ws).cps.toList ∧ (lineS "width" ws).length ≤ 100 ∧ (ws.map fun s => Str.empty ++ ("width " : Str) ++ tS s) = [lineS "width" ws] := by decide +kernel
end Cm

set_option Elab.async false
set_option linter.all false
set_option maxRecDepth 100000
set_option maxHeartbeats 1000000
namespace Cm
open PySem PySem.Spec L2 Sh
theorem strs_map : ∀ xs : List Str, Sh.strs? (xs.map D.str) = some xs
  | [] => rfl
  | x :: xs => by simp [Sh.strs?, strs_map xs]
theorem oJoin_lst {a : Str} {xs : List Str} {g : Gs} {Q : D → Gs → Prop} (hz : (xs.map (·.length)).sum + xs.length * a.length ≤ 1000000) (h : Q (.str (Txt.join a xs)) g) : wp (oJoin a (.lst (xs.map .str)) g) Q := by
  have e : oJoin a (.lst (xs.map .str)) g = (match (some (xs.map D.str)).bind Sh.strs? with
    | some ys => if (ys.map (·.length)).sum + ys.length * a.length ≤ 1000000 then Res.ok (.str (Txt.join a ys)) g else .bad
    | none => .bad) := rfl
  rw [e, Option.bind_some, strs_map]
  simp only
  rw [if_pos hz]
  exact h
def textP (ps xs : List Int) (s : Int) : Str := Txt.join "\n" [lineS "pins" ps, lineS "gates" xs, lineS "width" [s]]
theorem oStr_int {i : Int} {g : Gs} {Q : D → Gs → Prop} (hb : big i = true) (h : Q (.str (tS i)) g) : wp (oStr [.int i] g) Q := by
  unfold oStr
  simp only [hb, if_true]
  exact h
theorem oAdd_str {x y : Str} {g : Gs} {Q : D → Gs → Prop} : wp (oAdd (.str x) (.str y) g) Q = ((x ++ y).length ≤ 1000000 ∧ Q (.str (x ++ y)) g) := by
  unfold oAdd
  simp only
  rw [Str.length_append]
  by_cases h : x.length + y.length ≤ 1000000
  · rw [if_pos h]
    simp [h, wp]
  · rw [if_neg h]
    simp only [wp]
    simp [h]
theorem fs_int {c : Str} {i : Int} {g : Gs} {Q : D → Gs → Prop} (hb : big i = true) (h1 : (Str.empty ++ c).length ≤ 1000000) (h2 : (Str.empty ++ c ++ tS i).length ≤ 1000000) (h : Q (.str (Str.empty ++ c ++ tS i)) g) : wp (kFs c (.int i) g) Q := by
  have e : kFs c (.int i) g = if (Str.empty ++ c).length ≤ 1000000 ∧ (Str.empty ++ c ++ tS i).length ≤ 1000000 ∧ big i = true then Res.ok (.str (Str.empty ++ c ++ tS i)) g else .bad := rfl
  rw [e, if_pos ⟨h1, h2, hb⟩]
  exact h
theorem sp_lock_rows {g : Gs} {s : Int} {ps xs : List Int} {Q : D → Gs → Prop} (hL : LockOk ps xs s) (h : Q (.lst [.str (lineS "pins" ps), .str (lineS "gates" xs), .str (lineS "width" [s])]) g) : wp (F_lock_rows [LockD ps xs s] g) Q := by
  unfold F_lock_rows
  rw [wp_fn (by rfl)]
  unfold m_lock_rows
  have s0 := hL.s0
  have s2 := hL.s2
  have l1 := hL.l1
  have l2 := hL.l2
  have lx := hL.lx
  obtain ⟨_, _, _, p4, p5⟩ := ok_P ps (in_allP l1 l2 hL.p)
  obtain ⟨_, _, _, x4, x5⟩ := ok_X xs (in_allX (by omega) (by omega) hL.x)
  obtain ⟨_, _, w3, w4⟩ := ok_W [s] (in_allW s0 s2)
  simp only [List.map_cons, List.map_nil, List.cons.injEq, and_true] at w4
  simp [LockD]
  refine wp_lcMap (fun d => match d with | .int n => .str (tS n) | _ => .non) (fun d hd => ?_) ?_
  · obtain ⟨n, hn, rfl⟩ := List.mem_map.mp hd
    have := hL.p n hn
    simp
    exact oStr_int (big_of (by omega) (by omega)) ⟨rfl, rfl⟩
  have e1 : (ps.map D.int).map (fun d => match d with | .int n => D.str (tS n) | _ => .non) = (ps.map tS).map .str := by simp [Function.comp_def]
  rw [e1]
  refine ⟨by simp; omega, ?_⟩
  have c1 : (("," : Str)).length = 1 := by decide +kernel
  refine oJoin_lst (by rw [c1, List.map_map]; simp only [List.length_map]; have : ((ps.map ((fun x => x.length) ∘ tS)).sum) ≤ 100 := p5; omega) ?_
  rw [oAdd_str, p4]
  refine ⟨by omega, ?_⟩
  refine wp_lcMap (fun d => match d with | .int n => .str (tS n) | _ => .non) (fun d hd => ?_) ?_
  · obtain ⟨n, hn, rfl⟩ := List.mem_map.mp hd
    have := hL.x n hn
    simp
    exact oStr_int (big_of (by omega) (by omega)) ⟨rfl, rfl⟩
  have e2 : (xs.map D.int).map (fun d => match d with | .int n => D.str (tS n) | _ => .non) = (xs.map tS).map .str := by simp [Function.comp_def]
  rw [e2]
  refine ⟨by simp; omega, ?_⟩
  refine oJoin_lst (by rw [c1, List.map_map]; simp only [List.length_map]; have : ((xs.map ((fun x => x.length) ∘ tS)).sum) ≤ 100 := x5; omega) ?_
  rw [oAdd_str, x4]
  refine ⟨by omega, ?_⟩
  have c2 : (Str.empty ++ ("width " : Str)).length ≤ 1000000 := by decide +kernel
  unfold mFs
  rw [if_pos c2]
  simp
  refine fs_int (big_of (by omega) (by omega)) c2 (by rw [w4]; omega) ?_
  rw [w4]
  exact h
theorem text_len {s : Int} {ps xs : List Int} (hL : LockOk ps xs s) : ([lineS "pins" ps, lineS "gates" xs, lineS "width" [s]].map (·.length)).sum + 3 ≤ 303 := by
  have l1 := hL.l1
  have l2 := hL.l2
  have lx := hL.lx
  obtain ⟨_, _, p3, _⟩ := ok_P ps (in_allP l1 l2 hL.p)
  obtain ⟨_, _, x3, _⟩ := ok_X xs (in_allX (by omega) (by omega) hL.x)
  obtain ⟨_, _, w3, _⟩ := ok_W [s] (in_allW hL.s0 hL.s2)
  simp
  omega
theorem nl1 : ("\n" : Str).length = 1 := by decide +kernel
theorem sp_lock_text {g : Gs} {s : Int} {ps xs : List Int} {Q : D → Gs → Prop} (hL : LockOk ps xs s) (h : Q (.str (textP ps xs s)) g) : wp (F_lock_text [LockD ps xs s] g) Q := by
  unfold F_lock_text
  rw [wp_fn (by rfl)]
  unfold m_lock_text
  simp
  refine sp_need_lock hL ?_
  refine sp_lock_rows hL ?_
  have := text_len hL
  exact oJoin_lst (xs := [lineS "pins" ps, lineS "gates" xs, lineS "width" [s]]) (by rw [nl1]; simp only [List.length_cons, List.length_nil]; omega) h
theorem split_text {s : Int} {ps xs : List Int} (hL : LockOk ps xs s) : Txt.split (textP ps xs s) "\n" = [lineS "pins" ps, lineS "gates" xs, lineS "width" [s]] := by
  have l1 := hL.l1
  have l2 := hL.l2
  have lx := hL.lx
  obtain ⟨_, p2, _⟩ := ok_P ps (in_allP l1 l2 hL.p)
  obtain ⟨_, x2, _⟩ := ok_X xs (in_allX (by omega) (by omega) hL.x)
  obtain ⟨_, w2, _⟩ := ok_W [s] (in_allW hL.s0 hL.s2)
  have e : ("\n" : Str) = ⟨#[10]⟩ := by decide +kernel
  unfold textP
  rw [e]
  refine split_join (by simp) fun x hx => ?_
  simp only [List.mem_cons, List.not_mem_nil, or_false] at hx
  rcases hx with rfl | rfl | rfl
  · exact p2
  · exact x2
  · exact w2
theorem textP_len {s : Int} {ps xs : List Int} (hL : LockOk ps xs s) : (textP ps xs s).length ≤ 1000 := by
  have := text_len hL
  have e := StrLaws.join_length_le "\n" [lineS "pins" ps, lineS "gates" xs, lineS "width" [s]]
  have ej : textP ps xs s = Str.join "\n" [lineS "pins" ps, lineS "gates" xs, lineS "width" [s]] := StrLaws.glued_eq_join _ _
  rw [ej]
  rw [nl1] at e
  simp only [List.length_cons, List.length_nil] at e
  omega
theorem line_turn {g : Gs} {x l : Str} {ns : List Int} {acc : List D} {k : Int} {a0 s4 s5 s6 s7 : Sl} {N : En → Gs → Prop} {R : D → Gs → Prop} (hx : x.length ≤ 1000000) (hp : partS x = some (l, ns)) (ha : acc.length < 1000000)
    (h : N [a0, .ml (acc ++ [.tup [.str l, .tup (ns.map .int)]]), .no, .no, .no, s5, s6, s7] g) : wpS (B1_lock_of [a0, .ml acc, .d (.int k), .d (.str x), s4, s5, s6, s7] g) N R := by
  simp
  refine sp_part_of hx ?_
  rw [hp]
  simp [partD, Sh.isNon, ha]
  exact h
theorem sp_lock_of {g : Gs} {s : Int} {ps xs : List Int} {Q : D → Gs → Prop} (hL : LockOk ps xs s) (h : Q (LockD ps xs s) g) : wp (F_lock_of [.str (textP ps xs s)] g) Q := by
  unfold F_lock_of
  rw [wp_fn (by rfl)]
  unfold m_lock_of
  have l1 := hL.l1
  have l2 := hL.l2
  have lx := hL.lx
  obtain ⟨p1, _, p3, _⟩ := ok_P ps (in_allP l1 l2 hL.p)
  obtain ⟨x1, _, x3, _⟩ := ok_X xs (in_allX (by omega) (by omega) hL.x)
  obtain ⟨w1, _, w3, _⟩ := ok_W [s] (in_allW hL.s0 hL.s2)
  have len := textP_len hL
  have len2 : (textP ps xs s).length ≤ 1000000 := by omega
  simp [isTy, nl1, len2, split_text hL]
  rw [show enumD 0 [D.str (lineS "pins" ps), D.str (lineS "gates" xs), D.str (lineS "width" [s])] = [.tup [.int 0, D.str (lineS "pins" ps)], .tup [.int 1, D.str (lineS "gates" xs)], .tup [.int 2, D.str (lineS "width" [s])]] from rfl]
  simp [-un_B1_lock_of]
  refine line_turn (by omega) p1 (by simp) ?_
  simp [-un_B1_lock_of]
  refine line_turn (by omega) x1 (by simp) ?_
  simp [-un_B1_lock_of]
  refine line_turn (by omega) w1 (by simp) ?_
  have pl := plains_strs 49 LABS
  simp only [LABS, List.map_cons, List.map_nil] at pl
  simp [bYes, Sh.plain, pl, eqD, eqDs]
  refine sp_lockv hL ?_
  simp
  exact h
theorem sp_read_lock {g : Gs} {s : Int} {ps xs : List Int} {Q : D → Gs → Prop} (hL : LockOk ps xs s) (h : Q (LockD ps xs s) g) : wp (F_read_lock [.str (textP ps xs s)] g) Q := by
  unfold F_read_lock
  rw [wp_fn (by rfl)]
  unfold m_read_lock
  simp
  exact sp_lock_of hL h
/-! ### the law's own writing -/
theorem numsT_two (l : Str) (a b : Int) : l ++ " " ++ tS a ++ "," ++ tS b = lineS l [a, b] := by
  apply str_ext
  simp [lineS, numsT, app_toList]
theorem writing_turn {g : Gs} {l : Str} {ns : List Int} {acc : List D} {a0 s4 s5 : Sl} {N : En → Gs → Prop} {R : D → Gs → Prop} (h1 : 1 ≤ ns.length) (h2 : ns.length ≤ 2) (hb : ∀ n ∈ ns, big n = true) (hl : (lineS l ns).length ≤ 1000) (ha : acc.length < 1000000)
    (h : N [a0, .ml (acc ++ [.str (lineS l ns)]), .no, .no, .no, .no] g) : wpS (B2__law_writing [a0, .ml acc, .d (.str l), .d (.tup (ns.map .int)), s4, s5] g) N R := by
  have pre : (l ++ " " : Str).length ≤ (lineS l ns).length := by
    unfold lineS
    rw [Str.length_append (l ++ " ")]
    omega
  match ns, h1, h2 with
  | [a], _, _ =>
    have c1 : cutD [D.int a] (some 1) none = [] := rfl
    have e : l ++ " " ++ tS a = lineS l [a] := rfl
    simp [c1, oAdd_str]
    refine ⟨by omega, oStr_int (hb a (by simp)) ?_⟩
    rw [oAdd_str, e]
    exact ⟨by omega, ha, h⟩
  | [a, b], _, _ =>
    have c1 : cutD [D.int a, D.int b] (some 1) none = [D.int b] := rfl
    have e := numsT_two l a b
    have l1 : (l ++ " " ++ tS a : Str).length ≤ (lineS l [a, b]).length := by rw [← e, Str.length_append _ (tS b), Str.length_append _ (Str.ofString ",")]; omega
    have l2 : (l ++ " " ++ tS a ++ "," : Str).length ≤ (lineS l [a, b]).length := by rw [← e, Str.length_append _ (tS b)]; omega
    simp [c1, oAdd_str]
    refine ⟨by omega, oStr_int (hb a (by simp)) ?_⟩
    rw [oAdd_str]
    refine ⟨by omega, ?_⟩
    rw [oAdd_str]
    refine ⟨by omega, oStr_int (hb b (by simp)) ?_⟩
    rw [oAdd_str, e]
    exact ⟨by omega, ha, h⟩
theorem sp_writing {g : Gs} {s : Int} {ps xs : List Int} {Q : D → Gs → Prop} (hL : LockOk ps xs s) (h : Q (.str (textP ps xs s)) g) : wp (F__law_writing [LockD ps xs s] g) Q := by
  unfold F__law_writing
  rw [wp_fn (by rfl)]
  unfold m__law_writing
  have l1 := hL.l1
  have l2 := hL.l2
  have lx := hL.lx
  have s0 := hL.s0
  have s2 := hL.s2
  obtain ⟨p1, _, p3, _⟩ := ok_P ps (in_allP l1 l2 hL.p)
  obtain ⟨x1, _, x3, _⟩ := ok_X xs (in_allX (by omega) (by omega) hL.x)
  obtain ⟨w1, _, w3, _⟩ := ok_W [s] (in_allW hL.s0 hL.s2)
  simp [LockD, -un_B2__law_writing]
  refine writing_turn l1 l2 (fun n hn => by have := hL.p n hn; exact big_of (by omega) (by omega)) (by omega) (by simp) ?_
  simp [-un_B2__law_writing]
  refine writing_turn (by omega) (by omega) (fun n hn => by have := hL.x n hn; exact big_of (by omega) (by omega)) (by omega) (by simp) ?_
  simp [-un_B2__law_writing]
  refine writing_turn (ns := [s]) (by simp) (by simp) (fun n hn => by rw [List.mem_singleton.mp hn]; exact big_of (by omega) (by omega)) (by omega) (by simp) ?_
  simp
  have := text_len hL
  exact oJoin_lst (xs := [lineS "pins" ps, lineS "gates" xs, lineS "width" [s]]) (by rw [nl1]; simp only [List.length_cons, List.length_nil]; omega) h
end Cm

set_option Elab.async false
set_option linter.all false
set_option maxRecDepth 100000
set_option maxHeartbeats 1000000
namespace Cm
open PySem PySem.Spec L2 Sh
/-! ### any data -/
def dt (m : Nat) : Nat → D → Prop
  | _, .non => True
  | _, .bl _ => True
  | _, .int _ => True
  | _, .str _ => True
  | n + 1, .tup xs => xs.length ≤ m ∧ ∀ x ∈ xs, dt m n x
  | n + 1, .lst xs => xs.length ≤ m ∧ ∀ x ∈ xs, dt m n x
  | _, _ => False
@[simp] theorem dt_non {m n : Nat} : dt m n .non := by unfold dt; trivial
@[simp] theorem dt_bl {m n : Nat} {k : Bool} : dt m n (.bl k) := by unfold dt; trivial
@[simp] theorem dt_int {m n : Nat} {i : Int} : dt m n (.int i) := by unfold dt; trivial
@[simp] theorem dt_str {m n : Nat} {s : Str} : dt m n (.str s) := by unfold dt; trivial
@[simp] theorem dt_tup {m n : Nat} {xs : List D} : dt m (n + 1) (.tup xs) ↔ xs.length ≤ m ∧ ∀ x ∈ xs, dt m n x := by rw [dt]
@[simp] theorem dt_lst {m n : Nat} {xs : List D} : dt m (n + 1) (.lst xs) ↔ xs.length ≤ m ∧ ∀ x ∈ xs, dt m n x := by rw [dt]
theorem dt_mono {m m' : Nat} (hm : m ≤ m') : ∀ {n n' : Nat} {d : D}, n ≤ n' → dt m n d → dt m' n' d
  | _, _, .non, _, _ => by simp
  | _, _, .bl _, _, _ => by simp
  | _, _, .int _, _, _ => by simp
  | _, _, .str _, _, _ => by simp
  | 0, _, .tup xs, _, h => by simp [dt] at h
  | 0, _, .lst xs, _, h => by simp [dt] at h
  | n + 1, 0, .tup xs, hn, _ => by omega
  | n + 1, 0, .lst xs, hn, _ => by omega
  | n + 1, n' + 1, .tup xs, hn, h => by
    rw [dt_tup] at h ⊢
    exact ⟨by omega, fun x hx => dt_mono hm (by omega) (h.2 x hx)⟩
  | n + 1, n' + 1, .lst xs, hn, h => by
    rw [dt_lst] at h ⊢
    exact ⟨by omega, fun x hx => dt_mono hm (by omega) (h.2 x hx)⟩
  | 0, _, .loc _, _, h => by simp [dt] at h
  | n + 1, _, .loc _, _, h => by simp [dt] at h
  | 0, _, .fn _, _, h => by simp [dt] at h
  | n + 1, _, .fn _, _, h => by simp [dt] at h
  | 0, _, .dic _ _, _, h => by simp [dt] at h
  | n + 1, _, .dic _ _, _, h => by simp [dt] at h
theorem plains_of {n : Nat} : ∀ {xs : List D}, (∀ x ∈ xs, Sh.plain n x = true) → Sh.plains n xs = true
  | [], _ => by simp [Sh.plains]
  | x :: xs, h => by
    rw [Sh.plains, Bool.and_eq_true]
    exact ⟨h x (by simp), plains_of fun y hy => h y (List.mem_cons_of_mem _ hy)⟩
theorem dt_plain {m : Nat} : ∀ {n k : Nat} {d : D}, n ≤ k → dt m n d → Sh.plain k d = true
  | _, _, .non, _, _ => by simp [Sh.plain]
  | _, _, .bl _, _, _ => by simp
  | _, _, .int _, _, _ => by simp
  | _, _, .str _, _, _ => by simp
  | 0, _, .tup xs, _, h => by simp [dt] at h
  | 0, _, .lst xs, _, h => by simp [dt] at h
  | n + 1, 0, .tup xs, hn, _ => by omega
  | n + 1, 0, .lst xs, hn, _ => by omega
  | n + 1, k + 1, .tup xs, hn, h => by
    rw [dt_tup] at h
    rw [Sh.plain]
    exact plains_of fun x hx => dt_plain (by omega) (h.2 x hx)
  | n + 1, k + 1, .lst xs, hn, h => by
    rw [dt_lst] at h
    rw [Sh.plain]
    exact plains_of fun x hx => dt_plain (by omega) (h.2 x hx)
  | 0, _, .loc _, _, h => by simp [dt] at h
  | n + 1, _, .loc _, _, h => by simp [dt] at h
  | 0, _, .fn _, _, h => by simp [dt] at h
  | n + 1, _, .fn _, _, h => by simp [dt] at h
  | 0, _, .dic _ _, _, h => by simp [dt] at h
  | n + 1, _, .dic _ _, _, h => by simp [dt] at h
/-- some data -/
def Dd (d : D) : Prop := match d with
  | .loc _ => False
  | .fn _ => False
  | .dic _ _ => False
  | _ => True
theorem dt_dd {m n : Nat} {d : D} (h : dt m n d) : Dd d := by
  cases d with
  | loc => cases n <;> simp [dt] at h
  | fn => cases n <;> simp [dt] at h
  | dic => cases n <;> simp [dt] at h
  | _ => trivial
def inR (a b : Int) : D → Bool
  | .int i => leI a i && leI i b
  | _ => false
def hasB (a b : Int) : D → Bool
  | .tup xs => leI a xs.length && leI xs.length b
  | _ => false
theorem hi_any {g : Gs} {d : D} {a b : Int} {Q : D → Gs → Prop} (hd : Dd d) : wp (F_has_items [d, .int a, .int b] g) Q = Q (.bl (hasB a b d)) g := by
  cases d with
  | non => exact hi_non
  | bl => exact hi_bl
  | int => exact hi_int
  | str => exact hi_str
  | tup => exact hi_tup
  | lst => exact hi_lst
  | loc => exact hd.elim
  | fn => exact hd.elim
  | dic => exact hd.elim
theorem iw_any {g : Gs} {d : D} {a b : Int} {Q : D → Gs → Prop} (hd : Dd d) : wp (F_is_within [d, .int a, .int b] g) Q = Q (.bl (inR a b d)) g := by
  cases d with
  | non => exact iw_non
  | bl => exact iw_bl
  | int => exact iw_int
  | str => exact iw_str
  | tup => exact iw_tup
  | lst => exact iw_lst
  | loc => exact hd.elim
  | fn => exact hd.elim
  | dic => exact hd.elim
theorem oAll_map {g : Gs} {xs : List D} {p : D → Bool} {Q : D → Gs → Prop} : wp (oAll [.lst (xs.map fun x => .bl (p x))] g) Q = Q (.bl (xs.all p)) g := by
  have e : (xs.map fun x => D.bl (p x)) = (xs.map p).map .bl := by rw [List.map_map]; rfl
  rw [e, oAll_lst, List.all_map]
  rfl
def dits : D → List D
  | .tup xs => xs
  | .lst xs => xs
  | _ => []
/-- whether a value is a lock -/
def lockB : D → Bool
  | .tup [a, b, c] => hasB 1 2 a && (inR 0 2 c && (hasB (dits a).length (dits a).length b && ((dits b).all (inR 0 11) && (dits a).all (inR 1 3))))
  | _ => false
theorem le_two {a b : Int} : (leI a b && leI b a) = eqI b a := by
  by_cases h : b = a
  · subst h; simp [leI, eqI]
  · rw [eqI_no h]
    by_cases h1 : a ≤ b
    · rw [leI_of h1, leI_no (show ¬ b ≤ a by omega)]; rfl
    · rw [leI_no h1]; rfl
theorem has_same {k : Int} {xs : List D} : hasB k k (.tup xs) = eqI xs.length k := le_two
theorem has_tup {a b : Int} {d : D} (h : hasB a b d = true) : ∃ xs, d = .tup xs ∧ a ≤ xs.length ∧ (xs.length : Int) ≤ b := by
  cases d with
  | tup xs =>
    simp only [hasB, Bool.and_eq_true, leI_t] at h
    exact ⟨xs, rfl, h⟩
  | _ => simp [hasB] at h
/-- all items within -/
theorem sp_allin {g : Gs} {i : Nat} {x y : Int} {m n : Nat} {xs : List D} {ρ : En} {QL : List D → Gs → Prop} (hi : i < ρ.length) (hd : ∀ d ∈ xs, dt m n d) (h : QL (xs.map fun d => .bl (inR x y d)) g) :
    wp (lcGo (gNm i) bYes (mN F_is_within (mCons (mV i) (mCons (mC (.int x)) (mCons (mC (.int y)) mNil)))) ρ xs g) QL := by
  refine wp_lcMap (fun d => .bl (inR x y d)) (fun d hm => ?_) h
  simp [hi, iw_any (dt_dd (hd d hm))]
theorem sp_lock_value {g : Gs} {m n : Nat} {d : D} {Q : D → Gs → Prop} (hm : m ≤ 1000) (hd : dt m n d) (h : Q (.bl (lockB d)) g) : wp (F_is_lock_value [d] g) Q := by
  have hdd := dt_dd hd
  unfold F_is_lock_value
  rw [wp_fn (by rfl)]
  unfold m_is_lock_value
  by_cases h3 : hasB 3 3 d = true
  · obtain ⟨xs, rfl, l1, l2⟩ := has_tup h3
    obtain ⟨a, b, c, rfl⟩ : ∃ a b c, xs = [a, b, c] := by
      match xs, l1, l2 with
      | [a, b, c], _, _ => exact ⟨a, b, c, rfl⟩
      | [], l1, _ => simp at l1
      | [_], l1, _ => simp at l1
      | [_, _], l1, _ => simp at l1
      | _ :: _ :: _ :: _ :: _, _, l2 => simp at l2; omega
    cases n with
    | zero => simp [dt] at hd
    | succ n =>
    rw [dt_tup] at hd
    have ha := hd.2 a (by simp)
    have hb := hd.2 b (by simp)
    have hc := hd.2 c (by simp)
    simp [hi_any hdd, h3, hi_any (dt_dd ha), iw_any (dt_dd hc)]
    by_cases k1 : hasB 1 2 a = true
    · obtain ⟨ps, rfl, p1, p2⟩ := has_tup k1
      cases k2 : inR 0 2 c with
      | false =>
        simp [k1, k2]
        simpa [lockB, k1, k2] using h
      | true =>
        simp [k1, k2, hi_any (dt_dd hb)]
        cases k3 : hasB ps.length ps.length b with
        | false =>
          simp
          simpa [lockB, dits, k1, k2, k3] using h
        | true =>
          obtain ⟨gs, rfl, q1, q2⟩ := has_tup k3
          simp
          cases n with
          | zero => simp [dt] at ha
          | succ n =>
          rw [dt_tup] at ha hb
          refine sp_allin (by simp) hb.2 ?_
          refine ⟨by rw [List.length_map]; omega, ?_⟩
          rw [oAll_map]
          simp
          by_cases k4 : ∀ x ∈ gs, inR 0 11 x = true
          · rw [if_pos k4]
            have k5 : gs.all (inR 0 11) = true := List.all_eq_true.mpr k4
            refine sp_allin (by simp) ha.2 ?_
            refine ⟨by rw [List.length_map]; omega, ?_⟩
            rw [oAll_map]
            simpa [lockB, dits, k1, k2, k3, k5] using h
          · rw [if_neg k4]
            have k5 : gs.all (inR 0 11) = false := by
              cases q : gs.all (inR 0 11) with
              | false => rfl
              | true => exact absurd (List.all_eq_true.mp q) k4
            simpa [lockB, dits, k1, k2, k3, k5] using h
    · have k1 : hasB 1 2 a = false := by simpa using k1
      simp [k1]
      simpa [lockB, k1] using h
  · have h3 : hasB 3 3 d = false := by simpa using h3
    simp [hi_any hdd, h3]
    have e : lockB d = false := by
      match d, h3 with
      | .tup [a, b, c], h3 => simp [hasB] at h3
      | .tup [], _ => rfl
      | .tup [_], _ => rfl
      | .tup [_, _], _ => rfl
      | .tup (_ :: _ :: _ :: _ :: _), _ => rfl
      | .non, _ => rfl
      | .bl _, _ => rfl
      | .int _, _ => rfl
      | .str _, _ => rfl
      | .lst _, _ => rfl
      | .loc _, _ => rfl
      | .fn _, _ => rfl
      | .dic _ _, _ => rfl
    rwa [e] at h
/-- whether a value is a setting -/
def zipAll (n : Int) : List Int → List D → Bool
  | p :: ps, d :: ds => inR 0 (n - p) d && zipAll n ps ds
  | _, _ => true
def setB (n : Int) (ps : List Int) (d : D) : Bool := hasB ps.length ps.length d && zipAll n ps (dits d)
theorem sp_setting_value {g : Gs} {m k : Nat} {n s : Int} {ps xs : List Int} {d : D} {Q : D → Gs → Prop} (hL : LockOk ps xs s) (hd : dt m k d) (h : Q (.bl (setB n ps d)) g) : wp (F_is_setting_value [LockD ps xs s, .int n, d] g) Q := by
  have hdd := dt_dd hd
  unfold F_is_setting_value
  rw [wp_fn (by rfl)]
  unfold m_is_setting_value
  unfold setB at h
  cases h3 : hasB ps.length ps.length d with
  | false =>
    rw [h3] at h
    simpa [LockD, hi_any hdd, h3] using h
  | true =>
    rw [h3, Bool.true_and] at h
    obtain ⟨ys, rfl, l1, l2⟩ := has_tup h3
    have hl : ys.length = ps.length := by omega
    cases k with
    | zero => simp [dt] at hd
    | succ k =>
    rw [dt_tup] at hd
    cases Two.of hL.l1 hL.l2 hl with
    | one p y =>
      have hy := hd.2 y (by simp)
      simp [LockD, hi_any hdd, h3, zipD, iw_any (dt_dd hy)]
      rw [show [D.bl (inR 0 (n - p) y)] = [inR 0 (n - p) y].map .bl from rfl, oAll_lst]
      simp at h3
      simpa [zipAll, dits, h3] using h
    | two p p' y y' =>
      have hy := hd.2 y (by simp)
      have hy' := hd.2 y' (by simp)
      simp [LockD, hi_any hdd, h3, zipD, iw_any (dt_dd hy), iw_any (dt_dd hy')]
      rw [show [D.bl (inR 0 (n - p) y), D.bl (inR 0 (n - p') y')] = [inR 0 (n - p) y, inR 0 (n - p') y'].map .bl from rfl, oAll_lst]
      simp at h3
      simpa [zipAll, dits, h3] using h
/-- whether a value is a turn -/
def dnz : D → Bool
  | .int i => !eqI i 0
  | _ => false
def turnB : D → Bool
  | .tup [a, b] => inR (-3) 3 a && (inR (-20) 20 b && (dnz a || dnz b))
  | _ => false
theorem inR_int {a b : Int} {d : D} (h : inR a b d = true) : ∃ i, d = .int i ∧ a ≤ i ∧ i ≤ b := by
  cases d with
  | int i =>
    simp only [inR, Bool.and_eq_true, leI_t] at h
    exact ⟨i, rfl, h⟩
  | _ => simp [inR] at h
theorem sp_turn_value {g : Gs} {m n : Nat} {d : D} {Q : D → Gs → Prop} (hd : dt m n d) (h : Q (.bl (turnB d)) g) : wp (F_is_turn_value [d] g) Q := by
  have hdd := dt_dd hd
  unfold F_is_turn_value
  rw [wp_fn (by rfl)]
  unfold m_is_turn_value
  by_cases h3 : hasB 2 2 d = true
  · obtain ⟨xs, rfl, l1, l2⟩ := has_tup h3
    obtain ⟨a, b, rfl⟩ : ∃ a b, xs = [a, b] := by
      match xs, l1, l2 with
      | [a, b], _, _ => exact ⟨a, b, rfl⟩
      | [], l1, _ => simp at l1
      | [_], l1, _ => simp at l1
      | _ :: _ :: _ :: _, _, l2 => simp at l2; omega
    cases n with
    | zero => simp [dt] at hd
    | succ n =>
    rw [dt_tup] at hd
    have ha := hd.2 a (by simp)
    have hb := hd.2 b (by simp)
    simp [hi_any hdd, h3, iw_any (dt_dd ha)]
    cases k1 : inR (-3) 3 a with
    | false =>
      simp
      simpa [turnB, k1] using h
    | true =>
      obtain ⟨i, rfl, i1, i2⟩ := inR_int k1
      simp [iw_any (dt_dd hb)]
      cases k2 : inR (-20) 20 b with
      | false =>
        simp
        simpa [turnB, k1, k2] using h
      | true =>
        obtain ⟨j, rfl, j1, j2⟩ := inR_int k2
        simp [turnB, k1, k2, dnz] at h
        simp
        by_cases z : i = 0
        · subst z
          simp
          simpa using h
        · rw [eqI_no z] at h
          simpa [z] using h
  · have h3 : hasB 2 2 d = false := by simpa using h3
    simp [hi_any hdd, h3]
    have e : turnB d = false := by
      match d, h3 with
      | .tup [a, b], h3 => simp [hasB] at h3
      | .tup [], _ => rfl
      | .tup [_], _ => rfl
      | .tup (_ :: _ :: _ :: _), _ => rfl
      | .non, _ => rfl
      | .bl _, _ => rfl
      | .int _, _ => rfl
      | .str _, _ => rfl
      | .lst _, _ => rfl
      | .loc _, _ => rfl
      | .fn _, _ => rfl
      | .dic _ _, _ => rfl
    rwa [e] at h
/-- whether a value is a script -/
def scrB (d : D) : Bool := hasB 0 5 d && (dits d).all turnB
theorem sp_script_value {g : Gs} {m n : Nat} {d : D} {Q : D → Gs → Prop} (hd : dt m n d) (h : Q (.bl (scrB d)) g) : wp (F_is_script_value [d] g) Q := by
  have hdd := dt_dd hd
  unfold F_is_script_value
  rw [wp_fn (by rfl)]
  unfold m_is_script_value
  unfold scrB at h
  cases h3 : hasB 0 5 d with
  | false =>
    rw [h3] at h
    simpa [hi_any hdd, h3] using h
  | true =>
    rw [h3, Bool.true_and] at h
    obtain ⟨ys, rfl, l1, l2⟩ := has_tup h3
    cases n with
    | zero => simp [dt] at hd
    | succ n =>
    rw [dt_tup] at hd
    simp [hi_any hdd, h3]
    refine wp_lcMap (fun d => .bl (turnB d)) (fun x hx => ?_) ?_
    · simp
      exact sp_turn_value (hd.2 x hx) ⟨rfl, rfl⟩
    · refine ⟨by rw [List.length_map]; omega, ?_⟩
      rw [oAll_map]
      simpa [dits] using h
end Cm

set_option Elab.async false
set_option linter.all false
set_option maxRecDepth 100000
set_option maxHeartbeats 1000000
namespace k14
open PySem PySem.Spec L2 Sh Cm
def lineD : Option (Str × List Int) → D
  | none => .non
  | some (l, ns) => .lst [.str l, .tup (ns.map .int)]
def mostT (l : Str) : Int := if l = "width" then 1 else 2
def limD : List (Str × D) := [("pins", .tup [.int 1, .int 3, .int 2]), ("gates", .tup [.int 0, .int 11, .int 2]), ("width", .tup [.int 0, .int 2, .int 1])]
theorem eq_emp {xs : List D} : eqD (.lst xs) (.lst []) = xs.isEmpty := by
  cases xs <;> simp [eqD, eqDs]
theorem core {b l : Str} {S : List Str} {m : Int} {g : Gs} {r0 r1 r2 r3 r4 r5 r6 : Sl} {Q : D → Gs → Prop} (hl : l ∈ LABS) (hm : m = if l = "width" then 1 else 2) (hS : ∀ w, w ∈ S ↔ w ∈ NUMS ∧ loT l ≤ nI w ∧ nI w ≤ hiT l)
    (h : Q (lineD ((numsS l b).map fun ns => (l, ns))) g) :
    if m < (Txt.split b (Str.ofString ",")).length then Q D.non g else
      wp (lcGo (gNm 9) (mB (mO oNin (mV 9) (mV 7))) (mV 9) [r0, r1, r2, r3, r4, r5, r6, Sl.d (D.lst (S.map .str)), Sl.no, Sl.no] (List.map D.str (Txt.split b (Str.ofString ","))) g) fun xs_1 g2 =>
        xs_1.length ≤ 1000000 ∧ (Sh.plain 50 (D.lst xs_1) = true ∧ Sh.plain 50 (D.lst []) = true) ∧
          if eqD (D.lst xs_1) (D.lst []) = true then
            wp (lcGo (gNm 9) bYes (mN oInt (mCons (mV 9) mNil)) [r0, r1, r2, r3, r4, r5, r6, Sl.d (D.lst (S.map .str)), Sl.no, Sl.no] (List.map D.str (Txt.split b (Str.ofString ","))) g2)
              fun xs g2 => xs.length ≤ 1000000 ∧ Q (D.lst [D.str l, D.tup xs]) g2
          else Q D.non g2 := by
  generalize hws : Txt.split b (Str.ofString ",") = ws
  unfold numsS at h
  change Q (lineD (Option.map (fun ns => (l, ns)) (if (if l = Str.ofString "width" then 1 else 2) < (Txt.split b (Str.ofString ",")).length ∨ ¬ (∀ w ∈ Txt.split b (Str.ofString ","), w ∈ NUMS) then none
    else if ∀ w ∈ Txt.split b (Str.ofString ","), loT l ≤ nI w ∧ nI w ≤ hiT l then some ((Txt.split b (Str.ofString ",")).map nI) else none))) g at h
  rw [hws] at h
  have hm2 : m = ((if l = Str.ofString "width" then 1 else 2 : Nat) : Int) := by rw [hm]; split <;> rfl
  generalize (if l = Str.ofString "width" then 1 else 2 : Nat) = k at *
  have hk : k ≤ 2 := by
    have : m ≤ 2 := by rw [hm]; split <;> decide
    omega
  by_cases c : m < ws.length
  · rw [if_pos c]
    rw [if_pos (.inl (by omega))] at h
    exact h
  · rw [if_neg c]
    have wl : ws.length ≤ 2 := by omega
    refine wp_lcFilter (fun d => match d with | .str w => !decide (w ∈ S) | _ => false) (fun d => d) (fun d hd => ?_) ?_
    · obtain ⟨w, hw, rfl⟩ := List.mem_map.mp hd
      simp
      unfold oNin
      have pl := plains_strs 50 S
      simp only [plain_str, pl, Sh.plain, Bool.and_self, if_true, any_strs]
      simp
    have e1 : ((ws.map D.str).filter fun d => match d with | .str w => !decide (w ∈ S) | _ => false) = (ws.filter fun w => !decide (w ∈ S)).map .str := by
      rw [List.filter_map]
      rfl
    rw [e1, List.map_id', eq_emp]
    have pl := plains_strs 49 (ws.filter fun w => !decide (w ∈ S))
    refine ⟨by simp; have := List.length_filter_le (fun w => !decide (w ∈ S)) ws; omega, ⟨by simpa [Sh.plain] using pl, by decide +kernel⟩, ?_⟩
    by_cases q : ∀ w ∈ ws, w ∈ S
    · have e2 : (ws.filter fun w => !decide (w ∈ S)) = [] := List.filter_eq_nil_iff.mpr fun w hw => by simp [q w hw]
      rw [e2]
      simp only [List.map_nil, List.isEmpty_nil, if_true]
      refine wp_lcMap (fun d => match d with | .str w => .int (nI w) | _ => .non) (fun d hd => ?_) ?_
      · obtain ⟨w, hw, rfl⟩ := List.mem_map.mp hd
        obtain ⟨n1, n2⟩ := num_ok w ((hS w).mp (q w hw)).1
        simp
        unfold oInt
        simp only [n1, n2, if_true]
        exact ⟨rfl, rfl⟩
      have e3 : (ws.map D.str).map (fun d => match d with | .str w => D.int (nI w) | _ => .non) = (ws.map nI).map .int := by simp [Function.comp_def]
      rw [e3]
      refine ⟨by simp; omega, ?_⟩
      rw [if_neg (by rintro (z | z); · omega
                     exact z fun w hw => ((hS w).mp (q w hw)).1), if_pos (fun w hw => ((hS w).mp (q w hw)).2)] at h
      exact h
    · have e2 : ((ws.filter fun w => !decide (w ∈ S)).map D.str).isEmpty = false := by
        cases e : ws.filter fun w => !decide (w ∈ S) with
        | nil => exact absurd (fun w hw => by have := List.filter_eq_nil_iff.mp e w hw; simpa using this) q
        | cons y ys => rfl
      rw [e2]
      simp only [Bool.false_eq_true, if_false]
      split at h
      · exact h
      · split at h
        · rename_i z1 z2
          rw [not_or] at z1
          exact absurd (fun w hw => (hS w).mpr ⟨Classical.not_not.mp z1.2 w hw, z2 w hw⟩) q
        · exact h
theorem shown_p : ∀ w, w ∈ (["1", "2", "3"] : List Str) ↔ w ∈ NUMS ∧ loT "pins" ≤ nI w ∧ nI w ≤ hiT "pins" := fun w => by
  have a : ∀ w ∈ (["1", "2", "3"] : List Str), w ∈ NUMS ∧ loT "pins" ≤ nI w ∧ nI w ≤ hiT "pins" := by decide +kernel
  have b : ∀ w ∈ NUMS, loT "pins" ≤ nI w ∧ nI w ≤ hiT "pins" → w ∈ (["1", "2", "3"] : List Str) := by decide +kernel
  exact ⟨a w, fun h => b w h.1 h.2⟩
theorem shown_x : ∀ w, w ∈ NUMS ↔ w ∈ NUMS ∧ loT "gates" ≤ nI w ∧ nI w ≤ hiT "gates" := fun w => by
  have a : ∀ w ∈ NUMS, w ∈ NUMS ∧ loT "gates" ≤ nI w ∧ nI w ≤ hiT "gates" := by decide +kernel
  exact ⟨a w, fun h => h.1⟩
theorem shown_w : ∀ w, w ∈ (["0", "1", "2"] : List Str) ↔ w ∈ NUMS ∧ loT "width" ≤ nI w ∧ nI w ≤ hiT "width" := fun w => by
  have a : ∀ w ∈ (["0", "1", "2"] : List Str), w ∈ NUMS ∧ loT "width" ≤ nI w ∧ nI w ≤ hiT "width" := by decide +kernel
  have b : ∀ w ∈ NUMS, loT "width" ≤ nI w ∧ nI w ≤ hiT "width" → w ∈ (["0", "1", "2"] : List Str) := by decide +kernel
  exact ⟨a w, fun h => b w h.1 h.2⟩
theorem shown_go {lo : Int} {n : Nat} {S : List Str} {ρ : En} {g : Gs} {QL : List D → Gs → Prop} (hi : 8 < ρ.length) (h0 : 0 ≤ lo) (h1 : lo ≤ 100) (hn : n ≤ 100) (e : ((List.range n).map fun (i : Nat) => tS (lo + (i : Int))) = S) (h : QL (S.map .str) g) :
    wp (lcGo (gNm 8) bYes (mN oStr (mCons (mV 8) mNil)) ρ (List.map (fun (i : Nat) => D.int (lo + (i : Int))) (List.range n)) g) QL := by
  refine wp_lcMap (fun d => match d with | .int i => .str (tS i) | _ => .non) (fun d hd => ?_) ?_
  · obtain ⟨i, hi2, rfl⟩ := List.mem_map.mp hd
    have := List.mem_range.mp hi2
    simp [hi]
    exact oStr_int (big_of (by omega) (by omega)) ⟨rfl, rfl⟩
  · rw [List.map_map]
    have : ((fun d => match d with | .int i => D.str (tS i) | _ => .non) ∘ fun (i : Nat) => D.int (lo + (i : Int))) = D.str ∘ fun (i : Nat) => tS (lo + (i : Int)) := rfl
    rw [this, ← List.map_map, e]
    exact h
theorem shown_go0 {n : Nat} {S : List Str} {ρ : En} {g : Gs} {QL : List D → Gs → Prop} (hi : 8 < ρ.length) (hn : n ≤ 100) (e : ((List.range n).map fun (i : Nat) => tS (i : Int)) = S) (h : QL (S.map .str) g) :
    wp (lcGo (gNm 8) bYes (mN oStr (mCons (mV 8) mNil)) ρ (List.map (fun (i : Nat) => D.int (i : Int)) (List.range n)) g) QL := by
  have := shown_go (lo := 0) (n := n) (S := S) (g := g) (QL := QL) hi (by omega) (by omega) hn (by simpa using e) h
  simpa using this
theorem sp_read_line {x : Str} {g : Gs} {Q : D → Gs → Prop} (hx : x.length ≤ 1000000) (h : Q (lineD (partS x)) g) : wp (F__law_read_line [.str x] g) Q := by
  unfold F__law_read_line
  rw [wp_fn (by rfl)]
  unfold m__law_read_line
  have c1 : ((" " : Str).length = 0) = False := by decide +kernel
  have len : ∀ a ∈ Txt.split x " ", a.length ≤ 1000000 := fun a ha => Nat.le_trans (PyProof.Rows.part_short ha) hx
  unfold partS at h
  have nd : ([Str.ofString "pins", Str.ofString "gates", Str.ofString "width"] : List Str).Nodup := by decide +kernel
  have c2 : (("," : Str).length = 0) = False := by decide +kernel
  have n1 : ¬ (Str.ofString "gates" = Str.ofString "pins") := by decide +kernel
  have n2 : ¬ (Str.ofString "width" = Str.ofString "pins") := by decide +kernel
  have n3 : ¬ (Str.ofString "width" = Str.ofString "gates") := by decide +kernel
  have b1 : (Str.ofString "gates" == Str.ofString "pins") = false := by decide +kernel
  have b2 : (Str.ofString "width" == Str.ofString "pins") = false := by decide +kernel
  have b3 : (Str.ofString "width" == Str.ofString "gates") = false := by decide +kernel
  have n4 : ((¬Str.ofString "pins" = Str.ofString "gates" ∧ ¬Str.ofString "pins" = Str.ofString "width") ∧ ¬Str.ofString "gates" = Str.ofString "width") := by decide +kernel
  simp [c1, hx]
  refine ⟨n4, ?_⟩
  generalize Txt.split x (Str.ofString " ") = ws at *
  match ws with
  | [] => simp [eqI]; exact h
  | [a] => simp [eqI]; exact h
  | a :: b :: c :: r =>
    have e : ¬ ((r.length : Int) + 1 + 1 + 1 = 2) := by omega
    simp [e]
    exact h
  | [a, b] =>
    have lb := len b (by simp)
    change Q (lineD (if a ∈ LABS then (numsS a b).map fun ns => (a, ns) else none)) g at h
    simp
    by_cases q : a ∈ LABS
    · rw [if_pos q] at h
      have q' := q
      simp only [LABS, List.mem_cons, List.not_mem_nil, or_false] at q'
      rw [if_neg (by intro z; rcases q' with r | r | r; exact z.1 r; exact z.2.1 r; exact z.2.2 r)]
      rcases q' with rfl | rfl | rfl
      · simp [c2, lb, List.lookup, rngD]
        refine shown_go (S := ["1", "2", "3"]) (by simp) (by omega) (by omega) (by omega) (by decide +kernel) ⟨by decide, ?_⟩
        exact core q (by decide +kernel) shown_p h
      · simp [c2, lb, List.lookup, rngD, b1]
        refine shown_go0 (S := NUMS) (by simp) (by omega) (by decide +kernel) ⟨by decide, ?_⟩
        exact core q (by decide +kernel) shown_x h
      · simp [c2, lb, List.lookup, rngD, b2, b3]
        refine shown_go0 (S := ["0", "1", "2"]) (by simp) (by omega) (by decide +kernel) ⟨by decide, ?_⟩
        exact core q (by decide +kernel) shown_w h
    · rw [if_neg q] at h
      have q' := q
      simp only [LABS, List.mem_cons, List.not_mem_nil, or_false, not_or] at q'
      rw [if_pos q']
      exact h
end k14

set_option Elab.async false
set_option linter.all false
set_option maxRecDepth 100000
set_option maxHeartbeats 1000000
namespace k14
open PySem PySem.Spec L2 Sh Cm
/-! ### what a line's part is -/
structure PartOk (l : Str) (ns : List Int) : Prop where
  hl : l ∈ LABS
  h1 : 1 ≤ ns.length
  h2 : ns.length ≤ 2
  hw : l = "width" → ns.length ≤ 1
  r : ∀ n ∈ ns, loT l ≤ n ∧ n ≤ hiT l
theorem nums_ok {l t : Str} {ns : List Int} (h : numsS l t = some ns) : 1 ≤ ns.length ∧ ns.length ≤ (if l = "width" then 1 else 2) ∧ ∀ n ∈ ns, loT l ≤ n ∧ n ≤ hiT l := by
  unfold numsS at h
  by_cases c : (if l = "width" then 1 else 2) < (Txt.split t ",").length ∨ ¬ (∀ w ∈ Txt.split t ",", w ∈ NUMS)
  · rw [if_pos c] at h
    cases h
  · rw [if_neg c] at h
    by_cases d : ∀ w ∈ Txt.split t ",", loT l ≤ nI w ∧ nI w ≤ hiT l
    · rw [if_pos d] at h
      cases h
      rw [not_or] at c
      refine ⟨?_, ?_, fun n hn => ?_⟩
      · rw [List.length_map]
        exact List.length_pos_iff.mpr (split_ne t ",")
      · rw [List.length_map]
        exact Nat.le_of_not_lt c.1
      · obtain ⟨w, hw, rfl⟩ := List.mem_map.mp hn
        exact d w hw
    · rw [if_neg d] at h
      cases h
theorem part_ok {x l : Str} {ns : List Int} (h : partS x = some (l, ns)) : PartOk l ns := by
  unfold partS at h
  split at h
  · rename_i a b e
    by_cases ha : a ∈ LABS
    · rw [if_pos ha] at h
      cases e2 : numsS a b with
      | none => rw [e2] at h; cases h
      | some ms =>
        rw [e2] at h
        simp only [Option.map_some, Option.some.injEq, Prod.mk.injEq] at h
        obtain ⟨rfl, rfl⟩ := h
        obtain ⟨h1, h2, h3⟩ := nums_ok e2
        refine ⟨ha, h1, ?_, fun hw => ?_, h3⟩
        · exact Nat.le_trans h2 (by split <;> omega)
        · rw [if_pos hw] at h2
          exact h2
    · rw [if_neg ha] at h
      cases h
  · cases h
def partsF (k : Nat) : List Str → Except Nat (List (Str × List Int))
  | [] => .ok []
  | x :: r => match partS x with
    | none => .error (k + 1)
    | some p => match partsF (k + 1) r with
      | .error e => .error e
      | .ok ps => .ok (p :: ps)
theorem parts_ok : ∀ {xs : List Str} {k : Nat} {ps : List (Str × List Int)}, partsF k xs = .ok ps → ps.length = xs.length ∧ ∀ p ∈ ps, PartOk p.1 p.2
  | [], k, ps, h => by cases h; simp
  | x :: r, k, ps, h => by
    unfold partsF at h
    cases e : partS x with
    | none => rw [e] at h; cases h
    | some p =>
      rw [e] at h
      simp only at h
      cases e2 : partsF (k + 1) r with
      | error q => rw [e2] at h; cases h
      | ok qs =>
        rw [e2] at h
        cases h
        obtain ⟨l1, l2⟩ := parts_ok e2
        refine ⟨by simp [l1], fun p' hp => ?_⟩
        rcases List.mem_cons.mp hp with rfl | hp
        · exact part_ok (l := p'.1) (ns := p'.2) e
        · exact l2 p' hp
def pD (p : Str × List Int) : D := .tup [.str p.1, .tup (p.2.map .int)]
def lD (p : Str × List Int) : D := .lst [.str p.1, .tup (p.2.map .int)]
/-! ### the program's loop -/
theorem nx_of {r : SRes} {ρ : En} {g : Gs} (h : wpS r (fun a b => a = ρ ∧ b = g) fun _ _ => False) : r = .nx ρ g := by
  cases r with
  | nx a b =>
    obtain ⟨rfl, rfl⟩ := (show a = ρ ∧ b = g from h)
    rfl
  | rt _ _ => exact (show False from h).elim
  | _ => exact (show False from h).elim
abbrev tgLines : GM := gTp 2 (gCn (gNm 2) (gCn (gNm 3) gNl))
theorem lock_go {g : Gs} {a0 s5 s6 s7 : Sl} : ∀ (xs : List Str) (k : Nat) (acc : List D), (∀ x ∈ xs, x.length ≤ 1000000) → acc.length + xs.length ≤ 1000000 →
    forGo tgLines B1_lock_of (enumD k (xs.map .str)) [a0, .ml acc, .no, .no, .no, s5, s6, s7] g = match partsF k xs with
      | .error e => .ex ⟨"InvalidText", [("line", .int e)]⟩ g
      | .ok ps => .nx [a0, .ml (acc ++ ps.map pD), .no, .no, .no, s5, s6, s7] g
  | [], k, acc, _, _ => by simp [forGo, partsF, enumD]
  | x :: r, k, acc, hx, hl => by
    simp only [List.map_cons, List.length_cons] at hl ⊢
    have hx0 := hx x (by simp)
    rw [show enumD k (D.str x :: r.map .str) = .tup [.int (k : Int), .str x] :: enumD (k + 1) (r.map .str) from rfl]
    rw [show forGo tgLines B1_lock_of (.tup [.int (k : Int), .str x] :: enumD (k + 1) (r.map .str)) [a0, .ml acc, .no, .no, .no, s5, s6, s7] g = (match B1_lock_of [a0, .ml acc, .d (.int k), .d (.str x), .no, s5, s6, s7] g with
      | .nx ρ2 g2 => forGo tgLines B1_lock_of (enumD (k + 1) (r.map .str)) ρ2 g2
      | .ct ρ2 g2 => forGo tgLines B1_lock_of (enumD (k + 1) (r.map .str)) ρ2 g2
      | .bk ρ2 g2 => .nx ρ2 g2
      | .rt d g2 => .rt d g2
      | .ex e g2 => .ex e g2
      | .bad => .bad) from rfl]
    unfold partsF
    cases e : partS x with
    | none =>
      have ep : F_part_of [.str x] g = .ok .non g := ok_of (sp_part_of hx0 (by rw [e]; exact ⟨rfl, rfl⟩))
      have eb : B1_lock_of [a0, .ml acc, .d (.int k), .d (.str x), .no, s5, s6, s7] g = .ex ⟨"InvalidText", [("line", .int (k + 1 : Nat))]⟩ g := by
        unfold B1_lock_of
        simp [sPost, sSeq, sSet, sIf, sRaiseF, mB, mO, mN, mCons, mNil, mV, mC, eS, Res.bind, ep, oIs, Sh.isNon, oAdd]
      rw [eb]
    | some p =>
      obtain ⟨l, ns⟩ := p
      have eb : B1_lock_of [a0, .ml acc, .d (.int k), .d (.str x), .no, s5, s6, s7] g = .nx [a0, .ml (acc ++ [pD (l, ns)]), .no, .no, .no, s5, s6, s7] g := nx_of (line_turn hx0 e (by omega) ⟨rfl, rfl⟩)
      rw [eb]
      simp only
      rw [lock_go r (k + 1) _ (fun y hy => hx y (List.mem_cons_of_mem _ hy)) (by simp; omega)]
      cases partsF (k + 1) r with
      | error e => rfl
      | ok ps => simp
theorem due_go {g : Gs} {a0 a1 : Sl} {N : En → Gs → Prop} {R : D → Gs → Prop} : ∀ (xs : List Str) (k : Nat) (acc : List D), (∀ x ∈ xs, x.length ≤ 1000000) → acc.length + xs.length ≤ 1000000 → k + xs.length ≤ 10000000 →
    (match partsF k xs with
      | .error e => R (.int e) g
      | .ok ps => N [a0, a1, .ml (acc ++ ps.map lD), .no, .no, .no] g) →
    wpS (forGo (gTp 2 (gCn (gNm 3) (gCn (gNm 4) gNl))) B1__law_due (enumD k (xs.map .str)) [a0, a1, .ml acc, .no, .no, .no] g) N R
  | [], k, acc, _, _, _, h => by
    simp [partsF] at h
    simp [enumD]
    exact h
  | x :: r, k, acc, hx, hl, hk, h => by
    simp only [List.map_cons, List.length_cons] at hl hk ⊢
    have hx0 := hx x (by simp)
    rw [show enumD k (D.str x :: r.map .str) = .tup [.int (k : Int), .str x] :: enumD (k + 1) (r.map .str) from rfl]
    unfold partsF at h
    simp
    refine sp_read_line hx0 ?_
    cases e : partS x with
    | none =>
      rw [e] at h
      have b1 : big ((k : Int) + 1) = true := big_of (by omega) (by omega)
      simp [lineD, Sh.isNon, b1]
      exact h
    | some p =>
      obtain ⟨l, ns⟩ := p
      rw [e] at h
      simp [lineD, Sh.isNon]
      refine ⟨by omega, ?_⟩
      refine due_go r (k + 1) _ (fun y hy => hx y (List.mem_cons_of_mem _ hy)) (by simp; omega) (by omega) ?_
      simp only at h
      cases e2 : partsF (k + 1) r with
      | error q =>
        rw [e2] at h
        exact h
      | ok ps =>
        rw [e2] at h
        simpa [lD] using h
end k14

set_option Elab.async false
set_option linter.all false
set_option maxRecDepth 100000
set_option maxHeartbeats 1000000
/-! what must raise -/
namespace Sh
open PySem PySem.Spec L2
def xp {α : Type} (r : Res α) (P : Xn → Gs → Prop) : Prop := match r with
  | .ex e g => P e g
  | _ => False
def xpS (r : SRes) (P : Xn → Gs → Prop) : Prop := match r with
  | .ex e g => P e g
  | _ => False
section
variable {α β : Type} {P P' : Xn → Gs → Prop} {QD : D → Gs → Prop} {ρ : En} {g : Gs} {a b m : EM} {ba bb : BM} {l : LM} {m1 m2 : SM} {i : Nat} {c f : Str}
theorem xp.to {r : Res α} (h : xp r P) : ∃ e g, r = .ex e g ∧ P e g := by
  cases r with
  | ex e g => exact ⟨e, g, rfl, h⟩
  | ok _ _ => exact h.elim
  | bad => exact h.elim
theorem xpS.to {r : SRes} (h : xpS r P) : ∃ e g, r = .ex e g ∧ P e g := by
  cases r with
  | ex e g => exact ⟨e, g, rfl, h⟩
  | _ => exact (show False from h).elim
theorem xp.mono {r : Res α} (h : xp r P) (k : ∀ e g, P e g → P' e g) : xp r P' := by
  obtain ⟨e, g, rfl, q⟩ := h.to
  exact k e g q
theorem xp_of {r : Res α} {e : Xn} {g' : Gs} (h : r = .ex e g') (q : P e g') : xp r P := by
  rw [h]
  exact q
theorem ex_of {r : Res α} {e : Xn} {g' : Gs} (h : xp r fun e1 g1 => e1 = e ∧ g1 = g') : r = .ex e g' := by
  obtain ⟨e1, g1, q, rfl, rfl⟩ := h.to
  exact q
theorem xp_bind {r : Res β} {k : β → Gs → Res α} (h : xp r P) : xp (r.bind k) P := by
  obtain ⟨e, g, rfl, q⟩ := h.to
  exact q
theorem xp_bind2 {r : Res β} {k : β → Gs → Res α} (h : wp r fun x g1 => xp (k x g1) P) : xp (r.bind k) P := by
  obtain ⟨x, g1, rfl, q⟩ := h.to
  exact q
theorem xpS_e {r : Res β} {k : β → Gs → SRes} (h : xp r P) : xpS (eS r k) P := by
  obtain ⟨e, g, rfl, q⟩ := h.to
  exact q
theorem xpS_e2 {r : Res β} {k : β → Gs → SRes} (h : wp r fun x g1 => xpS (k x g1) P) : xpS (eS r k) P := by
  obtain ⟨x, g1, rfl, q⟩ := h.to
  exact q
/-- the first raises -/
theorem xpS_now (h : xpS (m1 ρ g) P) : xpS (sSeq m1 m2 ρ g) P := by
  obtain ⟨e, g1, q, z⟩ := h.to
  unfold sSeq
  rw [q]
  exact z
/-- a later one raises -/
theorem xpS_go (h : wpS (m1 ρ g) (fun ρ1 g1 => xpS (m2 ρ1 g1) P) fun _ _ => False) : xpS (sSeq m1 m2 ρ g) P := by
  unfold sSeq
  cases q : m1 ρ g with
  | nx ρ1 g1 =>
    rw [q] at h
    exact h
  | rt _ _ =>
    rw [q] at h
    exact (show False from h).elim
  | _ =>
    rw [q] at h
    exact (show False from h).elim
theorem xpS_if (h : wp (ba ρ g) fun k g1 => if k = true then xpS (m1 ρ g1) P else xpS (m2 ρ g1) P) : xpS (sIf ba m1 m2 ρ g) P := by
  obtain ⟨k, g1, e, q⟩ := h.to
  unfold sIf
  rw [e]
  cases k with
  | true =>
    rw [if_pos rfl] at q
    exact q
  | false =>
    rw [if_neg (by decide)] at q
    exact q
theorem xpS_ret (h : xp (a ρ g) P) : xpS (sRet a ρ g) P := xpS_e h
theorem xpS_set (h : xp (a ρ g) P) : xpS (sSet i a ρ g) P := xpS_e h
theorem xpS_expr (h : xp (a ρ g) P) : xpS (sExpr a ρ g) P := xpS_e h
theorem xpS_raise (h : P ⟨c, []⟩ g) : xpS (sRaise c ρ g) P := h
theorem xpS_raiseF (h : wp (m ρ g) fun d g1 => P ⟨c, [(f, d)]⟩ g1) : xpS (sRaiseF c f m ρ g) P := xpS_e2 h
theorem xpS_pre {w : En → En} (h : xpS (m1 (w ρ) g) P) : xpS (sPre w m1 ρ g) P := h
theorem xpS_post {w : En → En} (h : xpS (m1 ρ g) P) : xpS (sPost w m1 ρ g) P := by
  obtain ⟨e, g1, q, z⟩ := h.to
  unfold sPost
  rw [q]
  exact z
theorem xpS_for {w : GM} (h : wp (l ρ g) fun ds g1 => xpS (forGo w m1 ds ρ g1) P) : xpS (sFor l w m1 ρ g) P := xpS_e2 h
theorem xp_N {op : List D → Gs → Res D} (h : wp (l ρ g) fun ds g1 => xp (op ds g1) P) : xp (mN op l ρ g) P := xp_bind2 h
theorem xp_fn {n M : Nat} {m : SM} {ds : List D} (hl : ds.length = n) (h : xpS (m (stE M ds) g) P) : xp (mFn n M m ds g) P := by
  obtain ⟨e, g1, q, z⟩ := h.to
  unfold mFn
  rw [if_pos hl]
  unfold runB
  rw [q]
  exact z
theorem wp_tryX (h : xp (m ρ g) fun e g1 => (e.fs = [] ∧ e.c ∈ plainN ∧ QD (.str (kinStr e.c)) g1) ∨ ∃ x, e.fs ≠ [] ∧ fieldOf e = some x ∧ QD (.tup [.str (kinStr e.c), x]) g1) : wp (mTry m ρ g) QD := by
  obtain ⟨e, g1, q, z⟩ := h.to
  unfold mTry tryR
  rw [q]
  simp only
  rcases z with ⟨z1, z2, z3⟩ | ⟨x, z1, z2, z3⟩
  · rw [if_pos ⟨z1, z2⟩]
    exact z3
  · rw [if_neg (fun w => z1 w.1), z2]
    exact z3
end
end Sh

set_option Elab.async false
set_option linter.all false
set_option maxRecDepth 100000
set_option maxHeartbeats 1000000
namespace k14
open PySem PySem.Spec L2 Sh Cm
/-! ### what a text writes -/
def fin3 (ps : List (Str × List Int)) : Except Nat (List Int × List Int × Int) := match ps with
  | [(l1, a), (l2, b), (l3, c)] => if [l1, l2, l3] = LABS ∧ a.length = b.length then .ok (a, b, c.headD 0) else .error 4
  | ps => .error (ps.length + 1)
def outF (x : Str) : Except Nat (List Int × List Int × Int) := match partsF 0 (Txt.split x "\n") with
  | .error e => .error e
  | .ok ps => fin3 ps
def dueD : Except Nat (List Int × List Int × Int) → D
  | .error e => .int e
  | .ok (a, b, c) => .lst [LockD a b c]
theorem eqDs_strs : ∀ (as bs : List Str), eqDs (as.map .str) (bs.map .str) = decide (as = bs)
  | [], [] => rfl
  | [], _ :: _ => rfl
  | _ :: _, [] => rfl
  | a :: as, b :: bs => by
    simp only [List.map_cons, eqDs, eqDs_strs as bs, eqD_str2]
    by_cases h1 : a = b
    · by_cases h2 : as = bs
      · simp [h1, h2]
      · simp [h1, h2]
    · simp [h1]
theorem labs_ps {ps : List (Str × List Int)} (h : ps.map (·.1) = LABS) : ∃ a b c : List Int, ps = [(("pins" : Str), a), (("gates" : Str), b), (("width" : Str), c)] := by
  match ps, h with
  | [], h => simp [LABS] at h
  | [_], h => simp [LABS] at h
  | [_, _], h => simp [LABS] at h
  | [(_, a), (_, b), (_, c)], h =>
    simp only [List.map_cons, List.map_nil, LABS, List.cons.injEq, and_true] at h
    obtain ⟨rfl, rfl, rfl⟩ := h
    exact ⟨a, b, c, rfl⟩
  | _ :: _ :: _ :: _ :: _, h => simp [LABS] at h
theorem fin_bad {ps : List (Str × List Int)} (h : ps.map (·.1) ≠ LABS) : fin3 ps = .error (ps.length + 1) := by
  match ps, h with
  | [], _ => rfl
  | [_], _ => rfl
  | [_, _], _ => rfl
  | [(l1, a), (l2, b), (l3, c)], h =>
    show (if [l1, l2, l3] = LABS ∧ a.length = b.length then Except.ok (a, b, c.headD 0) else Except.error 4) = _
    rw [if_neg (fun z => h z.1)]
    rfl
  | _ :: _ :: _ :: _ :: _, _ => rfl
theorem fin_good {a b c : List Int} : fin3 [(("pins" : Str), a), (("gates" : Str), b), (("width" : Str), c)] = if a.length = b.length then .ok (a, b, c.headD 0) else .error 4 := by
  show (if LABS = LABS ∧ a.length = b.length then Except.ok (a, b, c.headD 0) else Except.error 4) = _
  by_cases h : a.length = b.length
  · rw [if_pos h, if_pos ⟨rfl, h⟩]
  · rw [if_neg h, if_neg fun z => h z.2]
theorem one_of {c : List Int} (h1 : 1 ≤ c.length) (h2 : c.length ≤ 1) : c = [c.headD 0] := by
  match c, h1, h2 with
  | [x], _, _ => rfl
theorem lines_ok {x : Str} (hx : x.length ≤ 500000) : (∀ y ∈ Txt.split x "\n", y.length ≤ 1000000) ∧ (Txt.split x "\n").length ≤ 600000 := by
  refine ⟨fun y hy => Nat.le_trans (PyProof.Rows.part_short hy) (by omega), ?_⟩
  have := PyProof.Rows.split_le x "\n"
  omega
theorem rng {l : Str} {ns : List Int} (h : PartOk l ns) : (l = "pins" → ∀ n ∈ ns, 1 ≤ n ∧ n ≤ 3) ∧ (l = "gates" → ∀ n ∈ ns, 0 ≤ n ∧ n ≤ 11) ∧ (l = "width" → ∀ n ∈ ns, 0 ≤ n ∧ n ≤ 2) := by
  have r := h.r
  refine ⟨?_, ?_, ?_⟩ <;> rintro rfl n hn
  · exact r n hn
  · exact r n hn
  · exact r n hn
/-! ### the law's answer -/
theorem sp_due {x : Str} {g : Gs} {Q : D → Gs → Prop} (hx : x.length ≤ 500000) (h : Q (dueD (outF x)) g) : wp (F__law_due [.str x] g) Q := by
  unfold F__law_due
  rw [wp_fn (by rfl)]
  unfold m__law_due
  obtain ⟨h1, h2⟩ := lines_ok hx
  have hx2 : x.length ≤ 1000000 := by omega
  unfold outF at h
  simp [isTy, nl1, hx2, -un_B1__law_due]
  generalize Txt.split x (Str.ofString "\n") = ls at *
  refine due_go ls 0 [] h1 (by simp; omega) (by omega) ?_
  cases e : partsF 0 ls with
  | error k =>
    rw [e] at h
    exact h
  | ok ps =>
    rw [e] at h
    obtain ⟨pl, po⟩ := parts_ok e
    simp only at h
    simp [freeze]
    refine wp_lcMap (fun d => match d with | .lst (.str l :: _) => .str l | _ => .non) (fun d hd => ?_) ?_
    · obtain ⟨p, hp, rfl⟩ := List.mem_map.mp hd
      simp [lD]
    have e1 : (ps.map lD).map (fun d => match d with | .lst (.str l :: _) => D.str l | _ => .non) = (ps.map (·.1)).map .str := by simp [Function.comp_def, lD]
    rw [e1]
    have p1 := plains_strs 49 (ps.map (·.1))
    have p2 := plains_strs 49 LABS
    have q := eqDs_strs (ps.map (·.1)) LABS
    refine ⟨by simp; omega, ⟨by simpa [Sh.plain] using p1, by decide +kernel⟩, ?_⟩
    rw [show eqD (D.lst ((ps.map (·.1)).map .str)) (D.lst [D.str (Str.ofString "pins"), D.str (Str.ofString "gates"), D.str (Str.ofString "width")]) = decide (ps.map (·.1) = LABS) from q]
    by_cases z : ps.map (·.1) = LABS
    · rw [if_pos (by simp [z])]
      obtain ⟨a, b, c, rfl⟩ := labs_ps z
      rw [fin_good] at h
      have pc := po (("width" : Str), c) (by simp)
      obtain ⟨c0, ec⟩ : ∃ c0, c = [c0] := ⟨_, one_of pc.h1 (pc.hw rfl)⟩
      subst ec
      have l3 : (ls.length : Int) = 3 := by rw [← pl]; rfl
      have i0 : ∀ (x y z : D), atI [x, y, z] 0 = some x := fun _ _ _ => rfl
      have i1 : ∀ (x y z : D), atI [x, y, z] 1 = some y := fun _ _ _ => rfl
      have i2 : ∀ (x y z : D), atI [x, y, z] 2 = some z := fun _ _ _ => rfl
      simp [lD, i0, i1, i2, l3]
      by_cases q : a.length = b.length
      · rw [if_pos q] at h
        rw [if_pos (by exact_mod_cast q)]
        simpa [dueD, LockD] using h
      · rw [if_neg q] at h
        rw [if_neg (by exact_mod_cast q)]
        exact h
    · rw [if_neg (by simp [z])]
      rw [fin_bad z] at h
      rw [← pl]
      exact h
/-! ### the program's answer -/
theorem lockv_any {a b c : List Int} {g : Gs} (pa : PartOk "pins" a) (pb : PartOk "gates" b) (pc : PartOk "width" c) : F_is_lock_value [LockD a b (c.headD 0)] g = .ok (.bl (decide (a.length = b.length))) g := by
  have ra := (rng pa).1 rfl
  have rb := (rng pb).2.1 rfl
  have rc := (rng pc).2.2 rfl
  obtain ⟨c0, ec⟩ : ∃ c0, c = [c0] := ⟨_, one_of pc.h1 (pc.hw rfl)⟩
  subst ec
  have rc := rc c0 (by simp)
  refine ok_of ?_
  by_cases q : a.length = b.length
  · rw [show decide (a.length = b.length) = true from decide_eq_true q]
    exact sp_lockv ⟨pa.h1, pa.h2, q.symm, ra, rb, rc.1, rc.2⟩ ⟨rfl, rfl⟩
  · have a1 := pa.h1
    have a2 := pa.h2
    have b2 := pb.h2
    refine sp_lock_value (m := 100) (n := 5) (by omega) ?_ ?_
    · unfold LockD
      rw [dt_tup]
      refine ⟨by simp, fun x hx => ?_⟩
      simp only [List.mem_cons, List.not_mem_nil, or_false] at hx
      rcases hx with rfl | rfl | rfl
      · rw [dt_tup]
        refine ⟨by simp; omega, fun y hy => ?_⟩
        obtain ⟨n, _, rfl⟩ := List.mem_map.mp hy
        simp
      · rw [dt_tup]
        refine ⟨by simp; omega, fun y hy => ?_⟩
        obtain ⟨n, _, rfl⟩ := List.mem_map.mp hy
        simp
      · simp
    · refine ⟨?_, rfl⟩
      change D.bl (hasB 1 2 (D.tup (a.map .int)) && (inR 0 2 (D.int c0) && (hasB (((dits (D.tup (a.map .int))).length : Nat) : Int) (((dits (D.tup (a.map .int))).length : Nat) : Int) (D.tup (b.map .int)) && ((dits (D.tup (b.map .int))).all (inR 0 11) && (dits (D.tup (a.map .int))).all (inR 1 3))))) = _
      have : hasB ((dits (D.tup (a.map .int))).length) ((dits (D.tup (a.map .int))).length) (D.tup (b.map .int)) = false := by
        rw [show (((dits (D.tup (a.map .int))).length : Nat) : Int) = (a.length : Int) from by simp [dits], has_same]
        exact eqI_no (by simp; omega)
      rw [this, show decide (a.length = b.length) = false from decide_eq_false q]
      simp
def OutR (o : Except Nat (List Int × List Int × Int)) (g : Gs) (r : Res D) : Prop := match o with
  | .error e => r = .ex ⟨"InvalidText", [("line", .int e)]⟩ g
  | .ok (a, b, c) => r = .ok (LockD a b c) g
theorem lab_go {ps : List (Str × List Int)} {g : Gs} {s0 s1 s2 s3 s4 s5 : Sl} {QL : List D → Gs → Prop} (h : QL ((ps.map (·.1)).map .str) g) : wp (lcGo (gTp 2 (gCn (gNm 6) (gCn (gNm 7) gNl))) bYes (mV 6) [s0, s1, s2, s3, s4, s5, .no, .no] (ps.map pD) g) QL := by
  refine wp_lcMap (fun d => match d with | .tup (.str l :: _) => .str l | _ => .non) (fun d hd => ?_) ?_
  · obtain ⟨p, hp, rfl⟩ := List.mem_map.mp hd
    simp [pD]
  have e1 : (ps.map pD).map (fun d => match d with | .tup (.str l :: _) => D.str l | _ => .non) = (ps.map (·.1)).map .str := by simp [Function.comp_def, pD]
  rw [e1]
  exact h
theorem eq_labs {ps : List (Str × List Int)} : eqD (D.tup ((ps.map (·.1)).map .str)) (D.tup [D.str (Str.ofString "pins"), D.str (Str.ofString "gates"), D.str (Str.ofString "width")]) = decide (ps.map (·.1) = LABS) := eqDs_strs _ LABS
theorem pl_labs {ps : List (Str × List Int)} : Sh.plain 50 (D.tup ((ps.map (·.1)).map .str)) = true ∧ Sh.plain 50 (D.tup [D.str (Str.ofString "pins"), D.str (Str.ofString "gates"), D.str (Str.ofString "width")]) = true := ⟨by have := plains_strs 49 (ps.map (·.1)); simpa [Sh.plain] using this, by decide +kernel⟩
theorem lock_of_any {x : Str} {g : Gs} (hx : x.length ≤ 500000) : OutR (outF x) g (F_lock_of [.str x] g) := by
  obtain ⟨h1, h2⟩ := lines_ok hx
  have hx2 : x.length ≤ 1000000 := by omega
  have go := fun (a0 s5 s6 s7 : Sl) => lock_go (g := g) (a0 := a0) (s5 := s5) (s6 := s6) (s7 := s7) (Txt.split x "\n") 0 [] h1 (by simp; omega)
  unfold outF
  generalize hls : Txt.split x (Str.ofString "\n") = ls at *
  cases e : partsF 0 ls with
  | error k =>
    rw [e] at go
    refine ex_of ?_
    unfold F_lock_of m_lock_of
    refine xp_fn rfl (xpS_go ?_)
    simp [isTy, -un_B1_lock_of]
    refine xpS_go ?_
    simp [-un_B1_lock_of]
    refine xpS_now (xpS_for ?_)
    simp [nl1, hx2, hls, -un_B1_lock_of]
    rw [go]
    exact ⟨rfl, rfl⟩
  | ok ps =>
    rw [e] at go
    obtain ⟨pl, po⟩ := parts_ok e
    by_cases z : ps.map (·.1) = LABS
    · obtain ⟨a, b, c, rfl⟩ := labs_ps z
      have pa := po (("pins" : Str), a) (by simp)
      have pb := po (("gates" : Str), b) (by simp)
      have pc := po (("width" : Str), c) (by simp)
      have lv := lockv_any (g := g) pa pb pc
      obtain ⟨c0, ec⟩ : ∃ c0, c = [c0] := ⟨_, one_of pc.h1 (pc.hw rfl)⟩
      subst ec
      change F_is_lock_value [LockD a b c0] g = _ at lv
      have i0 : ∀ (x y z : D), atI [x, y, z] 0 = some x := fun _ _ _ => rfl
      have i1 : ∀ (x y z : D), atI [x, y, z] 1 = some y := fun _ _ _ => rfl
      have i2 : ∀ (x y z : D), atI [x, y, z] 2 = some z := fun _ _ _ => rfl
      show OutR (fin3 [(("pins" : Str), a), (("gates" : Str), b), (("width" : Str), [c0])]) g _
      rw [fin_good]
      by_cases q : a.length = b.length
      · rw [if_pos q]
        show _ = Res.ok (LockD a b c0) g
        rw [decide_eq_true q] at lv
        refine ok_of ?_
        unfold F_lock_of
        rw [wp_fn (by rfl)]
        unfold m_lock_of
        have pl := plains_strs 49 LABS
        simp only [LABS, List.map_cons, List.map_nil] at pl
        simp [isTy, nl1, hx2, hls, -un_B1_lock_of, go, pD, bYes, Sh.plain, pl, eqD, eqDs]
        rw [show F_is_lock_value [D.tup [D.tup (a.map .int), D.tup (b.map .int), D.int c0]] g = _ from lv]
        simp [LockD]
      · rw [if_neg q]
        show _ = Res.ex ⟨"InvalidText", [("line", .int 4)]⟩ g
        rw [decide_eq_false q] at lv
        refine ex_of ?_
        unfold F_lock_of m_lock_of
        refine xp_fn rfl (xpS_go ?_)
        simp [isTy, -un_B1_lock_of]
        refine xpS_go ?_
        simp [-un_B1_lock_of]
        refine xpS_go ?_
        simp [nl1, hx2, hls, -un_B1_lock_of]
        rw [go]
        simp
        refine xpS_go ?_
        have pl := plains_strs 49 LABS
        simp only [LABS, List.map_cons, List.map_nil] at pl
        simp [freeze, pD, bYes, Sh.plain, pl, eqD, eqDs]
        refine xpS_go ?_
        simp
        refine xpS_now (xpS_if ?_)
        simp
        rw [show F_is_lock_value [D.tup [D.tup (a.map .int), D.tup (b.map .int), D.int c0]] g = _ from lv]
        simp
        refine xpS_raiseF ?_
        simp
    · rw [show (match (Except.ok ps : Except Nat (List (Str × List Int))) with | .error e => Except.error e | .ok ps => fin3 ps) = Except.error (ps.length + 1) from fin_bad z]
      refine ex_of ?_
      unfold F_lock_of m_lock_of
      refine xp_fn rfl (xpS_go ?_)
      simp [isTy, -un_B1_lock_of]
      refine xpS_go ?_
      simp [-un_B1_lock_of]
      refine xpS_go ?_
      simp [nl1, hx2, hls, -un_B1_lock_of]
      rw [go]
      simp
      refine xpS_now (xpS_pre (xpS_if ?_))
      simp [freeze]
      refine lab_go ⟨by simp; omega, pl_labs, ?_⟩
      rw [eq_labs, decide_eq_false z]
      simp
      refine xpS_raiseF ?_
      have bg : big ((ps.length : Int) + 1) = true := big_of (by omega) (by omega)
      simp [bg]
theorem read_any {x : Str} {g : Gs} (hx : x.length ≤ 500000) : OutR (outF x) g (F_read_lock [.str x] g) := by
  have h := lock_of_any (g := g) hx
  have e : F_read_lock [.str x] g = F_lock_of [.str x] g := by
    unfold F_read_lock m_read_lock
    simp [mFn, runB, sRet, eS, mN, mCons, mNil, mV, Res.bind, stE]
    cases F_lock_of [.str x] g <;> rfl
  rw [e]
  exact h
/-! ### one text is told as due -/
theorem kin_text : kinStr "InvalidText" = "text +" := by decide +kernel
theorem ft_ok (e : Int) : fieldOf ⟨"InvalidText", [("line", .int e)]⟩ = some (.int e) := by
  unfold fieldOf
  simp only
  rw [if_pos (by decide +kernel)]
end k14

set_option Elab.async false
set_option linter.all false
set_option maxRecDepth 100000
set_option maxHeartbeats 1000000
namespace k14
open PySem PySem.Spec L2 Sh Cm
/-! ### a text bent stays short -/
def wgt (ls : List Str) : Nat := (ls.map (·.length)).sum + ls.length
theorem wgt_app (a b : List Str) : wgt (a ++ b) = wgt a + wgt b := by
  unfold wgt
  simp
  omega
theorem wgt_sub {a b : List Str} (h : List.Sublist a b) : wgt a ≤ wgt b := by
  unfold wgt
  have h1 := h.length_le
  have h2 : (a.map (·.length)).sum ≤ (b.map (·.length)).sum := by
    induction h with
    | slnil => simp
    | cons x _ ih => simp; have := ih (by exact (List.Sublist.length_le (by assumption))); omega
    | cons_cons x _ ih => simp; exact ih (by exact (List.Sublist.length_le (by assumption)))
  omega
def cutL (ls : List Str) (lo hi : Option Int) : List Str := (ls.drop (HT.sIx ls.length 0 lo)).take (HT.sIx ls.length ls.length hi - HT.sIx ls.length 0 lo)
theorem cut_strs (ls : List Str) (lo hi : Option Int) : cutD (ls.map .str) lo hi = (cutL ls lo hi).map .str := by
  unfold cutD cutL
  simp
theorem wgt_cut (ls : List Str) (lo hi : Option Int) : wgt (cutL ls lo hi) ≤ wgt ls := wgt_sub ((List.take_sublist _ _).trans (List.drop_sublist _ _))
theorem wgt_rev (ls : List Str) : wgt ls.reverse = wgt ls := by
  unfold wgt
  simp
theorem wgt_split (x : Str) : wgt (Txt.split x "\n") ≤ x.length + 1 := PyProof.Rows.split_weight x "\n" (by decide +kernel)
theorem join_le (ls : List Str) : (Txt.join "\n" ls).length ≤ wgt ls := by
  have e := StrLaws.join_length_le "\n" ls
  have ej : Txt.join "\n" ls = Str.join "\n" ls := StrLaws.glued_eq_join _ _
  rw [ej]
  rw [nl1] at e
  unfold wgt
  omega
theorem oLen_str {x : Str} {g : Gs} {Q : D → Gs → Prop} (hx : x.length ≤ 1000000) : wp (oLen [.str x] g) Q = Q (.int x.length) g := by
  unfold oLen
  simp [hx]
theorem oSl_str {x : Str} {lo hi : Option Int} {g : Gs} {Q : D → Gs → Prop} (hx : x.length ≤ 1000000) : wp (oSl (.str x) lo hi g) Q = Q (.str (cutS x lo hi)) g := by
  unfold oSl
  simp [hx]
theorem join_ok {ls : List Str} {g : Gs} {Q : D → Gs → Prop} (hz : wgt ls ≤ 1000000) (h : Q (.str (Txt.join "\n" ls)) g) : wp (oJoin "\n" (.lst (ls.map .str)) g) Q := by
  refine oJoin_lst ?_ h
  rw [nl1]
  unfold wgt at hz
  omega
theorem at_str {ss : List Str} {k : Nat} {d : D} (h : (ss.map D.str)[k]? = some d) : ∃ s, d = .str s ∧ s ∈ ss := by
  rw [List.getElem?_map] at h
  cases e : ss[k]? with
  | none => rw [e] at h; cases h
  | some s =>
    rw [e] at h
    cases h
    exact ⟨s, rfl, List.mem_of_getElem? e⟩
theorem signs_short : ∀ s ∈ ([" ", "\n", "0", ",1", "x", "-", "1", "3"] : List Str), s.length ≤ 2 := by decide +kernel
theorem news_short : ∀ s ∈ (["pins 4", "pins 1", "gates 0,0", "gates 12", "width 0,0", "width 3", "gates 01", "pin 1", ""] : List Str), s.length ≤ 9 := by decide +kernel
theorem sp_bent {g : Gs} {l : Nat} {b : Int} {x : Str} {Q : D → Gs → Prop} (hD : Dk g l b) (hb : b ≤ 1000000) (hx : x.length ≤ 100000) (h : ∀ (y : Str) g', y.length ≤ 3 * x.length + 30 → Dk g' l (b + 4) → Q (.str y) g') : wp (F__law_text_bent [.loc l, .str x] g) Q := by
  have hx2 : x.length ≤ 1000000 := by omega
  have ws := wgt_split x
  have l1 := PyProof.Rows.split_pos x "\n"
  have l2 := PyProof.Rows.split_le x "\n"
  unfold F__law_text_bent
  rw [wp_fn (by rfl)]
  unfold m__law_text_bent
  simp
  refine sp_pick hD (by omega) (by omega) (by omega) fun w g1 w0 w1 d1 => ?_
  simp [nl1, hx2]
  generalize Txt.split x (Str.ofString "\n") = ls at *
  rw [oLen_str hx2]
  simp only [oAdd_int, wp_ok]
  refine sp_pick d1 (by omega) (by omega) (by omega) fun at_ g2 a0 a1 d2 => ?_
  refine sp_pick d2 (by omega) (by omega) (by omega) fun k g3 k0 k1 d3 => ?_
  have hw : w = 0 ∨ w = 1 ∨ w = 2 ∨ w = 3 ∨ w = 4 ∨ w = 5 := by omega
  have c1 := wgt_cut ls none (some k)
  have c2 := wgt_cut ls (some k) (some (k + 1))
  have c3 := wgt_cut ls (some k) none
  have c4 := wgt_cut ls (some (k + 1)) none
  have c5 := wgt_cut ls (some k) (some (k + 2))
  have c6 := wgt_cut ls (some (k + 2)) none
  have ln : ∀ ms : List Str, ms.length ≤ wgt ms := fun ms => by unfold wgt; omega
  have n1 := ln (cutL ls none (some k))
  have n2 := ln (cutL ls (some k) (some (k + 1)))
  have n3 := ln (cutL ls (some k) none)
  have n4 := ln (cutL ls (some (k + 1)) none)
  have n5 := ln (cutL ls (some k) (some (k + 2)))
  have n6 := ln (cutL ls (some (k + 2)) none)
  rcases hw with rfl | rfl | rfl | rfl | rfl | rfl
  · simp [ixR, oSl_str hx2]
    have e1 := cutS_length x none (some at_)
    have e2 := cutS_length x (some (at_ + 1)) none
    rw [oAdd_str]
    rw [Str.length_append]
    exact ⟨by omega, h _ _ (by rw [Str.length_append]; omega) (d3.mono (by omega))⟩
  · simp [ixR, oSl_str hx2]
    have e1 := cutS_length x none (some at_)
    have e2 := cutS_length x (some at_) none
    refine sp_one d3 (by omega) (by simp) (by simp) fun i d g4 hi d4 => ?_
    obtain ⟨s, rfl, hs⟩ := at_str (ss := [" ", "\n", "0", ",1", "x", "-", "1", "3"]) hi
    have e3 := signs_short s hs
    rw [oAdd_str, oAdd_str]
    rw [Str.length_append, Str.length_append, Str.length_append]
    exact ⟨by omega, by omega, h _ _ (by rw [Str.length_append, Str.length_append]; omega) (d4.mono (by omega))⟩
  · simp [ixR, cut_strs]
    refine ⟨by omega, by omega, ?_⟩
    rw [← List.map_append, ← List.map_append]
    have e4 : wgt (cutL ls none (some k) ++ (cutL ls (some k) (some (k + 1)) ++ cutL ls (some k) none)) ≤ 3 * wgt ls := by
      rw [wgt_app, wgt_app]
      omega
    refine join_ok (by omega) (h _ _ ?_ (d3.mono (by omega)))
    have := join_le (cutL ls none (some k) ++ (cutL ls (some k) (some (k + 1)) ++ cutL ls (some k) none))
    omega
  · simp [ixR, cut_strs]
    refine ⟨by omega, ?_⟩
    rw [← List.map_append]
    have e4 : wgt (cutL ls none (some k) ++ cutL ls (some (k + 1)) none) ≤ 2 * wgt ls := by
      rw [wgt_app]
      omega
    refine join_ok (by omega) (h _ _ ?_ (d3.mono (by omega)))
    have := join_le (cutL ls none (some k) ++ cutL ls (some (k + 1)) none)
    omega
  · simp [ixR, cut_strs]
    refine ⟨by omega, by omega, ?_⟩
    rw [← List.map_reverse, ← List.map_append, ← List.map_append]
    have e4 : wgt (cutL ls none (some k) ++ ((cutL ls (some k) (some (k + 2))).reverse ++ cutL ls (some (k + 2)) none)) ≤ 3 * wgt ls := by
      rw [wgt_app, wgt_app, wgt_rev]
      omega
    refine join_ok (by omega) (h _ _ ?_ (d3.mono (by omega)))
    have := join_le (cutL ls none (some k) ++ ((cutL ls (some k) (some (k + 2))).reverse ++ cutL ls (some (k + 2)) none))
    omega
  · simp [ixR, cut_strs]
    refine sp_one d3 (by omega) (by simp) (by simp) fun i d g4 hi d4 => ?_
    obtain ⟨s, rfl, hs⟩ := at_str (ss := ["pins 4", "pins 1", "gates 0,0", "gates 12", "width 0,0", "width 3", "gates 01", "pin 1", ""]) hi
    have e3 := news_short s hs
    refine ⟨by omega, by omega, ?_⟩
    have e4 : wgt (cutL ls none (some k) ++ (s :: cutL ls (some (k + 1)) none)) ≤ 2 * wgt ls + 10 := by
      rw [wgt_app, show s :: cutL ls (some (k + 1)) none = [s] ++ cutL ls (some (k + 1)) none from rfl, wgt_app]
      have : wgt [s] = s.length + 1 := by simp [wgt]
      omega
    rw [show (cutL ls none (some k)).map D.str ++ D.str s :: (cutL ls (some (k + 1)) none).map D.str = (cutL ls none (some k) ++ (s :: cutL ls (some (k + 1)) none)).map .str from by simp]
    refine join_ok (by omega) (h _ _ ?_ (d4.mono (by omega)))
    have := join_le (cutL ls none (some k) ++ (s :: cutL ls (some (k + 1)) none))
    omega
end k14

set_option Elab.async false
set_option linter.all false
set_option maxRecDepth 100000
set_option maxHeartbeats 1000000
namespace k14
open PySem PySem.Spec L2 Sh Cm
theorem rpl_ok {x : Str} {g : Gs} {Q : D → Gs → Prop} (hx : x.length ≤ 10000) (h : Q (.str (Txt.replace x " " "  ")) g) : wp (oRpl " " "  " (.str x) g) Q := by
  have e : ("  " : Str).length = 2 := by decide +kernel
  unfold oRpl
  simp only
  rw [if_pos (by rw [e]; omega)]
  exact h
/-- what is asked -/
def Gd (d : D) : Prop := (∃ x, d = .str x ∧ x.length ≤ 400000) ∨ d = .non ∨ d = .int 7 ∨ (∃ x, d = .lst [.str x]) ∨ d = .tup []
theorem due_odd {d : D} {g : Gs} {Q : D → Gs → Prop} (hd : d = .non ∨ d = .int 7 ∨ (∃ x, d = .lst [.str x]) ∨ d = .tup []) (h : Q (.int 0) g) : wp (F__law_due [d] g) Q := by
  unfold F__law_due
  rw [wp_fn (by rfl)]
  unfold m__law_due
  rcases hd with rfl | rfl | ⟨x, rfl⟩ | rfl <;> simp [isTy] <;> exact h
theorem read_odd {d : D} {g : Gs} (hd : d = .non ∨ d = .int 7 ∨ (∃ x, d = .lst [.str x]) ∨ d = .tup []) : F_read_lock [d] g = .ex ⟨"InvalidText", [("line", .int 0)]⟩ g := by
  have e : F_lock_of [d] g = .ex ⟨"InvalidText", [("line", .int 0)]⟩ g := by
    refine ex_of ?_
    unfold F_lock_of m_lock_of
    refine xp_fn rfl (xpS_now (xpS_if ?_))
    rcases hd with rfl | rfl | ⟨x, rfl⟩ | rfl <;> simp [isTy] <;> exact ⟨rfl, rfl⟩
  unfold F_read_lock m_read_lock
  refine ex_of (xp_fn rfl (xpS_ret (xp_N ?_)))
  simp
  exact xp_of e ⟨rfl, rfl⟩
theorem ex_tell {m : EM} {ρ : En} {g : Gs} {e : Int} {Q : D → Gs → Prop} (h : m ρ g = .ex ⟨"InvalidText", [("line", .int e)]⟩ g) (hq : Q (.tup [.str "text +", .int e]) g) : wp (mTry m ρ g) Q := by
  refine wp_tryX (xp_of h (.inr ⟨.int e, by simp, ft_ok e, ?_⟩))
  rw [show kinStr (Xn.mk "InvalidText" [("line", D.int e)]).c = "text +" from kin_text]
  exact hq
theorem eq_lock {ps xs : List Int} {s : Int} : eqD (LockD ps xs s) (LockD ps xs s) = true := by
  unfold LockD
  simp [eqD, eqDs, eqDs_ints]
theorem plain_lock {ps xs : List Int} {s : Int} {k : Nat} : Sh.plain (k + 3) (LockD ps xs s) = true := by
  unfold LockD
  simp [Sh.plain, Sh.plains, plains_ints]
theorem turn_ok {d : D} {g : Gs} {s0 s1 s2 s3 s4 s5 s7 s8 s9 s10 s11 s12 : Sl} {N : En → Gs → Prop} {R : D → Gs → Prop} (hd : Gd d) (h : N [s0, s1, s2, s3, s4, s5, .d d, .no, .no, s9, s10, s11, s12] g) :
    wpS (B1_law [s0, s1, s2, s3, s4, s5, .d d, s7, s8, s9, s10, s11, s12] g) N R := by
  have hn : ∀ e : Int, Sh.plain 50 (.tup [.str "text +", .int e]) = true := fun e => by simp [Sh.plain, Sh.plains]
  have he : ∀ e : Int, eqD (.tup [.str "text +", .int e]) (.tup [.str "text +", .int e]) = true := fun e => by simp [eqD, eqDs]
  rcases hd with ⟨x, rfl, hx⟩ | hd
  · have ra := read_any (g := g) (x := x) (by omega)
    simp
    refine sp_due (by omega) ?_
    cases o : outF x with
    | error e =>
      rw [o] at ra
      have ra : F_read_lock [D.str x] g = .ex ⟨"InvalidText", [("line", .int e)]⟩ g := ra
      simp [dueD, isTy]
      refine ex_tell (e := e) ?_ ?_
      · simpa [mN, mCons, mNil, mV, Res.bind] using ra
      · simp [hn, he]
        exact h
    | ok p =>
      obtain ⟨a, b, c⟩ := p
      rw [o] at ra
      have pl : Sh.plain 50 (.tup [.str "told", LockD a b c]) = true := by
        have := plain_lock (ps := a) (xs := b) (s := c) (k := 46)
        simp [Sh.plain, Sh.plains, this]
      have e : eqD (.tup [.str "told", LockD a b c]) (.tup [.str "told", LockD a b c]) = true := by
        have := eq_lock (ps := a) (xs := b) (s := c)
        simp [eqD, eqDs, this]
      simp [dueD, isTy]
      refine wp_try_ok ?_
      simp
      rw [show F_read_lock [D.str x] g = .ok (LockD a b c) g from ra]
      simp [pl, e]
      exact h
  · simp
    refine due_odd hd ?_
    simp [isTy]
    refine ex_tell (e := 0) ?_ ?_
    · simpa [mN, mCons, mNil, mV, Res.bind] using read_odd (g := g) hd
    · simp [hn, he]
      exact h
theorem strs_ex {b : Nat} : ∀ {xs : List D}, (∀ (k : Nat) x, xs[k]? = some x → ∃ y, x = .str y ∧ y.length ≤ b) → ∃ ys : List Str, xs = ys.map .str ∧ ys.length = xs.length ∧ ∀ y ∈ ys, y.length ≤ b
  | [], _ => ⟨[], rfl, rfl, by simp⟩
  | x :: xs, h => by
    obtain ⟨y, rfl, hy⟩ := h 0 x rfl
    obtain ⟨ys, rfl, h1, h2⟩ := strs_ex (xs := xs) fun k x hk => h (k + 1) x hk
    refine ⟨y :: ys, rfl, by rw [List.length_cons, List.length_cons, h1], fun z hz => ?_⟩
    rcases List.mem_cons.mp hz with rfl | hz
    · exact hy
    · exact h2 z hz
theorem gd_go {ds : List D} {g : Gs} {s0 s1 s2 s3 s4 s5 s9 s10 s11 s12 : Sl} {N : En → Gs → Prop} {R : D → Gs → Prop} (hd : ∀ d ∈ ds, Gd d) (h : ∀ s6, noM (some s6) = true → N [s0, s1, s2, s3, s4, s5, s6, .no, .no, s9, s10, s11, s12] g) (s6 : Sl) (h6 : noM (some s6) = true) :
    wpS (forGo (gNm 6) B1_law ds [s0, s1, s2, s3, s4, s5, s6, .no, .no, s9, s10, s11, s12] g) N R := by
  induction ds generalizing s6 with
  | nil => exact h s6 h6
  | cons d ds ih =>
    rw [tn_B1_law]
    simp [-un_B1_law]
    exact turn_ok (hd d (by simp)) (ih (fun d hd' => hd d (List.mem_cons_of_mem _ hd')) _ rfl)
theorem cell_ok {c : Int} {g : Gs} {s0 s2 s3 s4 s5 s6 s9 s10 s11 : Sl} {N : En → Gs → Prop} {R : D → Gs → Prop} (h6 : noM (some s6) = true) (h : ∀ s6 g', noM (some s6) = true → N [s0, .no, .no, .no, .no, .no, s6, .no, .no, s9, s10, s11, .no] g') :
    wpS (B2_law [s0, .d (.int c), s2, s3, s4, s5, s6, .no, .no, s9, s10, s11, .no] g) N R := by
  simp [-un_B1_law, -tn_B1_law]
  refine sp_deck (by omega) (by omega) fun l g1 d1 => ?_
  refine sp_lock d1 (by omega) fun ps xs s g2 hL d2 => ?_
  refine sp_writing hL ?_
  have tl := textP_len hL
  generalize textP ps xs s = x at *
  refine wp_lcInv (fun k g => Dk g l (20 + 4 * k)) (fun _ x => ∃ y, x = .str y ∧ y.length ≤ 4000) (by simpa using d2) (fun k d g hk hI => ?_) fun xs g3 hl hp hI => ?_
  · have hk2 : k < 26 := by
      have := (List.getElem?_eq_some_iff.mp hk).1
      simpa [rngD] using this
    simp
    exact sp_bent hI (by omega) (by omega) fun y g' hy d => ⟨⟨y, rfl, by omega⟩, d.mono (by push_cast; omega)⟩
  obtain ⟨ys, rfl, hys, yb⟩ := strs_ex hp
  have l26 : ys.length = 26 := by rw [hys, hl]; simp [rngD]
  refine ⟨by simp [l26], h6, ?_⟩
  have hI2 : Dk g3 l (124 + 4 * ((0 : Nat) : Int)) := by simpa [rngD] using hI
  refine wp_lcInv (fun k g => Dk g l (124 + 4 * k)) (fun _ x => ∃ y, x = .str y ∧ y.length ≤ 13000) hI2 (fun k d g hk hI => ?_) fun zs g4 hl2 hp2 hI3 => ?_
  · have hk2 : k < 26 := by
      have := (List.getElem?_eq_some_iff.mp hk).1
      simpa [l26] using this
    obtain ⟨y, rfl, hy⟩ := at_str hk
    have := yb y hy
    simp
    exact sp_bent hI (by omega) (by omega) fun y g' hy d => ⟨⟨y, rfl, by omega⟩, d.mono (by push_cast; omega)⟩
  obtain ⟨ws, rfl, hws, wb⟩ := strs_ex hp2
  have l27 : ws.length = 26 := by rw [hws, hl2]; simp [l26]
  have u1 : (" " : Str).length = 1 := by decide +kernel
  have u2 : ("\n" : Str).length = 1 := nl1
  refine ⟨by simp [l27], by simp [l26, l27], ?_⟩
  rw [oAdd_str, oAdd_str]
  rw [Str.length_append, Str.length_append]
  refine ⟨by omega, by omega, by simp [l26, l27], ?_⟩
  have e3 : ∀ (s0 s1 s2 s4 s5 s6 s7 s8 s9 s10 s11 s12 : Sl) (Q : D → Gs → Prop), Q (.str (Txt.replace x " " "  ")) g4 → wp (mRpl " " "  " (mV 3) [s0, s1, s2, Sl.d (D.str x), s4, s5, s6, s7, s8, s9, s10, s11, s12] g4) Q := fun s0 s1 s2 s4 s5 s6 s7 s8 s9 s10 s11 s12 Q hq => by
    unfold mRpl
    simp
    exact rpl_ok (by omega) hq
  refine e3 _ _ _ _ _ _ _ _ _ _ _ _ _ ⟨by simp [l26, l27], ?_⟩
  have rl := TK.replace_len x " " "  "
  have u3 : ("  " : Str).length = 2 := by decide +kernel
  rw [u3] at rl
  refine gd_go (fun d hd => ?_) (fun s6 h6 => ?_) _ h6
  · rcases List.mem_append.mp hd with hd | hd
    · obtain ⟨y, hy, rfl⟩ := List.mem_map.mp hd
      exact .inl ⟨y, rfl, by have := yb y hy; omega⟩
    · rcases List.mem_append.mp hd with hd | hd
      · obtain ⟨y, hy, rfl⟩ := List.mem_map.mp hd
        exact .inl ⟨y, rfl, by have := wb y hy; omega⟩
      · have st : ∀ y : Str, y.length ≤ 400000 → Gd (.str y) := fun y hy => .inl ⟨y, rfl, hy⟩
        simp only [List.mem_cons, List.not_mem_nil, or_false] at hd
        rcases hd with rfl | rfl | rfl | rfl | rfl | rfl | rfl | rfl | rfl | rfl | rfl | rfl
        · exact .inr (.inl rfl)
        · exact .inr (.inr (.inl rfl))
        · exact .inr (.inr (.inr (.inl ⟨_, rfl⟩)))
        · exact .inr (.inr (.inr (.inr rfl)))
        · exact st _ (by decide +kernel)
        · exact st _ (by decide +kernel)
        · exact st _ (by decide +kernel)
        · exact st _ (by rw [Str.length_append]; omega)
        · exact st _ (by rw [Str.length_append]; omega)
        · exact st _ (by decide +kernel)
        · exact st _ (by omega)
        · exact st _ (by omega)
  · exact h s6 g4 h6
end k14

set_option Elab.async false
set_option linter.all false
set_option maxRecDepth 100000
set_option maxHeartbeats 1000000
namespace k14
open PySem PySem.Spec L2 Sh Cm
def lineE (x : Str) (e : Nat) : Bool := match outF x with
  | .error k => k == e
  | .ok _ => false
theorem lineE_ok {x : Str} {e : Nat} (h : lineE x e = true) : outF x = .error e := by
  unfold lineE at h
  cases o : outF x with
  | error k =>
    rw [o] at h
    rw [beq_iff_eq.mp h]
  | ok p =>
    rw [o] at h
    cases h
theorem row_ok {x : Str} {e : Nat} {g : Gs} {s0 s1 s2 s3 s4 s5 s6 s7 s8 s9 s12 : Sl} {N : En → Gs → Prop} {R : D → Gs → Prop} (hx : x.length ≤ 500000) (o : lineE x e = true) (h : N [s0, s1, s2, s3, s4, s5, s6, s7, s8, s9, .no, .no, s12] g) :
    wpS (B3_law [s0, s1, s2, s3, s4, s5, s6, s7, s8, s9, .d (.str x), .d (.int e), s12] g) N R := by
  have ra := read_any (g := g) (x := x) (by omega)
  rw [lineE_ok o] at ra
  have ra : F_read_lock [D.str x] g = .ex ⟨"InvalidText", [("line", .int e)]⟩ g := ra
  have hn : ∀ e : Int, Sh.plain 50 (.tup [.str "text +", .int e]) = true := fun e => by simp [Sh.plain, Sh.plains]
  have he : ∀ e : Int, eqD (.tup [.str "text +", .int e]) (.tup [.str "text +", .int e]) = true := fun e => by simp [eqD, eqDs]
  simp
  refine ex_tell (e := e) ?_ ?_
  · simpa [mN, mCons, mNil, mV, Res.bind] using ra
  · simp [hn, he]
    exact h
theorem rows_ok : lineE "pins 1\ngates 1,2\nwidth 0" 4 = true ∧ lineE "pins 0\ngates 1\nwidth 0" 1 = true ∧ lineE "gates 1\npins 1\nwidth 0" 4 = true ∧ lineE "pins 1\ngates 12\nwidth 0" 2 = true ∧ lineE "pins 1\ngates 1\nwidth 3" 3 = true ∧ lineE "pins 1\ngates 1" 3 = true ∧
    lineE "pins 1,2,3\ngates 1\nwidth 0" 1 = true ∧ lineE "pins 1\ngates -1\nwidth 0" 2 = true ∧ lineE "" 1 = true ∧ lineE "pins 1\ngates 1\nwidth 0,0" 3 = true ∧ lineE "pins 1\ngates 1\nwidth 0\nwidth 0" 5 = true := by decide +kernel
theorem pure_law (ns : List Int) (hl : ns.length ≤ 63) : ∃ g, F_law [.lst (ns.map .int)] [] = .ok (.bl true) g := by
  have key : wp (F_law [.lst (ns.map .int)] []) (fun d _ => d = .bl true) := by
    unfold F_law
    rw [wp_fn (by rfl)]
    unfold m_law
    simp [-un_B2_law, -tn_B3_law, -un_B3_law]
    refine ⟨by omega, wpS_forInv (fun _ ρ g => ∃ s6, noM (some s6) = true ∧ ρ = [.d (.lst (ns.map .int)), .no, .no, .no, .no, .no, s6, .no, .no, .no, .no, .no, .no]) ⟨.no, rfl, rfl⟩ (fun k d ρ g hk hI => ?_) fun ρ g hI => ?_⟩
    · obtain ⟨c, rfl⟩ := cut_intsK hk
      obtain ⟨s6, h6, rfl⟩ := hI
      simp [-un_B2_law]
      exact cell_ok h6 fun s6 g' h6 => ⟨s6, h6, rfl⟩
    · obtain ⟨s6, h6, rfl⟩ := hI
      obtain ⟨r1, r2, r3, r4, r5, r6, r7, r8, r9, r10, r11⟩ := rows_ok
      simp [-tn_B3_law, -un_B3_law]
      rw [tn_B3_law]
      simp [-tn_B3_law, -un_B3_law]
      refine row_ok (e := 4) (by decide +kernel) r1 ?_
      rw [tn_B3_law]
      simp [-tn_B3_law, -un_B3_law]
      refine row_ok (e := 1) (by decide +kernel) r2 ?_
      rw [tn_B3_law]
      simp [-tn_B3_law, -un_B3_law]
      refine row_ok (e := 4) (by decide +kernel) r3 ?_
      rw [tn_B3_law]
      simp [-tn_B3_law, -un_B3_law]
      refine row_ok (e := 2) (by decide +kernel) r4 ?_
      rw [tn_B3_law]
      simp [-tn_B3_law, -un_B3_law]
      refine row_ok (e := 3) (by decide +kernel) r5 ?_
      rw [tn_B3_law]
      simp [-tn_B3_law, -un_B3_law]
      refine row_ok (e := 3) (by decide +kernel) r6 ?_
      rw [tn_B3_law]
      simp [-tn_B3_law, -un_B3_law]
      refine row_ok (e := 1) (by decide +kernel) r7 ?_
      rw [tn_B3_law]
      simp [-tn_B3_law, -un_B3_law]
      refine row_ok (e := 2) (by decide +kernel) r8 ?_
      rw [tn_B3_law]
      simp [-tn_B3_law, -un_B3_law]
      refine row_ok (e := 1) (by decide +kernel) r9 ?_
      rw [tn_B3_law]
      simp [-tn_B3_law, -un_B3_law]
      refine row_ok (e := 3) (by decide +kernel) r10 ?_
      rw [tn_B3_law]
      simp [-tn_B3_law, -un_B3_law]
      refine row_ok (e := 5) (by decide +kernel) r11 ?_
      simp
  obtain ⟨a, g, e, rfl⟩ := key.to
  exact ⟨g, e⟩
end k14

set_option Elab.async false
set_option linter.all false
set_option maxRecDepth 100000
set_option maxHeartbeats 0
namespace k14
open PySem PySem.Spec PyProof.Rows L2 Sh Cm
def top (i : Nat) : Stmt := PySem.Challenge.pw_anylocks_k14_texts_that_are_refused.main.body.getD i (.Pass ⟨0, 0, 0, 0⟩)
abbrev s_is_within : Stmt := top 15
abbrev s_has_items : Stmt := top 16
abbrev s_is_lock_value : Stmt := top 17
abbrev s_numbers_in : Stmt := top 22
abbrev s_part_of : Stmt := top 23
abbrev s_lock_of : Stmt := top 24
abbrev s_read_lock : Stmt := top 25
abbrev s__law_deck : Stmt := top 27
abbrev s__law_pick : Stmt := top 28
abbrev s__law_one : Stmt := top 29
abbrev s__law_kin : Stmt := top 30
abbrev s__law_try : Stmt := top 31
abbrev s__law_lock : Stmt := top 32
abbrev s__law_writing : Stmt := top 33
abbrev s__law_read_line : Stmt := top 34
abbrev s__law_due : Stmt := top 35
abbrev s__law_text_bent : Stmt := top 36
abbrev s_law : Stmt := top 37
structure Fc (K : PySem.W.Frag) (mg : PySem.Str → Option Value) : Prop where
  g_is_within : mg "is_within" = some (.ref (He.ga K "is_within"))
  g_has_items : mg "has_items" = some (.ref (He.ga K "has_items"))
  g_is_lock_value : mg "is_lock_value" = some (.ref (He.ga K "is_lock_value"))
  g_numbers_in : mg "numbers_in" = some (.ref (He.ga K "numbers_in"))
  g_part_of : mg "part_of" = some (.ref (He.ga K "part_of"))
  g_lock_of : mg "lock_of" = some (.ref (He.ga K "lock_of"))
  g_read_lock : mg "read_lock" = some (.ref (He.ga K "read_lock"))
  g__law_deck : mg "_law_deck" = some (.ref (He.ga K "_law_deck"))
  g__law_pick : mg "_law_pick" = some (.ref (He.ga K "_law_pick"))
  g__law_one : mg "_law_one" = some (.ref (He.ga K "_law_one"))
  g__law_kin : mg "_law_kin" = some (.ref (He.ga K "_law_kin"))
  g__law_try : mg "_law_try" = some (.ref (He.ga K "_law_try"))
  g__law_lock : mg "_law_lock" = some (.ref (He.ga K "_law_lock"))
  g__law_writing : mg "_law_writing" = some (.ref (He.ga K "_law_writing"))
  g__law_read_line : mg "_law_read_line" = some (.ref (He.ga K "_law_read_line"))
  g__law_due : mg "_law_due" = some (.ref (He.ga K "_law_due"))
  g__law_text_bent : mg "_law_text_bent" = some (.ref (He.ga K "_law_text_bent"))
  g_law : mg "law" = some (.ref (He.ga K "law"))
  g_LockError : mg "LockError" = some (.ref (He.ga K "LockError"))
  e_LockError : (He.Fa.exc "LockError").ok K = true
  g_InvalidLock : mg "InvalidLock" = some (.ref (He.ga K "InvalidLock"))
  e_InvalidLock : (He.Fa.exc "InvalidLock").ok K = true
  g_InvalidNumber : mg "InvalidNumber" = some (.ref (He.ga K "InvalidNumber"))
  e_InvalidNumber : (He.Fa.exc "InvalidNumber").ok K = true
  g_InvalidSetting : mg "InvalidSetting" = some (.ref (He.ga K "InvalidSetting"))
  e_InvalidSetting : (He.Fa.exc "InvalidSetting").ok K = true
  g_InvalidScript : mg "InvalidScript" = some (.ref (He.ga K "InvalidScript"))
  e_InvalidScript : (He.Fa.exc "InvalidScript").ok K = true
  g_InvalidWheel : mg "InvalidWheel" = some (.ref (He.ga K "InvalidWheel"))
  e_InvalidWheel : (He.Fa.exc "InvalidWheel").ok K = true
  g_InvalidFelt : mg "InvalidFelt" = some (.ref (He.ga K "InvalidFelt"))
  e_InvalidFelt : (He.Fa.exc "InvalidFelt").ok K = true
  g_InvalidTurn : mg "InvalidTurn" = some (.ref (He.ga K "InvalidTurn"))
  e_InvalidTurn : (He.Fa.exc "InvalidTurn").ok K = true
  g_InvalidIndex : mg "InvalidIndex" = some (.ref (He.ga K "InvalidIndex"))
  e_InvalidIndex : (He.Fa.exc "InvalidIndex").ok K = true
  g_Unlike : mg "Unlike" = some (.ref (He.ga K "Unlike"))
  e_Unlike : (He.Fa.exc "Unlike").ok K = true
  g_NothingToUndo : mg "NothingToUndo" = some (.ref (He.ga K "NothingToUndo"))
  e_NothingToUndo : (He.Fa.exc "NothingToUndo").ok K = true
  g_TooMany : mg "TooMany" = some (.ref (He.ga K "TooMany"))
  g_InvalidText : mg "InvalidText" = some (.ref (He.ga K "InvalidText"))
  b_ValueError : mg "ValueError" = none
  b_all : mg "all" = none
  b_bool : mg "bool" = none
  b_enumerate : mg "enumerate" = none
  b_int : mg "int" = none
  b_isinstance : mg "isinstance" = none
  b_len : mg "len" = none
  b_list : mg "list" = none
  b_max : mg "max" = none
  b_min : mg "min" = none
  b_range : mg "range" = none
  b_str : mg "str" = none
  b_tuple : mg "tuple" = none
  b_zip : mg "zip" = none
  g_NUMBERS : mg "NUMBERS" = some (.ref (He.ga K "NUMBERS"))
  k_NUMBERS : KTup K (He.ga K "NUMBERS") ((["0", "1", "2", "3", "4", "5", "6", "7", "8", "9", "10", "11"] : List PySem.Str).map V.str)
  g_LABELS : mg "LABELS" = some (.ref (He.ga K "LABELS"))
  k_LABELS : KTup K (He.ga K "LABELS") ((["pins", "gates", "width"] : List PySem.Str).map V.str)
  g_MOST : mg "MOST" = some (.ref (He.ga K "MOST"))
abbrev lamFs : List PySem.Str := ["law"]
abbrev tb (K : PySem.W.Frag) : List (Addr × PySem.Str) := tabL K lamFs
abbrev N__law_try : List PySem.Str := ["_law_call_so", "_law_found", "_law_e"]
theorem nd__law_try : N__law_try.Nodup := by decide +kernel
theorem sc__law_try : FnScope N__law_try ["_law_call_so"] (defScope s__law_try) := ⟨rfl, rfl, rfl, nd__law_try, rfl, by decide +kernel, by decide +kernel⟩
abbrev N__law_kin : List PySem.Str := ["_law_e", "_law_kinds", "_law_labels", "_law_label", "_law_good"]
theorem nd__law_kin : N__law_kin.Nodup := by decide +kernel
theorem sc__law_kin : FnScope N__law_kin ["_law_e"] (defScope s__law_kin) := ⟨rfl, rfl, rfl, nd__law_kin, rfl, by decide +kernel, by decide +kernel⟩
theorem kin_ok {P : Program} {w : World} {K : PySem.W.Frag} {mg : PySem.Str → Option Value} {base : Heap} (fc : Fc K mg) (hk : kinB K = true) {k : Nat} (A : Around) (outer : List Env) (s : Shared) (H : Hp) (Q : VK) (cdv : Value) (p : Addr × Obj) (c : PySem.Str) (d : Option Addr) (hc : c ∈ allN) (er : ErrP K (He.ga K c) d p) (hot : L2H.Hot1 A p)
    (hr : L2H.RoomH k (A.deeper (envOfC "_law_kin" (defScope s__law_kin) s.heap.objs.size (He.ga K "_law_kin") cdv))) (hs : spKinD c d H Q) :
    ∃ t, PSs (L2H.cxH C8.CX0 P w K mg base N__law_kin "_law_kin" (defScope s__law_kin) (He.ga K "_law_kin") cdv A outer s H C8.E0 p) (defBody s__law_kin) t ∧ t { nx := fun _ H' => Q .non H', rt := Q } (L2.start N__law_kin [.ref p.1]) H := by
  have kk := (kinA_ok hk).all c hc
  have hot : L2H.Hot1 (L2H.cxH C8.CX0 P w K mg base N__law_kin "_law_kin" (defScope s__law_kin) (He.ga K "_law_kin") cdv A outer s H C8.E0 p).A p := hot
  exact ⟨_, (pss_cons (ps_set (i := 1) nd__law_kin rfl (.inl rfl) (pe_lst (pa_cons (pe_isH (c := .ref (He.ga K "InvalidLock")) er (List.mem_singleton.mpr rfl) (kk.kit "InvalidLock" (by decide)) (fun _ h => h) (pe_glob rfl fc.g_InvalidLock rfl) rfl rfl fc.b_isinstance) (pa_cons (pe_isH (c := .ref (He.ga K "InvalidNumber")) er (List.mem_singleton.mpr rfl) (kk.kit "InvalidNumber" (by decide)) (fun _ h => h) (pe_glob rfl fc.g_InvalidNumber rfl) rfl rfl fc.b_isinstance) (pa_cons (pe_isH (c := .ref (He.ga K "InvalidSetting")) er (List.mem_singleton.mpr rfl) (kk.kit "InvalidSetting" (by decide)) (fun _ h => h) (pe_glob rfl fc.g_InvalidSetting rfl) rfl rfl fc.b_isinstance) pa_nil)))))
    (pss_cons (ps_set (i := 1) nd__law_kin rfl (.inl rfl) (pe_op op_cat (pvr 1) (pe_lst (pa_cons (pe_isH (c := .ref (He.ga K "InvalidScript")) er (List.mem_singleton.mpr rfl) (kk.kit "InvalidScript" (by decide)) (fun _ h => h) (pe_glob rfl fc.g_InvalidScript rfl) rfl rfl fc.b_isinstance) (pa_cons (pe_isH (c := .ref (He.ga K "InvalidWheel")) er (List.mem_singleton.mpr rfl) (kk.kit "InvalidWheel" (by decide)) (fun _ h => h) (pe_glob rfl fc.g_InvalidWheel rfl) rfl rfl fc.b_isinstance) (pa_cons (pe_isH (c := .ref (He.ga K "InvalidFelt")) er (List.mem_singleton.mpr rfl) (kk.kit "InvalidFelt" (by decide)) (fun _ h => h) (pe_glob rfl fc.g_InvalidFelt rfl) rfl rfl fc.b_isinstance) pa_nil))))))
    (pss_cons (ps_set (i := 1) nd__law_kin rfl (.inl rfl) (pe_op op_cat (pvr 1) (pe_lst (pa_cons (pe_isH (c := .ref (He.ga K "InvalidTurn")) er (List.mem_singleton.mpr rfl) (kk.kit "InvalidTurn" (by decide)) (fun _ h => h) (pe_glob rfl fc.g_InvalidTurn rfl) rfl rfl fc.b_isinstance) (pa_cons (pe_isH (c := .ref (He.ga K "InvalidIndex")) er (List.mem_singleton.mpr rfl) (kk.kit "InvalidIndex" (by decide)) (fun _ h => h) (pe_glob rfl fc.g_InvalidIndex rfl) rfl rfl fc.b_isinstance) (pa_cons (pe_isH (c := .ref (He.ga K "Unlike")) er (List.mem_singleton.mpr rfl) (kk.kit "Unlike" (by decide)) (fun _ h => h) (pe_glob rfl fc.g_Unlike rfl) rfl rfl fc.b_isinstance) pa_nil))))))
    (pss_cons (ps_set (i := 1) nd__law_kin rfl (.inl rfl) (pe_op op_cat (pvr 1) (pe_lst (pa_cons (pe_isH (c := .ref (He.ga K "NothingToUndo")) er (List.mem_singleton.mpr rfl) (kk.kit "NothingToUndo" (by decide)) (fun _ h => h) (pe_glob rfl fc.g_NothingToUndo rfl) rfl rfl fc.b_isinstance) (pa_cons (pe_isH (c := .ref (He.ga K "TooMany")) er (List.mem_singleton.mpr rfl) (kk.kit "TooMany" (by decide)) (fun _ h => h) (pe_glob rfl fc.g_TooMany rfl) rfl rfl fc.b_isinstance) (pa_cons (pe_isH (c := .ref (He.ga K "InvalidText")) er (List.mem_singleton.mpr rfl) (kk.kit "InvalidText" (by decide)) (fun _ h => h) (pe_glob rfl fc.g_InvalidText rfl) rfl rfl fc.b_isinstance) pa_nil))))))
    (pss_cons (ps_expr (pe_bm PySem.F.plainAttrs_list PySem.F.slot_list_append PySem.F.type_list_append mt_append (pvr 1) (pa_cons (pe_isH (c := .ty "ValueError") er (List.mem_singleton.mpr rfl) kk.ve (fun _ h => h) (pe_bltn (v := .ty "ValueError") rfl fc.b_ValueError rfl rfl) rfl rfl fc.b_isinstance) pa_nil)))
    (pss_cons (ps_set (i := 2) nd__law_kin rfl (.inl rfl) pe_str)
    (pss_cons (ps_ret (pe_join pe_str (pe_lcH (own := [("_law_label", 3), ("_law_good", 4)]) hot (List.mem_singleton.mpr rfl) rfl nd__law_kin (pi_zipH rfl fc.b_zip (pa_cons (pe_split (pvr 2) pe_str) (pa_cons (pvr 1) pa_nil))) (blkOk_by (by rfl)) (fun _ _ _ _ _ => pg_tupH ⟨p, by exact hot, by exact List.mem_singleton.mpr rfl⟩ (pgs_cons (pg_name nd__law_kin rfl (.inl rfl)) (pgs_cons (pg_name nd__law_kin rfl (.inl rfl)) pgs_nil))) (fun _ _ _ _ _ => pts_one (pt_val (pvr 4))) (fun _ _ _ _ _ => pvr 3))))
    pss_nil))))))), kin_ansC hc rfl hs⟩
theorem try_ok {X : Cx} {k : Nat} {q : PySem.Str} {fdK : FuncData} (fc : Fc X.K X.mg) (hk : kinB X.K = true) (FK : FunD X.K "_law_kin" "_law_kin" (defArgs s__law_kin) (defBody s__law_kin) (defScope s__law_kin) [] [] (He.ga X.K "_law_kin") fdK) :
    GivesN X k N__law_try "_law_try" (defScope s__law_try) (He.ga X.K "_law_try") (defBody s__law_try) "_law_call_so" q (TTry X.K) :=
  try_gives (t1 := "InvalidText") (t2 := "TooMany") (tl := "LockError") ⟨nd__law_try, rfl, rfl, rfl, rfl, rfl, rfl, fc.g_InvalidText, fc.g_TooMany, fc.g_LockError, fc.g__law_kin, rfl, rfl, rfl, rfl, rfl, rfl, rfl, rfl⟩ rfl rfl (kinA_ok hk) FK sc__law_kin (FunD.bindsA (ps := ["_law_e"]) FK fun _ _ _ _ _ _ us hl => match us, hl with | [_], _ => rfl)
    fun A outer s H Q cdv p c d hc er hot hr hs => kin_ok fc hk A outer s H Q cdv p c d hc er hot hr hs
abbrev N__law_deck : List PySem.Str := ["_law_cell", "_law_turn"]
theorem nd__law_deck : N__law_deck.Nodup := by decide +kernel
theorem sc__law_deck : FnScope N__law_deck ["_law_cell", "_law_turn"] (defScope s__law_deck) := ⟨rfl, rfl, rfl, nd__law_deck, rfl, by decide +kernel, by decide +kernel⟩
theorem c__law_deck {P : Program} {w : World} {K : PySem.W.Frag} {mg : PySem.Str → Option Value} {base : Heap} {fd : FuncData} (fc : Fc K mg)  (F : FunD K "_law_deck" "_law_deck" (defArgs s__law_deck) (defBody s__law_deck) (defScope s__law_deck) [] [] (He.ga K "_law_deck") fd) : Fn P w K mg base (tb K) 1 "_law_deck" ["_law_cell", "_law_turn"] F__law_deck := by
  refine fn_of (k := 0) F sc__law_deck fc.g__law_deck rfl (F.bindsN fun _ _ _ _ _ _ us hl => match us, hl with | [_, _], _ => rfl) fun cdv A outer s H E T hT hr => ?_
  have tk : L2N.Takes (cxOf (L2N.CX P w) P w K mg base N__law_deck "_law_deck" (defScope s__law_deck) (He.ga K "_law_deck") cdv A outer s H E) (fun c d _ H => E c d H) := L2N.takes_of rfl rfl rfl rfl
  have hp : PassesOwn (model P w) (A.deeper (envOfC "_law_deck" (defScope s__law_deck) s.heap.objs.size (He.ga K "_law_deck") cdv)) (envOfC "_law_deck" (defScope s__law_deck) s.heap.objs.size (He.ga K "_law_deck") cdv) (cxOf (L2N.CX P w) P w K mg base N__law_deck "_law_deck" (defScope s__law_deck) (He.ga K "_law_deck") cdv A outer s H E).xe := passes_of rfl
  exact (mss_cons (ms_if (mt_cmp p_ge (me_v 0) (me_op p_pow me_int me_int) rfl)
  (mss_one (ms_ret (me_new (ma_cons (me_op p_sub (me_v 0) (me_op p_pow me_int me_int)) (ma_cons (me_op p_mod (me_v 0) me_int) (ma_cons (me_v 1) ma_nil))))))
  mss_nil)
  (mss_one (ms_ret (me_new (ma_cons me_int (ma_cons (me_op p_mod (me_v 0) me_int) (ma_cons (me_v 1) ma_nil)))))))
abbrev N__law_writing : List PySem.Str := ["_law_lock_here", "_law_lines", "_law_label", "_law_numbers_so", "_law_line", "_law_number"]
theorem nd__law_writing : N__law_writing.Nodup := by decide +kernel
theorem sc__law_writing : FnScope N__law_writing ["_law_lock_here"] (defScope s__law_writing) := ⟨rfl, rfl, rfl, nd__law_writing, rfl, by decide +kernel, by decide +kernel⟩
theorem c__law_writing {P : Program} {w : World} {K : PySem.W.Frag} {mg : PySem.Str → Option Value} {base : Heap} {fd : FuncData} (fc : Fc K mg)  (F : FunD K "_law_writing" "_law_writing" (defArgs s__law_writing) (defBody s__law_writing) (defScope s__law_writing) [] [] (He.ga K "_law_writing") fd) : Fn P w K mg base (tb K) 1 "_law_writing" ["_law_lock_here"] F__law_writing := by
  refine fn_of (k := 0) F sc__law_writing fc.g__law_writing rfl (F.bindsN fun _ _ _ _ _ _ us hl => match us, hl with | [_], _ => rfl) fun cdv A outer s H E T hT hr => ?_
  have tk : L2N.Takes (cxOf (L2N.CX P w) P w K mg base N__law_writing "_law_writing" (defScope s__law_writing) (He.ga K "_law_writing") cdv A outer s H E) (fun c d _ H => E c d H) := L2N.takes_of rfl rfl rfl rfl
  have hp : PassesOwn (model P w) (A.deeper (envOfC "_law_writing" (defScope s__law_writing) s.heap.objs.size (He.ga K "_law_writing") cdv)) (envOfC "_law_writing" (defScope s__law_writing) s.heap.objs.size (He.ga K "_law_writing") cdv) (cxOf (L2N.CX P w) P w K mg base N__law_writing "_law_writing" (defScope s__law_writing) (He.ga K "_law_writing") cdv A outer s H E).xe := passes_of rfl
  exact (mss_cons (ms_new nd__law_writing fun T0 hT0 => ma_nil)
  (mss_cons (ms_for hp rfl (mi_seq (me_lst (ma_cons (me_tup (ma_cons me_str (ma_cons (me_ix (me_v 0) me_int) ma_nil))) (ma_cons (me_tup (ma_cons me_str (ma_cons (me_ix (me_v 0) me_int) ma_nil))) (ma_cons (me_tup (ma_cons me_str (ma_cons (me_tup (ma_cons (me_ix (me_v 0) me_int) ma_nil)) ma_nil))) ma_nil))))) (mg_tup rfl (mgs_cons (mg_name nd__law_writing) (mgs_cons (mg_name nd__law_writing) mgs_nil)))
  (mss_post (wk_forget [2, 4, 5, 3]) (mss_cons (ms_set nd__law_writing (me_op p_add (me_op p_add (me_v 2) me_str) (me_ty p_str rfl fc.b_str boot_str (ma_cons (me_ix (me_v 3) me_int) ma_nil))))
  (mss_cons (ms_for hp rfl (mi_seq (me_sl (me_v 3) (mo_at me_int) mo_no)) (mg_name nd__law_writing)
  (mss_post (wk_forget [5]) (mss_one (ms_set nd__law_writing (me_op p_add (me_op p_add (me_v 4) me_str) (me_ty p_str rfl fc.b_str boot_str (ma_cons (me_v 5) ma_nil)))))))
  (mss_one (ms_app 1 rfl (me_v 4) (pvr 1) (hb := pe_bm PySem.F.plainAttrs_list PySem.F.slot_list_append PySem.F.type_list_append mt_append (pvr 1) (pa_cons (me_v 4) pa_nil))))))))
  (mss_one (ms_pre (wk_freeze 1) (ms_ret (me_join me_str (me_v 1)))))))
abbrev N__law_pick : List PySem.Str := ["_law_deck_here", "_law_size", "_law_found", "_law_number"]
theorem nd__law_pick : N__law_pick.Nodup := by decide +kernel
theorem sc__law_pick : FnScope N__law_pick ["_law_deck_here", "_law_size"] (defScope s__law_pick) := ⟨rfl, rfl, rfl, nd__law_pick, rfl, by decide +kernel, by decide +kernel⟩
theorem c__law_pick {P : Program} {w : World} {K : PySem.W.Frag} {mg : PySem.Str → Option Value} {base : Heap} {fd : FuncData} (fc : Fc K mg)  (F : FunD K "_law_pick" "_law_pick" (defArgs s__law_pick) (defBody s__law_pick) (defScope s__law_pick) [] [] (He.ga K "_law_pick") fd) : Fn P w K mg base (tb K) 1 "_law_pick" ["_law_deck_here", "_law_size"] F__law_pick := by
  refine fn_of (k := 0) F sc__law_pick fc.g__law_pick rfl (F.bindsN fun _ _ _ _ _ _ us hl => match us, hl with | [_, _], _ => rfl) fun cdv A outer s H E T hT hr => ?_
  have tk : L2N.Takes (cxOf (L2N.CX P w) P w K mg base N__law_pick "_law_pick" (defScope s__law_pick) (He.ga K "_law_pick") cdv A outer s H E) (fun c d _ H => E c d H) := L2N.takes_of rfl rfl rfl rfl
  have hp : PassesOwn (model P w) (A.deeper (envOfC "_law_pick" (defScope s__law_pick) s.heap.objs.size (He.ga K "_law_pick") cdv)) (envOfC "_law_pick" (defScope s__law_pick) s.heap.objs.size (He.ga K "_law_pick") cdv) (cxOf (L2N.CX P w) P w K mg base N__law_pick "_law_pick" (defScope s__law_pick) (He.ga K "_law_pick") cdv A outer s H E).xe := passes_of rfl
  exact (mss_cons (ms_if (mt_cmp p_gt (me_ix (me_v 0) me_int) me_int rfl)
  (mss_cons (ms_set nd__law_pick (me_op p_mod (me_ty p_int rfl fc.b_int boot_int (ma_cons (me_ix (me_v 0) me_int) ma_nil)) (me_v 1)))
  (mss_cons (ms_sub (me_op p_div (me_ix (me_v 0) me_int) (me_v 1)) (me_v 0) me_int)
  (mss_one (ms_ret (me_v 2)))))
  mss_nil)
  (mss_cons (ms_sub (me_op p_add (me_ix (me_v 0) me_int) me_int) (me_v 0) me_int)
  (mss_cons (ms_set nd__law_pick (me_op p_mod (me_op p_pow (me_op p_add (me_ix (me_v 0) me_int) (me_op p_mul me_int (me_ix (me_v 0) me_int))) me_int) me_int))
  (mss_cons (ms_set nd__law_pick (me_op p_div (me_op p_mod (me_op p_pow (me_op p_add (me_v 3) (me_op p_mul me_int (me_ix (me_v 0) me_int))) me_int) me_int) me_int))
  (mss_one (ms_ret (me_op p_mod (me_ty p_int rfl fc.b_int boot_int (ma_cons (me_v 2) ma_nil)) (me_v 1))))))))
abbrev N__law_lock : List PySem.Str := ["_law_deck_here", "_law_most", "_law_many", "_law_pins", "_law_wheel"]
theorem nd__law_lock : N__law_lock.Nodup := by decide +kernel
theorem sc__law_lock : FnScope N__law_lock ["_law_deck_here", "_law_most"] (defScope s__law_lock) := ⟨rfl, rfl, rfl, nd__law_lock, rfl, by decide +kernel, by decide +kernel⟩
theorem c__law_lock {P : Program} {w : World} {K : PySem.W.Frag} {mg : PySem.Str → Option Value} {base : Heap} {fd : FuncData} (fc : Fc K mg) (c__law_pick : Fn P w K mg base (tb K) 1 "_law_pick" ["_law_deck_here", "_law_size"] F__law_pick) (F : FunD K "_law_lock" "_law_lock" (defArgs s__law_lock) (defBody s__law_lock) (defScope s__law_lock) [] [] (He.ga K "_law_lock") fd) : Fn P w K mg base (tb K) 2 "_law_lock" ["_law_deck_here", "_law_most"] F__law_lock := by
  have c__law_pick := c__law_pick.mono (k := 1) (by decide)
  refine fn_of (k := 1) F sc__law_lock fc.g__law_lock rfl (F.bindsN fun _ _ _ _ _ _ us hl => match us, hl with | [_, _], _ => rfl) fun cdv A outer s H E T hT hr => ?_
  have tk : L2N.Takes (cxOf (L2N.CX P w) P w K mg base N__law_lock "_law_lock" (defScope s__law_lock) (He.ga K "_law_lock") cdv A outer s H E) (fun c d _ H => E c d H) := L2N.takes_of rfl rfl rfl rfl
  have hp : PassesOwn (model P w) (A.deeper (envOfC "_law_lock" (defScope s__law_lock) s.heap.objs.size (He.ga K "_law_lock") cdv)) (envOfC "_law_lock" (defScope s__law_lock) s.heap.objs.size (He.ga K "_law_lock") cdv) (cxOf (L2N.CX P w) P w K mg base N__law_lock "_law_lock" (defScope s__law_lock) (He.ga K "_law_lock") cdv A outer s H E).xe := passes_of rfl
  exact (mss_cons (ms_set nd__law_lock (me_op p_add me_int (me_call (c__law_pick.at_ hT) hr tk rfl (ma_cons (me_v 0) (ma_cons (me_v 1) ma_nil)))))
  (mss_cons (ms_set nd__law_lock (me_ty p_tuple rfl fc.b_tuple boot_tuple (ma_cons (me_lc (own := [("_law_wheel", 4)]) rfl nd__law_lock (mi_rgA rfl rfl fc.b_range (ma_cons (me_v 2) ma_nil)) (blkOk_by (by rfl)) (by decide) (fun T1 hT1 s1 H1 C1 cl1 fp1 => (mg_name nd__law_lock)) (fun T1 hT1 s1 H1 C1 cl1 fp1 => mpts_nil) (fun T1 hT1 s1 H1 C1 cl1 fp1 => (me_op p_add me_int (me_call (c__law_pick.at_ (hT1.trans hT)) hr tk0 rfl (ma_cons (me_v 0) (ma_cons me_int ma_nil)))))) ma_nil)))
  (mss_one (ms_ret (me_tup (ma_cons (me_v 3) (ma_cons (me_ty p_tuple rfl fc.b_tuple boot_tuple (ma_cons (me_lc (own := [("_law_wheel", 4)]) rfl nd__law_lock (mi_rgA rfl rfl fc.b_range (ma_cons (me_v 2) ma_nil)) (blkOk_by (by rfl)) (by decide) (fun T1 hT1 s1 H1 C1 cl1 fp1 => (mg_name nd__law_lock)) (fun T1 hT1 s1 H1 C1 cl1 fp1 => mpts_nil) (fun T1 hT1 s1 H1 C1 cl1 fp1 => (me_call (c__law_pick.at_ (hT1.trans hT)) hr tk0 rfl (ma_cons (me_v 0) (ma_cons me_int ma_nil))))) ma_nil)) (ma_cons (me_call (c__law_pick.at_ hT) hr tk rfl (ma_cons (me_v 0) (ma_cons me_int ma_nil))) ma_nil))))))))
abbrev N__law_one : List PySem.Str := ["_law_deck_here", "_law_some"]
theorem nd__law_one : N__law_one.Nodup := by decide +kernel
theorem sc__law_one : FnScope N__law_one ["_law_deck_here", "_law_some"] (defScope s__law_one) := ⟨rfl, rfl, rfl, nd__law_one, rfl, by decide +kernel, by decide +kernel⟩
theorem c__law_one {P : Program} {w : World} {K : PySem.W.Frag} {mg : PySem.Str → Option Value} {base : Heap} {fd : FuncData} (fc : Fc K mg) (c__law_pick : Fn P w K mg base (tb K) 1 "_law_pick" ["_law_deck_here", "_law_size"] F__law_pick) (F : FunD K "_law_one" "_law_one" (defArgs s__law_one) (defBody s__law_one) (defScope s__law_one) [] [] (He.ga K "_law_one") fd) : Fn P w K mg base (tb K) 2 "_law_one" ["_law_deck_here", "_law_some"] F__law_one := by
  have c__law_pick := c__law_pick.mono (k := 1) (by decide)
  refine fn_of (k := 1) F sc__law_one fc.g__law_one rfl (F.bindsN fun _ _ _ _ _ _ us hl => match us, hl with | [_, _], _ => rfl) fun cdv A outer s H E T hT hr => ?_
  have tk : L2N.Takes (cxOf (L2N.CX P w) P w K mg base N__law_one "_law_one" (defScope s__law_one) (He.ga K "_law_one") cdv A outer s H E) (fun c d _ H => E c d H) := L2N.takes_of rfl rfl rfl rfl
  have hp : PassesOwn (model P w) (A.deeper (envOfC "_law_one" (defScope s__law_one) s.heap.objs.size (He.ga K "_law_one") cdv)) (envOfC "_law_one" (defScope s__law_one) s.heap.objs.size (He.ga K "_law_one") cdv) (cxOf (L2N.CX P w) P w K mg base N__law_one "_law_one" (defScope s__law_one) (He.ga K "_law_one") cdv A outer s H E).xe := passes_of rfl
  exact (mss_one (ms_ret (me_ix (me_v 1) (me_call (c__law_pick.at_ hT) hr tk rfl (ma_cons (me_v 0) (ma_cons (me_bi p_len rfl fc.b_len boot_len (ma_cons (me_v 1) ma_nil)) ma_nil))))))
abbrev N__law_text_bent : List PySem.Str := ["_law_deck_here", "_law_writing_here", "_law_way", "_law_lines", "_law_at", "_law_k", "_law_head", "_law_new"]
theorem nd__law_text_bent : N__law_text_bent.Nodup := by decide +kernel
theorem sc__law_text_bent : FnScope N__law_text_bent ["_law_deck_here", "_law_writing_here"] (defScope s__law_text_bent) := ⟨rfl, rfl, rfl, nd__law_text_bent, rfl, by decide +kernel, by decide +kernel⟩
theorem c__law_text_bent {P : Program} {w : World} {K : PySem.W.Frag} {mg : PySem.Str → Option Value} {base : Heap} {fd : FuncData} (fc : Fc K mg) (c__law_one : Fn P w K mg base (tb K) 2 "_law_one" ["_law_deck_here", "_law_some"] F__law_one) (c__law_pick : Fn P w K mg base (tb K) 1 "_law_pick" ["_law_deck_here", "_law_size"] F__law_pick) (F : FunD K "_law_text_bent" "_law_text_bent" (defArgs s__law_text_bent) (defBody s__law_text_bent) (defScope s__law_text_bent) [] [] (He.ga K "_law_text_bent") fd) : Fn P w K mg base (tb K) 3 "_law_text_bent" ["_law_deck_here", "_law_writing_here"] F__law_text_bent := by
  have c__law_one := c__law_one.mono (k := 2) (by decide)
  have c__law_pick := c__law_pick.mono (k := 2) (by decide)
  refine fn_of (k := 2) F sc__law_text_bent fc.g__law_text_bent rfl (F.bindsN fun _ _ _ _ _ _ us hl => match us, hl with | [_, _], _ => rfl) fun cdv A outer s H E T hT hr => ?_
  have tk : L2N.Takes (cxOf (L2N.CX P w) P w K mg base N__law_text_bent "_law_text_bent" (defScope s__law_text_bent) (He.ga K "_law_text_bent") cdv A outer s H E) (fun c d _ H => E c d H) := L2N.takes_of rfl rfl rfl rfl
  have hp : PassesOwn (model P w) (A.deeper (envOfC "_law_text_bent" (defScope s__law_text_bent) s.heap.objs.size (He.ga K "_law_text_bent") cdv)) (envOfC "_law_text_bent" (defScope s__law_text_bent) s.heap.objs.size (He.ga K "_law_text_bent") cdv) (cxOf (L2N.CX P w) P w K mg base N__law_text_bent "_law_text_bent" (defScope s__law_text_bent) (He.ga K "_law_text_bent") cdv A outer s H E).xe := passes_of rfl
  exact (mss_cons (ms_par2 rfl nd__law_text_bent (mr_v fun T0 hT0 => (me_call (c__law_pick.at_ (hT0.trans hT)) hr tk rfl (ma_cons (me_v 0) (ma_cons me_int ma_nil)))) (mr_v fun T0 hT0 => (me_split (me_v 1) me_str)) (by rfl))
  (mss_cons (ms_par2 rfl nd__law_text_bent (mr_v fun T0 hT0 => (me_call (c__law_pick.at_ (hT0.trans hT)) hr tk rfl (ma_cons (me_v 0) (ma_cons (me_op p_add (me_bi p_len rfl fc.b_len boot_len (ma_cons (me_v 1) ma_nil)) me_int) ma_nil)))) (mr_v fun T0 hT0 => (me_call (c__law_pick.at_ (hT0.trans hT)) hr tk rfl (ma_cons (me_v 0) (ma_cons (me_bi p_len rfl fc.b_len boot_len (ma_cons (me_v 3) ma_nil)) ma_nil)))) (by rfl))
  (mss_cons (ms_set nd__law_text_bent (me_sl (me_v 3) mo_no (mo_at (me_v 5))))
  (mss_cons (ms_if (mt_cmp (p_eq hr) (me_v 2) me_int rfl)
  (mss_one (ms_ret (me_op p_add (me_sl (me_v 1) mo_no (mo_at (me_v 4))) (me_sl (me_v 1) (mo_at (me_op p_add (me_v 4) me_int)) mo_no))))
  mss_nil)
  (mss_cons (ms_if (mt_cmp (p_eq hr) (me_v 2) me_int rfl)
  (mss_one (ms_ret (me_op p_add (me_op p_add (me_sl (me_v 1) mo_no (mo_at (me_v 4))) (me_call (c__law_one.at_ hT) hr tk rfl (ma_cons (me_v 0) (ma_cons (me_lst (ma_cons me_str (ma_cons me_str (ma_cons me_str (ma_cons me_str (ma_cons me_str (ma_cons me_str (ma_cons me_str (ma_cons me_str ma_nil))))))))) ma_nil)))) (me_sl (me_v 1) (mo_at (me_v 4)) mo_no))))
  mss_nil)
  (mss_cons (ms_if (mt_cmp (p_eq hr) (me_v 2) me_int rfl)
  (mss_one (ms_set nd__law_text_bent (me_op p_add (me_op p_add (me_v 6) (me_sl (me_v 3) (mo_at (me_v 5)) (mo_at (me_op p_add (me_v 5) me_int)))) (me_sl (me_v 3) (mo_at (me_v 5)) mo_no))))
  mss_nil)
  (mss_cons (ms_if (mt_cmp (p_eq hr) (me_v 2) me_int rfl)
  (mss_one (ms_set nd__law_text_bent (me_op p_add (me_v 6) (me_sl (me_v 3) (mo_at (me_op p_add (me_v 5) me_int)) mo_no))))
  mss_nil)
  (mss_cons (ms_if (mt_cmp (p_eq hr) (me_v 2) me_int rfl)
  (mss_one (ms_set nd__law_text_bent (me_op p_add (me_op p_add (me_v 6) (me_rev (me_sl (me_v 3) (mo_at (me_v 5)) (mo_at (me_op p_add (me_v 5) me_int))))) (me_sl (me_v 3) (mo_at (me_op p_add (me_v 5) me_int)) mo_no))))
  mss_nil)
  (mss_cons (ms_if (mt_cmp p_lt (me_v 2) me_int rfl)
  (mss_one (ms_ret (me_join me_str (me_v 3))))
  mss_nil)
  (mss_cons (ms_set nd__law_text_bent (me_call (c__law_one.at_ hT) hr tk rfl (ma_cons (me_v 0) (ma_cons (me_lst (ma_cons me_str (ma_cons me_str (ma_cons me_str (ma_cons me_str (ma_cons me_str (ma_cons me_str (ma_cons me_str (ma_cons me_str (ma_cons me_str ma_nil)))))))))) ma_nil))))
  (mss_one (ms_ret (me_join me_str (me_op p_add (me_op p_add (me_v 6) (me_lst (ma_cons (me_v 7) ma_nil))) (me_sl (me_v 3) (mo_at (me_op p_add (me_v 5) me_int)) mo_no)))))))))))))))
abbrev N__law_read_line : List PySem.Str := ["_law_line", "_law_words_so", "_law_limits", "_law_low", "_law_high", "_law_most", "_law_parts_so", "_law_shown", "_law_number", "_law_part"]
theorem nd__law_read_line : N__law_read_line.Nodup := by decide +kernel
theorem sc__law_read_line : FnScope N__law_read_line ["_law_line"] (defScope s__law_read_line) := ⟨rfl, rfl, rfl, nd__law_read_line, rfl, by decide +kernel, by decide +kernel⟩
theorem c__law_read_line {P : Program} {w : World} {K : PySem.W.Frag} {mg : PySem.Str → Option Value} {base : Heap} {fd : FuncData} (fc : Fc K mg)  (F : FunD K "_law_read_line" "_law_read_line" (defArgs s__law_read_line) (defBody s__law_read_line) (defScope s__law_read_line) [] [] (He.ga K "_law_read_line") fd) : Fn P w K mg base (tb K) 1 "_law_read_line" ["_law_line"] F__law_read_line := by
  refine fn_of (k := 0) F sc__law_read_line fc.g__law_read_line rfl (F.bindsN fun _ _ _ _ _ _ us hl => match us, hl with | [_], _ => rfl) fun cdv A outer s H E T hT hr => ?_
  have tk : L2N.Takes (cxOf (L2N.CX P w) P w K mg base N__law_read_line "_law_read_line" (defScope s__law_read_line) (He.ga K "_law_read_line") cdv A outer s H E) (fun c d _ H => E c d H) := L2N.takes_of rfl rfl rfl rfl
  have hp : PassesOwn (model P w) (A.deeper (envOfC "_law_read_line" (defScope s__law_read_line) s.heap.objs.size (He.ga K "_law_read_line") cdv)) (envOfC "_law_read_line" (defScope s__law_read_line) s.heap.objs.size (He.ga K "_law_read_line") cdv) (cxOf (L2N.CX P w) P w K mg base N__law_read_line "_law_read_line" (defScope s__law_read_line) (He.ga K "_law_read_line") cdv A outer s H E).xe := passes_of rfl
  exact (mss_cons (ms_set nd__law_read_line (me_split (me_v 0) me_str))
  (mss_cons (ms_set nd__law_read_line (me_dic (mps_cons (me_tup (ma_cons me_int (ma_cons me_int (ma_cons me_int ma_nil)))) (mps_cons (me_tup (ma_cons me_int (ma_cons me_int (ma_cons me_int ma_nil)))) (mps_cons (me_tup (ma_cons me_int (ma_cons me_int (ma_cons me_int ma_nil)))) mps_nil)))))
  (mss_cons (ms_if (mw_pt (mw_or (mt_cmp (p_ne hr) (me_bi p_len rfl fc.b_len boot_len (ma_cons (me_v 1) ma_nil)) me_int rfl) (mw_or1 (mt_dnin hr (me_ix (me_v 1) me_int) (me_v 2)))))
  (mss_one (ms_ret me_non))
  mss_nil)
  (mss_cons (ms_asg (me_dix hr (me_v 2) (me_ix (me_v 1) me_int)) (mg_tup rfl (mgs_cons (mg_name nd__law_read_line) (mgs_cons (mg_name nd__law_read_line) (mgs_cons (mg_name nd__law_read_line) mgs_nil)))))
  (mss_cons (ms_set nd__law_read_line (me_split (me_ix (me_v 1) me_int) me_str))
  (mss_cons (ms_set nd__law_read_line (me_lc (own := [("_law_number", 8)]) rfl nd__law_read_line (mi_rgB rfl rfl fc.b_range (ma_cons (me_v 3) (ma_cons (me_op p_add (me_v 4) me_int) ma_nil))) (blkOk_by (by rfl)) (by decide) (fun T1 hT1 s1 H1 C1 cl1 fp1 => (mg_name nd__law_read_line)) (fun T1 hT1 s1 H1 C1 cl1 fp1 => mpts_nil) (fun T1 hT1 s1 H1 C1 cl1 fp1 => (me_ty p_str rfl fc.b_str boot_str (ma_cons (me_v 8) ma_nil)))))
  (mss_cons (ms_if (mw_pt (mw_or (mt_cmp p_gt (me_bi p_len rfl fc.b_len boot_len (ma_cons (me_v 6) ma_nil)) (me_v 5) rfl) (mw_or1 (mt_cmp (p_ne hr) (me_lc (own := [("_law_part", 9)]) rfl nd__law_read_line (mi_seq (me_v 6)) (blkOk_by (by rfl)) (by decide) (fun T1 hT1 s1 H1 C1 cl1 fp1 => (mg_name nd__law_read_line)) (fun T1 hT1 s1 H1 C1 cl1 fp1 => (mpts_one (mt_cmp (p_nin hr) (me_v 9) (me_v 7) rfl))) (fun T1 hT1 s1 H1 C1 cl1 fp1 => (me_v 9))) (me_lst ma_nil) rfl))))
  (mss_one (ms_ret me_non))
  mss_nil)
  (mss_one (ms_ret (me_lst (ma_cons (me_ix (me_v 1) me_int) (ma_cons (me_ty p_tuple rfl fc.b_tuple boot_tuple (ma_cons (me_lc (own := [("_law_part", 9)]) rfl nd__law_read_line (mi_seq (me_v 6)) (blkOk_by (by rfl)) (by decide) (fun T1 hT1 s1 H1 C1 cl1 fp1 => (mg_name nd__law_read_line)) (fun T1 hT1 s1 H1 C1 cl1 fp1 => mpts_nil) (fun T1 hT1 s1 H1 C1 cl1 fp1 => (me_ty p_int rfl fc.b_int boot_int (ma_cons (me_v 9) ma_nil)))) ma_nil)) ma_nil))))))))))))
abbrev N__law_due : List PySem.Str := ["_law_value", "_law_lines", "_law_pieces", "_law_k", "_law_line", "_law_piece"]
theorem nd__law_due : N__law_due.Nodup := by decide +kernel
theorem sc__law_due : FnScope N__law_due ["_law_value"] (defScope s__law_due) := ⟨rfl, rfl, rfl, nd__law_due, rfl, by decide +kernel, by decide +kernel⟩
theorem c__law_due {P : Program} {w : World} {K : PySem.W.Frag} {mg : PySem.Str → Option Value} {base : Heap} {fd : FuncData} (fc : Fc K mg) (c__law_read_line : Fn P w K mg base (tb K) 1 "_law_read_line" ["_law_line"] F__law_read_line) (F : FunD K "_law_due" "_law_due" (defArgs s__law_due) (defBody s__law_due) (defScope s__law_due) [] [] (He.ga K "_law_due") fd) : Fn P w K mg base (tb K) 2 "_law_due" ["_law_value"] F__law_due := by
  have c__law_read_line := c__law_read_line.mono (k := 1) (by decide)
  refine fn_of (k := 1) F sc__law_due fc.g__law_due rfl (F.bindsN fun _ _ _ _ _ _ us hl => match us, hl with | [_], _ => rfl) fun cdv A outer s H E T hT hr => ?_
  have tk : L2N.Takes (cxOf (L2N.CX P w) P w K mg base N__law_due "_law_due" (defScope s__law_due) (He.ga K "_law_due") cdv A outer s H E) (fun c d _ H => E c d H) := L2N.takes_of rfl rfl rfl rfl
  have hp : PassesOwn (model P w) (A.deeper (envOfC "_law_due" (defScope s__law_due) s.heap.objs.size (He.ga K "_law_due") cdv)) (envOfC "_law_due" (defScope s__law_due) s.heap.objs.size (He.ga K "_law_due") cdv) (cxOf (L2N.CX P w) P w K mg base N__law_due "_law_due" (defScope s__law_due) (He.ga K "_law_due") cdv A outer s H E).xe := passes_of rfl
  exact (mss_cons (ms_if (mt_not (mt_val (me_isT ty_str rfl rfl fc.b_isinstance boot_isinstance rfl fc.b_str boot_str (me_v 0))))
  (mss_one (ms_ret me_int))
  mss_nil)
  (mss_cons (ms_par2 rfl nd__law_due (mr_v fun T0 hT0 => (me_split (me_v 0) me_str)) (mr_f fun T0 hT0 => ma_nil) (by rfl))
  (mss_cons (ms_for hp rfl (mi_enum rfl rfl fc.b_enumerate (ma_cons (me_v 1) ma_nil)) (mg_tup rfl (mgs_cons (mg_name nd__law_due) (mgs_cons (mg_name nd__law_due) mgs_nil)))
  (mss_post (wk_forget [3, 4, 5]) (mss_cons (ms_set nd__law_due (me_call (c__law_read_line.at_ hT) hr tk rfl (ma_cons (me_v 4) ma_nil)))
  (mss_cons (ms_if (mt_cmp p_is (me_v 5) me_non rfl)
  (mss_one (ms_ret (me_op p_add (me_v 3) me_int)))
  mss_nil)
  (mss_one (ms_app 2 rfl (me_v 5) (pvr 2) (hb := pe_bm PySem.F.plainAttrs_list PySem.F.slot_list_append PySem.F.type_list_append mt_append (pvr 2) (pa_cons (me_v 5) pa_nil))))))))
  (mss_cons (ms_pre (wk_freeze 2) (ms_if (mt_cmp (p_eq hr) (me_lc (own := [("_law_piece", 5)]) rfl nd__law_due (mi_seq (me_v 2)) (blkOk_by (by rfl)) (by decide) (fun T1 hT1 s1 H1 C1 cl1 fp1 => (mg_name nd__law_due)) (fun T1 hT1 s1 H1 C1 cl1 fp1 => mpts_nil) (fun T1 hT1 s1 H1 C1 cl1 fp1 => (me_ix (me_v 5) me_int))) (me_lst (ma_cons me_str (ma_cons me_str (ma_cons me_str ma_nil)))) rfl)
  (mss_one (ms_if (mt_cmp (p_eq hr) (me_bi p_len rfl fc.b_len boot_len (ma_cons (me_ix (me_ix (me_v 2) me_int) me_int) ma_nil)) (me_bi p_len rfl fc.b_len boot_len (ma_cons (me_ix (me_ix (me_v 2) me_int) me_int) ma_nil)) rfl)
  (mss_one (ms_ret (me_lst (ma_cons (me_tup (ma_cons (me_ix (me_ix (me_v 2) me_int) me_int) (ma_cons (me_ix (me_ix (me_v 2) me_int) me_int) (ma_cons (me_ix (me_ix (me_ix (me_v 2) me_int) me_int) me_int) ma_nil)))) ma_nil))))
  mss_nil))
  mss_nil))
  (mss_one (ms_ret (me_op p_add (me_bi p_len rfl fc.b_len boot_len (ma_cons (me_v 1) ma_nil)) me_int)))))))
abbrev N_numbers_in : List PySem.Str := ["label", "text", "low", "high", "words", "found", "word"]
theorem nd_numbers_in : N_numbers_in.Nodup := by decide +kernel
theorem sc_numbers_in : FnScope N_numbers_in ["label", "text"] (defScope s_numbers_in) := ⟨rfl, rfl, rfl, nd_numbers_in, rfl, by decide +kernel, by decide +kernel⟩
theorem c_numbers_in {P : Program} {w : World} {K : PySem.W.Frag} {mg : PySem.Str → Option Value} {base : Heap} {fd : FuncData} (fc : Fc K mg) (kd_MOST : ∃ es n, KDict K w (He.ga K "MOST") es n) (kt_MOST : dictI K (He.ga K "MOST") [("pins", [1, 3]), ("gates", [0, 11]), ("width", [0, 2])] = true) (F : FunD K "numbers_in" "numbers_in" (defArgs s_numbers_in) (defBody s_numbers_in) (defScope s_numbers_in) [] [] (He.ga K "numbers_in") fd) : Fn P w K mg base (tb K) 1 "numbers_in" ["label", "text"] F_numbers_in := by
  obtain ⟨es_MOST, n_MOST, D_MOST⟩ := kd_MOST
  refine fn_of (k := 0) F sc_numbers_in fc.g_numbers_in rfl (F.bindsN fun _ _ _ _ _ _ us hl => match us, hl with | [_, _], _ => rfl) fun cdv A outer s H E T hT hr => ?_
  have tk : L2N.Takes (cxOf (L2N.CX P w) P w K mg base N_numbers_in "numbers_in" (defScope s_numbers_in) (He.ga K "numbers_in") cdv A outer s H E) (fun c d _ H => E c d H) := L2N.takes_of rfl rfl rfl rfl
  have hp : PassesOwn (model P w) (A.deeper (envOfC "numbers_in" (defScope s_numbers_in) s.heap.objs.size (He.ga K "numbers_in") cdv)) (envOfC "numbers_in" (defScope s_numbers_in) s.heap.objs.size (He.ga K "numbers_in") cdv) (cxOf (L2N.CX P w) P w K mg base N_numbers_in "numbers_in" (defScope s_numbers_in) (He.ga K "numbers_in") cdv A outer s H E).xe := passes_of rfl
  exact (mss_cons (ms_asg (me_kd (tbl := [("pins", [1, 3]), ("gates", [0, 11]), ("width", [0, 2])]) rfl fc.g_MOST D_MOST (dictI_ok kt_MOST) (me_v 0)) (mg_tup rfl (mgs_cons (mg_name nd_numbers_in) (mgs_cons (mg_name nd_numbers_in) mgs_nil))))
  (mss_cons (ms_set nd_numbers_in (me_split (me_v 1) me_str))
  (mss_cons (ms_if (mw_pt (mw_or (mt_cmp p_gt (me_bi p_len rfl fc.b_len boot_len (ma_cons (me_v 4) ma_nil)) (me_if (mt_cmp (p_eq hr) (me_v 0) me_str rfl) me_int me_int) rfl) (mw_or1 (mt_not (mt_val (me_bi (p_all rfl) rfl fc.b_all boot_all (ma_cons (me_lc (own := [("word", 6)]) rfl nd_numbers_in (mi_seq (me_v 4)) (blkOk_by (by rfl)) (by decide) (fun T1 hT1 s1 H1 C1 cl1 fp1 => (mg_name nd_numbers_in)) (fun T1 hT1 s1 H1 C1 cl1 fp1 => mpts_nil) (fun T1 hT1 s1 H1 C1 cl1 fp1 => (me_cmp (p_in hr) (me_v 6) (me_gtup (vs := (["0", "1", "2", "3", "4", "5", "6", "7", "8", "9", "10", "11"] : List PySem.Str).map V.str) (xs := [.str "0", .str "1", .str "2", .str "3", .str "4", .str "5", .str "6", .str "7", .str "8", .str "9", .str "10", .str "11"]) rfl fc.g_NUMBERS fc.k_NUMBERS fun _ _ _ => Rps.strs ["0", "1", "2", "3", "4", "5", "6", "7", "8", "9", "10", "11"]) rfl))) ma_nil)))))))
  (mss_one (ms_ret me_non))
  mss_nil)
  (mss_cons (ms_set nd_numbers_in (me_ty p_tuple rfl fc.b_tuple boot_tuple (ma_cons (me_lc (own := [("word", 6)]) rfl nd_numbers_in (mi_seq (me_v 4)) (blkOk_by (by rfl)) (by decide) (fun T1 hT1 s1 H1 C1 cl1 fp1 => (mg_name nd_numbers_in)) (fun T1 hT1 s1 H1 C1 cl1 fp1 => mpts_nil) (fun T1 hT1 s1 H1 C1 cl1 fp1 => (me_ty p_int rfl fc.b_int boot_int (ma_cons (me_v 6) ma_nil)))) ma_nil)))
  (mss_one (ms_ret (me_if (mw_pt (mw_and (mt_cmp p_le (me_v 2) (me_bi (p_min1 rfl) rfl fc.b_min boot_min (ma_cons (me_v 5) ma_nil)) rfl) (mw_and1 (mt_cmp p_le (me_bi (p_max1 rfl) rfl fc.b_max boot_max (ma_cons (me_v 5) ma_nil)) (me_v 3) rfl)))) (me_v 5) me_non)))))))
abbrev N_part_of : List PySem.Str := ["text", "words", "found"]
theorem nd_part_of : N_part_of.Nodup := by decide +kernel
theorem sc_part_of : FnScope N_part_of ["text"] (defScope s_part_of) := ⟨rfl, rfl, rfl, nd_part_of, rfl, by decide +kernel, by decide +kernel⟩
theorem c_part_of {P : Program} {w : World} {K : PySem.W.Frag} {mg : PySem.Str → Option Value} {base : Heap} {fd : FuncData} (fc : Fc K mg) (c_numbers_in : Fn P w K mg base (tb K) 1 "numbers_in" ["label", "text"] F_numbers_in) (F : FunD K "part_of" "part_of" (defArgs s_part_of) (defBody s_part_of) (defScope s_part_of) [] [] (He.ga K "part_of") fd) : Fn P w K mg base (tb K) 2 "part_of" ["text"] F_part_of := by
  have c_numbers_in := c_numbers_in.mono (k := 1) (by decide)
  refine fn_of (k := 1) F sc_part_of fc.g_part_of rfl (F.bindsN fun _ _ _ _ _ _ us hl => match us, hl with | [_], _ => rfl) fun cdv A outer s H E T hT hr => ?_
  have tk : L2N.Takes (cxOf (L2N.CX P w) P w K mg base N_part_of "part_of" (defScope s_part_of) (He.ga K "part_of") cdv A outer s H E) (fun c d _ H => E c d H) := L2N.takes_of rfl rfl rfl rfl
  have hp : PassesOwn (model P w) (A.deeper (envOfC "part_of" (defScope s_part_of) s.heap.objs.size (He.ga K "part_of") cdv)) (envOfC "part_of" (defScope s_part_of) s.heap.objs.size (He.ga K "part_of") cdv) (cxOf (L2N.CX P w) P w K mg base N_part_of "part_of" (defScope s_part_of) (He.ga K "part_of") cdv A outer s H E).xe := passes_of rfl
  exact (mss_cons (ms_set nd_part_of (me_split (me_v 0) me_str))
  (mss_cons (ms_if (mw_pt (mw_or (mt_cmp (p_ne hr) (me_bi p_len rfl fc.b_len boot_len (ma_cons (me_v 1) ma_nil)) me_int rfl) (mw_or1 (mt_cmp (p_nin hr) (me_ix (me_v 1) me_int) (me_gtup (vs := (["pins", "gates", "width"] : List PySem.Str).map V.str) (xs := [.str "pins", .str "gates", .str "width"]) rfl fc.g_LABELS fc.k_LABELS fun _ _ _ => Rps.strs ["pins", "gates", "width"]) rfl))))
  (mss_one (ms_ret me_non))
  mss_nil)
  (mss_cons (ms_set nd_part_of (me_call (c_numbers_in.at_ hT) hr tk rfl (ma_cons (me_ix (me_v 1) me_int) (ma_cons (me_ix (me_v 1) me_int) ma_nil))))
  (mss_one (ms_ret (me_if (mt_cmp p_isn (me_v 2) me_non rfl) (me_tup (ma_cons (me_ix (me_v 1) me_int) (ma_cons (me_v 2) ma_nil))) me_non))))))
abbrev N_has_items : List PySem.Str := ["value", "low", "high"]
theorem nd_has_items : N_has_items.Nodup := by decide +kernel
theorem sc_has_items : FnScope N_has_items ["value", "low", "high"] (defScope s_has_items) := ⟨rfl, rfl, rfl, nd_has_items, rfl, by decide +kernel, by decide +kernel⟩
theorem c_has_items {P : Program} {w : World} {K : PySem.W.Frag} {mg : PySem.Str → Option Value} {base : Heap} {fd : FuncData} (fc : Fc K mg)  (F : FunD K "has_items" "has_items" (defArgs s_has_items) (defBody s_has_items) (defScope s_has_items) [] [] (He.ga K "has_items") fd) : Fn P w K mg base (tb K) 1 "has_items" ["value", "low", "high"] F_has_items := by
  refine fn_of (k := 0) F sc_has_items fc.g_has_items rfl (F.bindsN fun _ _ _ _ _ _ us hl => match us, hl with | [_, _, _], _ => rfl) fun cdv A outer s H E T hT hr => ?_
  have tk : L2N.Takes (cxOf (L2N.CX P w) P w K mg base N_has_items "has_items" (defScope s_has_items) (He.ga K "has_items") cdv A outer s H E) (fun c d _ H => E c d H) := L2N.takes_of rfl rfl rfl rfl
  have hp : PassesOwn (model P w) (A.deeper (envOfC "has_items" (defScope s_has_items) s.heap.objs.size (He.ga K "has_items") cdv)) (envOfC "has_items" (defScope s_has_items) s.heap.objs.size (He.ga K "has_items") cdv) (cxOf (L2N.CX P w) P w K mg base N_has_items "has_items" (defScope s_has_items) (He.ga K "has_items") cdv A outer s H E).xe := passes_of rfl
  exact (mss_one (ms_ret (me_and (me_isT ty_tuple rfl rfl fc.b_isinstance boot_isinstance rfl fc.b_tuple boot_tuple (me_v 0)) (me_one (me_ch p_le p_le (me_v 1) (me_bi p_len rfl fc.b_len boot_len (ma_cons (me_v 0) ma_nil)) (me_v 2))))))
abbrev N_is_within : List PySem.Str := ["value", "low", "high"]
theorem nd_is_within : N_is_within.Nodup := by decide +kernel
theorem sc_is_within : FnScope N_is_within ["value", "low", "high"] (defScope s_is_within) := ⟨rfl, rfl, rfl, nd_is_within, rfl, by decide +kernel, by decide +kernel⟩
theorem c_is_within {P : Program} {w : World} {K : PySem.W.Frag} {mg : PySem.Str → Option Value} {base : Heap} {fd : FuncData} (fc : Fc K mg)  (F : FunD K "is_within" "is_within" (defArgs s_is_within) (defBody s_is_within) (defScope s_is_within) [] [] (He.ga K "is_within") fd) : Fn P w K mg base (tb K) 1 "is_within" ["value", "low", "high"] F_is_within := by
  refine fn_of (k := 0) F sc_is_within fc.g_is_within rfl (F.bindsN fun _ _ _ _ _ _ us hl => match us, hl with | [_, _, _], _ => rfl) fun cdv A outer s H E T hT hr => ?_
  have tk : L2N.Takes (cxOf (L2N.CX P w) P w K mg base N_is_within "is_within" (defScope s_is_within) (He.ga K "is_within") cdv A outer s H E) (fun c d _ H => E c d H) := L2N.takes_of rfl rfl rfl rfl
  have hp : PassesOwn (model P w) (A.deeper (envOfC "is_within" (defScope s_is_within) s.heap.objs.size (He.ga K "is_within") cdv)) (envOfC "is_within" (defScope s_is_within) s.heap.objs.size (He.ga K "is_within") cdv) (cxOf (L2N.CX P w) P w K mg base N_is_within "is_within" (defScope s_is_within) (He.ga K "is_within") cdv A outer s H E).xe := passes_of rfl
  exact (mss_one (ms_ret (me_and (me_isT ty_int rfl rfl fc.b_isinstance boot_isinstance rfl fc.b_int boot_int (me_v 0)) (me_and (me_not (me_isT ty_bool rfl rfl fc.b_isinstance boot_isinstance rfl fc.b_bool boot_bool (me_v 0))) (me_one (me_ch p_le p_le (me_v 1) (me_v 0) (me_v 2)))))))
abbrev N_is_lock_value : List PySem.Str := ["value", "one"]
theorem nd_is_lock_value : N_is_lock_value.Nodup := by decide +kernel
theorem sc_is_lock_value : FnScope N_is_lock_value ["value"] (defScope s_is_lock_value) := ⟨rfl, rfl, rfl, nd_is_lock_value, rfl, by decide +kernel, by decide +kernel⟩
theorem c_is_lock_value {P : Program} {w : World} {K : PySem.W.Frag} {mg : PySem.Str → Option Value} {base : Heap} {fd : FuncData} (fc : Fc K mg) (c_has_items : Fn P w K mg base (tb K) 1 "has_items" ["value", "low", "high"] F_has_items) (c_is_within : Fn P w K mg base (tb K) 1 "is_within" ["value", "low", "high"] F_is_within) (F : FunD K "is_lock_value" "is_lock_value" (defArgs s_is_lock_value) (defBody s_is_lock_value) (defScope s_is_lock_value) [] [] (He.ga K "is_lock_value") fd) : Fn P w K mg base (tb K) 2 "is_lock_value" ["value"] F_is_lock_value := by
  have c_has_items := c_has_items.mono (k := 1) (by decide)
  have c_is_within := c_is_within.mono (k := 1) (by decide)
  refine fn_of (k := 1) F sc_is_lock_value fc.g_is_lock_value rfl (F.bindsN fun _ _ _ _ _ _ us hl => match us, hl with | [_], _ => rfl) fun cdv A outer s H E T hT hr => ?_
  have tk : L2N.Takes (cxOf (L2N.CX P w) P w K mg base N_is_lock_value "is_lock_value" (defScope s_is_lock_value) (He.ga K "is_lock_value") cdv A outer s H E) (fun c d _ H => E c d H) := L2N.takes_of rfl rfl rfl rfl
  have hp : PassesOwn (model P w) (A.deeper (envOfC "is_lock_value" (defScope s_is_lock_value) s.heap.objs.size (He.ga K "is_lock_value") cdv)) (envOfC "is_lock_value" (defScope s_is_lock_value) s.heap.objs.size (He.ga K "is_lock_value") cdv) (cxOf (L2N.CX P w) P w K mg base N_is_lock_value "is_lock_value" (defScope s_is_lock_value) (He.ga K "is_lock_value") cdv A outer s H E).xe := passes_of rfl
  exact (mss_cons (ms_if (mw_pt (mw_or (mt_not (mt_val (me_call (c_has_items.at_ hT) hr tk rfl (ma_cons (me_v 0) (ma_cons me_int (ma_cons me_int ma_nil)))))) (mw_or (mt_not (mt_val (me_call (c_has_items.at_ hT) hr tk rfl (ma_cons (me_ix (me_v 0) me_int) (ma_cons me_int (ma_cons me_int ma_nil)))))) (mw_or1 (mt_not (mt_val (me_call (c_is_within.at_ hT) hr tk rfl (ma_cons (me_ix (me_v 0) me_int) (ma_cons me_int (ma_cons me_int ma_nil))))))))))
  (mss_one (ms_ret me_bl))
  mss_nil)
  (mss_cons (ms_if (mw_pt (mw_or (mt_not (mt_val (me_call (c_has_items.at_ hT) hr tk rfl (ma_cons (me_ix (me_v 0) me_int) (ma_cons (me_bi p_len rfl fc.b_len boot_len (ma_cons (me_ix (me_v 0) me_int) ma_nil)) (ma_cons (me_bi p_len rfl fc.b_len boot_len (ma_cons (me_ix (me_v 0) me_int) ma_nil)) ma_nil)))))) (mw_or1 (mt_not (mt_val (me_bi (p_all rfl) rfl fc.b_all boot_all (ma_cons (me_lc (own := [("one", 1)]) rfl nd_is_lock_value (mi_seq (me_ix (me_v 0) me_int)) (blkOk_by (by rfl)) (by decide) (fun T1 hT1 s1 H1 C1 cl1 fp1 => (mg_name nd_is_lock_value)) (fun T1 hT1 s1 H1 C1 cl1 fp1 => mpts_nil) (fun T1 hT1 s1 H1 C1 cl1 fp1 => (me_call (c_is_within.at_ (hT1.trans hT)) hr tk0 rfl (ma_cons (me_v 1) (ma_cons me_int (ma_cons me_int ma_nil)))))) ma_nil)))))))
  (mss_one (ms_ret me_bl))
  mss_nil)
  (mss_one (ms_ret (me_bi (p_all rfl) rfl fc.b_all boot_all (ma_cons (me_lc (own := [("one", 1)]) rfl nd_is_lock_value (mi_seq (me_ix (me_v 0) me_int)) (blkOk_by (by rfl)) (by decide) (fun T1 hT1 s1 H1 C1 cl1 fp1 => (mg_name nd_is_lock_value)) (fun T1 hT1 s1 H1 C1 cl1 fp1 => mpts_nil) (fun T1 hT1 s1 H1 C1 cl1 fp1 => (me_call (c_is_within.at_ (hT1.trans hT)) hr tk0 rfl (ma_cons (me_v 1) (ma_cons me_int (ma_cons me_int ma_nil)))))) ma_nil))))))
abbrev N_lock_of : List PySem.Str := ["value", "found", "number", "text", "part", "lock", "label", "numbers"]
theorem nd_lock_of : N_lock_of.Nodup := by decide +kernel
theorem sc_lock_of : FnScope N_lock_of ["value"] (defScope s_lock_of) := ⟨rfl, rfl, rfl, nd_lock_of, rfl, by decide +kernel, by decide +kernel⟩
theorem c_lock_of {P : Program} {w : World} {K : PySem.W.Frag} {mg : PySem.Str → Option Value} {base : Heap} {fd : FuncData} (fc : Fc K mg) (su_InvalidText : SuC P w K mg (He.ga K "InvalidText") (He.ma K (He.ga K "InvalidText") "__init__") "line") (c_part_of : Fn P w K mg base (tb K) 2 "part_of" ["text"] F_part_of) (c_is_lock_value : Fn P w K mg base (tb K) 2 "is_lock_value" ["value"] F_is_lock_value) (F : FunD K "lock_of" "lock_of" (defArgs s_lock_of) (defBody s_lock_of) (defScope s_lock_of) [] [] (He.ga K "lock_of") fd) : Fn P w K mg base (tb K) 3 "lock_of" ["value"] F_lock_of := by
  have c_part_of := c_part_of.mono (k := 2) (by decide)
  have c_is_lock_value := c_is_lock_value.mono (k := 2) (by decide)
  refine fn_of (k := 2) F sc_lock_of fc.g_lock_of rfl (F.bindsN fun _ _ _ _ _ _ us hl => match us, hl with | [_], _ => rfl) fun cdv A outer s H E T hT hr => ?_
  have tk : L2N.Takes (cxOf (L2N.CX P w) P w K mg base N_lock_of "lock_of" (defScope s_lock_of) (He.ga K "lock_of") cdv A outer s H E) (fun c d _ H => E c d H) := L2N.takes_of rfl rfl rfl rfl
  have hp : PassesOwn (model P w) (A.deeper (envOfC "lock_of" (defScope s_lock_of) s.heap.objs.size (He.ga K "lock_of") cdv)) (envOfC "lock_of" (defScope s_lock_of) s.heap.objs.size (He.ga K "lock_of") cdv) (cxOf (L2N.CX P w) P w K mg base N_lock_of "lock_of" (defScope s_lock_of) (He.ga K "lock_of") cdv A outer s H E).xe := passes_of rfl
  exact (mss_cons (ms_if (mt_not (mt_val (me_isT ty_str rfl rfl fc.b_isinstance boot_isinstance rfl fc.b_str boot_str (me_v 0))))
  (mss_one (ms_raiseF rfl tk su_InvalidText fc.g_InvalidText rfl (hr.mono (by decide)) me_int))
  mss_nil)
  (mss_cons (ms_new nd_lock_of fun T0 hT0 => ma_nil)
  (mss_cons (ms_for hp rfl (mi_enum rfl rfl fc.b_enumerate (ma_cons (me_split (me_v 0) me_str) ma_nil)) (mg_tup rfl (mgs_cons (mg_name nd_lock_of) (mgs_cons (mg_name nd_lock_of) mgs_nil)))
  (mss_post (wk_forget [2, 4, 3]) (mss_cons (ms_set nd_lock_of (me_call (c_part_of.at_ hT) hr tk rfl (ma_cons (me_v 3) ma_nil)))
  (mss_cons (ms_if (mt_cmp p_is (me_v 4) me_non rfl)
  (mss_one (ms_raiseF rfl tk su_InvalidText fc.g_InvalidText rfl (hr.mono (by decide)) (me_op p_add (me_v 2) me_int)))
  mss_nil)
  (mss_one (ms_app 1 rfl (me_v 4) (pvr 1) (hb := pe_bm PySem.F.plainAttrs_list PySem.F.slot_list_append PySem.F.type_list_append mt_append (pvr 1) (pa_cons (me_v 4) pa_nil))))))))
  (mss_cons (ms_pre (wk_freeze 1) (ms_if (mt_cmp (p_ne hr) (me_ty p_tuple rfl fc.b_tuple boot_tuple (ma_cons (me_lc (own := [("label", 6), ("numbers", 7)]) rfl nd_lock_of (mi_seq (me_v 1)) (blkOk_by (by rfl)) (by decide) (fun T1 hT1 s1 H1 C1 cl1 fp1 => (mg_tup rfl (mgs_cons (mg_name nd_lock_of) (mgs_cons (mg_name nd_lock_of) mgs_nil)))) (fun T1 hT1 s1 H1 C1 cl1 fp1 => mpts_nil) (fun T1 hT1 s1 H1 C1 cl1 fp1 => (me_v 6))) ma_nil)) (me_gtup (vs := (["pins", "gates", "width"] : List PySem.Str).map V.str) (xs := [.str "pins", .str "gates", .str "width"]) rfl fc.g_LABELS fc.k_LABELS fun _ _ _ => Rps.strs ["pins", "gates", "width"]) rfl)
  (mss_one (ms_raiseF rfl tk su_InvalidText fc.g_InvalidText rfl (hr.mono (by decide)) (me_op p_add (me_bi p_len rfl fc.b_len boot_len (ma_cons (me_v 1) ma_nil)) me_int)))
  mss_nil))
  (mss_cons (ms_set nd_lock_of (me_tup (ma_cons (me_ix (me_ix (me_v 1) me_int) me_int) (ma_cons (me_ix (me_ix (me_v 1) me_int) me_int) (ma_cons (me_ix (me_ix (me_ix (me_v 1) me_int) me_int) me_int) ma_nil)))))
  (mss_cons (ms_if (mt_not (mt_val (me_call (c_is_lock_value.at_ hT) hr tk rfl (ma_cons (me_v 5) ma_nil))))
  (mss_one (ms_raiseF rfl tk su_InvalidText fc.g_InvalidText rfl (hr.mono (by decide)) (me_op p_add (me_bi p_len rfl fc.b_len boot_len (ma_cons (me_v 1) ma_nil)) me_int)))
  mss_nil)
  (mss_one (ms_ret (me_v 5)))))))))
abbrev N_read_lock : List PySem.Str := ["value"]
theorem nd_read_lock : N_read_lock.Nodup := by decide +kernel
theorem sc_read_lock : FnScope N_read_lock ["value"] (defScope s_read_lock) := ⟨rfl, rfl, rfl, nd_read_lock, rfl, by decide +kernel, by decide +kernel⟩
theorem c_read_lock {P : Program} {w : World} {K : PySem.W.Frag} {mg : PySem.Str → Option Value} {base : Heap} {fd : FuncData} (fc : Fc K mg) (c_lock_of : Fn P w K mg base (tb K) 3 "lock_of" ["value"] F_lock_of) (F : FunD K "read_lock" "read_lock" (defArgs s_read_lock) (defBody s_read_lock) (defScope s_read_lock) [] [] (He.ga K "read_lock") fd) : Fn P w K mg base (tb K) 4 "read_lock" ["value"] F_read_lock := by
  have c_lock_of := c_lock_of.mono (k := 3) (by decide)
  refine fn_of (k := 3) F sc_read_lock fc.g_read_lock rfl (F.bindsN fun _ _ _ _ _ _ us hl => match us, hl with | [_], _ => rfl) fun cdv A outer s H E T hT hr => ?_
  have tk : L2N.Takes (cxOf (L2N.CX P w) P w K mg base N_read_lock "read_lock" (defScope s_read_lock) (He.ga K "read_lock") cdv A outer s H E) (fun c d _ H => E c d H) := L2N.takes_of rfl rfl rfl rfl
  have hp : PassesOwn (model P w) (A.deeper (envOfC "read_lock" (defScope s_read_lock) s.heap.objs.size (He.ga K "read_lock") cdv)) (envOfC "read_lock" (defScope s_read_lock) s.heap.objs.size (He.ga K "read_lock") cdv) (cxOf (L2N.CX P w) P w K mg base N_read_lock "read_lock" (defScope s_read_lock) (He.ga K "read_lock") cdv A outer s H E).xe := passes_of rfl
  exact (mss_one (ms_ret (me_call (c_lock_of.at_ hT) hr tk rfl (ma_cons (me_v 0) ma_nil))))
abbrev N_law : List PySem.Str := ["_law_script", "_law_cell", "_law_deck_here", "_law_writing_here", "_law_bent", "_law_some", "_law_one_here", "_law_due_here", "_law_wanted", "_law_rows", "_law_text", "_law_number", "_law_k"]
theorem nd_law : N_law.Nodup := by decide +kernel
theorem sc_law : FnScope N_law ["_law_script"] (defScope s_law) := ⟨rfl, rfl, rfl, nd_law, rfl, by decide +kernel, by decide +kernel⟩
theorem c_law {P : Program} {w : World} {K : PySem.W.Frag} {mg : PySem.Str → Option Value} {base : Heap} {fd : FuncData} (fc : Fc K mg) (hk : kinB K = true) (hd : tabDB K lamFs = true) {fdT fdK : FuncData} (FT : FunD K "_law_try" "_law_try" (defArgs s__law_try) (defBody s__law_try) (defScope s__law_try) [] [] (He.ga K "_law_try") fdT) (FK : FunD K "_law_kin" "_law_kin" (defArgs s__law_kin) (defBody s__law_kin) (defScope s__law_kin) [] [] (He.ga K "_law_kin") fdK) (TB : LamX.TabB base mg (He.cT K ("law", none)).1 (He.cT K ("law", none)).2) (c__law_deck : Fn P w K mg base (tb K) 1 "_law_deck" ["_law_cell", "_law_turn"] F__law_deck) (c__law_writing : Fn P w K mg base (tb K) 1 "_law_writing" ["_law_lock_here"] F__law_writing) (c__law_lock : Fn P w K mg base (tb K) 2 "_law_lock" ["_law_deck_here", "_law_most"] F__law_lock) (c__law_text_bent : Fn P w K mg base (tb K) 3 "_law_text_bent" ["_law_deck_here", "_law_writing_here"] F__law_text_bent) (c__law_due : Fn P w K mg base (tb K) 2 "_law_due" ["_law_value"] F__law_due) (c_read_lock : Fn P w K mg base (tb K) 4 "read_lock" ["value"] F_read_lock) (F : FunD K "law" "law" (defArgs s_law) (defBody s_law) (defScope s_law) [] [] (He.ga K "law") fd)
    (pure : ∀ ns : List Int, ns.length ≤ 63 → ∃ g, F_law [.lst (ns.map .int)] [] = .ok (.bl true) g) : FnOk P w K mg base CX0 7 (He.ga K "law") fd ["_law_script"] (spLaw K (tb K)) := by
  have l__law_deck := c__law_deck.mono (k := 4) (by decide)
  have l__law_writing := c__law_writing.mono (k := 4) (by decide)
  have l__law_lock := c__law_lock.mono (k := 4) (by decide)
  have l__law_text_bent := c__law_text_bent.mono (k := 4) (by decide)
  have l__law_due := c__law_due.mono (k := 4) (by decide)
  have l_read_lock := c_read_lock.mono (k := 4) (by decide)
  have c__law_deck := c__law_deck.mono (k := 6) (by decide)
  have c__law_writing := c__law_writing.mono (k := 6) (by decide)
  have c__law_lock := c__law_lock.mono (k := 6) (by decide)
  have c__law_text_bent := c__law_text_bent.mono (k := 6) (by decide)
  have c__law_due := c__law_due.mono (k := 6) (by decide)
  have c_read_lock := c_read_lock.mono (k := 6) (by decide)
  refine law_okT (k := 6) F sc_law rfl (fun A outer s H E T hT hr => ?_) pure
  have tk : L2N.Takes (cxOf CX0 P w K mg base N_law "law" (defScope s_law) (He.ga K "law") (.ref (He.codeOf K ("law", none))) A outer s H E) WF := tk0
  have hp : PassesOwn (model P w) (A.deeper (envOfC "law" (defScope s_law) s.heap.objs.size (He.ga K "law") (.ref (He.codeOf K ("law", none))))) (envOfC "law" (defScope s_law) s.heap.objs.size (He.ga K "law") (.ref (He.codeOf K ("law", none)))) (cxOf CX0 P w K mg base N_law "law" (defScope s_law) (He.ga K "law") (.ref (He.codeOf K ("law", none))) A outer s H E).xe := passes_of rfl
  exact (msst_cons (msT_for hp rfl (mit_of (mi_seq (me_sl (me_op p_add (me_lst (ma_cons me_int ma_nil)) (me_v 0)) mo_no (mo_at me_int)))) (mg_name nd_law)
  (msst_post (wk_forget [4, 1, 2, 7, 5, 8, 3]) (msst_cons (mst_of (ms_set nd_law (me_call (c__law_deck.at_ hT) hr tk rfl (ma_cons (me_v 1) (ma_cons me_int ma_nil)))))
  (msst_cons (mst_of (ms_set nd_law (me_call (c__law_writing.at_ hT) hr tk rfl (ma_cons (me_call (c__law_lock.at_ hT) hr tk rfl (ma_cons (me_v 2) (ma_cons me_int ma_nil))) ma_nil))))
  (msst_cons (mst_of (ms_setLc nd_law rfl (own := [("_law_k", 12)]) rfl nd_law (mi_rgA rfl rfl fc.b_range (ma_cons me_int ma_nil)) (blkOk_by (by rfl)) (by decide) (fun T1 hT1 s1 H1 C1 cl1 fp1 => (mg_name nd_law)) (fun T1 hT1 s1 H1 C1 cl1 fp1 => mpts_nil) (fun T1 hT1 s1 H1 C1 cl1 fp1 => (me_call (c__law_text_bent.at_ (hT1.trans hT)) hr tk0 rfl (ma_cons (me_v 2) (ma_cons (me_v 3) ma_nil))))))
  (msst_cons (mst_of (ms_set nd_law (me_op p_add (me_v 4) (me_lc (own := [("_law_one_here", 6)]) rfl nd_law (mi_seq (me_v 4)) (blkOk_by (by rfl)) (by decide) (fun T1 hT1 s1 H1 C1 cl1 fp1 => (mg_name nd_law)) (fun T1 hT1 s1 H1 C1 cl1 fp1 => mpts_nil) (fun T1 hT1 s1 H1 C1 cl1 fp1 => (me_call (c__law_text_bent.at_ (hT1.trans hT)) hr tk0 rfl (ma_cons (me_v 2) (ma_cons (me_v 6) ma_nil))))))))
  (msst_cons (mst_of (ms_set nd_law (me_lst (ma_cons me_non (ma_cons me_int (ma_cons (me_lst (ma_cons (me_v 3) ma_nil)) (ma_cons (me_tup ma_nil) (ma_cons me_str (ma_cons me_str (ma_cons me_str (ma_cons (me_op p_add me_str (me_v 3)) (ma_cons (me_op p_add (me_v 3) me_str) (ma_cons me_str (ma_cons (me_v 3) ma_nil))))))))))))))
  (msst_one (msT_for hp rfl (mit_seq (met_op p_add (met_of (me_op p_add (me_v 4) (me_v 5))) (met_lst (mat_cons (met_rpl (me_v 3)) mat_nil)))) (mg_name nd_law)
  (msst_of (mss_post (wk_forget [7, 8]) (mss_cons (ms_set nd_law (me_call (c__law_due.at_ hT) hr tk rfl (ma_cons (me_v 6) ma_nil)))
  (mss_cons (ms_set nd_law (me_if (mt_val (me_isT ty_list rfl rfl fc.b_isinstance boot_isinstance rfl fc.b_list boot_list (me_v 7))) (me_tup (ma_cons me_str (ma_cons (me_ix (me_v 7) me_int) ma_nil))) (me_tup (ma_cons me_str (ma_cons (me_v 7) ma_nil)))))
  (mss_one (ms_if (mt_cmp (p_ne hr) (me_try (k := 4) rfl fc.g__law_try FT (FunD.bindsA (ps := ["_law_call_so"]) FT fun _ _ _ _ _ _ us hl => match us, hl with | [_], _ => rfl) sc__law_try rfl (.inl rfl) (try_ok fc hk FK) TB rfl (by rw [hT]; exact tabL_mem (x := "law") (by decide)) (by rw [hT]; exact tabL_uniq (x := "law") hd (by decide)) hr rfl rfl (fun _ _ _ _ _ => rfl) fun A outer s H E f c hrL => (me_call (l_read_lock.at_ hT) hrL lam_takes rfl (ma_cons (me_v 6) ma_nil))) (me_v 8) rfl)
  (mss_one (ms_ret me_bl))
  mss_nil)))))))))))))))
  (msst_cons (mst_of (ms_set nd_law (me_lst (ma_cons (me_tup (ma_cons me_str (ma_cons me_int ma_nil))) (ma_cons (me_tup (ma_cons me_str (ma_cons me_int ma_nil))) (ma_cons (me_tup (ma_cons me_str (ma_cons me_int ma_nil))) ma_nil))))))
  (msst_cons (mst_of (ms_set nd_law (me_op p_add (me_v 9) (me_lst (ma_cons (me_tup (ma_cons me_str (ma_cons me_int ma_nil))) (ma_cons (me_tup (ma_cons me_str (ma_cons me_int ma_nil))) (ma_cons (me_tup (ma_cons me_str (ma_cons me_int ma_nil))) ma_nil)))))))
  (msst_cons (mst_of (ms_set nd_law (me_op p_add (me_v 9) (me_lst (ma_cons (me_tup (ma_cons me_str (ma_cons me_int ma_nil))) (ma_cons (me_tup (ma_cons me_str (ma_cons me_int ma_nil))) (ma_cons (me_tup (ma_cons me_str (ma_cons me_int ma_nil))) ma_nil)))))))
  (msst_cons (mst_of (ms_set nd_law (me_op p_add (me_v 9) (me_lst (ma_cons (me_tup (ma_cons me_str (ma_cons me_int ma_nil))) (ma_cons (me_tup (ma_cons me_str (ma_cons me_int ma_nil))) ma_nil))))))
  (msst_cons (mst_of (ms_for hp rfl (mi_seq (me_v 9)) (mg_tup rfl (mgs_cons (mg_name nd_law) (mgs_cons (mg_name nd_law) mgs_nil)))
  (mss_post (wk_forget [11, 10]) (mss_one (ms_if (mt_cmp (p_ne hr) (me_try (k := 4) rfl fc.g__law_try FT (FunD.bindsA (ps := ["_law_call_so"]) FT fun _ _ _ _ _ _ us hl => match us, hl with | [_], _ => rfl) sc__law_try rfl (.inl rfl) (try_ok fc hk FK) TB rfl (by rw [hT]; exact tabL_mem (x := "law") (by decide)) (by rw [hT]; exact tabL_uniq (x := "law") hd (by decide)) hr rfl rfl (fun _ _ _ _ _ => rfl) fun A outer s H E f c hrL => (me_call (l_read_lock.at_ hT) hrL lam_takes rfl (ma_cons (me_v 10) ma_nil))) (me_tup (ma_cons me_str (ma_cons (me_v 11) ma_nil))) rfl)
  (mss_one (ms_ret me_bl))
  mss_nil)))))
  (msst_one (mst_of (ms_ret me_bl)))))))))
end k14

set_option Elab.async false
set_option linter.all false
set_option maxRecDepth 100000
set_option maxHeartbeats 0
namespace k14
open PySem PySem.Spec PyProof.Rows L2 Sh Cm
def d_is_within : He.DefD := ⟨("is_within", none), "is_within", "is_within", defArgs s_is_within, defBody s_is_within, defScope s_is_within, [], []⟩
def d_has_items : He.DefD := ⟨("has_items", none), "has_items", "has_items", defArgs s_has_items, defBody s_has_items, defScope s_has_items, [], []⟩
def d_is_lock_value : He.DefD := ⟨("is_lock_value", none), "is_lock_value", "is_lock_value", defArgs s_is_lock_value, defBody s_is_lock_value, defScope s_is_lock_value, [], []⟩
def d_numbers_in : He.DefD := ⟨("numbers_in", none), "numbers_in", "numbers_in", defArgs s_numbers_in, defBody s_numbers_in, defScope s_numbers_in, [], []⟩
def d_part_of : He.DefD := ⟨("part_of", none), "part_of", "part_of", defArgs s_part_of, defBody s_part_of, defScope s_part_of, [], []⟩
def d_lock_of : He.DefD := ⟨("lock_of", none), "lock_of", "lock_of", defArgs s_lock_of, defBody s_lock_of, defScope s_lock_of, [], []⟩
def d_read_lock : He.DefD := ⟨("read_lock", none), "read_lock", "read_lock", defArgs s_read_lock, defBody s_read_lock, defScope s_read_lock, [], []⟩
def d__law_deck : He.DefD := ⟨("_law_deck", none), "_law_deck", "_law_deck", defArgs s__law_deck, defBody s__law_deck, defScope s__law_deck, [], []⟩
def d__law_pick : He.DefD := ⟨("_law_pick", none), "_law_pick", "_law_pick", defArgs s__law_pick, defBody s__law_pick, defScope s__law_pick, [], []⟩
def d__law_one : He.DefD := ⟨("_law_one", none), "_law_one", "_law_one", defArgs s__law_one, defBody s__law_one, defScope s__law_one, [], []⟩
def d__law_kin : He.DefD := ⟨("_law_kin", none), "_law_kin", "_law_kin", defArgs s__law_kin, defBody s__law_kin, defScope s__law_kin, [], []⟩
def d__law_try : He.DefD := ⟨("_law_try", none), "_law_try", "_law_try", defArgs s__law_try, defBody s__law_try, defScope s__law_try, [], []⟩
def d__law_lock : He.DefD := ⟨("_law_lock", none), "_law_lock", "_law_lock", defArgs s__law_lock, defBody s__law_lock, defScope s__law_lock, [], []⟩
def d__law_writing : He.DefD := ⟨("_law_writing", none), "_law_writing", "_law_writing", defArgs s__law_writing, defBody s__law_writing, defScope s__law_writing, [], []⟩
def d__law_read_line : He.DefD := ⟨("_law_read_line", none), "_law_read_line", "_law_read_line", defArgs s__law_read_line, defBody s__law_read_line, defScope s__law_read_line, [], []⟩
def d__law_due : He.DefD := ⟨("_law_due", none), "_law_due", "_law_due", defArgs s__law_due, defBody s__law_due, defScope s__law_due, [], []⟩
def d__law_text_bent : He.DefD := ⟨("_law_text_bent", none), "_law_text_bent", "_law_text_bent", defArgs s__law_text_bent, defBody s__law_text_bent, defScope s__law_text_bent, [], []⟩
def d_law : He.DefD := ⟨("law", none), "law", "law", defArgs s_law, defBody s_law, defScope s_law, [], []⟩
def fn0 : List He.DefD := [d_is_within, d_has_items, d_is_lock_value, d_numbers_in, d_part_of, d_lock_of, d_read_lock, d__law_deck, d__law_pick, d__law_one, d__law_kin, d__law_try]
def fn1 : List He.DefD := [d__law_lock, d__law_writing, d__law_read_line, d__law_due, d__law_text_bent, d_law]
def fn : List He.DefD := fn0 ++ fn1
def fa0 : List He.Fa := [.glo "is_within", .glo "has_items", .glo "is_lock_value", .glo "numbers_in", .glo "part_of", .glo "lock_of", .glo "read_lock", .glo "_law_deck", .glo "_law_pick", .glo "_law_one", .glo "_law_kin", .glo "_law_try"]
def fa1 : List He.Fa := [.glo "_law_lock", .glo "_law_writing", .glo "_law_read_line", .glo "_law_due", .glo "_law_text_bent", .glo "law", .glo "LockError", .exc "LockError", .glo "InvalidLock", .exc "InvalidLock", .glo "InvalidNumber", .exc "InvalidNumber"]
def fa2 : List He.Fa := [.glo "InvalidSetting", .exc "InvalidSetting", .glo "InvalidScript", .exc "InvalidScript", .glo "InvalidWheel", .exc "InvalidWheel", .glo "InvalidFelt", .exc "InvalidFelt", .glo "InvalidTurn", .exc "InvalidTurn", .glo "InvalidIndex", .exc "InvalidIndex"]
def fa3 : List He.Fa := [.glo "Unlike", .exc "Unlike", .glo "NothingToUndo", .exc "NothingToUndo", .glo "TooMany", .glo "InvalidText", .free "ValueError", .free "all", .free "bool", .free "enumerate", .free "int", .free "isinstance"]
def fa4 : List He.Fa := [.free "len", .free "list", .free "max", .free "min", .free "range", .free "str", .free "tuple", .free "zip", .glo "NUMBERS", .glo "LABELS", .glo "MOST"]
def fa : List He.Fa := fa0 ++ fa1 ++ fa2 ++ fa3 ++ fa4
def nm0 : List PySem.Str := ["LockError", "InvalidLock", "InvalidNumber", "InvalidSetting", "InvalidScript", "InvalidWheel", "InvalidFelt", "InvalidTurn", "InvalidIndex", "Unlike", "NothingToUndo", "TooMany"]
def nm1 : List PySem.Str := ["InvalidText", "is_within", "has_items", "is_lock_value", "NUMBERS", "LABELS", "MOST", "numbers_in", "part_of", "lock_of", "read_lock", "_law_deck"]
def nm2 : List PySem.Str := ["_law_pick", "_law_one", "_law_kin", "_law_try", "_law_lock", "_law_writing", "_law_read_line", "_law_due", "_law_text_bent"]
def nm : List PySem.Str := nm0 ++ nm1 ++ nm2
abbrev R : PySem.W.OpenRow := PySem.W.OpenLaw.row PySem.Challenge.rw_anylocks_k14_texts_that_are_refused
def ex (K : PySem.W.Frag) : Bool := (kinB K && tabDB K lamFs) && tupS K (He.ga K "NUMBERS") ["0", "1", "2", "3", "4", "5", "6", "7", "8", "9", "10", "11"] && tupS K (He.ga K "LABELS") ["pins", "gates", "width"] && dictI K (He.ga K "MOST") [("pins", [1, 3]), ("gates", [0, 11]), ("width", [0, 2])] && suB K R.prog.main.file "InvalidText" "line"
def tf : List He.Defn := lamFs.map fun x => (x, none)
def ts : List He.Tab := [(fun K => He.ga K "MOST", ["pins", "gates", "width"])]
def zs : List DefZ := [⟨("InvalidText", some "__init__"), "__init__", "InvalidText.__init__", clsItem (top 13) 0, ["__class__"]⟩]
abbrev hk : PySem.W.Hook := hookZ 5 fa fn ts tf ex zs
def ob (s : PySem.W.SharedT) : AlZ := obsZ 5 fa fn ts tf ex zs (HandSHeadRun.getT s)
theorem ob_eq (s : PySem.W.SharedT) : ob s = hk.obs s.abs := obsZ_eq (HandSHeadRun.getT_eq s)
theorem zz_at {K : PySem.W.Frag} {l : List DefZ} (c : l.map (fun d => fnZ K d.at_) = l.map DefZ.val) (i : Nat) {d : DefZ} (hd : l[i]? = some d) : fnZ K d.at_ = d.val := by
  have e : (l.map fun d => fnZ K d.at_)[i]? = (l.map DefZ.val)[i]? := by rw [c]
  rw [List.getElem?_map, List.getElem?_map, hd] at e
  exact Option.some.inj e
theorem run (w : World) : HandSHeadRun.RunEq R (PySem.W.view R.prog [37]) hk ob 20000 nm w := by
  refine PySem.W.byRow2 "special-get-raises" (P := fun w => HandSHeadRun.RunEq R (PySem.W.view R.prog [37]) hk ob 20000 nm w) (fun w => ?_) (fun w => ?_) w
  · intro os
    kernel_rfl
  · intro os
    kernel_rfl
theorem facts {w : World} {K : PySem.W.Frag} {h : Heap} {mg : PySem.Str → Option Value} {f : Addr} (X : K.In h) (G : h.Ns mainGlobals mg) (hfa : mg ("law" : PySem.Str) = some (.ref f)) (c : He.SaysD fa fn K) (hex : ex K = true) (zz : zs.map (fun d => fnZ K d.at_) = zs.map DefZ.val) (kd_MOST : ∃ es n, KDict K w (He.ga K "MOST") es n) :
    ∃ fd : FuncData, (∀ (s : Shared) (v : Value), BindsTo s fd ⟨[v], []⟩ [("_law_script", v)]) ∧ ∀ base : Heap, K.In base → base.Ns mainGlobals mg → (∀ p ∈ lamFs.map (fun x => He.cT K (x, none)), LamX.TabB base mg p.1 p.2) → FnOk R.prog w K mg base CX0 7 f fd ["_law_script"] (spLaw K (tb K)) := by
  unfold ex at hex
  simp only [Bool.and_eq_true] at hex
  obtain ⟨⟨⟨⟨⟨hk, hd⟩, kx_NUMBERS⟩, kx_LABELS⟩, kt_MOST⟩, sb_InvalidText⟩ := hex
  obtain ⟨fd__law_deck, FD__law_deck⟩ := c.def_ 7 (d := d__law_deck) rfl
  obtain ⟨fd__law_writing, FD__law_writing⟩ := c.def_ 13 (d := d__law_writing) rfl
  obtain ⟨fd__law_pick, FD__law_pick⟩ := c.def_ 8 (d := d__law_pick) rfl
  obtain ⟨fd__law_lock, FD__law_lock⟩ := c.def_ 12 (d := d__law_lock) rfl
  obtain ⟨fd__law_one, FD__law_one⟩ := c.def_ 9 (d := d__law_one) rfl
  obtain ⟨fd__law_text_bent, FD__law_text_bent⟩ := c.def_ 16 (d := d__law_text_bent) rfl
  obtain ⟨fd__law_read_line, FD__law_read_line⟩ := c.def_ 14 (d := d__law_read_line) rfl
  obtain ⟨fd__law_due, FD__law_due⟩ := c.def_ 15 (d := d__law_due) rfl
  obtain ⟨fd_numbers_in, FD_numbers_in⟩ := c.def_ 3 (d := d_numbers_in) rfl
  obtain ⟨fd_part_of, FD_part_of⟩ := c.def_ 4 (d := d_part_of) rfl
  obtain ⟨fd_has_items, FD_has_items⟩ := c.def_ 1 (d := d_has_items) rfl
  obtain ⟨fd_is_within, FD_is_within⟩ := c.def_ 0 (d := d_is_within) rfl
  obtain ⟨fd_is_lock_value, FD_is_lock_value⟩ := c.def_ 2 (d := d_is_lock_value) rfl
  obtain ⟨fd_lock_of, FD_lock_of⟩ := c.def_ 5 (d := d_lock_of) rfl
  obtain ⟨fd_read_lock, FD_read_lock⟩ := c.def_ 6 (d := d_read_lock) rfl
  obtain ⟨fd_law, FD_law⟩ := c.def_ 17 (d := d_law) rfl
  obtain ⟨fd__law_try, FD__law_try⟩ := c.def_ 11 (d := d__law_try) rfl
  obtain ⟨fd__law_kin, FD__law_kin⟩ := c.def_ 10 (d := d__law_kin) rfl
  have fc : Fc K mg := ⟨He.glo_ok X G (c.fact 0 (f := .glo "is_within") rfl),
    He.glo_ok X G (c.fact 1 (f := .glo "has_items") rfl),
    He.glo_ok X G (c.fact 2 (f := .glo "is_lock_value") rfl),
    He.glo_ok X G (c.fact 3 (f := .glo "numbers_in") rfl),
    He.glo_ok X G (c.fact 4 (f := .glo "part_of") rfl),
    He.glo_ok X G (c.fact 5 (f := .glo "lock_of") rfl),
    He.glo_ok X G (c.fact 6 (f := .glo "read_lock") rfl),
    He.glo_ok X G (c.fact 7 (f := .glo "_law_deck") rfl),
    He.glo_ok X G (c.fact 8 (f := .glo "_law_pick") rfl),
    He.glo_ok X G (c.fact 9 (f := .glo "_law_one") rfl),
    He.glo_ok X G (c.fact 10 (f := .glo "_law_kin") rfl),
    He.glo_ok X G (c.fact 11 (f := .glo "_law_try") rfl),
    He.glo_ok X G (c.fact 12 (f := .glo "_law_lock") rfl),
    He.glo_ok X G (c.fact 13 (f := .glo "_law_writing") rfl),
    He.glo_ok X G (c.fact 14 (f := .glo "_law_read_line") rfl),
    He.glo_ok X G (c.fact 15 (f := .glo "_law_due") rfl),
    He.glo_ok X G (c.fact 16 (f := .glo "_law_text_bent") rfl),
    He.glo_ok X G (c.fact 17 (f := .glo "law") rfl),
    He.glo_ok X G (c.fact 18 (f := .glo "LockError") rfl),
    c.fact 19 (f := .exc "LockError") rfl,
    He.glo_ok X G (c.fact 20 (f := .glo "InvalidLock") rfl),
    c.fact 21 (f := .exc "InvalidLock") rfl,
    He.glo_ok X G (c.fact 22 (f := .glo "InvalidNumber") rfl),
    c.fact 23 (f := .exc "InvalidNumber") rfl,
    He.glo_ok X G (c.fact 24 (f := .glo "InvalidSetting") rfl),
    c.fact 25 (f := .exc "InvalidSetting") rfl,
    He.glo_ok X G (c.fact 26 (f := .glo "InvalidScript") rfl),
    c.fact 27 (f := .exc "InvalidScript") rfl,
    He.glo_ok X G (c.fact 28 (f := .glo "InvalidWheel") rfl),
    c.fact 29 (f := .exc "InvalidWheel") rfl,
    He.glo_ok X G (c.fact 30 (f := .glo "InvalidFelt") rfl),
    c.fact 31 (f := .exc "InvalidFelt") rfl,
    He.glo_ok X G (c.fact 32 (f := .glo "InvalidTurn") rfl),
    c.fact 33 (f := .exc "InvalidTurn") rfl,
    He.glo_ok X G (c.fact 34 (f := .glo "InvalidIndex") rfl),
    c.fact 35 (f := .exc "InvalidIndex") rfl,
    He.glo_ok X G (c.fact 36 (f := .glo "Unlike") rfl),
    c.fact 37 (f := .exc "Unlike") rfl,
    He.glo_ok X G (c.fact 38 (f := .glo "NothingToUndo") rfl),
    c.fact 39 (f := .exc "NothingToUndo") rfl,
    He.glo_ok X G (c.fact 40 (f := .glo "TooMany") rfl),
    He.glo_ok X G (c.fact 41 (f := .glo "InvalidText") rfl),
    He.free_ok X G (c.fact 42 (f := .free "ValueError") rfl),
    He.free_ok X G (c.fact 43 (f := .free "all") rfl),
    He.free_ok X G (c.fact 44 (f := .free "bool") rfl),
    He.free_ok X G (c.fact 45 (f := .free "enumerate") rfl),
    He.free_ok X G (c.fact 46 (f := .free "int") rfl),
    He.free_ok X G (c.fact 47 (f := .free "isinstance") rfl),
    He.free_ok X G (c.fact 48 (f := .free "len") rfl),
    He.free_ok X G (c.fact 49 (f := .free "list") rfl),
    He.free_ok X G (c.fact 50 (f := .free "max") rfl),
    He.free_ok X G (c.fact 51 (f := .free "min") rfl),
    He.free_ok X G (c.fact 52 (f := .free "range") rfl),
    He.free_ok X G (c.fact 53 (f := .free "str") rfl),
    He.free_ok X G (c.fact 54 (f := .free "tuple") rfl),
    He.free_ok X G (c.fact 55 (f := .free "zip") rfl),
    He.glo_ok X G (c.fact 56 (f := .glo "NUMBERS") rfl),
    tupS_ok kx_NUMBERS,
    He.glo_ok X G (c.fact 57 (f := .glo "LABELS") rfl),
    tupS_ok kx_LABELS,
    He.glo_ok X G (c.fact 58 (f := .glo "MOST") rfl)⟩
  have e := hfa.symm.trans (He.glo_ok X G (c.fact 17 (f := .glo "law") rfl))
  cases e
  refine ⟨fd_law, fun s v => FunD.bindsA (ps := ["_law_script"]) FD_law (fun _ _ _ _ _ _ us hl => match us, hl with | [_], _ => rfl) s [v] rfl, fun base _ _ hTB => ?_⟩
  have su_InvalidText : SuC R.prog w K mg (He.ga K "InvalidText") (He.ma K (He.ga K "InvalidText") "__init__") "line" := suC_of (hz := zz_at zz 0 rfl) (hb := sb_InvalidText) (htop := by kernel_rfl) (hk := rfl) (hco := rfl) (hgen := rfl) (hnc := by decide) (hself := rfl) (harg := rfl) (hks := rfl) (hkc := rfl) (hp := rfl) (hpa := rfl) (hne := by decide) (hdb := by decide) (hcall := fun _ _ _ _ => rfl) (hint := fun _ _ _ _ => rfl) (hsw1 := fun _ _ _ _ => rfl) (hsw2 := fun _ _ _ _ => rfl) (hbind := fun _ _ _ _ _ _ _ _ _ _ _ => BindsTo.of_eq rfl)
  have v__law_deck := c__law_deck (P := R.prog) (w := w) (base := base) fc  FD__law_deck
  have v__law_writing := c__law_writing (P := R.prog) (w := w) (base := base) fc  FD__law_writing
  have v__law_pick := c__law_pick (P := R.prog) (w := w) (base := base) fc  FD__law_pick
  have v__law_lock := c__law_lock (P := R.prog) (w := w) (base := base) fc v__law_pick FD__law_lock
  have v__law_one := c__law_one (P := R.prog) (w := w) (base := base) fc v__law_pick FD__law_one
  have v__law_text_bent := c__law_text_bent (P := R.prog) (w := w) (base := base) fc v__law_one v__law_pick FD__law_text_bent
  have v__law_read_line := c__law_read_line (P := R.prog) (w := w) (base := base) fc  FD__law_read_line
  have v__law_due := c__law_due (P := R.prog) (w := w) (base := base) fc v__law_read_line FD__law_due
  have v_numbers_in := c_numbers_in (P := R.prog) (w := w) (base := base) fc kd_MOST kt_MOST  FD_numbers_in
  have v_part_of := c_part_of (P := R.prog) (w := w) (base := base) fc v_numbers_in FD_part_of
  have v_has_items := c_has_items (P := R.prog) (w := w) (base := base) fc  FD_has_items
  have v_is_within := c_is_within (P := R.prog) (w := w) (base := base) fc  FD_is_within
  have v_is_lock_value := c_is_lock_value (P := R.prog) (w := w) (base := base) fc v_has_items v_is_within FD_is_lock_value
  have v_lock_of := c_lock_of (P := R.prog) (w := w) (base := base) fc su_InvalidText v_part_of v_is_lock_value FD_lock_of
  have v_read_lock := c_read_lock (P := R.prog) (w := w) (base := base) fc v_lock_of FD_read_lock
  exact c_law fc hk hd FD__law_try FD__law_kin (hTB _ (List.mem_map.mpr ⟨"law", by decide, rfl⟩)) v__law_deck v__law_writing v__law_lock v__law_text_bent v__law_due v_read_lock FD_law pure_law
end k14
open PySem PySem.W PySem.Calls PyProof.Rows
theorem PySem.Challenge.cw_anylocks_k14_texts_that_are_refused_holds : PySem.Challenge.rw_anylocks_k14_texts_that_are_refused.Holds := by
  w_on; o_law
  refine HandSHeadRun.head_any (r := OpenLaw.row PySem.Challenge.rw_anylocks_k14_texts_that_are_refused) (q := view (OpenLaw.row PySem.Challenge.rw_anylocks_k14_texts_that_are_refused).prog [37]) (H := k14.hk) (ob := k14.ob) (M := 20000) (loose := k14.nm) (d := HandSHeadRun.topDef (OpenLaw.row PySem.Challenge.rw_anylocks_k14_texts_that_are_refused).prog 37) (kwd := []) k14.ob_eq
    (by kernel_rfl) (fun s => by kernel_rfl) k14.run (by kernel_rfl) (by kernel_rfl) (by kernel_rfl) (by rfl) (by first | assumption | decide +kernel) (by decide +kernel) ⟨rfl, rfl, rfl, rfl, rfl, by decide +kernel⟩ ?hw ?hc
  case hw => w_witness2
  case hc =>
    refine LamX.walk_ofTsE (l := PySem.Challenge.rw_anylocks_k14_texts_that_are_refused) (n := 63) (k := 7) (x := "_law_script") (CX := fun _ => L2.CX0) rfl (by decide) (by kernel_rfl) ⟨rfl, by decide, by decide⟩ ?F (fun _ _ _ _ _ z => z)
    intro w mg fa h Y G hmg0
    obtain ⟨K, KX, c⟩ := Y
    have hmg : mg ("law" : PySem.Str) = some (.ref fa) := by
      have e : (HandSHeadRun.topDef (OpenLaw.row PySem.Challenge.rw_anylocks_k14_texts_that_are_refused).prog 37).name = ("law" : PySem.Str) := by kernel_rfl
      rw [← e]
      exact hmg0
    obtain ⟨fd, hb, hF⟩ := k14.facts (w := w) KX G hmg c.t.d c.more c.zz (c.t.tab 0)
    have key : ∀ p ∈ k14.lamFs.map (fun x => He.cT K (x, none)), ∃ q ∈ k14.tf, p = He.cT K q := fun p hp => by
      obtain ⟨x, hx, rfl⟩ := List.mem_map.mp hp
      exact ⟨(x, none), List.mem_map.mpr ⟨x, hx, rfl⟩, rfl⟩
    exact ⟨K, KX, fd, k14.lamFs.map (fun x => He.cT K (x, none)), Sh.spLaw K (k14.tb K), fun p hp => by obtain ⟨q, hq, rfl⟩ := key p hp; exact c.empty q hq, fun p hp => by obtain ⟨q, hq, rfl⟩ := key p hp; exact c.out q hq,
      fun p hp => by obtain ⟨q, hq, rfl⟩ := key p hp; exact PySem.W.codeHd_of_K KX (c.hd q hq), hb, fun H a ns hl _ hT hS => ⟨a, ns, rfl, hl, hS, Sh.tabL_nil hT, fun _ => rfl⟩, hF⟩
