import PyProof.Rows.All
import HandS.ForMost
import HandS.Nested
import HandS.IsInst
import HandS.Deep
import HandS.TupAny
import HandS.Wide
import HandS.TupMul
import HandS.Dict
import HandS.Style
import HandS.Walk
import HandS.Zip
import KE.GoesMore
import KE.GoesEnum
import HandS.ForExc
import HandS.SortInts
import HandS.Defaults
import HandS.SortRule
import HandS.Conv
import HandS.More
import HandS.TupSets
import HandS.Small
import HandS.TupLen
import KE.KDictDisplayH
import HandS.Star
import HandS.DictComp
import HandS.HeadWalk
import HandS.WordsExc
import HandS.ExcInit
import HandS.ExcField
import HandS.ExcIs
import KE.KExcIs
import HandS.RepeatKit
import KE.KDictZip
import KE.GoesZip
import KE.DatumOrd
import KE.DataFind
import HandS.TryOnly
import HandS.SetFor
import HandS.Strs
import PySem.Challenge.RW_hueways_k61_lists_refused
set_option Elab.async false
set_option linter.all false
set_option maxRecDepth 100000
set_option maxHeartbeats 4000000
namespace Rn
open PySem L2

inductive CV where
  | non | bl (b : Bool) | int (i : Int) | str (x : Str) | g (k : Nat)
  | tup (xs : List CV) | lst (xs : List CV) | web (p : Int) (t : List CV) | ref (n : Nat)
  | dic (ks : List Key) (xs : List CV) | dit (ks : List (List Key)) (xs : List CV) | lam | scr (ns : List Int)
  deriving Inhabited

structure WRec where
  a : Addr
  d : Addr
  p : Int
  t : List CV
structure Wd where
  M : List Addr
  O : List WRec
  F : List Addr
structure Gb where
  K : PySem.W.Frag
  ga : Nat → Addr
  cw : Addr
  memo : Str → Int → List CV → Option CV
  exf : Nat → Str
  tabs : List (Addr × Str)
  lam : Addr := 0
  lcs : List (Addr × Str) := []
  own : Option (Addr × Int × List CV) := none
  pin : Option (Addr × Str × CV) := none
  caps : List (V × CV) := []

/-- the script: a list of ints that nobody writes -/
def ScrAt (K : PySem.W.Frag) (H : Hp) (a : Addr) (ns : List Int) : Prop := (∃ o, H a = some (.frz o (.lst (ns.map V.int)))) ∨
  ∃ (o : Obj) (its : Array Value) (n : Nat), K.lookup a = some o ∧ o.cls = .type "list" ∧ o.dict = none ∧ o.data = .seq its n ∧ its.size ≤ sizeLine ∧ Vals (ns.map V.int) its.toList
theorem ScrAt.sq {K : PySem.W.Frag} {H : Hp} {a : Addr} {ns : List Int} (h : ScrAt K H a ns) : SqL K H a (ns.map V.int) := h.elim (fun z => .inl (.inr z)) .inr
/-- a tuple: one that is not empty stands in the heap itself -/
def TupAt (K : PySem.W.Frag) (H : Hp) (a : Addr) (vs : List V) : Prop := SqT K H a vs ∧ (vs ≠ [] → H a = some (.tup vs))
theorem TupAt.of {K : PySem.W.Frag} {H : Hp} {a : Addr} {vs : List V} (h : H a = some (.tup vs)) : TupAt K H a vs := ⟨SqT.of h, fun _ => h⟩
mutual
def RelC (G : Gb) (w : Wd) (ρ : List Addr) (H : Hp) : CV → V → Prop
  | .non, v => v = .non
  | .bl b, v => v = .bl b
  | .int i, v => v = .int i
  | .str x, v => v = .str x
  | .g k, v => v = .ref (G.ga k)
  | .tup xs, v => ∃ a vs, v = .ref a ∧ TupAt G.K H a vs ∧ RelCs G w ρ H xs vs
  | .lst xs, v => ∃ a vs, v = .ref a ∧ a ∉ w.M ∧ H a = some (.lst vs) ∧ RelCs G w ρ H xs vs
  | .web p t, v => ∃ r, r ∈ w.O ∧ v = .ref r.a ∧ r.p = p ∧ r.t = t
  | .ref n, v => ∃ a, ρ[n]? = some a ∧ v = .ref a
  | .dic ks xs, v => ∃ a kvs, v = .ref a ∧ a ∉ w.M ∧ a ∈ w.F ∧ H a = some (.dK kvs) ∧ kvs.map (·.1) = ks ∧ RelCs G w ρ H xs (kvs.map (·.2))
  | .dit ks xs, v => ∃ a kvs, v = .ref a ∧ a ∉ w.M ∧ H a = some (.dT kvs) ∧ kvs.map (·.1) = ks ∧ RelCs G w ρ H xs (kvs.map (·.2))
  | .lam, v => v = .ref G.lam
  | .scr ns, v => ∃ a, v = .ref a ∧ ScrAt G.K H a ns
def RelCs (G : Gb) (w : Wd) (ρ : List Addr) (H : Hp) : List CV → List V → Prop
  | [], vs => vs = []
  | x :: xs, vs => ∃ v r, vs = v :: r ∧ RelC G w ρ H x v ∧ RelCs G w ρ H xs r
end
mutual
def noRef : CV → Bool
  | .ref _ => false
  | .tup xs => noRefs xs
  | .lst xs => noRefs xs
  | .dic _ xs => noRefs xs
  | .dit _ xs => noRefs xs
  | .lam => false
  | _ => true
def noRefs : List CV → Bool
  | [] => true
  | x :: xs => noRef x && noRefs xs
end

inductive CO where
  | lst (xs : List CV)
  | dk (kvs : List (Key × CV))
  | dt (kvs : List (List Key × CV))
  | bag
  deriving Inhabited
abbrev CH := List CO

/-- what a turn of the heap may leave as it is -/
def Hard (w : Wd) (b : Addr) : HO → Prop
  | .tbl _ => False
  | .dK _ => b ∈ w.M ∨ b ∈ w.F
  | _ => True

structure Ext (w : Wd) (ρ : List Addr) (H : Hp) (w' : Wd) (ρ' : List Addr) (H' : Hp) : Prop where
  mM : ∀ a ∈ w.M, a ∈ w'.M
  mO : ∀ r ∈ w.O, r ∈ w'.O
  mF : ∀ a ∈ w.F, a ∈ w'.F
  new : ∀ a ∈ w'.M, a ∈ w.M ∨ H a = none
  pre : ∃ e, ρ' = ρ ++ e ∧ ∀ a ∈ e, H a = none
  keep : ∀ b o, H b = some o → b ∉ ρ → Hard w b o → H' b = some o
  there : ∀ b o, H b = some o → ∃ o', H' b = some o'
  tup : ∀ b xs, H b = some (.tup xs) → H' b = some (.tup xs)
  frz : ∀ b o u, H b = some (.frz o u) → H' b = some (.frz o u)
theorem Ext.refl (w : Wd) (ρ : List Addr) (H : Hp) : Ext w ρ H w ρ H :=
  ⟨fun _ h => h, fun _ h => h, fun _ h => h, fun _ h => .inl h, ⟨[], by simp, by simp⟩, fun _ _ h _ _ => h, fun _ o h => ⟨o, h⟩, fun _ _ h => h, fun _ _ _ h => h⟩
theorem Ext.isNone {w ρ H w' ρ' H'} (e : Ext w ρ H w' ρ' H') {a : Addr} (h : H' a = none) : H a = none := by
  cases q : H a with
  | none => rfl
  | some o => obtain ⟨o', z⟩ := e.there a o q; rw [h] at z; cases z
theorem Ext.trans {w ρ H w1 ρ1 H1 w2 ρ2 H2} (a : Ext w ρ H w1 ρ1 H1) (b : Ext w1 ρ1 H1 w2 ρ2 H2) : Ext w ρ H w2 ρ2 H2 where
  mM := fun x h => b.mM x (a.mM x h)
  mO := fun x h => b.mO x (a.mO x h)
  mF := fun x h => b.mF x (a.mF x h)
  new := fun x h => by
    rcases b.new x h with h | h
    · exact a.new x h
    · exact .inr (a.isNone h)
  pre := by
    obtain ⟨e1, h1, q1⟩ := a.pre
    obtain ⟨e2, h2, q2⟩ := b.pre
    refine ⟨e1 ++ e2, by rw [h2, h1, List.append_assoc], fun x hx => ?_⟩
    rcases List.mem_append.mp hx with h | h
    · exact q1 x h
    · exact a.isNone (q2 x h)
  keep := fun x o h n hd => by
    obtain ⟨e1, h1, q1⟩ := a.pre
    refine b.keep x o (a.keep x o h n hd) (fun hx => ?_) ?_
    · rw [h1] at hx
      rcases List.mem_append.mp hx with z | z
      · exact n z
      · have := q1 x z; rw [h] at this; cases this
    · cases o <;> first | exact hd | exact hd.imp (a.mM x) (a.mF x)
  there := fun x o h => by obtain ⟨o', z⟩ := a.there x o h; exact b.there x o' z
  tup := fun x xs h => b.tup x xs (a.tup x xs h)
  frz := fun x o u h => b.frz x o u (a.frz x o u h)

theorem Ext.rdT {w ρ H w' ρ' H'} (e : Ext w ρ H w' ρ' H') {K : PySem.W.Frag} {a : Addr} {vs : List V} (h : SqT K H a vs) : SqT K H' a vs := by
  rcases h with (h | ⟨o, h⟩) | h
  · exact .inl (.inl (e.tup _ _ h))
  · exact .inl (.inr ⟨o, e.frz _ _ _ h⟩)
  · exact .inr h
theorem Ext.rdTA {w ρ H w' ρ' H'} (e : Ext w ρ H w' ρ' H') {K : PySem.W.Frag} {a : Addr} {vs : List V} (h : TupAt K H a vs) : TupAt K H' a vs := ⟨e.rdT h.1, fun z => e.tup _ _ (h.2 z)⟩
theorem Ext.rdL {w ρ H w' ρ' H'} (e : Ext w ρ H w' ρ' H') {K : PySem.W.Frag} {a : Addr} {vs : List V} (na : a ∉ ρ) (h : SqL K H a vs) : SqL K H' a vs := by
  rcases h with (h | ⟨o, h⟩) | h
  · exact .inl (.inl (e.keep _ _ h na trivial))
  · exact .inl (.inr ⟨o, e.frz _ _ _ h⟩)
  · exact .inr h
theorem Ext.notM {w ρ H w' ρ' H'} (e : Ext w ρ H w' ρ' H') {a : Addr} {u : HO} (na : a ∉ w.M) (h : H a = some u) : a ∉ w'.M := fun z => by
  rcases e.new a z with y | y
  · exact na y
  · rw [h] at y; cases y

section
variable {G : Gb} {w w' : Wd} {ρ ρ' : List Addr} {H H' : Hp}
mutual
theorem RelC.ext {r r' : List Addr} (e : Ext w ρ H w' ρ' H') (sub : ∀ a ∈ ρ, a ∈ w.M) (hp : ∃ q, r' = r ++ q) : ∀ {x : CV} {v : V}, RelC G w r H x v → RelC G w' r' H' x v
  | .non, _, h => by unfold RelC at h ⊢; exact h
  | .bl _, _, h => by unfold RelC at h ⊢; exact h
  | .int _, _, h => by unfold RelC at h ⊢; exact h
  | .str _, _, h => by unfold RelC at h ⊢; exact h
  | .g _, _, h => by unfold RelC at h ⊢; exact h
  | .tup xs, _, h => by
    unfold RelC at h ⊢
    obtain ⟨a, vs, h1, h2, h3⟩ := h
    exact ⟨a, vs, h1, e.rdTA h2, RelCs.ext e sub hp h3⟩
  | .lst xs, _, h => by
    unfold RelC at h ⊢
    obtain ⟨a, vs, h1, h2, h3, h4⟩ := h
    exact ⟨a, vs, h1, e.notM h2 h3, e.keep _ _ h3 (fun z => h2 (sub a z)) trivial, RelCs.ext e sub hp h4⟩
  | .web p t, _, h => by
    unfold RelC at h ⊢
    obtain ⟨y, h1, h2⟩ := h
    exact ⟨y, e.mO y h1, h2⟩
  | .ref n, _, h => by
    unfold RelC at h ⊢
    obtain ⟨a, h1, h2⟩ := h
    obtain ⟨q, h3⟩ := hp
    refine ⟨a, ?_, h2⟩
    rw [h3, List.getElem?_append_left (List.getElem?_eq_some_iff.mp h1).1]
    exact h1
  | .dic ks xs, _, h => by
    unfold RelC at h ⊢
    obtain ⟨a, kvs, h1, h2, h3, h4, h5, h6⟩ := h
    exact ⟨a, kvs, h1, e.notM h2 h4, e.mF a h3, e.keep _ _ h4 (fun z => h2 (sub a z)) (.inr h3), h5, RelCs.ext e sub hp h6⟩
  | .dit ks xs, _, h => by
    unfold RelC at h ⊢
    obtain ⟨a, kvs, h1, h2, h4, h5, h6⟩ := h
    exact ⟨a, kvs, h1, e.notM h2 h4, e.keep _ _ h4 (fun z => h2 (sub a z)) trivial, h5, RelCs.ext e sub hp h6⟩
  | .lam, _, h => by unfold RelC at h ⊢; exact h
  | .scr ns, _, h => by
    unfold RelC at h ⊢
    obtain ⟨a, h1, h2⟩ := h
    exact ⟨a, h1, h2.imp (fun ⟨o, z⟩ => ⟨o, e.frz _ _ _ z⟩) (fun z => z)⟩
theorem RelCs.ext {r r' : List Addr} (e : Ext w ρ H w' ρ' H') (sub : ∀ a ∈ ρ, a ∈ w.M) (hp : ∃ q, r' = r ++ q) : ∀ {xs : List CV} {vs : List V}, RelCs G w r H xs vs → RelCs G w' r' H' xs vs
  | [], _, h => by unfold RelCs at h ⊢; exact h
  | x :: xs, _, h => by
    unfold RelCs at h ⊢
    obtain ⟨v, y, h1, h2, h3⟩ := h
    exact ⟨v, y, h1, RelC.ext e sub hp h2, RelCs.ext e sub hp h3⟩
end

mutual
theorem RelC.free (ρ' : List Addr) : ∀ {x : CV} {v : V}, noRef x = true → RelC G w ρ H x v → RelC G w ρ' H x v
  | .non, _, _, h => by unfold RelC at h ⊢; exact h
  | .bl _, _, _, h => by unfold RelC at h ⊢; exact h
  | .int _, _, _, h => by unfold RelC at h ⊢; exact h
  | .str _, _, _, h => by unfold RelC at h ⊢; exact h
  | .g _, _, _, h => by unfold RelC at h ⊢; exact h
  | .tup xs, _, n, h => by
    unfold RelC at h ⊢
    obtain ⟨a, vs, h1, h2, h3⟩ := h
    exact ⟨a, vs, h1, h2, RelCs.free ρ' (by unfold noRef at n; exact n) h3⟩
  | .lst xs, _, n, h => by
    unfold RelC at h ⊢
    obtain ⟨a, vs, h1, h2, h3, h4⟩ := h
    exact ⟨a, vs, h1, h2, h3, RelCs.free ρ' (by unfold noRef at n; exact n) h4⟩
  | .web _ _, _, _, h => by unfold RelC at h ⊢; exact h
  | .ref _, _, n, _ => by unfold noRef at n; cases n
  | .dic ks xs, _, n, h => by
    unfold RelC at h ⊢
    obtain ⟨a, kvs, h1, h2, h3, h4, h5, h6⟩ := h
    exact ⟨a, kvs, h1, h2, h3, h4, h5, RelCs.free ρ' (by unfold noRef at n; exact n) h6⟩
  | .dit ks xs, _, n, h => by
    unfold RelC at h ⊢
    obtain ⟨a, kvs, h1, h2, h4, h5, h6⟩ := h
    exact ⟨a, kvs, h1, h2, h4, h5, RelCs.free ρ' (by unfold noRef at n; exact n) h6⟩
  | .lam, _, n, _ => by unfold noRef at n; cases n
  | .scr ns, _, _, h => by unfold RelC at h ⊢; exact h
theorem RelCs.free (ρ' : List Addr) : ∀ {xs : List CV} {vs : List V}, noRefs xs = true → RelCs G w ρ H xs vs → RelCs G w ρ' H xs vs
  | [], _, _, h => by unfold RelCs at h ⊢; exact h
  | x :: xs, _, n, h => by
    unfold noRefs at n
    rw [Bool.and_eq_true] at n
    unfold RelCs at h ⊢
    obtain ⟨v, r, h1, h2, h3⟩ := h
    exact ⟨v, r, h1, RelC.free ρ' n.1 h2, RelCs.free ρ' n.2 h3⟩
end

mutual
theorem RelC.less (hM : ∀ a ∈ w'.M, a ∈ w.M) (hO : ∀ r ∈ w.O, r ∈ w'.O) (hF : ∀ a ∈ w.F, a ∈ w'.F) : ∀ {x : CV} {v : V}, RelC G w ρ H x v → RelC G w' ρ H x v
  | .non, _, h => by unfold RelC at h ⊢; exact h
  | .bl _, _, h => by unfold RelC at h ⊢; exact h
  | .int _, _, h => by unfold RelC at h ⊢; exact h
  | .str _, _, h => by unfold RelC at h ⊢; exact h
  | .g _, _, h => by unfold RelC at h ⊢; exact h
  | .tup xs, _, h => by
    unfold RelC at h ⊢
    obtain ⟨a, vs, h1, h2, h3⟩ := h
    exact ⟨a, vs, h1, h2, RelCs.less hM hO hF h3⟩
  | .lst xs, _, h => by
    unfold RelC at h ⊢
    obtain ⟨a, vs, h1, h2, h3, h4⟩ := h
    exact ⟨a, vs, h1, fun z => h2 (hM a z), h3, RelCs.less hM hO hF h4⟩
  | .web _ _, _, h => by
    unfold RelC at h ⊢
    obtain ⟨r, h1, h2⟩ := h
    exact ⟨r, hO r h1, h2⟩
  | .ref _, _, h => by unfold RelC at h ⊢; exact h
  | .dic ks xs, _, h => by
    unfold RelC at h ⊢
    obtain ⟨a, kvs, h1, h2, h3, h4, h5, h6⟩ := h
    exact ⟨a, kvs, h1, fun z => h2 (hM a z), hF a h3, h4, h5, RelCs.less hM hO hF h6⟩
  | .dit ks xs, _, h => by
    unfold RelC at h ⊢
    obtain ⟨a, kvs, h1, h2, h4, h5, h6⟩ := h
    exact ⟨a, kvs, h1, fun z => h2 (hM a z), h4, h5, RelCs.less hM hO hF h6⟩
  | .lam, _, h => by unfold RelC at h ⊢; exact h
  | .scr ns, _, h => by unfold RelC at h ⊢; exact h
theorem RelCs.less (hM : ∀ a ∈ w'.M, a ∈ w.M) (hO : ∀ r ∈ w.O, r ∈ w'.O) (hF : ∀ a ∈ w.F, a ∈ w'.F) : ∀ {xs : List CV} {vs : List V}, RelCs G w ρ H xs vs → RelCs G w' ρ H xs vs
  | [], _, h => by unfold RelCs at h ⊢; exact h
  | x :: xs, _, h => by
    unfold RelCs at h ⊢
    obtain ⟨v, r, h1, h2, h3⟩ := h
    exact ⟨v, r, h1, RelC.less hM hO hF h2, RelCs.less hM hO hF h3⟩
end
mutual
theorem RelC.lamc {G2 : Gb} (hK : G.K = G2.K) (hg : G.ga = G2.ga) (ρ' : List Addr) : ∀ {x : CV} {v : V}, noRef x = true → RelC G w ρ H x v → RelC G2 w ρ' H x v
  | .non, _, _, h => by unfold RelC at h ⊢; exact h
  | .bl _, _, _, h => by unfold RelC at h ⊢; exact h
  | .int _, _, _, h => by unfold RelC at h ⊢; exact h
  | .str _, _, _, h => by unfold RelC at h ⊢; exact h
  | .g _, _, _, h => by unfold RelC at h ⊢; rw [← hg]; exact h
  | .tup xs, _, n, h => by
    unfold RelC at h ⊢
    obtain ⟨a, vs, h1, h2, h3⟩ := h
    exact ⟨a, vs, h1, hK ▸ h2, RelCs.lamc hK hg ρ' (by unfold noRef at n; exact n) h3⟩
  | .lst xs, _, n, h => by
    unfold RelC at h ⊢
    obtain ⟨a, vs, h1, h2, h3, h4⟩ := h
    exact ⟨a, vs, h1, h2, h3, RelCs.lamc hK hg ρ' (by unfold noRef at n; exact n) h4⟩
  | .web _ _, _, _, h => by unfold RelC at h ⊢; exact h
  | .ref _, _, n, _ => by unfold noRef at n; cases n
  | .dic ks xs, _, n, h => by
    unfold RelC at h ⊢
    obtain ⟨a, kvs, h1, h2, h3, h4, h5, h6⟩ := h
    exact ⟨a, kvs, h1, h2, h3, h4, h5, RelCs.lamc hK hg ρ' (by unfold noRef at n; exact n) h6⟩
  | .dit ks xs, _, n, h => by
    unfold RelC at h ⊢
    obtain ⟨a, kvs, h1, h2, h4, h5, h6⟩ := h
    exact ⟨a, kvs, h1, h2, h4, h5, RelCs.lamc hK hg ρ' (by unfold noRef at n; exact n) h6⟩
  | .lam, _, n, _ => by unfold noRef at n; cases n
  | .scr ns, _, _, h => by unfold RelC at h ⊢; rw [← hK]; exact h
theorem RelCs.lamc {G2 : Gb} (hK : G.K = G2.K) (hg : G.ga = G2.ga) (ρ' : List Addr) : ∀ {xs : List CV} {vs : List V}, noRefs xs = true → RelCs G w ρ H xs vs → RelCs G2 w ρ' H xs vs
  | [], _, _, h => by unfold RelCs at h ⊢; exact h
  | x :: xs, _, n, h => by
    unfold noRefs at n
    rw [Bool.and_eq_true] at n
    unfold RelCs at h ⊢
    obtain ⟨v, r, h1, h2, h3⟩ := h
    exact ⟨v, r, h1, RelC.lamc hK hg ρ' n.1 h2, RelCs.lamc hK hg ρ' n.2 h3⟩
end
theorem RelCs.length : ∀ {xs : List CV} {vs : List V}, RelCs G w ρ H xs vs → xs.length = vs.length
  | [], _, h => by unfold RelCs at h; subst h; rfl
  | x :: xs, _, h => by
    unfold RelCs at h
    obtain ⟨v, r, h1, h2, h3⟩ := h
    subst h1
    simp [RelCs.length h3]
theorem RelCs.get : ∀ {xs : List CV} {vs : List V} {i : Nat} {x : CV}, RelCs G w ρ H xs vs → xs[i]? = some x → ∃ v, vs[i]? = some v ∧ RelC G w ρ H x v
  | [], _, _, _, _, e => by simp at e
  | y :: xs, _, 0, x, h, e => by
    unfold RelCs at h
    obtain ⟨v, r, h1, h2, h3⟩ := h
    subst h1
    simp at e; subst e
    exact ⟨v, by simp, h2⟩
  | y :: xs, _, i + 1, x, h, e => by
    unfold RelCs at h
    obtain ⟨v, r, h1, h2, h3⟩ := h
    subst h1
    obtain ⟨u, q1, q2⟩ := RelCs.get (i := i) h3 (by simpa using e)
    exact ⟨u, by simpa using q1, q2⟩
theorem RelCs.getV : ∀ {xs : List CV} {vs : List V} {i : Nat} {v : V}, RelCs G w ρ H xs vs → vs[i]? = some v → ∃ x, xs[i]? = some x ∧ RelC G w ρ H x v
  | [], _, i, _, h, e => by unfold RelCs at h; subst h; simp at e
  | y :: xs, _, 0, x, h, e => by
    unfold RelCs at h
    obtain ⟨v, r, h1, h2, h3⟩ := h
    subst h1
    simp at e; subst e
    exact ⟨y, by simp, h2⟩
  | y :: xs, _, i + 1, x, h, e => by
    unfold RelCs at h
    obtain ⟨v, r, h1, h2, h3⟩ := h
    subst h1
    obtain ⟨u, q1, q2⟩ := RelCs.getV (i := i) h3 (by simpa using e)
    exact ⟨u, by simpa using q1, q2⟩
theorem RelCs.nil : RelCs G w ρ H [] [] := by unfold RelCs; rfl
theorem RelCs.cons {x : CV} {v : V} {xs : List CV} {vs : List V} (h : RelC G w ρ H x v) (r : RelCs G w ρ H xs vs) : RelCs G w ρ H (x :: xs) (v :: vs) := by
  unfold RelCs; exact ⟨v, vs, rfl, h, r⟩
theorem RelCs.append : ∀ {xs ys : List CV} {vs us : List V}, RelCs G w ρ H xs vs → RelCs G w ρ H ys us → RelCs G w ρ H (xs ++ ys) (vs ++ us)
  | [], _, _, _, h, q => by unfold RelCs at h; subst h; exact q
  | x :: xs, _, _, _, h, q => by
    unfold RelCs at h
    obtain ⟨v, r, h1, h2, h3⟩ := h
    subst h1
    exact RelCs.cons h2 (RelCs.append h3 q)
theorem RelCs.drop : ∀ {xs : List CV} {vs : List V} (n : Nat), RelCs G w ρ H xs vs → RelCs G w ρ H (xs.drop n) (vs.drop n)
  | _, _, 0, h => h
  | [], _, n + 1, h => by unfold RelCs at h; subst h; exact RelCs.nil
  | x :: xs, _, n + 1, h => by
    unfold RelCs at h
    obtain ⟨v, r, h1, h2, h3⟩ := h
    subst h1
    exact RelCs.drop n h3
theorem RelCs.take : ∀ {xs : List CV} {vs : List V} (n : Nat), RelCs G w ρ H xs vs → RelCs G w ρ H (xs.take n) (vs.take n)
  | _, _, 0, h => by simp; exact RelCs.nil
  | [], _, n + 1, h => by unfold RelCs at h; subst h; exact RelCs.nil
  | x :: xs, _, n + 1, h => by
    unfold RelCs at h
    obtain ⟨v, r, h1, h2, h3⟩ := h
    subst h1
    exact RelCs.cons h2 (RelCs.take n h3)
end

/-! ### outcomes -/
inductive Out (α : Type) where
  | ok (a : α) (h : CH)
  | exc (k : Nat) (v : Option CV) (h : CH)
  | ask (n : Nat) (f : Nat → Out α)
  | stuck
def Out.bind {α β : Type} : Out α → (α → CH → Out β) → Out β
  | .ok a h, f => f a h
  | .exc k v h, _ => .exc k v h
  | .ask n g, f => .ask n fun d => (g d).bind f
  | .stuck, _ => .stuck
def Out.Good {α : Type} (Q : α → CH → Prop) (E : Nat → Option CV → CH → Prop) : Out α → Prop
  | .ok a h => Q a h
  | .exc k v h => E k v h
  | .ask n g => ∀ d, d < n → (g d).Good Q E
  | .stuck => False
theorem Out.Good.mono {α : Type} {Q Q' : α → CH → Prop} {E E' : Nat → Option CV → CH → Prop} (hQ : ∀ a h, Q a h → Q' a h) (hE : ∀ k v h, E k v h → E' k v h) : ∀ {o : Out α}, o.Good Q E → o.Good Q' E'
  | .ok a h, g => hQ a h g
  | .exc k v h, g => hE k v h g
  | .ask n f, g => fun d hd => Out.Good.mono hQ hE (g d hd)
  | .stuck, g => g.elim
theorem Out.good_bind {α β : Type} {Q : β → CH → Prop} {E : Nat → Option CV → CH → Prop} {f : α → CH → Out β} : ∀ {o : Out α}, (o.bind f).Good Q E ↔ o.Good (fun a h => (f a h).Good Q E) E
  | .ok _ _ => Iff.rfl
  | .exc _ _ _ => Iff.rfl
  | .ask n g => ⟨fun h d hd => Out.good_bind.mp (h d hd), fun h d hd => Out.good_bind.mpr (h d hd)⟩
  | .stuck => Iff.rfl
end Rn

set_option Elab.async false
set_option linter.all false
set_option maxRecDepth 100000
set_option maxHeartbeats 4000000
namespace Rn
open PySem L2

def Pos3 (H : Hp) (a : Addr) : Prop := ∃ i j k : Int, 0 ≤ i ∧ 0 ≤ j ∧ 0 ≤ k ∧ H a = some (.lst [.int i, .int j, .int k])
def CoOk (G : Gb) (w : Wd) (H : Hp) (a : Addr) : CO → Prop
  | .lst xs => ∃ vs, RelCs G w [] H xs vs ∧ H a = some (.lst vs)
  | .dk kvs => ∃ ks : List (Key × V), ks.map (·.1) = kvs.map (·.1) ∧ RelCs G w [] H (kvs.map (·.2)) (ks.map (·.2)) ∧ H a = some (.dK ks)
  | .dt kvs => ∃ ks : List (List Key × V), ks.map (·.1) = kvs.map (·.1) ∧ RelCs G w [] H (kvs.map (·.2)) (ks.map (·.2)) ∧ H a = some (.dT ks)
  | .bag => Pos3 H a
def MemoOk (G : Gb) (w : Wd) (H : Hp) (p : Int) (t : List CV) (k : Key) (v : V) : Prop := ∃ x cv, k = .inr x ∧ G.memo x p t = some cv ∧ noRef cv = true ∧ RelC G w [] H cv v
def WebAt (G : Gb) (w : Wd) (H : Hp) (r : WRec) (ks : List (Key × V)) : Prop := ∃ (dx : Addr) (tv : V),
  H r.a = some (.ins G.cw dx [(("places" : Str), .int r.p), (("ties" : Str), tv), (("kept" : Str), .ref r.d)]) ∧ noRefs r.t = true ∧ RelC G w [] H (.tup r.t) tv ∧ H r.d = some (.dK ks)
def WebOk (G : Gb) (w : Wd) (H : Hp) (r : WRec) : Prop := ∃ (ks : List (Key × V)), WebAt G w H r ks ∧ ∀ kv ∈ ks, MemoOk G w H r.p r.t kv.1 kv.2

def Kind : HO → Prop
  | .lst _ => True
  | .dK _ => True
  | .dT _ => True
  | _ => False
/-- webs that share what they keep are alike; the web whose own def it is stands -/
def OwnOk (G : Gb) (O : List WRec) : Prop := (∀ r1 ∈ O, ∀ r2 ∈ O, r1.d = r2.d → r1.p = r2.p ∧ r1.t = r2.t) ∧ ∀ a p t, G.own = some (a, p, t) → ∃ r ∈ O, r.a = a ∧ r.p = p ∧ r.t = t
/-- what a caught exception keeps; what a lambda has captured -/
def PinOk (G : Gb) (w : Wd) (H : Hp) : Prop := (∀ dd f c, G.pin = some (dd, f, c) → ∃ x, H dd = some (.xd [(f, x)]) ∧ noRef c = true ∧ RelC G w [] H c x) ∧ ∀ p ∈ G.caps, noRef p.2 = true ∧ RelC G w [] H p.2 p.1
structure Rep (G : Gb) (w : Wd) (ρ : List Addr) (h : CH) (H : Hp) : Prop where
  nd : ρ.Nodup
  sub : ∀ a ∈ ρ, a ∈ w.M
  len : ρ.length = h.length
  mh : ∀ a ∈ w.M, ∃ o, H a = some o ∧ Kind o
  obj : ∀ (n : Nat) a o, ρ[n]? = some a → h[n]? = some o → CoOk G w H a o
  web : ∀ r ∈ w.O, WebOk G w H r
  wne : ∀ r ∈ w.O, r.d ∉ w.M
  wnf : ∀ r ∈ w.O, r.d ∉ w.F
  fh : ∀ a ∈ w.F, ∃ o, H a = some o
  tab : LamX.Tabs G.tabs H
  lco : ∀ p ∈ G.lcs, H p.1 = some (LamX.CodeO p.1 p.2)
  ow : OwnOk G w.O
  pn : PinOk G w H
theorem Rep.notM {G w ρ h H} (R : Rep G w ρ h H) {p : Addr} (hp : H p = none) : p ∉ w.M := fun z => by
  obtain ⟨o, q, _⟩ := R.mh p z
  rw [hp] at q; cases q
theorem tbl_upd {G : Gb} {H : Hp} {a : Addr} {o : HO} (t : ∀ b ps, H b = some (.tbl ps) → ∃ q, (b, q) ∈ G.tabs) (nt : ∀ ps, o ≠ .tbl ps) : ∀ b ps, upd H a o b = some (.tbl ps) → ∃ q, (b, q) ∈ G.tabs := fun b ps e => by
  by_cases hb : b = a
  · subst hb; rw [upd_same] at e; cases e; exact (nt ps rfl).elim
  · rw [upd_ne hb] at e; exact t b ps e
theorem kind_nt {o : HO} (k : Kind o) (ps : Array Value) : o ≠ .tbl ps := fun z => by subst z; exact k
theorem fh_upd {F : List Addr} {H : Hp} {a : Addr} {o : HO} (t : ∀ b ∈ F, ∃ o, H b = some o) : ∀ b ∈ F, ∃ u, upd H a o b = some u := fun b hb => by
  by_cases z : b = a
  · subst z; exact ⟨o, upd_same⟩
  · rw [upd_ne z]; exact t b hb
theorem kind_ne {H : Hp} {a b : Addr} {o u : HO} (ha : H a = some o) (ka : Kind o) (hb : H b = some u) (kb : ¬ Kind u) : b ≠ a := fun z => by
  rw [z, ha] at hb; cases hb; exact kb ka

section
variable {G : Gb} {w w' : Wd} {ρ ρ' : List Addr} {H H' : Hp} {h : CH}
theorem CoOk.ext (e : Ext w ρ H w' ρ' H') (sub : ∀ a ∈ ρ, a ∈ w.M) {a : Addr} (k : ∀ o, H a = some o → H' a = some o) : ∀ {o : CO}, CoOk G w H a o → CoOk G w' H' a o := by
  intro o h
  cases o with
  | lst xs => obtain ⟨vs, h1, h2⟩ := h; exact ⟨vs, RelCs.ext e sub ⟨[], rfl⟩ h1, k _ h2⟩
  | dk kvs => obtain ⟨ks, h0, h1, h2⟩ := h; exact ⟨ks, h0, RelCs.ext e sub ⟨[], rfl⟩ h1, k _ h2⟩
  | dt kvs => obtain ⟨ks, h0, h1, h2⟩ := h; exact ⟨ks, h0, RelCs.ext e sub ⟨[], rfl⟩ h1, k _ h2⟩
  | bag => obtain ⟨i, j, l, h1, h2, h3, h4⟩ := h; exact ⟨i, j, l, h1, h2, h3, k _ h4⟩
theorem WebAt.ext (e : Ext w ρ H w' ρ' H') (sub : ∀ a ∈ ρ, a ∈ w.M) (mh : ∀ a ∈ w.M, ∃ o, H a = some o ∧ Kind o) {r : WRec} {ks ks' : List (Key × V)} (kd : H' r.d = some (.dK ks')) (q : WebAt G w H r ks) : WebAt G w' H' r ks' := by
  obtain ⟨dx, tv, h1, hn, h2, h3⟩ := q
  refine ⟨dx, tv, e.keep _ _ h1 (fun z => ?_) trivial, hn, RelC.ext e sub ⟨[], rfl⟩ h2, kd⟩
  obtain ⟨o, h4, h5⟩ := mh _ (sub _ z)
  rw [h1] at h4; cases h4; exact h5
theorem MemoOk.ext (e : Ext w ρ H w' ρ' H') (sub : ∀ a ∈ ρ, a ∈ w.M) {p : Int} {t : List CV} {k : Key} {v : V} (q : MemoOk G w H p t k v) : MemoOk G w' H' p t k v := by
  obtain ⟨x, cv, h1, h2, hn, h3⟩ := q
  exact ⟨x, cv, h1, h2, hn, RelC.ext e sub ⟨[], rfl⟩ h3⟩
theorem PinOk.ext (q : PinOk G w H) (e : Ext w ρ H w' ρ' H') (sub : ∀ a ∈ ρ, a ∈ w.M) (mh : ∀ a ∈ w.M, ∃ o, H a = some o ∧ Kind o) : PinOk G w' H' := ⟨fun dd f c z => by
  obtain ⟨x, h1, n, h2⟩ := q.1 dd f c z
  refine ⟨x, e.keep _ _ h1 (fun y => ?_) trivial, n, RelC.ext e sub ⟨[], rfl⟩ h2⟩
  obtain ⟨o, h4, h5⟩ := mh _ (sub _ y)
  rw [h1] at h4; cases h4; exact h5, fun p hp => ⟨(q.2 p hp).1, RelC.ext e sub ⟨[], rfl⟩ (q.2 p hp).2⟩⟩
theorem PinOk.less (q : PinOk G w H) (hM : ∀ a ∈ w'.M, a ∈ w.M) (hO : ∀ r ∈ w.O, r ∈ w'.O) (hF : ∀ a ∈ w.F, a ∈ w'.F) : PinOk G w' H := ⟨fun dd f c z => by
  obtain ⟨x, h1, n, h2⟩ := q.1 dd f c z
  exact ⟨x, h1, n, RelC.less hM hO hF h2⟩, fun p hp => ⟨(q.2 p hp).1, RelC.less hM hO hF (q.2 p hp).2⟩⟩
theorem CoOk.some {a : Addr} {o : CO} (q : CoOk G w H a o) : ∃ u, H a = some u ∧ Kind u := by
  cases o with
  | lst xs => obtain ⟨vs, _, h2⟩ := q; exact ⟨_, h2, trivial⟩
  | dk kvs => obtain ⟨vs, _, _, h2⟩ := q; exact ⟨_, h2, trivial⟩
  | dt kvs => obtain ⟨vs, _, _, h2⟩ := q; exact ⟨_, h2, trivial⟩
  | bag => obtain ⟨i, j, l, _, _, _, h2⟩ := q; exact ⟨_, h2, trivial⟩

/-- a new object that is nobody's -/
theorem Ext.fresh (w : Wd) (ρ : List Addr) {H : Hp} {p : Addr} (o : HO) (hp : H p = none) : Ext w ρ H w ρ (upd H p o) := by
  have k : ∀ b u, H b = some u → upd H p o b = some u := fun b u e => by rw [upd_ne (ne_of_none e hp)]; exact e
  exact ⟨fun _ h => h, fun _ h => h, fun _ h => h, fun _ h => .inl h, ⟨[], by simp, by simp⟩, fun b u e _ _ => k b u e, fun b u e => ⟨u, k b u e⟩, fun b xs e => k b _ e, fun b u v e => k b _ e⟩
theorem Rep.fresh (R : Rep G w ρ h H) {p : Addr} (o : HO) (hp : H p = none) : Rep G w ρ h (upd H p o) := by
  have e := Ext.fresh w ρ o hp
  have k : ∀ b u, H b = some u → upd H p o b = some u := fun b u e => by rw [upd_ne (ne_of_none e hp)]; exact e
  refine ⟨R.nd, R.sub, R.len, fun a ha => ?_, fun n a u h1 h2 => (R.obj n a u h1 h2).ext e R.sub (fun o ho => k a o ho), fun r hr => ?_, R.wne, R.wnf, fh_upd R.fh, R.tab.ext k, fun p hp => k _ _ (R.lco p hp), R.ow, R.pn.ext e R.sub R.mh⟩
  · obtain ⟨u, h1, h2⟩ := R.mh a ha; exact ⟨u, k a u h1, h2⟩
  · obtain ⟨ks, h1, h2⟩ := R.web r hr
    exact ⟨ks, h1.ext e R.sub R.mh (k _ _ (by obtain ⟨_, _, _, _, _, z⟩ := h1; exact z)), fun kv hk => (h2 kv hk).ext e R.sub⟩
theorem Ext.newM (w : Wd) (ρ : List Addr) {H : Hp} {p : Addr} (o : HO) (hp : H p = none) : Ext w ρ H ⟨p :: w.M, w.O, w.F⟩ (ρ ++ [p]) (upd H p o) := by
  have k : ∀ b u, H b = some u → upd H p o b = some u := fun b u e => by rw [upd_ne (ne_of_none e hp)]; exact e
  refine ⟨fun _ h => List.mem_cons_of_mem _ h, fun _ h => h, fun _ h => h, fun a ha => ?_, ⟨[p], rfl, fun a ha => by simp at ha; subst ha; exact hp⟩, fun b u e _ _ => k b u e, fun b u e => ⟨u, k b u e⟩, fun b xs e => k b _ e, fun b u v e => k b _ e⟩
  rcases List.mem_cons.mp ha with z | z
  · subst z; exact .inr hp
  · exact .inl z
/-- a new object that is tracked -/
theorem Rep.alloc (R : Rep G w ρ h H) {p : Addr} {o : HO} {co : CO} (hp : H p = none) (hk : Kind o) (hc : CoOk G ⟨p :: w.M, w.O, w.F⟩ (upd H p o) p co) : Rep G ⟨p :: w.M, w.O, w.F⟩ (ρ ++ [p]) (h ++ [co]) (upd H p o) := by
  have e := Ext.newM w ρ o hp
  have k : ∀ b u, H b = some u → upd H p o b = some u := fun b u e => by rw [upd_ne (ne_of_none e hp)]; exact e
  have np : p ∉ ρ := fun z => R.notM hp (R.sub p z)
  refine ⟨?_, fun a ha => ?_, by simp [R.len], fun a ha => ?_, fun n a u h1 h2 => ?_, fun r hr => ?_, fun r hr => ?_, R.wnf, fh_upd R.fh, R.tab.ext k, fun p hp => k _ _ (R.lco p hp), R.ow, R.pn.ext e R.sub R.mh⟩
  · rw [List.nodup_append]
    refine ⟨R.nd, by simp, fun a ha b hb => ?_⟩
    simp at hb; subst hb
    intro z; subst z; exact np ha
  · rcases List.mem_append.mp ha with z | z
    · exact List.mem_cons_of_mem _ (R.sub a z)
    · simp at z; subst z; exact List.mem_cons_self
  · rcases List.mem_cons.mp ha with z | z
    · subst z; exact ⟨o, upd_same, hk⟩
    · obtain ⟨u, h1, h2⟩ := R.mh a z; exact ⟨u, k a u h1, h2⟩
  · by_cases hn : n < ρ.length
    · rw [List.getElem?_append_left hn] at h1
      rw [List.getElem?_append_left (by rw [← R.len]; exact hn)] at h2
      exact (R.obj n a u h1 h2).ext e R.sub (fun o ho => k a o ho)
    · have hn' : n = ρ.length := by
        have := (List.getElem?_eq_some_iff.mp h1).1
        simp at this; omega
      subst hn'
      rw [List.getElem?_append_right (Nat.le_refl _)] at h1
      rw [R.len, List.getElem?_append_right (Nat.le_refl _)] at h2
      simp at h1 h2
      subst h1 h2
      exact hc
  · obtain ⟨ks, h1, h2⟩ := R.web r hr
    exact ⟨ks, h1.ext e R.sub R.mh (k _ _ (by obtain ⟨_, _, _, _, _, z⟩ := h1; exact z)), fun kv hk => (h2 kv hk).ext e R.sub⟩
  · intro z
    rcases List.mem_cons.mp z with z | z
    · obtain ⟨ks, ⟨_, _, _, _, _, q⟩, _⟩ := R.web r hr
      rw [z, hp] at q; cases q
    · exact R.wne r hr z
theorem Ext.write (w : Wd) {ρ : List Addr} {H : Hp} {a : Addr} {o u : HO} (ha : a ∈ ρ) (hu : H a = some u) (ku : Kind u) : Ext w ρ H w ρ (upd H a o) := by
  refine ⟨fun _ h => h, fun _ h => h, fun _ h => h, fun _ h => .inl h, ⟨[], by simp, by simp⟩, fun b v e n _ => ?_, fun b v e => ?_, fun b xs e => ?_, fun b v x e => ?_⟩
  · rw [upd_ne (fun z => n (by rw [z]; exact ha))]; exact e
  · by_cases hb : b = a
    · subst hb; exact ⟨o, upd_same⟩
    · exact ⟨v, by rw [upd_ne hb]; exact e⟩
  · rw [upd_ne (kind_ne hu ku e (fun z => z))]; exact e
  · rw [upd_ne (kind_ne hu ku e (fun z => z))]; exact e
theorem tabs_write {T : List (Addr × Str)} {a : Addr} {o u : HO} (t : LamX.Tabs T H) (hu : H a = some u) (ku : Kind u) : LamX.Tabs T (upd H a o) := fun p hp => by
  obtain ⟨ps, h1, h2, h3⟩ := t p hp
  refine ⟨ps, by rw [upd_ne (kind_ne hu ku h1 (fun z => z))]; exact h1, h2, fun pos cv hc => ?_⟩
  obtain ⟨c, h4, h5⟩ := h3 pos cv hc
  exact ⟨c, h4, by rw [upd_ne (kind_ne hu ku h5 (fun z => z))]; exact h5⟩
/-- a tracked object is changed -/
theorem Rep.write (R : Rep G w ρ h H) {n : Nat} {a : Addr} {o : HO} {co : CO} (hn : ρ[n]? = some a) (hk : Kind o) (hc : CoOk G w (upd H a o) a co) : Rep G w ρ (h.set n co) (upd H a o) ∧ Ext w ρ H w ρ (upd H a o) := by
  have hm : a ∈ ρ := List.mem_of_getElem? hn
  obtain ⟨u, hu, ku⟩ := R.mh a (R.sub a hm)
  have e : Ext w ρ H w ρ (upd H a o) := Ext.write w hm hu ku
  refine ⟨⟨R.nd, R.sub, by simp [R.len], fun b hb => ?_, fun m b v h1 h2 => ?_, fun r hr => ?_, R.wne, R.wnf, fh_upd R.fh, tabs_write R.tab hu ku, fun p hp => ?_, R.ow, R.pn.ext e R.sub R.mh⟩, e⟩
  · by_cases z : b = a
    · subst z; exact ⟨o, upd_same, hk⟩
    · obtain ⟨v, h1, h2⟩ := R.mh b hb; exact ⟨v, by rw [upd_ne z]; exact h1, h2⟩
  · by_cases z : m = n
    · subst z
      rw [hn] at h1; cases h1
      rw [List.getElem?_set_self (by rw [← R.len]; exact (List.getElem?_eq_some_iff.mp hn).1)] at h2
      cases h2; exact hc
    · rw [List.getElem?_set_ne (Ne.symm z)] at h2
      have nb : b ≠ a := fun y => by
        subst y
        obtain ⟨l1, e1⟩ := List.getElem?_eq_some_iff.mp h1
        obtain ⟨l2, e2⟩ := List.getElem?_eq_some_iff.mp hn
        exact z ((List.getElem_inj R.nd).mp (e1.trans e2.symm))
      exact (R.obj m b v h1 h2).ext e R.sub (fun o ho => by rw [upd_ne nb]; exact ho)
  · obtain ⟨ks, h1, h2⟩ := R.web r hr
    refine ⟨ks, h1.ext e R.sub R.mh ?_, fun kv hk => (h2 kv hk).ext e R.sub⟩
    obtain ⟨_, _, _, _, _, z⟩ := h1
    rw [upd_ne (fun y => R.wne r hr (by rw [y]; exact R.sub a hm))]; exact z
  · have q := R.lco p hp
    rw [upd_ne (kind_ne hu ku q (fun z => z))]; exact q
end

/-! ### what is wanted behind -/
def PostV (G : Gb) (w : Wd) (ρ : List Addr) (H : Hp) (Q : VK) : CV → CH → Prop := fun c h' => ∀ w' ρ' H' v, Ext w ρ H w' ρ' H' → Rep G w' ρ' h' H' → RelC G w' ρ' H' c v → Q v H'
def PostVs (G : Gb) (w : Wd) (ρ : List Addr) (H : Hp) (Q : List V → Hp → Prop) : List CV → CH → Prop := fun c h' => ∀ w' ρ' H' v, Ext w ρ H w' ρ' H' → Rep G w' ρ' h' H' → RelCs G w' ρ' H' c v → Q v H'
def PostB (G : Gb) (w : Wd) (ρ : List Addr) (H : Hp) (Q : Bool → Hp → Prop) : Bool → CH → Prop := fun c h' => ∀ w' ρ' H', Ext w ρ H w' ρ' H' → Rep G w' ρ' h' H' → Q c H'
def ExcR (G : Gb) (w : Wd) (H : Hp) (k : Nat) (v : Option CV) (d : Option Addr) : Prop := match v with
  | none => d = none
  | some c => ∃ a x, d = some a ∧ H a = some (.xd [(G.exf k, x)]) ∧ RelC G w [] H c x
abbrev XO := Option XK
def PostX (G : Gb) (w : Wd) (ρ : List Addr) (H : Hp) : XO → Nat → Option CV → CH → Prop
  | none => fun _ _ _ => False
  | some E => fun k v h' => ∀ w' ρ' H' d, Ext w ρ H w' ρ' H' → Rep G w' ρ' h' H' → ExcR G w' H' k v d → E (.ref (G.ga k)) d H'
section
variable {G : Gb} {w w' : Wd} {ρ ρ' : List Addr} {H H' : Hp} {h h' : CH}
theorem PostV.at (e : Ext w ρ H w' ρ' H') {Q : VK} {c : CV} (p : PostV G w ρ H Q c h) : PostV G w' ρ' H' Q c h := fun w2 ρ2 H2 v e2 R r => p w2 ρ2 H2 v (e.trans e2) R r
theorem PostX.at (e : Ext w ρ H w' ρ' H') {E : XO} {k : Nat} {v : Option CV} (p : PostX G w ρ H E k v h) : PostX G w' ρ' H' E k v h := by
  cases E with
  | none => exact p
  | some E => exact fun w2 ρ2 H2 d e2 R r => p w2 ρ2 H2 d (e.trans e2) R r
theorem PostV.go {Q : VK} {c : CV} {v : V} (p : PostV G w ρ H Q c h) (R : Rep G w ρ h H) (r : RelC G w ρ H c v) : Q v H := p w ρ H v (Ext.refl w ρ H) R r
/-- a new tuple -/
theorem PostV.newT {Q : VK} {cs : List CV} {vs : List V} (p : PostV G w ρ H Q (.tup cs) h) (R : Rep G w ρ h H) (r : RelCs G w ρ H cs vs) {q : Addr} (hq : H q = none) : Q (.ref q) (upd H q (.tup vs)) :=
  p w ρ _ _ (Ext.fresh w ρ _ hq) (R.fresh _ hq) (by unfold RelC; exact ⟨q, vs, rfl, TupAt.of upd_same, RelCs.ext (Ext.fresh w ρ _ hq) R.sub ⟨[], by simp⟩ r⟩)
/-- a new list that is never changed -/
theorem PostV.newL {Q : VK} {cs : List CV} {vs : List V} (p : PostV G w ρ H Q (.lst cs) h) (R : Rep G w ρ h H) (r : RelCs G w ρ H cs vs) {q : Addr} (hq : H q = none) : Q (.ref q) (upd H q (.lst vs)) :=
  p w ρ _ _ (Ext.fresh w ρ _ hq) (R.fresh _ hq) (by unfold RelC; exact ⟨q, vs, rfl, R.notM hq, upd_same, RelCs.ext (Ext.fresh w ρ _ hq) R.sub ⟨[], by simp⟩ r⟩)
end
end Rn

set_option Elab.async false
set_option linter.all false
set_option maxRecDepth 100000
set_option maxHeartbeats 4000000
namespace Rn
open PySem L2

abbrev Lc := List (Option CV)
abbrev CE := Lc → CH → Out CV
abbrev CEs := Lc → CH → Out (List CV)
abbrev CTt := Lc → CH → Out Bool
abbrev F2 := CV → CV → CH → Out CV
abbrev F1 := CV → CH → Out CV
abbrev Fn := List CV → CH → Out CV

def LocR (G : Gb) (w : Wd) (ρ : List Addr) (H : Hp) (l : Lc) (σ : St) : Prop := l.length = σ.length ∧ ∀ (i : Nat) c, l[i]? = some (some c) → ∃ v, σ[i]? = some (some v) ∧ RelC G w ρ H c v
section
variable {G : Gb} {w w' : Wd} {ρ ρ' : List Addr} {H H' : Hp} {h h' : CH} {E : XO} {l : Lc} {σ : St}
theorem RelC.up (e : Ext w ρ H w' ρ' H') (R : Rep G w ρ h H) {x : CV} {v : V} (r : RelC G w ρ H x v) : RelC G w' ρ' H' x v := RelC.ext e R.sub (by obtain ⟨q, z, _⟩ := e.pre; exact ⟨q, z⟩) r
theorem RelCs.up (e : Ext w ρ H w' ρ' H') (R : Rep G w ρ h H) {x : List CV} {v : List V} (r : RelCs G w ρ H x v) : RelCs G w' ρ' H' x v := RelCs.ext e R.sub (by obtain ⟨q, z, _⟩ := e.pre; exact ⟨q, z⟩) r
theorem RelC.any {x : CV} {v : V} (r : RelC G w [] H x v) : RelC G w ρ H x v := RelC.ext (Ext.refl w [] H) (by simp) ⟨ρ, by simp⟩ r
theorem RelCs.any {x : List CV} {v : List V} (r : RelCs G w [] H x v) : RelCs G w ρ H x v := RelCs.ext (Ext.refl w [] H) (by simp) ⟨ρ, by simp⟩ r
/-- what a loop may do: what is tracked anywhere may have changed -/
structure ExtW (w : Wd) (ρ : List Addr) (H : Hp) (w' : Wd) (ρ' : List Addr) (H' : Hp) : Prop where
  e : Ext w w.M H w' w.M H'
  p : ∃ q, ρ' = ρ ++ q
theorem ExtW.of (e : Ext w ρ H w' ρ' H') (sub : ∀ a ∈ ρ, a ∈ w.M) : ExtW w ρ H w' ρ' H' :=
  ⟨⟨e.mM, e.mO, e.mF, e.new, ⟨[], by simp, by simp⟩, fun b o h n hd => e.keep b o h (fun z => n (sub b z)) hd, e.there, e.tup, e.frz⟩, by obtain ⟨q, z, _⟩ := e.pre; exact ⟨q, z⟩⟩
theorem ExtW.trans {w2 : Wd} {ρ2 : List Addr} {H2 : Hp} (a : ExtW w ρ H w' ρ' H') (b : Ext w' ρ' H' w2 ρ2 H2) (sub : ∀ x ∈ ρ', x ∈ w'.M) : ExtW w ρ H w2 ρ2 H2 := by
  refine ⟨⟨fun x h => b.mM x (a.e.mM x h), fun x h => b.mO x (a.e.mO x h), fun x h => b.mF x (a.e.mF x h), fun x h => ?_, ⟨[], by simp, by simp⟩, fun x o h n hd => ?_, fun x o h => ?_, fun x xs h => b.tup x xs (a.e.tup x xs h), fun x o u h => b.frz x o u (a.e.frz x o u h)⟩, ?_⟩
  · rcases b.new x h with h | h
    · exact a.e.new x h
    · exact .inr (a.e.isNone h)
  · refine b.keep x o (a.e.keep x o h n hd) (fun z => ?_) ?_
    · rcases a.e.new x (sub x z) with y | y
      · exact n y
      · rw [h] at y; cases y
    · cases o <;> first | exact hd | exact hd.imp (a.e.mM x) (a.e.mF x)
  · obtain ⟨o', z⟩ := a.e.there x o h; exact b.there x o' z
  · obtain ⟨q, z⟩ := a.p
    obtain ⟨r, y, _⟩ := b.pre
    exact ⟨q ++ r, by rw [y, z, List.append_assoc]⟩
theorem ExtW.mut {D : Addr} {o u : HO} (a : ExtW w ρ H w' ρ' H') (hM : D ∈ w.M) (hD : H' D = some u) (k : Kind u) : ExtW w ρ H w' ρ' (upd H' D o) := by
  have ne : ∀ b, b ∉ w.M → b ≠ D := fun b n z => n (by rw [z]; exact hM)
  refine ⟨⟨a.e.mM, a.e.mO, a.e.mF, a.e.new, ⟨[], by simp, by simp⟩, fun b v h n hd => by rw [upd_ne (ne b n)]; exact a.e.keep b v h n hd, fun b v h => ?_, fun b xs h => ?_, fun b v x h => ?_⟩, a.p⟩
  · by_cases z : b = D
    · rw [z]; exact ⟨o, upd_same⟩
    · rw [upd_ne z]; exact a.e.there b v h
  · have q := a.e.tup b xs h
    rw [upd_ne (kind_ne hD k q (fun z => z))]; exact q
  · have q := a.e.frz b v x h
    rw [upd_ne (kind_ne hD k q (fun z => z))]; exact q
theorem RelC.upW (e : ExtW w ρ H w' ρ' H') {x : CV} {v : V} (r : RelC G w ρ H x v) : RelC G w' ρ' H' x v := RelC.ext e.e (fun _ h => h) e.p r
theorem RelCs.upW (e : ExtW w ρ H w' ρ' H') {x : List CV} {v : List V} (r : RelCs G w ρ H x v) : RelCs G w' ρ' H' x v := RelCs.ext e.e (fun _ h => h) e.p r
theorem LocR.upW (e : ExtW w ρ H w' ρ' H') (q : LocR G w ρ H l σ) : LocR G w' ρ' H' l σ := ⟨q.1, fun i c hc => by
  obtain ⟨v, h1, h2⟩ := q.2 i c hc
  exact ⟨v, h1, h2.upW e⟩⟩
theorem LocR.up (e : Ext w ρ H w' ρ' H') (R : Rep G w ρ h H) (q : LocR G w ρ H l σ) : LocR G w' ρ' H' l σ := ⟨q.1, fun i c hc => by
  obtain ⟨v, h1, h2⟩ := q.2 i c hc
  exact ⟨v, h1, h2.up e R⟩⟩

/-! ### readings that run -/
def rd (G : Gb) (E : XO) (c : CE) : TE := fun σ H Q => ∃ w ρ l h, Rep G w ρ h H ∧ LocR G w ρ H l σ ∧ (c l h).Good (PostV G w ρ H Q) (PostX G w ρ H E)
def rds (G : Gb) (E : XO) (c : CEs) : TA := fun σ H Q => ∃ w ρ l h, Rep G w ρ h H ∧ LocR G w ρ H l σ ∧ (c l h).Good (PostVs G w ρ H Q) (PostX G w ρ H E)
def rdt (G : Gb) (E : XO) (c : CTt) : TT := fun σ H Q => ∃ w ρ l h, Rep G w ρ h H ∧ LocR G w ρ H l σ ∧ (c l h).Good (PostB G w ρ H Q) (PostX G w ρ H E)

/-- the state of a run, within the wish of the whole -/
theorem rd_then {β : Type} {c : CE} {F : CV → CH → Out β} {P : β → CH → Prop} {σ : St} (R : Rep G w ρ h H) (L : LocR G w ρ H l σ) (g : ((c l h).bind F).Good P (PostX G w ρ H E)) {Q : VK}
    (k : ∀ w' ρ' h' H' x v, Ext w ρ H w' ρ' H' → Rep G w' ρ' h' H' → LocR G w' ρ' H' l σ → RelC G w' ρ' H' x v → (F x h').Good P (PostX G w' ρ' H' E) → Q v H') : rd G E c σ H Q := by
  refine ⟨w, ρ, l, h, R, L, (Out.good_bind.mp g).mono (fun x h1 g1 w' ρ' H' v e R' r => ?_) fun k v h' q => q⟩
  exact k w' ρ' h1 H' x v e R' (L.up e R) r (g1.mono (fun _ _ q => q) fun _ _ _ q => q.at e)
theorem rds_then {β : Type} {c : CEs} {F : List CV → CH → Out β} {P : β → CH → Prop} {σ : St} (R : Rep G w ρ h H) (L : LocR G w ρ H l σ) (g : ((c l h).bind F).Good P (PostX G w ρ H E)) {Q : List V → Hp → Prop}
    (k : ∀ w' ρ' h' H' x v, Ext w ρ H w' ρ' H' → Rep G w' ρ' h' H' → LocR G w' ρ' H' l σ → RelCs G w' ρ' H' x v → (F x h').Good P (PostX G w' ρ' H' E) → Q v H') : rds G E c σ H Q := by
  refine ⟨w, ρ, l, h, R, L, (Out.good_bind.mp g).mono (fun x h1 g1 w' ρ' H' v e R' r => ?_) fun k v h' q => q⟩
  exact k w' ρ' h1 H' x v e R' (L.up e R) r (g1.mono (fun _ _ q => q) fun _ _ _ q => q.at e)
theorem rdt_then {β : Type} {c : CTt} {F : Bool → CH → Out β} {P : β → CH → Prop} {σ : St} (R : Rep G w ρ h H) (L : LocR G w ρ H l σ) (g : ((c l h).bind F).Good P (PostX G w ρ H E)) {Q : Bool → Hp → Prop}
    (k : ∀ w' ρ' h' H' x, Ext w ρ H w' ρ' H' → Rep G w' ρ' h' H' → LocR G w' ρ' H' l σ → (F x h').Good P (PostX G w' ρ' H' E) → Q x H') : rdt G E c σ H Q := by
  refine ⟨w, ρ, l, h, R, L, (Out.good_bind.mp g).mono (fun x h1 g1 w' ρ' H' e R' => ?_) fun k v h' q => q⟩
  exact k w' ρ' h1 H' x e R' (L.up e R) (g1.mono (fun _ _ q => q) fun _ _ _ q => q.at e)
end

theorem pe_imp {X : Cx} {e : Expr} {t t' : TE} (h : PE X e t) (i : ∀ σ H Q, t' σ H Q → t σ H Q) : PE X e t' := ⟨fun pins s σ H Q I q => h.run pins s σ H Q I (i σ H Q q)⟩
theorem pt_imp {X : Cx} {e : Expr} {t t' : TT} (h : PT X e t) (i : ∀ σ H Q, t' σ H Q → t σ H Q) : PT X e t' := ⟨fun pins s σ H Q I q => h.run pins s σ H Q I (i σ H Q q)⟩
theorem pw_imp {X : Cx} {e : Expr} {t t' : TT} (h : PW X e t) (i : ∀ σ H Q, t' σ H Q → t σ H Q) : PW X e t' := ⟨fun wh pins s σ H Q I q => h.run wh pins s σ H Q I (i σ H Q q)⟩
theorem pa_imp {X : Cx} {e : List Expr} {t t' : TA} (h : PA X e t) (i : ∀ σ H Q, t' σ H Q → t σ H Q) : PA X e t' := ⟨fun pos pins s σ H Q I q => h.run pos pins s σ H Q I (i σ H Q q)⟩
theorem OpR.imp {X : Cx} {f : Value → Value → Sem Value} {r r' : R2} (h : OpR X f r) (i : ∀ x y H Q, r' x y H Q → r x y H Q) : OpR X f r' := fun pins s σ H x y v u Q I rx ry q => h pins s σ H x y v u Q I rx ry (i _ _ _ _ q)
theorem IxR.imp {X : Cx} {r r' : R2} (h : IxR X r) (i : ∀ x y H Q, r' x y H Q → r x y H Q) : IxR X r' := fun vl sl pins s σ H x y v u Q I rx ry q => h vl sl pins s σ H x y v u Q I rx ry (i _ _ _ _ q)
theorem CallR.imp {X : Cx} {f : Value} {r r' : List V → Hp → VK → Prop} (h : CallR X f r) (i : ∀ x H Q, r' x H Q → r x H Q) : CallR X f r' := fun pins s σ H xs us Q I rx q => h pins s σ H xs us Q I rx (i _ _ _ q)
theorem MtR.imp {X : Cx} {id : String} {r r' : V → List V → Hp → VK → Prop} (h : MtR X id r) (i : ∀ x xs H Q, r' x xs H Q → r x xs H Q) : MtR X id r' := fun pins s σ H x xs v us Q I rx rs q => h pins s σ H x xs v us Q I rx rs (i _ _ _ _ q)

/-! ### by values -/
def rd2 (G : Gb) (E : XO) (f : F2) : R2 := fun x y H Q => ∃ w ρ h cx cy, Rep G w ρ h H ∧ RelC G w ρ H cx x ∧ RelC G w ρ H cy y ∧ (f cx cy h).Good (PostV G w ρ H Q) (PostX G w ρ H E)
def rd1 (G : Gb) (E : XO) (f : F1) : V → Hp → VK → Prop := fun x H Q => ∃ w ρ h cx, Rep G w ρ h H ∧ RelC G w ρ H cx x ∧ (f cx h).Good (PostV G w ρ H Q) (PostX G w ρ H E)
def rdF (G : Gb) (E : XO) (f : Fn) : List V → Hp → VK → Prop := fun xs H Q => ∃ w ρ h cs, Rep G w ρ h H ∧ RelCs G w ρ H cs xs ∧ (f cs h).Good (PostV G w ρ H Q) (PostX G w ρ H E)
def rdM (G : Gb) (E : XO) (f : CV → List CV → CH → Out CV) : V → List V → Hp → VK → Prop := fun x xs H Q => ∃ w ρ h cx cs, Rep G w ρ h H ∧ RelC G w ρ H cx x ∧ RelCs G w ρ H cs xs ∧ (f cx cs h).Good (PostV G w ρ H Q) (PostX G w ρ H E)

/-! ### the terms -/
def cVar (i : Nat) : CE := fun l h => match l[i]? with
  | some (some c) => .ok c h
  | _ => .stuck
def cK (c : CV) : CE := fun _ h => .ok c h
def c2 (f : F2) (a b : CE) : CE := fun l h => (a l h).bind fun x h1 => (b l h1).bind fun y h2 => f x y h2
def c1 (f : F1) (a : CE) : CE := fun l h => (a l h).bind fun x h1 => f x h1
def cNil : CEs := fun _ h => .ok [] h
def cCons (a : CE) (r : CEs) : CEs := fun l h => (a l h).bind fun x h1 => (r l h1).bind fun xs h2 => .ok (x :: xs) h2
def cF (f : Fn) (a : CEs) : CE := fun l h => (a l h).bind fun xs h1 => f xs h1
def cM (f : CV → List CV → CH → Out CV) (o : CE) (a : CEs) : CE := fun l h => (o l h).bind fun x h1 => (a l h1).bind fun xs h2 => f x xs h2
def cChain (f g : F2) (a b c : CE) : CE := fun l h => (a l h).bind fun x h1 => (b l h1).bind fun y h2 => (f x y h2).bind fun z h3 => match z with
  | .bl true => (c l h3).bind fun u h4 => g y u h4
  | .bl false => .ok (.bl false) h3
  | _ => .stuck
def bOf : CV → CH → Out Bool := fun x h => match x with
  | .bl b => .ok b h
  | _ => .stuck
def tVal (a : CE) : CTt := fun l h => (a l h).bind bOf
def tNotC (a : CTt) : CTt := fun l h => (a l h).bind fun b h1 => .ok (!b) h1
def tAndC (a b : CTt) : CTt := fun l h => (a l h).bind fun x h1 => match x with
  | true => b l h1
  | false => .ok false h1
def tOrC (a b : CTt) : CTt := fun l h => (a l h).bind fun x h1 => match x with
  | true => .ok true h1
  | false => b l h1
def cIte (t : CTt) (a b : CE) : CE := fun l h => (t l h).bind fun x h1 => match x with
  | true => a l h1
  | false => b l h1
def cAndV (a b : CE) : CE := fun l h => (a l h).bind fun x h1 => match x with
  | .bl true => b l h1
  | .bl false => .ok (.bl false) h1
  | _ => .stuck
def cOrV (a b : CE) : CE := fun l h => (a l h).bind fun x h1 => match x with
  | .bl true => .ok (.bl true) h1
  | .bl false => b l h1
  | _ => .stuck
def cNotV (a : CE) : CE := fun l h => (a l h).bind fun x h1 => match x with
  | .bl b => .ok (.bl (!b)) h1
  | _ => .stuck
def big : Nat := 1000000
/-- told by the parts of a number, so that nothing counts up to a great bound -/
def okR (j : Int) : Bool := match j with
  | .ofNat n => Nat.ble n 4611686018427387903
  | .negSucc n => Nat.ble n 4611686018427387903
theorem okR_iff {j : Int} : okR j = true ↔ -(2 ^ 62) ≤ j ∧ j < 2 ^ 62 := by
  cases j with
  | ofNat n =>
    show Nat.ble n 4611686018427387903 = true ↔ _
    rw [Nat.ble_eq]
    show _ ↔ -(2 ^ 62) ≤ (n : Int) ∧ (n : Int) < 2 ^ 62
    omega
  | negSucc n =>
    show Nat.ble n 4611686018427387903 = true ↔ _
    rw [Nat.ble_eq, Int.negSucc_eq]
    omega
def okM (j : Int) : Bool := match j with
  | .ofNat n => Nat.ble 1 n && Nat.ble n 1073741823
  | .negSucc _ => false
theorem okM_iff {j : Int} : okM j = true ↔ 0 < j ∧ j < 1073741824 := by
  cases j with
  | ofNat n =>
    show (Nat.ble 1 n && Nat.ble n 1073741823) = true ↔ _
    rw [Bool.and_eq_true, Nat.ble_eq, Nat.ble_eq]
    show _ ↔ 0 < (n : Int) ∧ (n : Int) < 1073741824
    omega
  | negSucc n =>
    show false = true ↔ _
    rw [Int.negSucc_eq]
    constructor
    · intro h; cases h
    · omega
theorem big_le {n : Nat} (h : n ≤ big) : n ≤ sizeLine := Nat.le_trans h (by decide)
def cTup (a : CEs) : CE := fun l h => (a l h).bind fun xs h1 => if xs.length ≤ big then .ok (.tup xs) h1 else .stuck
def cLst (a : CEs) : CE := fun l h => (a l h).bind fun xs h1 => if xs.length ≤ big then .ok (.lst xs) h1 else .stuck
/-- a list that will be changed -/
def cNew (a : CEs) : CE := fun l h => (a l h).bind fun xs h1 => if xs.length ≤ big ∧ noRefs xs = true then .ok (.ref h1.length) (h1 ++ [.lst xs]) else .stuck

section
variable {X : Cx} {G : Gb} {E : XO}
abbrev XE (X : Cx) (G : Gb) (E : XO) (e : Expr) (c : CE) : Prop := PE X e (rd G E c)
abbrev XA (X : Cx) (G : Gb) (E : XO) (es : List Expr) (c : CEs) : Prop := PA X es (rds G E c)
abbrev XT (X : Cx) (G : Gb) (E : XO) (e : Expr) (c : CTt) : Prop := PT X e (rdt G E c)
abbrev XW (X : Cx) (G : Gb) (E : XO) (e : Expr) (c : CTt) : Prop := PW X e (rdt G E c)
variable {a b d : Expr} {ca cb cd : CE} {ta tb : CTt} {pos : Pos}

theorem xe_var (i : Nat) {x : Str} {pos : Pos} (hN : X.N[i]? = some x := by rfl) (hv : Vis X.env.scope x := by first | exact Or.inl rfl | exact Or.inr (Or.inl rfl) | exact Or.inr (Or.inr rfl)) (hd : (x == ("__debug__" : Str)) = false := by decide)
    (hcd : (x == ("__classdict__" : Str)) = false := by decide) : XE X G E (.Name x pos) (cVar i) := pe_imp (pe_var hN hv hd hcd) fun σ H Q ⟨w, ρ, l, h, R, L, g⟩ => by
  unfold cVar at g
  cases e : l[i]? with
  | none => rw [e] at g; exact g.elim
  | some o =>
    cases o with
    | none => rw [e] at g; exact g.elim
    | some c =>
      rw [e] at g
      obtain ⟨v, h1, h2⟩ := L.2 i c e
      exact ⟨v, h1, PostV.go (Q := Q) g R h2⟩
theorem rd_k {c : CV} {v : V} (r : ∀ w ρ H, RelC G w ρ H c v) : ∀ σ H Q, rd G E (cK c) σ H Q → tC v σ H Q := fun σ H Q ⟨w, ρ, l, h, R, L, g⟩ => PostV.go (Q := Q) (show PostV G w ρ H Q c h from g) R (r w ρ H)
theorem xe_int {i j pos} : XE X G E (.Constant (.int i) j pos) (cK (.int i)) := pe_imp pe_int (rd_k fun w ρ H => by unfold RelC; rfl)
theorem xe_bl {i j pos} : XE X G E (.Constant (.bool i) j pos) (cK (.bl i)) := pe_imp pe_bl (rd_k fun w ρ H => by unfold RelC; rfl)
theorem xe_non {j pos} : XE X G E (.Constant .none j pos) (cK .non) := pe_imp pe_non (rd_k fun w ρ H => by unfold RelC; rfl)
theorem xe_str {x j pos} : XE X G E (.Constant (.str x) j pos) (cK (.str x)) := pe_imp pe_str (rd_k fun w ρ H => by unfold RelC; rfl)
/-- a module's own thing: an int or a text constant, a def, a class -/
theorem xe_glob {x : Str} {c : CV} {v : V} {u : Value} {pos : Pos} (hg : Gl X x) (hm : X.mg x = some u) (rv : RelV v u) (r : ∀ w ρ H, RelC G w ρ H c v) (hd : (x == ("__debug__" : Str)) = false := by decide) : XE X G E (.Name x pos) (cK c) := pe_imp (pe_glob hg hm rv hd) (rd_k r)

theorem rd_2 {f : F2} : ∀ σ H Q, rd G E (c2 f ca cb) σ H Q → tOp (rd2 G E f) (rd G E ca) (rd G E cb) σ H Q := fun σ H Q ⟨w, ρ, l, h, R, L, g⟩ =>
  rd_then R L g fun w1 ρ1 h1 H1 x v e1 R1 L1 r1 g1 => rd_then R1 L1 g1 fun w2 ρ2 h2 H2 y u e2 R2 L2 r2 g2 =>
    ⟨w2, ρ2, h2, x, y, R2, r1.up e2 R1, r2, g2.mono (fun _ _ q => q.at (e1.trans e2)) fun _ _ _ q => q⟩
theorem xe_op {op : Operator} {f : F2} (ho : OpR X (binaryOp op) (rd2 G E f)) (ha : XE X G E a ca) (hb : XE X G E b cb) : XE X G E (.BinOp a op b pos) (c2 f ca cb) := pe_imp (pe_op ho ha hb) rd_2
theorem xe_cmp {op : CmpOp} {f : F2} (ho : OpR X (compareOp op) (rd2 G E f)) (ha : XE X G E a ca) (hb : XE X G E b cb) (hm : behindInMarks op b = false := by first | exact nomark _ | rfl) : XE X G E (.Compare a [op] [b] pos) (c2 f ca cb) := pe_imp (pe_cmpR ho ha hb hm) rd_2
theorem rd_t : ∀ σ H Q, rdt G E (tVal ca) σ H Q → tTest (rd G E ca) σ H Q := fun σ H Q ⟨w, ρ, l, h, R, L, g⟩ => rd_then R L g fun w1 ρ1 h1 H1 x v e1 R1 L1 r1 g1 => by
  cases x <;> try exact g1.elim
  rename_i b
  unfold RelC at r1
  subst r1
  exact ⟨b, rfl, (show PostB G w ρ H Q b h1 from g1) w1 ρ1 H1 e1 R1⟩
theorem xt_cmp {op : CmpOp} {f : F2} (ho : OpR X (compareOp op) (rd2 G E f)) (ha : XE X G E a ca) (hb : XE X G E b cb) (hm : behindInMarks op b = false := by first | exact nomark _ | rfl) : XT X G E (.Compare a [op] [b] pos) (tVal (c2 f ca cb)) :=
  pt_imp (pt_cmpR ho ha hb hm) fun σ H Q q => by
    obtain ⟨w, ρ, l, h, R, L, g⟩ := q
    have g' : (c2 f ca cb l h).bind bOf |>.Good (PostB G w ρ H Q) (PostX G w ρ H E) := g
    have z := rd_t (ca := c2 f ca cb) σ H Q ⟨w, ρ, l, h, R, L, g'⟩
    exact rd_2 σ H _ z
theorem xt_val {e : Expr} (h : XE X G E e ca) (he : ∀ whole, isTrue e X.env whole = (do let v ← whole; standAt e.pos; holding [v] (truthy v)) := by intro _; rfl) : XT X G E e (tVal ca) := pt_imp (pt_val h he) fun σ H Q q => rd_t σ H Q q
theorem xe_ix {f : F2} (ho : IxR X (rd2 G E f)) (ha : XE X G E a ca) (hb : XE X G E b cb) (hs : PlainIx b := by intro _ _; rfl) : XE X G E (.Subscript a b pos) (c2 f ca cb) := pe_imp (pe_ix ho ha hb hs) rd_2
theorem xe_un {op : UnaryOp} {f : F1} (ho : UnR X (unaryOp op) (rd1 G E f)) (ha : XE X G E a ca) : XE X G E (.UnaryOp op a pos) (c1 f ca) := pe_imp (pe_un ho ha) fun σ H Q ⟨w, ρ, l, h, R, L, g⟩ =>
  rd_then R L g fun w1 ρ1 h1 H1 x v e1 R1 L1 r1 g1 => ⟨w1, ρ1, h1, x, R1, r1, g1.mono (fun _ _ q => q.at e1) fun _ _ _ q => q⟩

theorem rd_chain {f g : F2} : ∀ σ H Q, rd G E (cChain f g ca cb cd) σ H Q → tChain (rd2 G E f) (rd2 G E g) (rd G E ca) (rd G E cb) (rd G E cd) σ H Q := fun σ H Q ⟨w, ρ, l, h, R, L, gg⟩ =>
  rd_then R L gg fun w1 ρ1 h1 H1 x v e1 R1 L1 r1 g1 => rd_then R1 L1 g1 fun w2 ρ2 h2 H2 y u e2 R2 L2 r2 g2 => by
    refine ⟨w2, ρ2, h2, x, y, R2, r1.up e2 R1, r2, (Out.good_bind.mp g2).mono (fun z h3 g3 w3 ρ3 H3 z' e3 R3 r3 => ?_) fun _ _ _ q => q⟩
    cases z <;> try exact g3.elim
    rename_i b
    unfold RelC at r3
    subst r3
    refine ⟨b, rfl, ?_⟩
    have g3x := g3.mono (Q' := PostV G w ρ H Q) (E' := PostX G w3 ρ3 H3 E) (fun _ _ q => q) fun _ _ _ q => q.at e3
    cases b with
    | true =>
      rw [if_pos rfl]
      exact rd_then R3 (L2.up e3 R2) g3x fun w4 ρ4 h4 H4 t t' e4 R4 L4 r4 g4 => ⟨w4, ρ4, h4, y, t, R4, r2.up (e3.trans e4) R2, r4, g4.mono (fun _ _ q => q.at (((e1.trans e2).trans e3).trans e4)) fun _ _ _ q => q⟩
    | false =>
      rw [if_neg Bool.false_ne_true]
      exact PostV.go (Q := Q) ((show PostV G w ρ H Q (.bl false) h3 from g3x).at ((e1.trans e2).trans e3)) R3 (by unfold RelC; rfl)
theorem xe_chain {op op' : CmpOp} {f g : F2} {a b c : Expr} {cc : CE} (ho : OpR X (compareOp op) (rd2 G E f)) (ho' : OpR X (compareOp op') (rd2 G E g)) (ha : XE X G E a ca) (hb : XE X G E b cb) (hc : XE X G E c cc)
    (hm : lastMarks [op, op'] [b, c] = false := by with_unfolding_all rfl) : XE X G E (.Compare a [op, op'] [b, c] pos) (cChain f g ca cb cc) := pe_imp (pe_chain ho ho' ha hb hc hm) rd_chain
theorem xt_chain {op op' : CmpOp} {f g : F2} {a b c : Expr} {cc : CE} (ho : OpR X (compareOp op) (rd2 G E f)) (ho' : OpR X (compareOp op') (rd2 G E g)) (ha : XE X G E a ca) (hb : XE X G E b cb) (hc : XE X G E c cc)
    (hm : lastMarks [op, op'] [b, c] = false := by with_unfolding_all rfl) : XT X G E (.Compare a [op, op'] [b, c] pos) (tVal (cChain f g ca cb cc)) := pt_imp (pt_chain ho ho' ha hb hc hm) fun σ H Q q => rd_chain σ H _ (rd_t σ H Q q)

/-! ### tests -/
theorem xt_not (ha : XT X G E a ta) : XT X G E (.UnaryOp .Not a pos) (tNotC ta) := pt_imp (pt_not ha) fun σ H Q ⟨w, ρ, l, h, R, L, g⟩ =>
  rdt_then R L g fun w1 ρ1 h1 H1 x e1 R1 L1 g1 => (show PostB G w ρ H Q (!x) h1 from g1) w1 ρ1 H1 e1 R1
theorem rd_and : ∀ σ H Q, rdt G E (tAndC ta tb) σ H Q → tAnd (rdt G E ta) (rdt G E tb) σ H Q := fun σ H Q ⟨w, ρ, l, h, R, L, g⟩ =>
  rdt_then R L g fun w1 ρ1 h1 H1 x e1 R1 L1 g1 => by
    cases x with
    | true => rw [if_pos rfl]; exact ⟨w1, ρ1, l, h1, R1, L1, g1.mono (fun _ _ q w' ρ' H' e => q w' ρ' H' (e1.trans e)) fun _ _ _ q => q⟩
    | false => rw [if_neg Bool.false_ne_true]; exact (show PostB G w ρ H Q false h1 from g1) w1 ρ1 H1 e1 R1
theorem rd_or : ∀ σ H Q, rdt G E (tOrC ta tb) σ H Q → tOr (rdt G E ta) (rdt G E tb) σ H Q := fun σ H Q ⟨w, ρ, l, h, R, L, g⟩ =>
  rdt_then R L g fun w1 ρ1 h1 H1 x e1 R1 L1 g1 => by
    cases x with
    | false => rw [if_neg Bool.false_ne_true]; exact ⟨w1, ρ1, l, h1, R1, L1, g1.mono (fun _ _ q w' ρ' H' e => q w' ρ' H' (e1.trans e)) fun _ _ _ q => q⟩
    | true => rw [if_pos rfl]; exact (show PostB G w ρ H Q true h1 from g1) w1 ρ1 H1 e1 R1
theorem xw_and1 (ha : XT X G E a ta) : XW X G E (.BoolOp .And [a] pos) ta := pw_and1 ha
theorem xw_or1 (ha : XT X G E a ta) : XW X G E (.BoolOp .Or [a] pos) ta := pw_or1 ha
theorem xw_and {rest : List Expr} (ha : XT X G E a ta) (hb : XW X G E (.BoolOp .And (b :: rest) pos) tb) : XW X G E (.BoolOp .And (a :: b :: rest) pos) (tAndC ta tb) := pw_imp (pw_and ha hb) rd_and
theorem xw_or {rest : List Expr} (ha : XT X G E a ta) (hb : XW X G E (.BoolOp .Or (b :: rest) pos) tb) : XW X G E (.BoolOp .Or (a :: b :: rest) pos) (tOrC ta tb) := pw_imp (pw_or ha hb) rd_or
theorem xt_w {e : Expr} (h : XW X G E e ta) : XT X G E e ta := PW.pt h
theorem rd_ite : ∀ σ H Q, rd G E (cIte ta ca cb) σ H Q → tIf (rdt G E ta) (rd G E ca) (rd G E cb) σ H Q := fun σ H Q ⟨w, ρ, l, h, R, L, g⟩ =>
  rdt_then R L g fun w1 ρ1 h1 H1 x e1 R1 L1 g1 => by
    cases x with
    | true => rw [if_pos rfl]; exact ⟨w1, ρ1, l, h1, R1, L1, g1.mono (fun _ _ q => q.at e1) fun _ _ _ q => q⟩
    | false => rw [if_neg Bool.false_ne_true]; exact ⟨w1, ρ1, l, h1, R1, L1, g1.mono (fun _ _ q => q.at e1) fun _ _ _ q => q⟩
theorem xe_ite {c : Expr} (hc : XT X G E c ta) (ha : XE X G E a ca) (hb : XE X G E b cb) : XE X G E (.IfExp c a b pos) (cIte ta ca cb) := pe_imp (pe_ifExp hc ha hb) rd_ite
theorem xe_and1 {op : BoolOp} (ha : XE X G E a ca) : XE X G E (.BoolOp op [a] pos) ca := pe_one ha
theorem xe_and {rest : List Expr} (ha : XE X G E a ca) (hb : XE X G E (.BoolOp .And (b :: rest) pos) cb) : XE X G E (.BoolOp .And (a :: b :: rest) pos) (cAndV ca cb) := pe_imp (pe_and ha hb) fun σ H Q ⟨w, ρ, l, h, R, L, g⟩ =>
  rd_then R L g fun w1 ρ1 h1 H1 x v e1 R1 L1 r1 g1 => by
    cases x <;> try exact g1.elim
    rename_i k
    unfold RelC at r1
    refine ⟨k, r1, ?_⟩
    cases k with
    | true => rw [if_pos rfl]; exact ⟨w1, ρ1, l, h1, R1, L1, g1.mono (fun _ _ q => q.at e1) fun _ _ _ q => q⟩
    | false => rw [if_neg Bool.false_ne_true]; exact PostV.go (Q := Q) ((show PostV G w ρ H Q (.bl false) h1 from g1).at e1) R1 (by unfold RelC; rfl)
theorem xe_or {rest : List Expr} (ha : XE X G E a ca) (hb : XE X G E (.BoolOp .Or (b :: rest) pos) cb) : XE X G E (.BoolOp .Or (a :: b :: rest) pos) (cOrV ca cb) := pe_imp (pe_or ha hb) fun σ H Q ⟨w, ρ, l, h, R, L, g⟩ =>
  rd_then R L g fun w1 ρ1 h1 H1 x v e1 R1 L1 r1 g1 => by
    cases x <;> try exact g1.elim
    rename_i k
    unfold RelC at r1
    refine ⟨k, r1, ?_⟩
    cases k with
    | false => rw [if_neg Bool.false_ne_true]; exact ⟨w1, ρ1, l, h1, R1, L1, g1.mono (fun _ _ q => q.at e1) fun _ _ _ q => q⟩
    | true => rw [if_pos rfl]; exact PostV.go (Q := Q) ((show PostV G w ρ H Q (.bl true) h1 from g1).at e1) R1 (by unfold RelC; rfl)
theorem xe_not (ha : XE X G E a ca) : XE X G E (.UnaryOp .Not a pos) (cNotV ca) := pe_imp (pe_not ha) fun σ H Q ⟨w, ρ, l, h, R, L, g⟩ =>
  rd_then R L g fun w1 ρ1 h1 H1 x v e1 R1 L1 r1 g1 => by
    cases x <;> try exact g1.elim
    rename_i k
    unfold RelC at r1
    exact ⟨k, r1, PostV.go (Q := Q) ((show PostV G w ρ H Q (.bl (!k)) h1 from g1).at e1) R1 (by unfold RelC; rfl)⟩

/-! ### arguments, displays -/
variable {es : List Expr} {cs : CEs}
theorem xa_nil : XA X G E [] cNil := pa_imp pa_nil fun σ H Q ⟨w, ρ, l, h, R, L, g⟩ => (show PostVs G w ρ H Q [] h from g) w ρ H [] (Ext.refl w ρ H) R RelCs.nil
theorem xa_cons {e : Expr} (ha : XE X G E e ca) (hr : XA X G E es cs) (hs : starEach (e :: es) X.env = (false, eval e X.env) :: starEach es X.env := by rfl) : XA X G E (e :: es) (cCons ca cs) := pa_imp (pa_cons ha hr hs) fun σ H Q ⟨w, ρ, l, h, R, L, g⟩ =>
  rd_then R L g fun w1 ρ1 h1 H1 x v e1 R1 L1 r1 g1 => rds_then R1 L1 g1 fun w2 ρ2 h2 H2 xs vs e2 R2 L2 r2 g2 =>
    (show PostVs G w ρ H Q (x :: xs) h2 from g2) w2 ρ2 H2 _ (e1.trans e2) R2 (RelCs.cons (r1.up e2 R1) r2)
theorem xe_tup {x1} (h : XA X G E es cs) : XE X G E (.Tuple es x1 pos) (cTup cs) := pe_imp (pe_tup h) fun σ H Q ⟨w, ρ, l, h, R, L, g⟩ =>
  rds_then R L g fun w1 ρ1 h1 H1 xs vs e1 R1 L1 r1 g1 => by
    split at g1
    · rename_i hb
      exact ⟨by rw [← r1.length]; exact big_le hb, fun p hp => PostV.newT (Q := Q) ((show PostV G w ρ H Q (.tup xs) h1 from g1).at e1) R1 r1 hp⟩
    · exact g1.elim
theorem xe_lst (h : XA X G E es cs) : XE X G E (.List es pos) (cLst cs) := pe_imp (pe_lst h) fun σ H Q ⟨w, ρ, l, h, R, L, g⟩ =>
  rds_then R L g fun w1 ρ1 h1 H1 xs vs e1 R1 L1 r1 g1 => by
    split at g1
    · rename_i hb
      exact ⟨by rw [← r1.length]; exact big_le hb, fun p hp => PostV.newL (Q := Q) ((show PostV G w ρ H Q (.lst xs) h1 from g1).at e1) R1 r1 hp⟩
    · exact g1.elim
theorem PostV.newM {w : Wd} {ρ : List Addr} {H : Hp} {h : CH} {Q : VK} {cs : List CV} {vs : List V} (n : noRefs cs = true) (p : PostV G w ρ H Q (.ref h.length) (h ++ [.lst cs])) (R : Rep G w ρ h H) (r : RelCs G w ρ H cs vs) {q : Addr} (hq : H q = none) : Q (.ref q) (upd H q (.lst vs)) := by
  have e := Ext.newM w ρ (.lst vs) hq
  have r0 : RelCs G ⟨q :: w.M, w.O, w.F⟩ [] (upd H q (.lst vs)) cs vs := RelCs.free [] n (r.up e R)
  exact p _ _ _ _ e (R.alloc hq trivial ⟨vs, r0, upd_same⟩) (by unfold RelC; exact ⟨q, by rw [← R.len, List.getElem?_append_right (Nat.le_refl _)]; simp, rfl⟩)
theorem xe_new (h : XA X G E es cs) : XE X G E (.List es pos) (cNew cs) := pe_imp (pe_lst h) fun σ H Q ⟨w, ρ, l, h, R, L, g⟩ =>
  rds_then R L g fun w1 ρ1 h1 H1 xs vs e1 R1 L1 r1 g1 => by
    split at g1
    · rename_i hb
      exact ⟨by rw [← r1.length]; exact big_le hb.1, fun p hp => PostV.newM (Q := Q) hb.2 ((show PostV G w ρ H Q (.ref h1.length) (h1 ++ [.lst xs]) from g1).at e1) R1 r1 hp⟩
    · exact g1.elim

/-! ### calls of built-ins, of methods of built-in types -/
variable {p : Pos} {x : Str} {e : Expr} {id T : String} {f : Fn}
theorem rd_F : ∀ σ H Q, rd G E (cF f cs) σ H Q → tCB (rdF G E f) (rds G E cs) σ H Q := fun σ H Q ⟨w, ρ, l, h, R, L, g⟩ =>
  rds_then R L g fun w1 ρ1 h1 H1 xs vs e1 R1 L1 r1 g1 => ⟨w1, ρ1, h1, xs, R1, r1, g1.mono (fun _ _ q => q.at e1) fun _ _ _ q => q⟩
theorem xe_B (hc : CallR X (.builtin id) (rdF G E f)) (hg : Gl X x) (hm : X.mg x = none) (hv : bootBuiltins x = some (.builtin id)) (ha : XA X G E (e :: es) cs) (hn : x ≠ "__name__" := by decide) (hdb : (x == ("__debug__" : Str)) = false := by decide)
    (he : starEach (e :: es) X.env = (false, eval e X.env) :: starEach es X.env := by rfl) (hpl : (backTo pos (starEach es X.env)).any (·.1) = false := by rfl) : XE X G E (.Call (.Name x p) (e :: es) [] pos) (cF f cs) := pe_imp (pe_callB hc hg hm hv ha hn hdb he hpl) rd_F
theorem xe_Ty (hc : CallR X (.type T) (rdF G E f)) (hg : Gl X x) (hm : X.mg x = none) (hv : bootBuiltins x = some (.type T)) (ha : XA X G E (e :: es) cs) (hn : x ≠ "__name__" := by decide) (hdb : (x == ("__debug__" : Str)) = false := by decide)
    (he : starEach (e :: es) X.env = (false, eval e X.env) :: starEach es X.env := by rfl) (hpl : (backTo pos (starEach es X.env)).any (·.1) = false := by rfl) : XE X G E (.Call (.Name x p) (e :: es) [] pos) (cF f cs) := pe_imp (pe_callTy hc hg hm hv ha hn hdb he hpl) rd_F
end
end Rn

set_option Elab.async false
set_option linter.all false
set_option maxRecDepth 100000
set_option maxHeartbeats 4000000
namespace Rn
open PySem L2

/-! ### what a value is, opened -/
section
variable {G : Gb} {w : Wd} {ρ : List Addr} {H : Hp} {h : CH} {v : V}
theorem rc_int {i : Int} (r : RelC G w ρ H (.int i) v) : v = .int i := by unfold RelC at r; exact r
theorem rc_bl {i : Bool} (r : RelC G w ρ H (.bl i) v) : v = .bl i := by unfold RelC at r; exact r
theorem rc_str {i : Str} (r : RelC G w ρ H (.str i) v) : v = .str i := by unfold RelC at r; exact r
theorem rc_non (r : RelC G w ρ H .non v) : v = .non := by unfold RelC at r; exact r
theorem rc_g {k : Nat} (r : RelC G w ρ H (.g k) v) : v = .ref (G.ga k) := by unfold RelC at r; exact r
theorem rc_tupA {xs : List CV} (r : RelC G w ρ H (.tup xs) v) : ∃ a vs, v = .ref a ∧ TupAt G.K H a vs ∧ RelCs G w ρ H xs vs := by unfold RelC at r; exact r
theorem rc_tup {xs : List CV} (r : RelC G w ρ H (.tup xs) v) : ∃ a vs, v = .ref a ∧ SqT G.K H a vs ∧ RelCs G w ρ H xs vs := let ⟨a, vs, h1, h2, h3⟩ := rc_tupA r; ⟨a, vs, h1, h2.1, h3⟩
theorem rc_dit {ks : List (List Key)} {xs : List CV} (r : RelC G w ρ H (.dit ks xs) v) : ∃ a kvs, v = .ref a ∧ a ∉ w.M ∧ H a = some (.dT kvs) ∧ kvs.map (·.1) = ks ∧ RelCs G w ρ H xs (kvs.map (·.2)) := by unfold RelC at r; exact r
theorem rc_lst {xs : List CV} (r : RelC G w ρ H (.lst xs) v) : ∃ a vs, v = .ref a ∧ a ∉ w.M ∧ H a = some (.lst vs) ∧ RelCs G w ρ H xs vs := by unfold RelC at r; exact r
theorem cr_int (i : Int) : RelC G w ρ H (.int i) (.int i) := by unfold RelC; rfl
theorem cr_bl (i : Bool) : RelC G w ρ H (.bl i) (.bl i) := by unfold RelC; rfl
theorem cr_str (i : Str) : RelC G w ρ H (.str i) (.str i) := by unfold RelC; rfl
theorem cr_non : RelC G w ρ H .non .non := by unfold RelC; rfl

/-- a list, kept or tracked -/
def lstOf (h : CH) : CV → Option (List CV)
  | .lst xs => some xs
  | .ref n => match h[n]? with
    | some (.lst xs) => some xs
    | _ => none
  | _ => none
theorem lstOf_ok (R : Rep G w ρ h H) {x : CV} {xs : List CV} (r : RelC G w ρ H x v) (e : lstOf h x = some xs) : ∃ a vs, v = .ref a ∧ H a = some (.lst vs) ∧ RelCs G w ρ H xs vs := by
  cases x
  case lst ys =>
    unfold lstOf at e
    simp only [Option.some.injEq] at e
    subst e
    obtain ⟨a, vs, h1, _, h3, h4⟩ := rc_lst r
    exact ⟨a, vs, h1, h3, h4⟩
  case ref n =>
    unfold RelC at r
    obtain ⟨a, h1, h2⟩ := r
    unfold lstOf at e
    simp only at e
    cases q : h[n]? with
    | none => rw [q] at e; cases e
    | some o =>
      rw [q] at e
      cases o <;> try cases e
      obtain ⟨vs, h3, h4⟩ := R.obj n a _ h1 q
      exact ⟨a, vs, h2, h4, h3.any⟩
  all_goals (unfold lstOf at e; cases e)
theorem relCs_ints (ns : List Int) : RelCs G w ρ H (ns.map CV.int) (ns.map V.int) := by
  induction ns with
  | nil => exact RelCs.nil
  | cons n r ih => exact RelCs.cons (cr_int n) ih
def seqOf (h : CH) : CV → Option (List CV)
  | .tup xs => some xs
  | .scr ns => some (ns.map CV.int)
  | x => lstOf h x
theorem seqOf_okA (R : Rep G w ρ h H) {x : CV} {xs : List CV} (r : RelC G w ρ H x v) (e : seqOf h x = some xs) : ∃ a vs, v = .ref a ∧ (SqL G.K H a vs ∨ TupAt G.K H a vs) ∧ RelCs G w ρ H xs vs := by
  cases x
  case tup ys =>
    unfold seqOf at e
    cases e
    obtain ⟨a, vs, h1, h3, h4⟩ := rc_tupA r
    exact ⟨a, vs, h1, .inr h3, h4⟩
  case scr ns =>
    unfold seqOf at e
    cases e
    unfold RelC at r
    obtain ⟨a, h1, h2⟩ := r
    exact ⟨a, _, h1, .inl h2.sq, relCs_ints ns⟩
  all_goals
    obtain ⟨a, vs, h1, h2, h3⟩ := lstOf_ok R r (show lstOf h _ = some xs from e)
    exact ⟨a, vs, h1, .inl (SqL.of h2), h3⟩
theorem seqOf_ok (R : Rep G w ρ h H) {x : CV} {xs : List CV} (r : RelC G w ρ H x v) (e : seqOf h x = some xs) : ∃ a vs, v = .ref a ∧ (SqL G.K H a vs ∨ SqT G.K H a vs) ∧ RelCs G w ρ H xs vs :=
  let ⟨a, vs, h1, h2, h3⟩ := seqOf_okA R r e; ⟨a, vs, h1, h2.imp id (·.1), h3⟩
def intsOf : List CV → Option (List Int)
  | [] => some []
  | .int i :: r => (intsOf r).map (i :: ·)
  | _ => none
theorem intsOf_ok : ∀ {xs : List CV} {ns : List Int} {vs : List V}, RelCs G w ρ H xs vs → intsOf xs = some ns → vs = ns.map V.int
  | [], ns, vs, r, e => by unfold intsOf at e; cases e; unfold RelCs at r; exact r
  | x :: xs, ns, vs, r, e => by
    unfold RelCs at r
    obtain ⟨v, rs, h1, h2, h3⟩ := r
    cases x <;> try (unfold intsOf at e; cases e)
    unfold intsOf at e
    cases q : intsOf xs with
    | none => rw [q] at e; cases e
    | some ms =>
      rw [q] at e; cases e
      rw [h1, rc_int h2, intsOf_ok h3 q]; rfl
theorem intsOf_map (ns : List Int) : intsOf (ns.map CV.int) = some ns := by
  induction ns with
  | nil => rfl
  | cons n r ih => unfold intsOf; rw [List.map_cons]; simp only; rw [ih]; rfl
mutual
def toD : CV → Option PyData
  | .non => some .none
  | .bl b => some (.bool b)
  | .int i => some (.int i)
  | .str x => some (.str x)
  | .tup xs => (toDs xs).map .tuple
  | .lst xs => (toDs xs).map .list
  | _ => none
def toDs : List CV → Option (List PyData)
  | [] => some []
  | x :: xs => match toD x, toDs xs with
    | some d, some ds => some (d :: ds)
    | _, _ => none
end
mutual
theorem toD_ok : ∀ {x : CV} {d : PyData} {v : V}, RelC G w ρ H x v → toD x = some d → Dp G.K H v d
  | .non, _, _, r, e => by unfold toD at e; cases e; rw [rc_non r]; exact .non
  | .bl b, _, _, r, e => by unfold toD at e; cases e; rw [rc_bl r]; exact .bl b
  | .int b, _, _, r, e => by unfold toD at e; cases e; rw [rc_int r]; exact .int b
  | .str b, _, _, r, e => by unfold toD at e; cases e; rw [rc_str r]; exact .str b
  | .tup xs, _, _, r, e => by
    unfold toD at e
    cases q : toDs xs with
    | none => rw [q] at e; cases e
    | some ds =>
      rw [q] at e; cases e
      obtain ⟨a, vs, h1, h2, h3⟩ := rc_tup r
      rw [h1]; exact .tup h2 (toDs_ok h3 q)
  | .lst xs, _, _, r, e => by
    unfold toD at e
    cases q : toDs xs with
    | none => rw [q] at e; cases e
    | some ds =>
      rw [q] at e; cases e
      obtain ⟨a, vs, h1, _, h2, h3⟩ := rc_lst r
      rw [h1]; exact .lst (SqL.of h2) (toDs_ok h3 q)
  | .g _, _, _, _, e => by unfold toD at e; cases e
  | .web _ _, _, _, _, e => by unfold toD at e; cases e
  | .ref _, _, _, _, e => by unfold toD at e; cases e
  | .dic _ _, _, _, _, e => by unfold toD at e; cases e
  | .dit _ _, _, _, _, e => by unfold toD at e; cases e
  | .lam, _, _, _, e => by unfold toD at e; cases e
  | .scr _, _, _, _, e => by unfold toD at e; cases e
theorem toDs_ok : ∀ {xs : List CV} {ds : List PyData} {vs : List V}, RelCs G w ρ H xs vs → toDs xs = some ds → DpAll G.K H vs ds
  | [], _, _, r, e => by unfold toDs at e; cases e; unfold RelCs at r; rw [r]; exact .nil
  | x :: xs, _, _, r, e => by
    unfold toDs at e
    unfold RelCs at r
    obtain ⟨v, rs, h1, h2, h3⟩ := r
    cases q : toD x with
    | none => rw [q] at e; cases e
    | some d =>
      cases q2 : toDs xs with
      | none => rw [q, q2] at e; cases e
      | some ds =>
        rw [q, q2] at e; cases e
        rw [h1]; exact .cons (toD_ok h2 q) (toDs_ok h3 q2)
end
/-- data, a tracked list too -/
def toDh (h : CH) : CV → Option PyData
  | .ref n => match h[n]? with
    | some (.lst xs) => toD (.lst xs)
    | _ => none
  | x => toD x
theorem toDh_ok (R : Rep G w ρ h H) {x : CV} {d : PyData} {v : V} (r : RelC G w ρ H x v) (e : toDh h x = some d) : Dp G.K H v d := by
  cases x <;> try exact toD_ok r (show toD _ = some d from e)
  rename_i n
  have q : ∃ xs, lstOf h (.ref n) = some xs ∧ toD (.lst xs) = some d := by
    unfold toDh at e
    simp only at e
    unfold lstOf
    simp only
    cases z : h[n]? with
    | none => rw [z] at e; cases e
    | some o =>
      rw [z] at e
      cases o <;> try cases e
      exact ⟨_, rfl, e⟩
  obtain ⟨xs, q1, q2⟩ := q
  obtain ⟨a, vs, h1, h2, h3⟩ := lstOf_ok R r q1
  unfold toD at q2
  cases z : toDs xs with
  | none => rw [z] at q2; cases q2
  | some ds =>
    rw [z] at q2; cases q2
    rw [h1]; exact .lst (SqL.of h2) (toDs_ok h3 z)
end

/-! ### operators -/
def i64 (i j : Int) : Bool := (decide (-(2 ^ 64) < i) && decide (i < 2 ^ 64)) || (decide (-(2 ^ 64) < j) && decide (j < 2 ^ 64))
def fAdd : F2 := fun x y h => match x, y with
  | .int i, .int j => .ok (.int (i + j)) h
  | .str a, .str b => if a.length + b.length ≤ big then .ok (.str (a ++ b)) h else .stuck
  | .tup a, .tup b => if a.length + b.length ≤ big then .ok (.tup (a ++ b)) h else .stuck
  | .lst a, .lst b => if a.length + b.length ≤ big then .ok (.lst (a ++ b)) h else .stuck
  | _, _ => .stuck
def fI (f : Int → Int → Int) : F2 := fun x y h => match x, y with
  | .int i, .int j => .ok (.int (f i j)) h
  | _, _ => .stuck
def fSub : F2 := fI fun i j => i - j
def fIc (C : Int → Int → Bool) (f : Int → Int → Int) : F2 := fun x y h => match x, y with
  | .int i, .int j => if C i j = true then .ok (.int (f i j)) h else .stuck
  | _, _ => .stuck
def fMulI : F2 := fIc (fun i j => decide (i.natAbs.log2 + j.natAbs.log2 < 1000000) || i64 i j) fun i j => i * j
def fDiv : F2 := fIc (fun _ j => decide (0 < j) && decide (j < 1073741824)) fun i j => i / j
def fMod : F2 := fIc (fun _ j => decide (0 < j)) fun i j => i % j
def fPow : F2 := fIc (fun i j => decide (0 ≤ j) && decide (j ≤ 1000000) && decide (i.natAbs < 2 ^ 64)) fun i j => i ^ j.toNat
def fCmp (f : Int → Int → Bool) : F2 := fun x y h => match x, y with
  | .int i, .int j => .ok (.bl (f i j)) h
  | _, _ => .stuck
def fLe : F2 := fCmp fun i j => decide (i ≤ j)
def fGt : F2 := fCmp fun i j => decide (j < i)
def fGe : F2 := fCmp fun i j => decide (j ≤ i)
def fLt : F2 := fun x y h => match x, y with
  | .int i, .int j => .ok (.bl (decide (i < j))) h
  | .tup a, .tup b => match intsOf a, intsOf b with
    | some ns, some ms => .ok (.bl (HT.lexLt ns ms)) h
    | _, _ => .stuck
  | _, _ => .stuck
def fEqG (neg : Bool) : F2 := fun x y h => match toDh h x, toDh h y with
  | some d, some e => if SeqAt.shaped d = true ∧ SeqAt.shaped e = true then .ok (.bl (if neg then !PyData.eqv d e else PyData.eqv d e)) h else .stuck
  | _, _ => .stuck
def fEq : F2 := fEqG false
def fNe : F2 := fEqG true
def fInG (neg : Bool) : F2 := fun x y h => match toD x, toDh h y with
  | some d, some (.list ds) => if SeqAt.shaped d = true ∧ SeqAt.shaped (.list ds) = true then .ok (.bl (if neg then !(ds.any fun z => PyData.eqv z d) else ds.any fun z => PyData.eqv z d)) h else .stuck
  | some d, some (.tuple ds) => if SeqAt.shaped d = true ∧ SeqAt.shaped (.tuple ds) = true then .ok (.bl (if neg then !(ds.any fun z => PyData.eqv z d) else ds.any fun z => PyData.eqv z d)) h else .stuck
  | _, _ => .stuck
def fIn : F2 := fInG false
def fNotIn : F2 := fInG true
def fIsN : F2 := fun x y h => match y with
  | .non => match x with
    | .non => .ok (.bl true) h
    | _ => .ok (.bl false) h
  | _ => .stuck
def fNotN : F2 := fun x y h => match y with
  | .non => match x with
    | .non => .ok (.bl false) h
    | _ => .ok (.bl true) h
  | _ => .stuck
/-! ### keys -/
def keyOf : CV → Option Key
  | .int i => some (.inl i)
  | .str x => some (.inr x)
  | _ => none
def valC : List Key → List CV → Key → Option CV
  | k :: ks, v :: vs, x => if k = x then some v else valC ks vs x
  | _, _, _ => none
def fIxD (ks : List Key) (vs : List CV) : CV → CH → Out CV := fun y h => match keyOf y with
  | some k => match valC ks vs k with
    | some v => .ok v h
    | none => .stuck
  | none => .stuck
def fIxS : F2 := fun x y h => match x, y with
  | .str z, .int i => if z.length ≤ big then (match atI z.cps.toList i with
    | some c => .ok (.str ⟨#[c]⟩) h
    | none => .stuck) else .stuck
  | x, .int i => match seqOf h x with
    | some xs => match atI xs i with
      | some v => .ok v h
      | none => .stuck
    | none => .stuck
  | _, _ => .stuck

def fIx : F2 := fun x y h => match x with
  | .dic ks vs => fIxD ks vs y h
  | .ref n => match h[n]? with
    | some (.dk kvs) => fIxD (kvs.map (·.1)) (kvs.map (·.2)) y h
    | _ => fIxS (.ref n) y h
  | x => fIxS x y h

section
variable {X : Cx} {G : Gb} {E : XO}
theorem okV {w ρ H} {h : CH} {Q : VK} {c : CV} {v : V} (R : Rep G w ρ h H) (g : (Out.ok c h : Out CV).Good (PostV G w ρ H Q) (PostX G w ρ H E)) (r : RelC G w ρ H c v) : Q v H := PostV.go (Q := Q) (show PostV G w ρ H Q c h from g) R r
theorem o_I {f : Value → Value → Sem Value} {k : Int → Int → Int} (o : OpR X f (rI0 fun i j => .int (k i j))) : OpR X f (rd2 G E (fI k)) := OpR.imp o fun x y H Q ⟨w, ρ, h, cx, cy, R, rx, ry, g⟩ => by
  unfold fI at g
  split at g
  · rename_i i j
    exact ⟨i, j, rc_int rx, rc_int ry, okV R g (cr_int _)⟩
  · exact g.elim
theorem o_sub : OpR X (binaryOp .Sub) (rd2 G E fSub) := o_I op_sub
theorem o_Ic {f : Value → Value → Sem Value} {C : Int → Int → Prop} {D : Int → Int → Bool} {k : Int → Int → Int} (o : OpR X f (rI C fun i j => .int (k i j))) (hc : ∀ i j, D i j = true → C i j) : OpR X f (rd2 G E (fIc D k)) := OpR.imp o fun x y H Q ⟨w, ρ, h, cx, cy, R, rx, ry, g⟩ => by
  unfold fIc at g
  split at g
  · rename_i i j
    split at g
    · rename_i hd
      exact ⟨i, j, rc_int rx, rc_int ry, hc i j hd, okV R g (cr_int _)⟩
    · exact g.elim
  · exact g.elim
theorem o_div : OpR X (binaryOp .FloorDiv) (rd2 G E fDiv) := o_Ic op_fdiv fun i j hd => by
  simp only [Bool.and_eq_true, decide_eq_true_eq] at hd; exact hd
theorem o_mod : OpR X (binaryOp .Mod) (rd2 G E fMod) := o_Ic op_mod fun i j hd => by
  simp only [decide_eq_true_eq] at hd; exact hd
theorem o_pow : OpR X (binaryOp .Pow) (rd2 G E fPow) := o_Ic op_pow fun i j hd => by
  simp only [Bool.and_eq_true, decide_eq_true_eq] at hd; exact ⟨hd.1.1, hd.1.2, hd.2⟩
theorem o_mul : OpR X (binaryOp .Mult) (rd2 G E fMulI) := OpR.imp (op_mulW.or op_mul) fun x y H Q ⟨w, ρ, h, cx, cy, R, rx, ry, g⟩ => by
  unfold fMulI fIc at g
  split at g
  · rename_i i j
    split at g
    · rename_i hd
      simp only [i64, Bool.or_eq_true, Bool.and_eq_true, decide_eq_true_eq] at hd
      rcases hd with hd | hd
      · exact .inl ⟨i, j, rc_int rx, rc_int ry, hd, okV R g (cr_int _)⟩
      · exact .inr ⟨i, j, rc_int rx, rc_int ry, hd, okV R g (cr_int _)⟩
    · exact g.elim
  · exact g.elim
theorem o_add (hK : X.K = G.K) : OpR X (binaryOp .Add) (rd2 G E fAdd) := OpR.imp (op_add.or (op_add_str.or (op_catA.or op_cat))) fun x y H Q ⟨w, ρ, h, cx, cy, R, rx, ry, g⟩ => by
  unfold fAdd at g
  split at g
  · rename_i i j
    exact .inl ⟨i, j, rc_int rx, rc_int ry, okV R g (cr_int _)⟩
  · rename_i a b
    split at g
    · rename_i hb
      exact .inr (.inl ⟨a, b, rc_str rx, rc_str ry, big_le hb, okV R g (cr_str _)⟩)
    · exact g.elim
  · rename_i a b
    split at g
    · rename_i hb
      obtain ⟨p, vs, h1, h2, h3⟩ := rc_tup rx
      obtain ⟨q, us, k1, k2, k3⟩ := rc_tup ry
      have g' : PostV G w ρ H Q (.tup (a ++ b)) h := g
      refine .inr (.inr (.inl ⟨p, q, vs, us, h1, k1, hK ▸ h2, hK ▸ k2, by rw [← h3.length, ← k3.length]; exact big_le hb, fun z => ?_, fun _ z => ?_, fun _ _ t ht => PostV.newT (Q := Q) g' R (h3.append k3) ht⟩))
      · subst z
        have e : a = [] := List.eq_nil_of_length_eq_zero (by rw [h3.length]; rfl)
        subst e
        exact PostV.go (Q := Q) g' R (by rw [List.nil_append, ← k1]; exact ry)
      · subst z
        have e : b = [] := List.eq_nil_of_length_eq_zero (by rw [k3.length]; rfl)
        subst e
        exact PostV.go (Q := Q) g' R (by rw [List.append_nil, ← h1]; exact rx)
    · exact g.elim
  · rename_i a b
    split at g
    · rename_i hb
      obtain ⟨p, vs, h1, _, h2, h3⟩ := rc_lst rx
      obtain ⟨q, us, k1, _, k2, k3⟩ := rc_lst ry
      exact .inr (.inr (.inr ⟨p, q, vs, us, h1, k1, h2, k2, by rw [← h3.length, ← k3.length]; exact big_le hb, fun t ht => PostV.newL (Q := Q) (show PostV G w ρ H Q (.lst (a ++ b)) h from g) R (h3.append k3) ht⟩))
    · exact g.elim
  · exact g.elim
theorem o_cmp {f : Value → Value → Sem Value} {k : Int → Int → Bool} (o : OpR X f (rI0 fun i j => .bl (k i j))) : OpR X f (rd2 G E (fCmp k)) := OpR.imp o fun x y H Q ⟨w, ρ, h, cx, cy, R, rx, ry, g⟩ => by
  unfold fCmp at g
  split at g
  · rename_i i j
    exact ⟨i, j, rc_int rx, rc_int ry, okV R g (cr_bl _)⟩
  · exact g.elim
theorem o_le : OpR X (compareOp .LtE) (rd2 G E fLe) := o_cmp op_le
theorem o_gt : OpR X (compareOp .Gt) (rd2 G E fGt) := o_cmp op_gt
theorem o_ge : OpR X (compareOp .GtE) (rd2 G E fGe) := o_cmp op_ge
theorem o_lt (hK : X.K = G.K) (hu : X.A.units < cLine) : OpR X (compareOp .Lt) (rd2 G E fLt) := OpR.imp (op_lt.or (op_ltT hu)) fun x y H Q ⟨w, ρ, h, cx, cy, R, rx, ry, g⟩ => by
  unfold fLt at g
  split at g
  · rename_i i j
    exact .inl ⟨i, j, rc_int rx, rc_int ry, okV R g (cr_bl _)⟩
  · rename_i a b
    split at g
    · rename_i ns ms e1 e2
      obtain ⟨p, vs, h1, h2, h3⟩ := rc_tup rx
      obtain ⟨q, us, k1, k2, k3⟩ := rc_tup ry
      rw [intsOf_ok h3 e1] at h2
      rw [intsOf_ok k3 e2] at k2
      exact .inr ⟨p, q, ns, ms, h1, k1, hK ▸ h2, hK ▸ k2, okV R g (cr_bl _)⟩
    · exact g.elim
  · exact g.elim
theorem o_eq (hK : X.K = G.K) (hu : X.A.units + 64 < cLine) : OpR X (compareOp .Eq) (rd2 G E fEq) := OpR.imp (op_eqD hu) fun x y H Q ⟨w, ρ, h, cx, cy, R, rx, ry, g⟩ => by
  unfold fEq fEqG at g
  split at g
  · rename_i d e h1 h2
    split at g
    · rename_i hs
      exact ⟨d, e, hK ▸ toDh_ok R rx h1, hK ▸ toDh_ok R ry h2, hs.1, hs.2, okV R g (cr_bl _)⟩
    · exact g.elim
  · exact g.elim
theorem o_ne (hK : X.K = G.K) (hu : X.A.units + 64 < cLine) : OpR X (compareOp .NotEq) (rd2 G E fNe) := OpR.imp (op_neD hu) fun x y H Q ⟨w, ρ, h, cx, cy, R, rx, ry, g⟩ => by
  unfold fNe fEqG at g
  split at g
  · rename_i d e h1 h2
    split at g
    · rename_i hs
      exact ⟨d, e, hK ▸ toDh_ok R rx h1, hK ▸ toDh_ok R ry h2, hs.1, hs.2, okV R g (cr_bl _)⟩
    · exact g.elim
  · exact g.elim
def rInTD (K : PySem.W.Frag) (neg : Bool) : R2 := fun x y H Q => ∃ d ds, Dp K H x d ∧ Dp K H y (.tuple ds) ∧ SeqAt.shaped d = true ∧ SeqAt.shaped (.tuple ds) = true ∧ Q (.bl (if neg then !(ds.any fun z => PyData.eqv z d) else ds.any fun z => PyData.eqv z d)) H
theorem op_inTD (hu : X.A.units + 65 < cLine) : OpR X (compareOp .In) (rInTD X.K false) := by
  intro pins s σ H x y v u Q I rx ry h
  obtain ⟨d, ds, a1, a2, b1, b2, q⟩ := h
  obtain ⟨_, k1⟩ := Dp.reads I _ _ _ a1 rx
  obtain ⟨_, k2⟩ := Dp.reads I _ _ _ a2 ry
  exact SeqAt.in_tuple_reads k2 k1 (SeqAt.canLay_of_shaped b2) (SeqAt.canLay_of_shaped b1) (PyProof.Rows.room_in_shaped b1 hu) ⟨V.bl _, H, I, rfl, q⟩
theorem op_notInTD (hu : X.A.units + 65 < cLine) : OpR X (compareOp .NotIn) (rInTD X.K true) := by
  intro pins s σ H x y v u Q I rx ry h
  obtain ⟨d, ds, a1, a2, b1, b2, q⟩ := h
  obtain ⟨_, k1⟩ := Dp.reads I _ _ _ a1 rx
  obtain ⟨_, k2⟩ := Dp.reads I _ _ _ a2 ry
  exact SeqAt.notIn_tuple_reads k2 k1 (SeqAt.canLay_of_shaped b2) (SeqAt.canLay_of_shaped b1) (PyProof.Rows.room_in_shaped b1 hu) ⟨V.bl _, H, I, rfl, q⟩
theorem o_in (hK : X.K = G.K) (hu : X.A.units + 65 < cLine) : OpR X (compareOp .In) (rd2 G E fIn) := OpR.imp ((op_inD hu).or (op_inTD hu)) fun x y H Q ⟨w, ρ, h, cx, cy, R, rx, ry, g⟩ => by
  unfold fIn fInG at g
  split at g
  · rename_i d ds h1 h2
    split at g
    · rename_i hs
      exact .inl ⟨d, ds, hK ▸ toD_ok rx h1, hK ▸ toDh_ok R ry h2, hs.1, hs.2, okV R g (cr_bl _)⟩
    · exact g.elim
  · rename_i d ds h1 h2
    split at g
    · rename_i hs
      exact .inr ⟨d, ds, hK ▸ toD_ok rx h1, hK ▸ toDh_ok R ry h2, hs.1, hs.2, okV R g (cr_bl _)⟩
    · exact g.elim
  · exact g.elim
theorem o_notIn (hK : X.K = G.K) (hu : X.A.units + 65 < cLine) : OpR X (compareOp .NotIn) (rd2 G E fNotIn) := OpR.imp ((op_notInD hu).or (op_notInTD hu)) fun x y H Q ⟨w, ρ, h, cx, cy, R, rx, ry, g⟩ => by
  unfold fNotIn fInG at g
  split at g
  · rename_i d ds h1 h2
    split at g
    · rename_i hs
      exact .inl ⟨d, ds, hK ▸ toD_ok rx h1, hK ▸ toDh_ok R ry h2, hs.1, hs.2, okV R g (cr_bl _)⟩
    · exact g.elim
  · rename_i d ds h1 h2
    split at g
    · rename_i hs
      exact .inr ⟨d, ds, hK ▸ toD_ok rx h1, hK ▸ toDh_ok R ry h2, hs.1, hs.2, okV R g (cr_bl _)⟩
    · exact g.elim
  · exact g.elim
theorem isN_dec {w ρ H} {x : CV} {v : V} (r : RelC G w ρ H x v) : decide (v = .non) = (match x with | .non => true | _ => false) := by
  cases x <;> unfold RelC at r
  case non => subst r; rfl
  case bl => subst r; rfl
  case int => subst r; rfl
  case str => subst r; rfl
  case g => subst r; rfl
  case tup => obtain ⟨_, _, r, _⟩ := r; subst r; rfl
  case lst => obtain ⟨_, _, r, _⟩ := r; subst r; rfl
  case web => obtain ⟨_, _, r, _⟩ := r; subst r; rfl
  case ref => obtain ⟨_, _, r⟩ := r; subst r; rfl
  case dic => obtain ⟨_, _, r, _⟩ := r; subst r; rfl
  case dit => obtain ⟨_, _, r, _⟩ := r; subst r; rfl
  case lam => subst r; rfl
  case scr => obtain ⟨_, r, _⟩ := r; subst r; rfl
theorem o_isN : OpR X (compareOp .Is) (rd2 G E fIsN) := OpR.imp op_isN fun x y H Q ⟨w, ρ, h, cx, cy, R, rx, ry, g⟩ => by
  unfold fIsN at g
  cases cy <;> try exact g.elim
  refine ⟨rc_non ry, ?_⟩
  rw [isN_dec rx]
  cases cx <;> exact okV R g (cr_bl _)
theorem o_notN : OpR X (compareOp .IsNot) (rd2 G E fNotN) := OpR.imp op_notN fun x y H Q ⟨w, ρ, h, cx, cy, R, rx, ry, g⟩ => by
  unfold fNotN at g
  cases cy <;> try exact g.elim
  refine ⟨rc_non ry, ?_⟩
  rw [isN_dec rx]
  cases cx <;> exact okV R g (cr_bl _)
theorem atI_rel {w ρ H} {xs : List CV} {vs : List V} {i : Int} {c : CV} (r : RelCs G w ρ H xs vs) (e : atI xs i = some c) : ∃ v, atI vs i = some v ∧ RelC G w ρ H c v := by
  unfold atI at e ⊢
  rw [← r.length]
  cases q : ixN xs.length i with
  | none => rw [q] at e; cases e
  | some j =>
    rw [q] at e
    exact r.get e
theorem keyOf_rel {w ρ H} {c : CV} {v : V} {k : Key} (r : RelC G w ρ H c v) (e : keyOf c = some k) : v = kV k := by
  cases c <;> try (unfold keyOf at e; cases e)
  · rw [rc_int r]; rfl
  · rw [rc_str r]; rfl
theorem valC_rel {w ρ H} : ∀ {ks : List Key} {vs : List CV} {kvs : List (Key × V)} {k : Key} {c : CV}, kvs.map (·.1) = ks → RelCs G w ρ H vs (kvs.map (·.2)) → valC ks vs k = some c → ∃ v, valV kvs k = some v ∧ RelC G w ρ H c v
  | ks, vs, [], k, c, e, r, q => by
    rw [List.map_nil] at e
    subst e
    unfold valC at q
    cases q
  | ks, vs, p :: kvs, k, c, e, r, q => by
    rw [List.map_cons] at e r
    subst e
    cases vs with
    | nil => unfold valC at q; cases q
    | cons v0 vs =>
      unfold RelCs at r
      obtain ⟨v, rs, h1, h2, h3⟩ := r
      cases h1
      unfold valC at q
      split at q
      · rename_i hk
        cases q
        exact ⟨p.2, valV_pos hk, h2⟩
      · rename_i hk
        obtain ⟨u, k1, k2⟩ := valC_rel rfl h3 q
        exact ⟨u, by rw [valV_neg hk]; exact k1, k2⟩
def rDct : R2 := fun x y H Q => ∃ a v, x = .ref a ∧ DGet H a y (some v) ∧ Q v H
theorem ix_dct (hu : X.A.units + 1 < cLine) : IxR X rDct := by
  intro value slice pins s σ H x y v u Q I rx ry h hs
  obtain ⟨a, z, ex, dg, q⟩ := h
  subst ex
  cases rx
  exact PyProof.Rows.tail_any (dict_typeIs I dg) PySem.F.slot_dict_getitem.lookup (d_getItem hu I dg ry fun w' s' I' r' => ⟨z, H, I', r', q⟩) hs
theorem fIxD_ok {w ρ H} {h : CH} {a : Addr} {ks : List Key} {vs : List CV} {kvs : List (Key × V)} {cy : CV} {y : V} {Q : VK} (R : Rep G w ρ h H) (e : kvs.map (·.1) = ks) (r : RelCs G w ρ H vs (kvs.map (·.2))) (hd : H a = some (.dK kvs)) (ry : RelC G w ρ H cy y)
    (g : (fIxD ks vs cy h).Good (PostV G w ρ H Q) (PostX G w ρ H E)) : rDct (.ref a) y H Q := by
  unfold fIxD at g
  split at g
  · rename_i k q
    split at g
    · rename_i c q2
      obtain ⟨u, k1, k2⟩ := valC_rel e r q2
      refine ⟨a, u, rfl, .inl ⟨kvs, k, Rd.of hd, keyOf_rel ry q, k1.symm⟩, okV R g k2⟩
    · exact g.elim
  · exact g.elim
theorem o_ix (hK : X.K = G.K) (hu : X.A.units + 1 < cLine) : IxR X (rd2 G E fIx) := IxR.imp (ix_seq.or (ix_dct hu)) fun x y H Q ⟨w, ρ, h, cx, cy, R, rx, ry, g0⟩ => by
  unfold fIx at g0
  have seq : (fIxS cx cy h).Good (PostV G w ρ H Q) (PostX G w ρ H E) → rIx X.K x y H Q := fun g => by
   unfold fIxS at g
   split at g
   · rename_i z i
     split at g
     · rename_i hb
       split at g
       · rename_i c e
         exact .inr (.inr ⟨z, i, c, rc_str rx, rc_int ry, big_le hb, e, okV R g (cr_str _)⟩)
       · exact g.elim
     · exact g.elim
   · rename_i i _
     split at g
     · rename_i xs e
       split at g
       · rename_i c e2
         obtain ⟨a, vs, h1, h2, h3⟩ := seqOf_ok R rx e
         obtain ⟨u, k1, k2⟩ := atI_rel h3 e2
         rcases h2 with h2 | h2
         · exact .inl ⟨a, vs, i, u, h1, rc_int ry, hK ▸ h2, k1, okV R g k2⟩
         · exact .inr (.inl ⟨a, vs, i, u, h1, rc_int ry, hK ▸ h2, k1, okV R g k2⟩)
       · exact g.elim
     · exact g.elim
   · exact g.elim
  split at g0
  · rename_i ks vs
    unfold RelC at rx
    obtain ⟨a, kvs, k1, _, _, k2, k3, k4⟩ := rx
    subst k1
    exact .inr (fIxD_ok R k3 k4 k2 ry g0)
  · rename_i n
    split at g0
    · rename_i kvs q
      unfold RelC at rx
      obtain ⟨a, r1, r2⟩ := rx
      obtain ⟨us, k1, k2, k3⟩ := R.obj n a _ r1 q
      subst r2
      exact .inr (fIxD_ok R k1 (RelCs.ext (Ext.refl w [] H) (by simp) ⟨ρ, by simp⟩ k2) k3 ry g0)
    · exact .inl (seq g0)
  · exact .inl (seq g0)
end
end Rn

set_option Elab.async false
set_option linter.all false
set_option maxRecDepth 100000
set_option maxHeartbeats 4000000
namespace Rn
open PySem L2

inductive Fl where
  | nx (l : Lc) | rt (c : CV) | bk (l : Lc) | ct (l : Lc)
abbrev CS := Lc → CH → Out Fl
abbrev CTg := CV → Lc → CH → Out Lc
abbrev CTgs := List CV → Lc → CH → Out Lc
/-- what is walked: these values, or a tracked list as it stands at each turn -/
inductive Src where
  | vals (xs : List CV) | obj (n : Nat)
abbrev CI := Lc → CH → Out Src

def PostF (G : Gb) (w : Wd) (ρ : List Addr) (H : Hp) (D : Ends) : Fl → CH → Prop := fun f h' => ∀ w' ρ' H', Ext w ρ H w' ρ' H' → Rep G w' ρ' h' H' → match f with
  | .nx l => ∀ σ', LocR G w' ρ' H' l σ' → D.nx σ' H'
  | .rt c => ∀ v, RelC G w' ρ' H' c v → D.rt v H'
  | .bk l => ∀ σ', LocR G w' ρ' H' l σ' → D.bk σ' H'
  | .ct l => ∀ σ', LocR G w' ρ' H' l σ' → D.ct σ' H'
def PostL (G : Gb) (w : Wd) (ρ : List Addr) (H : Hp) (Q : St → Hp → Prop) : Lc → CH → Prop := fun l h' => ∀ w' ρ' H' σ', Ext w ρ H w' ρ' H' → Rep G w' ρ' h' H' → LocR G w' ρ' H' l σ' → Q σ' H'
def rdS (G : Gb) (E : XO) (c : CS) : TS := fun D σ H => ∃ w ρ l h, Rep G w ρ h H ∧ LocR G w ρ H l σ ∧ (c l h).Good (PostF G w ρ H D) (PostX G w ρ H E)
def rdG (G : Gb) (E : XO) (t : CTg) : TG := fun v σ H Q => ∃ w ρ l h c, Rep G w ρ h H ∧ LocR G w ρ H l σ ∧ RelC G w ρ H c v ∧ (t c l h).Good (PostL G w ρ H Q) (PostX G w ρ H E)
def rdGs (G : Gb) (E : XO) (t : CTgs) : TGs := fun v σ H Q => ∃ w ρ l h c, Rep G w ρ h H ∧ LocR G w ρ H l σ ∧ RelCs G w ρ H c v ∧ (t c l h).Good (PostL G w ρ H Q) (PostX G w ρ H E)
theorem PostF.at {G : Gb} {w w' : Wd} {ρ ρ' : List Addr} {H H' : Hp} {D : Ends} {f : Fl} {h : CH} (e : Ext w ρ H w' ρ' H') (p : PostF G w ρ H D f h) : PostF G w' ρ' H' D f h := fun w2 ρ2 H2 e2 R => p w2 ρ2 H2 (e.trans e2) R
theorem PostL.at {G : Gb} {w w' : Wd} {ρ ρ' : List Addr} {H H' : Hp} {Q : St → Hp → Prop} {f : Lc} {h : CH} (e : Ext w ρ H w' ρ' H') (p : PostL G w ρ H Q f h) : PostL G w' ρ' H' Q f h := fun w2 ρ2 H2 σ e2 R => p w2 ρ2 H2 σ (e.trans e2) R
theorem LocR.set {G : Gb} {w : Wd} {ρ : List Addr} {H : Hp} {l : Lc} {σ : St} (L : LocR G w ρ H l σ) (i : Nat) {c : CV} {v : V} (r : RelC G w ρ H c v) : LocR G w ρ H (l.set i (some c)) (σ.set i (some v)) := by
  refine ⟨by simp [L.1], fun j d hd => ?_⟩
  by_cases hj : i = j
  · subst hj
    by_cases hl : i < l.length
    · rw [List.getElem?_set_self hl] at hd
      cases hd
      exact ⟨v, by rw [List.getElem?_set_self (by rw [← L.1]; exact hl)], r⟩
    · rw [List.getElem?_eq_none (by simp; omega)] at hd; cases hd
  · rw [List.getElem?_set_ne hj] at hd
    obtain ⟨u, h1, h2⟩ := L.2 j d hd
    exact ⟨u, by rw [List.getElem?_set_ne hj]; exact h1, h2⟩

theorem ps_imp {X : Cx} {e : Stmt} {t t' : TS} (h : PS X e t) (i : ∀ D σ H, t' D σ H → t D σ H) : PS X e t' := ⟨fun pins s σ H D I q => h.run pins s σ H D I (i D σ H q)⟩
theorem pss_imp {X : Cx} {e : List Stmt} {t t' : TS} (h : PSs X e t) (i : ∀ D σ H, t' D σ H → t D σ H) : PSs X e t' := ⟨fun pins s σ H D I q => h.run pins s σ H D I (i D σ H q)⟩
theorem pg_imp {X : Cx} {e : Expr} {t t' : TG} (h : PG X e t) (i : ∀ v σ H Q, t' v σ H Q → t v σ H Q) : PG X e t' := ⟨fun pins s σ H v u Q I r q => h.run pins s σ H v u Q I r (i v σ H Q q)⟩
theorem pgs_imp {X : Cx} {e : List Expr} {t t' : TGs} (h : PGs X e t) (i : ∀ v σ H Q, t' v σ H Q → t v σ H Q) : PGs X e t' := ⟨fun pins s σ H v u Q I r q => h.run pins s σ H v u Q I r (i v σ H Q q)⟩
theorem pi_imp {X : Cx} {tg e : Expr} {t t' : TI} (h : PI X tg e t) (i : ∀ σ H Q, t' σ H Q → t σ H Q) : PI X tg e t' := ⟨fun pins s σ H Q I q => h.run pins s σ H Q I (i σ H Q q)⟩

/-! ### the terms -/
def tgName (i : Nat) : CTg := fun c l h => .ok (l.set i (some c)) h
def tgsNil : CTgs := fun cs l h => match cs with
  | [] => .ok l h
  | _ => .stuck
def tgsCons (t : CTg) (u : CTgs) : CTgs := fun cs l h => match cs with
  | c :: r => (t c l h).bind fun l1 h1 => u r l1 h1
  | [] => .stuck
def tgTup (n : Nat) (t : CTgs) : CTg := fun c l h => match c with
  | .tup xs => if xs.length = n then t xs l h else .stuck
  | _ => .stuck
def sNil : CS := fun l h => .ok (.nx l) h
def sSeq (a b : CS) : CS := fun l h => (a l h).bind fun f h1 => match f with
  | .nx l1 => b l1 h1
  | f => .ok f h1
def sIf (t : CTt) (a b : CS) : CS := fun l h => (t l h).bind fun x h1 => match x with
  | true => a l h1
  | false => b l h1
def sAsg (e : CE) (t : CTg) : CS := fun l h => (e l h).bind fun c h1 => (t c l h1).bind fun l1 h2 => .ok (.nx l1) h2
def sPar (i j : Nat) (a : CEs) : CS := fun l h => (a l h).bind fun xs h1 => match xs with
  | [x, y] => .ok (.nx ((l.set i (some x)).set j (some y))) h1
  | _ => .stuck
def sPar3 (i j k : Nat) (a : CEs) : CS := fun l h => (a l h).bind fun xs h1 => match xs with
  | [x, y, z] => .ok (.nx (((l.set i (some x)).set j (some y)).set k (some z))) h1
  | _ => .stuck
def sRet (e : CE) : CS := fun l h => (e l h).bind fun c h1 => .ok (.rt c) h1
def sRetN : CS := fun _ h => .ok (.rt .non) h
def sDrop (e : CE) : CS := fun l h => (e l h).bind fun _ h1 => .ok (.nx l) h1
def sPass : CS := fun l h => .ok (.nx l) h
def sBreak : CS := fun l h => .ok (.bk l) h
def sCont : CS := fun l h => .ok (.ct l) h
def sStuck : CS := fun _ _ => .stuck
def loopV (t : CTg) (body : CS) : List CV → Lc → CH → Out Fl
  | [], l, h => .ok (.nx l) h
  | x :: xs, l, h => (t x l h).bind fun l1 h1 => (body l1 h1).bind fun f h2 => match f with
    | .nx l2 => loopV t body xs l2 h2
    | .ct l2 => loopV t body xs l2 h2
    | .bk l2 => .ok (.nx l2) h2
    | .rt c => .ok (.rt c) h2
/-- over a tracked list, as it stands at each turn -/
def loopR (n : Nat) (t : CTg) (body : CS) : Nat → Nat → Lc → CH → Out Fl
  | 0, _, _, _ => .stuck
  | k + 1, i, l, h => match lstOf h (.ref n) with
    | none => .stuck
    | some xs => match xs[i]? with
      | none => .ok (.nx l) h
      | some x => (t x l h).bind fun l1 h1 => (body l1 h1).bind fun f h2 => match f with
        | .nx l2 => loopR n t body k (i + 1) l2 h2
        | .ct l2 => loopR n t body k (i + 1) l2 h2
        | .bk l2 => .ok (.nx l2) h2
        | .rt c => .ok (.rt c) h2
def sFor (ci : CI) (t : CTg) (body : CS) : CS := fun l h => (ci l h).bind fun src h1 => match src with
  | .vals xs => loopV t body xs l h1
  | .obj n => loopR n t body big 0 l h1
def loopW (t : CTt) (body : CS) : Nat → Lc → CH → Out Fl
  | 0, _, _ => .stuck
  | k + 1, l, h => (t l h).bind fun b h1 => match b with
    | false => .ok (.nx l) h1
    | true => (body l h1).bind fun f h2 => match f with
      | .nx l2 => loopW t body k l2 h2
      | .ct l2 => loopW t body k l2 h2
      | .bk l2 => .ok (.nx l2) h2
      | .rt c => .ok (.rt c) h2
def sWhile (fuel : Nat) (t : CTt) (body : CS) : CS := fun l h => loopW t body fuel l h

section
variable {X : Cx} {G : Gb} {E : XO}
abbrev XS (X : Cx) (G : Gb) (E : XO) (st : Stmt) (c : CS) : Prop := PS X st (rdS G E c)
abbrev XSs (X : Cx) (G : Gb) (E : XO) (st : List Stmt) (c : CS) : Prop := PSs X st (rdS G E c)
abbrev XG (X : Cx) (G : Gb) (E : XO) (e : Expr) (c : CTg) : Prop := PG X e (rdG G E c)
abbrev XGs (X : Cx) (G : Gb) (E : XO) (e : List Expr) (c : CTgs) : Prop := PGs X e (rdGs G E c)
variable {st : Stmt} {rest : List Stmt} {ca cb : CS} {e : Expr} {ce : CE} {tt : CTt} {pos : Pos}

theorem xg_name {i : Nat} {x : Str} (hN : X.N.Nodup) (hi : X.N[i]? = some x) (hx : Loc X.env.scope x) (hf : X.fn x = true ∨ X.env.scope.names.lookup x = some .local := by first | exact .inl rfl | exact .inr rfl | assumption) : XG X G E (.Name x pos) (tgName i) :=
  pg_imp (pg_name hN hi hx hf) fun v σ H Q ⟨w, ρ, l, h, c, R, L, r, g⟩ => (show PostL G w ρ H Q (l.set i (some c)) h from g) w ρ H _ (Ext.refl w ρ H) R (L.set i r)
theorem xgs_nil : XGs X G E [] tgsNil := pgs_imp pgs_nil fun v σ H Q ⟨w, ρ, l, h, c, R, L, r, g⟩ => by
  cases c with
  | nil =>
    unfold RelCs at r
    exact ⟨r, (show PostL G w ρ H Q l h from g) w ρ H _ (Ext.refl w ρ H) R L⟩
  | cons _ _ => exact g.elim
theorem xgs_cons {e : Expr} {es : List Expr} {t : CTg} {u : CTgs} (h1 : XG X G E e t) (h2 : XGs X G E es u)
    (hs : (assignEach (e :: es) X.env).map (·.2) = assign e X.env :: (assignEach es X.env).map (·.2) := by rfl) : XGs X G E (e :: es) (tgsCons t u) := pgs_imp (pgs_cons h1 h2 hs) fun v σ H Q ⟨w, ρ, l, h, c, R, L, r, g⟩ => by
  cases c with
  | nil => exact g.elim
  | cons x xs =>
    unfold RelCs at r
    obtain ⟨v1, vr, e1, r1, r2⟩ := r
    refine ⟨v1, vr, e1, w, ρ, l, h, x, R, L, r1, (Out.good_bind.mp g).mono (fun l1 hh g1 w' ρ' H' σ' e R' L' => ?_) fun _ _ _ q => q⟩
    exact ⟨w', ρ', l1, hh, xs, R', L', r2.up e R, g1.mono (fun _ _ q => q.at e) fun _ _ _ q => q.at e⟩
theorem xg_tup {es : List Expr} {k : Nat} {t : CTgs} {n : Nat} (hK : X.K = G.K) (hc : X.calm = true) (h : XGs X G E es t)
    (hn : (assignEach es X.env).length = n := by rfl) (hst : (assignEach es X.env).findIdx? (·.1) = none := by rfl) : XG X G E (.Tuple es k pos) (tgTup n t) := pg_imp (pg_tup hc h hn hst) fun v σ H Q ⟨w, ρ, l, h, c, R, L, r, g⟩ => by
  unfold tgTup at g
  split at g
  · rename_i xs
    split at g
    · rename_i hl
      obtain ⟨a, vs, e1, e2, e3⟩ := rc_tup r
      exact ⟨a, vs, e1, hK ▸ e2, by rw [← e3.length]; exact hl, w, ρ, l, h, xs, R, L, e3, g⟩
    · exact g.elim
  · exact g.elim

theorem xs_if {c : Expr} {a b : List Stmt} (hc : XT X G E c tt) (ha : XSs X G E a ca) (hb : XSs X G E b cb) : XS X G E (.If c a b pos) (sIf tt ca cb) := ps_imp (ps_if hc ha hb) fun D σ H ⟨w, ρ, l, h, R, L, g⟩ =>
  rdt_then R L g fun w1 ρ1 h1 H1 x e1 R1 L1 g1 => by
    cases x with
    | true => rw [if_pos rfl]; exact ⟨w1, ρ1, l, h1, R1, L1, g1.mono (fun _ _ q => q.at e1) fun _ _ _ q => q⟩
    | false => rw [if_neg Bool.false_ne_true]; exact ⟨w1, ρ1, l, h1, R1, L1, g1.mono (fun _ _ q => q.at e1) fun _ _ _ q => q⟩
theorem xss_nil : XSs X G E [] sNil := pss_imp pss_nil fun D σ H ⟨w, ρ, l, h, R, L, g⟩ => (show PostF G w ρ H D (.nx l) h from g) w ρ H (Ext.refl w ρ H) R σ L
theorem xss_cons (h1 : XS X G E st ca) (h2 : XSs X G E rest cb) : XSs X G E (st :: rest) (sSeq ca cb) := pss_imp (pss_cons h1 h2) fun D σ H ⟨w, ρ, l, h, R, L, g⟩ =>
  ⟨w, ρ, l, h, R, L, (Out.good_bind.mp g).mono (fun f hh g1 w' ρ' H' e R' => by
    cases f with
    | nx l1 => exact fun σ' L' => ⟨w', ρ', l1, hh, R', L', g1.mono (fun _ _ q => q.at e) fun _ _ _ q => q.at e⟩
    | rt c => exact (show PostF G w ρ H D (.rt c) hh from g1) w' ρ' H' e R'
    | bk l1 => exact (show PostF G w ρ H D (.bk l1) hh from g1) w' ρ' H' e R'
    | ct l1 => exact (show PostF G w ρ H D (.ct l1) hh from g1) w' ρ' H' e R') fun _ _ _ q => q⟩
theorem xss_one (h1 : XS X G E st ca) : XSs X G E [st] ca := pss_one h1
theorem xs_asg {tg : Expr} {t : CTg} (he : XE X G E e ce) (hg : XG X G E tg t) (hs : swapsWithSole [tg] e pos.line X.env = pure false := by rfl) (hw : swappedStores [tg] e X.env = pure none := by rfl)
    (h1 : (assignEach [tg] X.env).map (·.2) = [assign tg X.env] := by rfl) : XS X G E (.Assign [tg] e pos) (sAsg ce t) := ps_imp (ps_asg he hg hs hw h1) fun D σ H ⟨w, ρ, l, h, R, L, g⟩ =>
  rd_then R L g fun w1 ρ1 h1 H1 x v e1 R1 L1 r1 g1 => ⟨w1, ρ1, l, h1, x, R1, L1, r1, (Out.good_bind.mp g1).mono (fun l1 hh g2 w' ρ' H' σ' e R' L' => (show PostF G w ρ H D (.nx l1) hh from g2) w' ρ' H' (e1.trans e) R' σ' L') fun _ _ _ q => q⟩
theorem xs_set {i : Nat} {x : Str} {pos' : Pos} (hN : X.N.Nodup) (hi : X.N[i]? = some x) (hx : Loc X.env.scope x) (he : XE X G E e ce) (hs : swapsWith e (some (.Name x pos')) pos.line X.env = pure false := by rfl) (hf : X.fn x = true ∨ X.env.scope.names.lookup x = some .local := by first | exact .inl rfl | exact .inr rfl | assumption) :
    XS X G E (.Assign [.Name x pos'] e pos) (sAsg ce (tgName i)) := ps_imp (ps_set hN hi hx he hs hf) fun D σ H ⟨w, ρ, l, h, R, L, g⟩ =>
  rd_then R L g fun w1 ρ1 h1 H1 x v e1 R1 L1 r1 g1 => (show PostF G w ρ H D (.nx (l.set i (some x))) h1 from g1) w1 ρ1 H1 e1 R1 _ (L1.set i r1)
theorem xs_par {i j : Nat} {x y : Str} {a b : Expr} {cs : CEs} {px py pt : Pos} {kt k2 pt2} (hc : X.calm = true) (hN : X.N.Nodup) (hi : X.N[i]? = some x) (hj : X.N[j]? = some y) (hij : i ≠ j)
    (hx : X.env.scope.names.lookup x = some .local) (hy : X.env.scope.names.lookup y = some .local) (ha : XA X G E [a, b] cs)
    (hw : swappedStores [.Tuple [.Name x px, .Name y py] kt pt] (.Tuple [a, b] k2 pt2) X.env = pure (some [x, y]))
    (hs : swapsWithSole [.Tuple [.Name x px, .Name y py] kt pt] (.Tuple [a, b] k2 pt2) pos.line X.env = pure false := by rfl) :
    XS X G E (.Assign [.Tuple [.Name x px, .Name y py] kt pt] (.Tuple [a, b] k2 pt2) pos) (sPar i j cs) := ps_imp (ps_par hc hN hi hj hij hx hy ha hw hs) fun D σ H ⟨w, ρ, l, h, R, L, g⟩ =>
  rds_then R L g fun w1 ρ1 h1 H1 xs v e1 R1 L1 r1 g1 => by
    split at g1
    · rename_i a b
      unfold RelCs at r1
      obtain ⟨va, r, e2, ra, rr⟩ := r1
      unfold RelCs at rr
      obtain ⟨vb, r', e3, rb, rr'⟩ := rr
      unfold RelCs at rr'
      subst e2 e3 rr'
      exact ⟨va, vb, rfl, (show PostF G w ρ H D (.nx ((l.set i (some a)).set j (some b))) h1 from g1) w1 ρ1 H1 e1 R1 _ ((L1.set i ra).set j rb)⟩
    · exact g1.elim
theorem xs_par3 {i j k : Nat} {x y z : Str} {a b c : Expr} {cs : CEs} {px py pz pt pos : Pos} {kt k2 pt2} (hc : X.calm = true) (hN : X.N.Nodup) (hi : X.N[i]? = some x) (hj : X.N[j]? = some y) (hl : X.N[k]? = some z) (hij : i ≠ j) (hil : i ≠ k) (hjl : j ≠ k)
    (hx : X.env.scope.names.lookup x = some .local) (hy : X.env.scope.names.lookup y = some .local) (hz : X.env.scope.names.lookup z = some .local) (ha : XA X G E [a, b, c] cs)
    (hw : swappedStores [.Tuple [.Name x px, .Name y py, .Name z pz] kt pt] (.Tuple [a, b, c] k2 pt2) X.env = pure (some [x, y, z]))
    (hs : swapsWithSole [.Tuple [.Name x px, .Name y py, .Name z pz] kt pt] (.Tuple [a, b, c] k2 pt2) pos.line X.env = pure false := by rfl) :
    XS X G E (.Assign [.Tuple [.Name x px, .Name y py, .Name z pz] kt pt] (.Tuple [a, b, c] k2 pt2) pos) (sPar3 i j k cs) := ps_imp (ps_par3 hc hN hi hj hl hij hil hjl hx hy hz ha hw hs) fun D σ H ⟨w, ρ, l, h, R, L, g⟩ =>
  rds_then R L g fun w1 ρ1 h1 H1 xs v e1 R1 L1 r1 g1 => by
    split at g1
    · rename_i a b c
      unfold RelCs at r1
      obtain ⟨va, r, e2, ra, rr⟩ := r1
      unfold RelCs at rr
      obtain ⟨vb, r', e3, rb, rr'⟩ := rr
      unfold RelCs at rr'
      obtain ⟨vc, r'', e4, rc, rr''⟩ := rr'
      unfold RelCs at rr''
      subst e2 e3 e4 rr''
      exact ⟨va, vb, vc, rfl, (show PostF G w ρ H D (.nx (((l.set i (some a)).set j (some b)).set k (some c))) h1 from g1) w1 ρ1 H1 e1 R1 _ (((L1.set i ra).set j rb).set k rc)⟩
    · exact g1.elim
theorem xs_ret (he : XE X G E e ce) : XS X G E (.Return (some e) pos) (sRet ce) := ps_imp (ps_ret he) fun D σ H ⟨w, ρ, l, h, R, L, g⟩ =>
  rd_then R L g fun w1 ρ1 h1 H1 x v e1 R1 L1 r1 g1 => (show PostF G w ρ H D (.rt x) h1 from g1) w1 ρ1 H1 e1 R1 v r1
theorem xs_retN : XS X G E (.Return none pos) sRetN := ps_imp ps_retN fun D σ H ⟨w, ρ, l, h, R, L, g⟩ => (show PostF G w ρ H D (.rt .non) h from g) w ρ H (Ext.refl w ρ H) R _ cr_non
theorem xs_drop (he : XE X G E e ce) (hs : swapsWith e none pos.line X.env = pure false := by rfl) : XS X G E (.Expr e pos) (sDrop ce) := ps_imp (ps_expr he hs) fun D σ H ⟨w, ρ, l, h, R, L, g⟩ =>
  rd_then R L g fun w1 ρ1 h1 H1 x v e1 R1 L1 r1 g1 => (show PostF G w ρ H D (.nx l) h1 from g1) w1 ρ1 H1 e1 R1 σ L1
theorem xs_pass : XS X G E (.Pass pos) sPass := ps_imp ps_pass fun D σ H ⟨w, ρ, l, h, R, L, g⟩ => (show PostF G w ρ H D (.nx l) h from g) w ρ H (Ext.refl w ρ H) R σ L
theorem xs_break : XS X G E (.Break pos) sBreak := ps_imp ps_break fun D σ H ⟨w, ρ, l, h, R, L, g⟩ => (show PostF G w ρ H D (.bk l) h from g) w ρ H (Ext.refl w ρ H) R σ L
theorem xs_cont : XS X G E (.Continue pos) sCont := ps_imp ps_continue fun D σ H ⟨w, ρ, l, h, R, L, g⟩ => (show PostF G w ρ H D (.ct l) h from g) w ρ H (Ext.refl w ρ H) R σ L
theorem xs_stuck : XS X G E st sStuck := ps_imp ps_never fun D σ H ⟨w, ρ, l, h, R, L, g⟩ => g.elim
theorem xss_stuck {sts : List Stmt} : XSs X G E sts sStuck := pss_imp pss_never fun D σ H ⟨w, ρ, l, h, R, L, g⟩ => g.elim

/-! ### what is walked -/
/-- an iterator that gives these, whatever becomes of the tracked things -/
def ItOk (G : Gb) (w : Wd) (ρ : List Addr) (H : Hp) (xs : List CV) (J : It) : Prop := ∀ w1 ρ1 h1 H1, ExtW w ρ H w1 ρ1 H1 → Rep G w1 ρ1 h1 H1 → ∀ i, (∀ x, xs[i]? = some x → J.go i H1 ∧ ∀ v H', J.yld i H1 v H' → RelC G w1 ρ1 H' x v ∧ Ext w1 ρ1 H1 w1 ρ1 H' ∧ Rep G w1 ρ1 h1 H') ∧ (i = xs.length → J.stop i H1)
def ItS (G : Gb) (w : Wd) (ρ : List Addr) (H : Hp) (J : It) : Src → Prop
  | .vals xs => ItOk G w ρ H xs J
  | .obj n => ∃ a, ρ[n]? = some a ∧ J = Itl G.K a
def PostI (G : Gb) (w : Wd) (ρ : List Addr) (H : Hp) (R : It → Hp → Prop) : Src → CH → Prop := fun xs h' => ∀ w' ρ' H' J, Ext w ρ H w' ρ' H' → Rep G w' ρ' h' H' → ItS G w' ρ' H' J xs → R J H'
def rdI (G : Gb) (E : XO) (c : CI) : TI := fun σ H R => ∃ w ρ l h, Rep G w ρ h H ∧ LocR G w ρ H l σ ∧ (c l h).Good (PostI G w ρ H R) (PostX G w ρ H E)
abbrev XI (X : Cx) (G : Gb) (E : XO) (tg e : Expr) (c : CI) : Prop := PI X tg e (rdI G E c)
theorem xs_for {iter tg : Expr} {body : List Stmt} {ci : CI} {t : CTg} (hp : PassesOwn (model X.prog X.w) X.A X.env X.xe) (hc : X.calm = true) (hi : XI X G E tg iter ci) (hg : XG X G E tg t) (hb : XSs X G E body ca) (hs : ∀ x, foldedSetIterable iter X.env x = pure x := by intro _; rfl) : XS X G E (.For tg iter body [] pos) (sFor ci t ca) :=
  ps_imp (ps_for hp hc hi hg hb hs) fun D σ H ⟨w, ρ, l, h, R, L, g⟩ => by
    refine ⟨w, ρ, l, h, R, L, (Out.good_bind.mp g).mono (fun src h1 g1 w0 ρ0 H0 J e0 R0 okS => ?_) fun _ _ _ q => q⟩
    cases src with
    | vals xs =>
      have ok : ItOk G w0 ρ0 H0 xs J := okS
      replace g1 : (loopV t ca xs l h1).Good (PostF G w ρ H D) (PostX G w ρ H E) := g1
      refine ⟨fun i m σ' H' => m = xs.length - i ∧ i ≤ xs.length ∧ ∃ w1 ρ1 l1 hh, Ext w0 ρ0 H0 w1 ρ1 H' ∧ Rep G w1 ρ1 hh H' ∧ LocR G w1 ρ1 H' l1 σ' ∧ (loopV t ca (xs.drop i) l1 hh).Good (PostF G w ρ H D) (PostX G w1 ρ1 H' E), ⟨_, rfl, Nat.zero_le _, w0, ρ0, l, h1, Ext.refl w0 ρ0 H0, R0, L.up e0 R, g1.mono (fun _ _ q => q) fun _ _ _ q => q.at e0⟩, ?_⟩
      rintro i m σ1 H1 ⟨rfl, hi, w1, ρ1, l1, hh, e1, R1, L1, g1⟩
      obtain ⟨k1, k2⟩ := ok w1 ρ1 hh H1 (ExtW.of e1 R0.sub) R1 i
      by_cases hlt : i < xs.length
      · have hx : xs[i]? = some xs[i] := by simp [hlt]
        obtain ⟨a1, a2⟩ := k1 _ hx
        rw [List.drop_eq_getElem_cons hlt] at g1
        refine .inr ⟨a1, fun σ' H' => ∃ w2 ρ2 l2 h2, Ext w0 ρ0 H0 w2 ρ2 H' ∧ Rep G w2 ρ2 h2 H' ∧ LocR G w2 ρ2 H' l2 σ' ∧ (loopV t ca (xs.drop (i + 1)) l2 h2).Good (PostF G w ρ H D) (PostX G w2 ρ2 H' E), fun σ' H' q => ⟨_, by omega, rfl, hlt, q⟩, fun v H' y => ?_⟩
        obtain ⟨b1, b2, b3⟩ := a2 v H' y
        have g1' : ((t xs[i] l1 hh).bind fun l1 h1 => (ca l1 h1).bind fun f h2 => match f with
          | .nx l2 => loopV t ca (xs.drop (i + 1)) l2 h2
          | .ct l2 => loopV t ca (xs.drop (i + 1)) l2 h2
          | .bk l2 => .ok (.nx l2) h2
          | .rt c => .ok (.rt c) h2).Good (PostF G w ρ H D) (PostX G w1 ρ1 H1 E) := g1
        refine ⟨w1, ρ1, l1, hh, xs[i], b3, L1.up b2 R1, b1, (Out.good_bind.mp g1').mono (fun l2 h2 g2 w2 ρ2 H2 σ2 e2 R2 L2 => ?_) fun _ _ _ q => q.at b2⟩
        refine ⟨w2, ρ2, l2, h2, R2, L2, (Out.good_bind.mp g2).mono (fun f h3 g3 w3 ρ3 H3 e3 R3 => ?_) fun _ _ _ q => q.at (b2.trans e2)⟩
        have ee := e1.trans (b2.trans (e2.trans e3))
        cases f with
        | nx l3 => exact fun σ3 L3 => ⟨w3, ρ3, l3, h3, ee, R3, L3, g3.mono (fun _ _ q => q) fun _ _ _ q => q.at (b2.trans (e2.trans e3))⟩
        | ct l3 => exact fun σ3 L3 => ⟨w3, ρ3, l3, h3, ee, R3, L3, g3.mono (fun _ _ q => q) fun _ _ _ q => q.at (b2.trans (e2.trans e3))⟩
        | bk l3 => exact (show PostF G w ρ H D (.nx l3) h3 from g3) w3 ρ3 H3 (e0.trans ee) R3
        | rt c => exact (show PostF G w ρ H D (.rt c) h3 from g3) w3 ρ3 H3 (e0.trans ee) R3
      · have hi' : i = xs.length := by omega
        subst hi'
        rw [List.drop_length] at g1
        exact .inl ⟨k2 rfl, (show PostF G w ρ H D (.nx l1) hh from g1) w1 ρ1 H1 (e0.trans e1) R1 σ1 L1⟩
    | obj n =>
      obtain ⟨a, hn, eJ⟩ := okS
      subst eJ
      have g0 : (loopR n t ca big 0 l h1).Good (PostF G w ρ H D) (PostX G w0 ρ0 H0 E) := g1.mono (fun _ _ q => q) fun _ _ _ q => q.at e0
      have isL : ∀ {w1 ρ1 h1 H1 xs}, Ext w0 ρ0 H0 w1 ρ1 H1 → Rep G w1 ρ1 h1 H1 → lstOf h1 (.ref n) = some xs → ∃ vs, H1 a = some (.lst vs) ∧ RelCs G w1 ρ1 H1 xs vs := fun {w1 ρ1 h1 H1 xs} e R1 q => by
        obtain ⟨b, vs, k1, k2, k3⟩ := lstOf_ok R1 ((show RelC G w0 ρ0 H0 (.ref n) (.ref a) by unfold RelC; exact ⟨a, hn, rfl⟩).up e R0) q
        cases k1
        exact ⟨vs, k2, k3⟩
      refine ⟨fun i m σ' H' => ∃ w1 ρ1 l1 hh, Ext w0 ρ0 H0 w1 ρ1 H' ∧ Rep G w1 ρ1 hh H' ∧ LocR G w1 ρ1 H' l1 σ' ∧ (loopR n t ca m i l1 hh).Good (PostF G w ρ H D) (PostX G w1 ρ1 H' E), ⟨big, w0, ρ0, l, h1, Ext.refl w0 ρ0 H0, R0, L.up e0 R, g0⟩, ?_⟩
      rintro i m σ1 H1 ⟨w1, ρ1, l1, hh, e1, R1, L1, g1⟩
      cases m with
      | zero => exact g1.elim
      | succ k =>
        cases q : lstOf hh (.ref n) with
        | none => rw [loopR, q] at g1; exact g1.elim
        | some xs =>
          obtain ⟨vs, k1, k2⟩ := isL e1 R1 q
          rw [loopR, q] at g1
          cases qx : xs[i]? with
          | none =>
            simp only [qx] at g1
            refine .inl ⟨⟨vs, SqL.of k1, ?_⟩, (show PostF G w ρ H D (.nx l1) hh from g1) w1 ρ1 H1 (e0.trans e1) R1 σ1 L1⟩
            rw [← k2.length]
            exact List.getElem?_eq_none_iff.mp qx
          | some y =>
            simp only [qx] at g1
            obtain ⟨u, u1, u2⟩ := k2.get qx
            refine .inr ⟨⟨vs, u, SqL.of k1, u1⟩, fun σ' H' => ∃ w2 ρ2 l2 h2, Ext w0 ρ0 H0 w2 ρ2 H' ∧ Rep G w2 ρ2 h2 H' ∧ LocR G w2 ρ2 H' l2 σ' ∧ (loopR n t ca k (i + 1) l2 h2).Good (PostF G w ρ H D) (PostX G w2 ρ2 H' E), fun σ' H' q => ⟨k, Nat.lt_succ_self k, q⟩, fun v' H' yy => ?_⟩
            obtain ⟨y1, y2⟩ := yy
            subst y1
            have y3 := y2 vs (SqL.of k1)
            rw [u1] at y3
            cases y3
            refine ⟨w1, ρ1, l1, hh, y, R1, L1, u2, (Out.good_bind.mp g1).mono (fun l2 h2 g2 w2 ρ2 H2 σ2 e2 R2 L2 => ?_) fun _ _ _ q => q⟩
            refine ⟨w2, ρ2, l2, h2, R2, L2, (Out.good_bind.mp g2).mono (fun f h3 g3 w3 ρ3 H3 e3 R3 => ?_) fun _ _ _ q => q.at e2⟩
            have ee := e1.trans (e2.trans e3)
            cases f with
            | nx l3 => exact fun σ3 L3 => ⟨w3, ρ3, l3, h3, ee, R3, L3, g3.mono (fun _ _ q => q) fun _ _ _ q => q.at (e2.trans e3)⟩
            | ct l3 => exact fun σ3 L3 => ⟨w3, ρ3, l3, h3, ee, R3, L3, g3.mono (fun _ _ q => q) fun _ _ _ q => q.at (e2.trans e3)⟩
            | bk l3 => exact (show PostF G w ρ H D (.nx l3) h3 from g3) w3 ρ3 H3 (e0.trans ee) R3
            | rt c => exact (show PostF G w ρ H D (.rt c) h3 from g3) w3 ρ3 H3 (e0.trans ee) R3
theorem xs_while {c : Expr} {body : List Stmt} {fuel : Nat} (hp : PassesOwn (model X.prog X.w) X.A X.env X.xe) (hc : XT X G E c tt) (hb : XSs X G E body ca) : XS X G E (.While c body [] pos) (sWhile fuel tt ca) :=
  ps_imp (ps_while hp hc hb) fun D σ H ⟨w, ρ, l, h, R, L, g⟩ => by
    refine ⟨fun m σ' H' => ∃ w1 ρ1 l1 hh, Ext w ρ H w1 ρ1 H' ∧ Rep G w1 ρ1 hh H' ∧ LocR G w1 ρ1 H' l1 σ' ∧ (loopW tt ca m l1 hh).Good (PostF G w ρ H D) (PostX G w1 ρ1 H' E), ⟨fuel, w, ρ, l, h, Ext.refl w ρ H, R, L, g⟩, ?_⟩
    rintro m σ1 H1 ⟨w1, ρ1, l1, hh, e1, R1, L1, g1⟩
    cases m with
    | zero => exact g1.elim
    | succ k =>
      rw [loopW] at g1
      refine rdt_then R1 L1 g1 fun w2 ρ2 h2 H2 b e2 R2 L2 g2 => ?_
      cases b with
      | false => rw [if_neg Bool.false_ne_true]; exact (show PostF G w ρ H D (.nx l1) h2 from g2) w2 ρ2 H2 (e1.trans e2) R2 σ1 L2
      | true =>
        rw [if_pos rfl]
        refine ⟨fun σ' H' => ∃ w3 ρ3 l3 h3, Ext w ρ H w3 ρ3 H' ∧ Rep G w3 ρ3 h3 H' ∧ LocR G w3 ρ3 H' l3 σ' ∧ (loopW tt ca k l3 h3).Good (PostF G w ρ H D) (PostX G w3 ρ3 H' E), fun σ' H' q => ⟨k, Nat.lt_succ_self k, q⟩, ?_⟩
        refine ⟨w2, ρ2, l1, h2, R2, L2, (Out.good_bind.mp g2).mono (fun f h3 g3 w3 ρ3 H3 e3 R3 => ?_) fun _ _ _ q => q⟩
        have ee := e1.trans (e2.trans e3)
        cases f with
        | nx l3 => exact fun σ3 L3 => ⟨w3, ρ3, l3, h3, ee, R3, L3, g3.mono (fun _ _ q => q) fun _ _ _ q => q.at e3⟩
        | ct l3 => exact fun σ3 L3 => ⟨w3, ρ3, l3, h3, ee, R3, L3, g3.mono (fun _ _ q => q) fun _ _ _ q => q.at e3⟩
        | bk l3 => exact (show PostF G w ρ H D (.nx l3) h3 from g3) w3 ρ3 H3 ee R3
        | rt c => exact (show PostF G w ρ H D (.rt c) h3 from g3) w3 ρ3 H3 ee R3
end
end Rn

set_option Elab.async false
set_option linter.all false
set_option maxRecDepth 100000
set_option maxHeartbeats 4000000
namespace Rn
open PySem L2

/-! ### what a for walks -/
def srcV : CV → CH → Out Src := fun x h => match x with
  | .lst xs => .ok (.vals xs) h
  | .tup xs => .ok (.vals xs) h
  | .ref n => match lstOf h (.ref n) with
    | some _ => .ok (.obj n) h
    | none => .stuck
  | _ => .stuck
def iSeq (e : CE) : CI := fun l h => (e l h).bind srcV
def rng (lo : Int) (n : Nat) : List CV := (List.range n).map fun (i : Nat) => CV.int (lo + (i : Int))
def iRng1 (a : CEs) : CI := fun l h => (a l h).bind fun xs h1 => match xs with
  | [.int j] => if okR j = true then .ok (.vals (rng 0 j.toNat)) h1 else .stuck
  | _ => .stuck
def iRng2 (a : CEs) : CI := fun l h => (a l h).bind fun xs h1 => match xs with
  | [.int i, .int j] => if okR i = true ∧ okR j = true then .ok (.vals (rng i (j - i).toNat)) h1 else .stuck
  | _ => .stuck
def pairs (xs ys : List CV) : List CV := (xs.zip ys).map fun p => CV.tup [p.1, p.2]
def iEnum (a : CEs) : CI := fun l h => (a l h).bind fun xs h1 => match xs with
  | [.lst ys] => .ok (.vals (pairs (rng 0 ys.length) ys)) h1
  | [.tup ys] => .ok (.vals (pairs (rng 0 ys.length) ys)) h1
  | _ => .stuck
def iZip (a : CEs) : CI := fun l h => (a l h).bind fun xs h1 => match xs with
  | [.lst ys, .lst zs] => .ok (.vals (pairs ys zs)) h1
  | [.tup ys, .tup zs] => .ok (.vals (pairs ys zs)) h1
  | _ => .stuck
theorem rng_get (lo : Int) (n i : Nat) : (rng lo n)[i]? = if i < n then some (.int (lo + (i : Int))) else none := by
  unfold rng
  rw [List.getElem?_map]
  by_cases h : i < n
  · rw [List.getElem?_range h, if_pos h]; rfl
  · rw [List.getElem?_eq_none (by simpa using h), if_neg h]; rfl
theorem rng_len (lo : Int) (n : Nat) : (rng lo n).length = n := by simp [rng]
theorem pairs_get {xs ys : List CV} {i : Nat} {x : CV} (h : (pairs xs ys)[i]? = some x) : ∃ a b, x = .tup [a, b] ∧ xs[i]? = some a ∧ ys[i]? = some b := by
  unfold pairs at h
  rw [List.getElem?_map] at h
  cases q : (xs.zip ys)[i]? with
  | none => rw [q] at h; cases h
  | some p =>
    rw [q] at h; cases h
    obtain ⟨a, b⟩ := p
    rw [List.getElem?_zip_eq_some] at q
    exact ⟨a, b, rfl, q.1, q.2⟩
theorem pairs_len (xs ys : List CV) : (pairs xs ys).length = min xs.length ys.length := by simp [pairs]

section
variable {G : Gb} {w : Wd} {ρ : List Addr} {H : Hp} {h : CH}
theorem it_list {a : Addr} {xs : List CV} {vs : List V} (R : Rep G w ρ h H) (na : a ∉ w.M) (ha : H a = some (.lst vs)) (r : RelCs G w ρ H xs vs) : ItOk G w ρ H xs (Itl G.K a) := fun w1 ρ1 hh H1 e R1 i => by
  have h1 : H1 a = some (.lst vs) := e.e.keep _ _ ha na trivial
  refine ⟨fun x hx => ?_, fun hi => ⟨vs, SqL.of h1, by rw [← r.length]; exact Nat.le_of_eq hi.symm⟩⟩
  obtain ⟨v, k1, k2⟩ := r.get hx
  refine ⟨⟨vs, v, SqL.of h1, k1⟩, fun u H' y => ?_⟩
  obtain ⟨y1, y2⟩ := y
  subst y1
  have q := y2 vs (SqL.of h1)
  rw [k1] at q; cases q
  exact ⟨k2.upW e, Ext.refl _ _ _, R1⟩
theorem it_tup {a : Addr} {xs : List CV} {vs : List V} (R : Rep G w ρ h H) (ha : SqT G.K H a vs) (r : RelCs G w ρ H xs vs) : ItOk G w ρ H xs (Itt G.K a) := fun w1 ρ1 hh H1 e R1 i => by
  have h1 : SqT G.K H1 a vs := e.e.rdT ha
  refine ⟨fun x hx => ?_, fun hi => ⟨vs, h1, by rw [← r.length]; exact Nat.le_of_eq hi.symm⟩⟩
  obtain ⟨v, k1, k2⟩ := r.get hx
  refine ⟨⟨vs, v, h1, k1⟩, fun u H' y => ?_⟩
  obtain ⟨y1, y2⟩ := y
  subst y1
  have q := y2 vs h1
  rw [k1] at q; cases q
  exact ⟨k2.upW e, Ext.refl _ _ _, R1⟩
theorem it_rng (lo : Int) (n : Nat) : ItOk G w ρ H (rng lo n) (Itr lo n) := fun w1 ρ1 hh H1 e R1 i => by
  refine ⟨fun x hx => ?_, fun hi => by rw [rng_len] at hi; exact Nat.le_of_eq hi.symm⟩
  rw [rng_get] at hx
  split at hx
  · rename_i hi
    cases hx
    refine ⟨hi, fun u H' y => ?_⟩
    obtain ⟨y1, y2⟩ := y
    subst y1 y2
    exact ⟨cr_int _, Ext.refl _ _ _, R1⟩
  · cases hx
/-- a new pair at each turn -/
theorem pair_new {w1 : Wd} {ρ1 : List Addr} {H1 : Hp} {h1 : CH} {a b : CV} {x y : V} {T : Addr} (ra : RelC G w1 ρ1 H1 a x) (rb : RelC G w1 ρ1 H1 b y) (R : Rep G w1 ρ1 h1 H1) (hT : H1 T = none) :
    RelC G w1 ρ1 (upd H1 T (.tup [x, y])) (.tup [a, b]) (.ref T) ∧ Ext w1 ρ1 H1 w1 ρ1 (upd H1 T (.tup [x, y])) ∧ Rep G w1 ρ1 h1 (upd H1 T (.tup [x, y])) := by
  have sub := R.sub
  have e := Ext.fresh w1 ρ1 (.tup [x, y]) hT
  refine ⟨?_, e, R.fresh _ hT⟩
  unfold RelC
  exact ⟨T, [x, y], rfl, TupAt.of upd_same, RelCs.cons (RelC.ext e sub ⟨[], by simp⟩ ra) (RelCs.cons (RelC.ext e sub ⟨[], by simp⟩ rb) RelCs.nil)⟩
end
section
variable {X : Cx} {G : Gb} {E : XO} {e e2 tg : Expr} {ce : CE} {cs : CEs} {p pos : Pos}
/-- a list or a tuple, walked -/
theorem pi_seq {X : Cx} {tg e : Expr} {te : TE} (he : PE X e te) : PI X tg e (fun σ H R => te σ H fun x H1 => ∃ a, x = .ref a ∧ (((∃ xs, SqL X.K H1 a xs) ∧ R (Itl X.K a) H1) ∨ ((∃ xs, SqT X.K H1 a xs) ∧ R (Itt X.K a) H1))) := by
  constructor
  intro pins s σ H R inv want
  refine thn (he.run pins s σ H _ inv want) fun v sA hA => ?_
  obtain ⟨x, HA, iA, rx, a, ex, alt⟩ := hA
  subst ex
  cases rx
  have free : FpOk X pins HA sA.heap.objs.size := iA.fpOk (Nat.le_refl _) (iA.hok.fresh (Nat.le_refl _))
  have every : ∀ b ∈ ([sA.heap.objs.size] : List Addr), FpOk X pins HA b := fun b hb => by
    have hb' := List.mem_singleton.mp hb
    subst hb'
    exact free
  cases alt with
  | inl q =>
    obtain ⟨⟨xs, seq⟩, wanted⟩ := q
    obtain ⟨its, _, isl, _⟩ := iA.list seq
    exact wpAny_pyIter_list isl.isList ⟨_, _, _, _, HA, rfl, iA.kept (t' := sA.toks) (fun b o e => Heap.get?_push_of_some _ e), turn_list a _, ⟨_, Heap.get?_push_size _ rfl, rfl, rfl⟩, every, wanted⟩
  | inr q =>
    obtain ⟨⟨xs, seq⟩, wanted⟩ := q
    obtain ⟨its, _, ist, _⟩ := iA.tuple seq
    exact wpAny_pyIter_tuple (show sA.heap.IsTuple a its.toArray from ist) ⟨_, _, _, _, HA, rfl, iA.kept (t' := sA.toks) (fun b o e => Heap.get?_push_of_some _ e), turn_tuple a _, ⟨_, Heap.get?_push_size _ rfl, rfl, rfl⟩, every, wanted⟩
theorem xi_seq (hK : X.K = G.K) (he : XE X G E e ce) : XI X G E tg e (iSeq ce) := pi_imp (pi_seq he) fun σ H Q ⟨w, ρ, l, h, R, L, g⟩ => rd_then R L g fun w1 ρ1 h1 H1 x v e1 R1 L1 r1 g1 => by
  cases x <;> try exact g1.elim
  case tup xs =>
    obtain ⟨a, vs, k1, k2, k3⟩ := rc_tup r1
    exact ⟨a, k1, .inr ⟨⟨vs, hK ▸ k2⟩, (show PostI G w ρ H Q (.vals xs) h1 from g1) w1 ρ1 H1 _ e1 R1 (hK ▸ it_tup R1 k2 k3)⟩⟩
  case lst xs =>
    obtain ⟨a, vs, k1, k2, k3, k4⟩ := rc_lst r1
    exact ⟨a, k1, .inl ⟨⟨vs, SqL.of k3⟩, (show PostI G w ρ H Q (.vals xs) h1 from g1) w1 ρ1 H1 _ e1 R1 (hK ▸ it_list R1 k2 k3 k4)⟩⟩
  case ref n =>
    unfold srcV at g1
    simp only at g1
    split at g1
    · rename_i xs q
      obtain ⟨a, vs, k1, k2, k3⟩ := lstOf_ok R1 r1 q
      unfold RelC at r1
      obtain ⟨b, r1, r2⟩ := r1
      rw [r2] at k1
      cases k1
      exact ⟨a, r2, .inl ⟨⟨vs, SqL.of k2⟩, (show PostI G w ρ H Q (.obj n) h1 from g1) w1 ρ1 H1 _ e1 R1 ⟨a, r1, hK ▸ rfl⟩⟩⟩
    · exact g1.elim
theorem okR_ok {j : Int} (h : okR j = true) : -(2 ^ 62) ≤ j ∧ j < 2 ^ 62 := okR_iff.mp h
theorem one_of {G : Gb} {w ρ H} {x : CV} {vs : List V} (r : RelCs G w ρ H [x] vs) : ∃ v, vs = [v] ∧ RelC G w ρ H x v := by
  unfold RelCs at r
  obtain ⟨v, q, e, r1, r2⟩ := r
  unfold RelCs at r2
  subst r2
  exact ⟨v, e, r1⟩
theorem two_of {G : Gb} {w ρ H} {x y : CV} {vs : List V} (r : RelCs G w ρ H [x, y] vs) : ∃ v u, vs = [v, u] ∧ RelC G w ρ H x v ∧ RelC G w ρ H y u := by
  unfold RelCs at r
  obtain ⟨v, q, e, r1, r2⟩ := r
  obtain ⟨u, e2, r3⟩ := one_of r2
  subst e2
  exact ⟨v, u, e, r1, r3⟩
theorem xi_range1 (hg : Gl X "range") (hm : X.mg "range" = none) (ha : XA X G E [e] cs) (hs : starEach [e] X.env = [(false, eval e X.env)] := by rfl) : XI X G E tg (.Call (.Name "range" p) [e] [] pos) (iRng1 cs) :=
  pi_imp (pi_range1 hg hm ha hs) fun σ H Q ⟨w, ρ, l, h, R, L, g⟩ => rds_then R L g fun w1 ρ1 h1 H1 xs v e1 R1 L1 r1 g1 => by
    split at g1
    · rename_i j
      split at g1
      · rename_i hj
        obtain ⟨u, k1, k2⟩ := one_of r1
        rw [rc_int k2] at k1
        exact ⟨j, k1, (okR_ok hj).1, (okR_ok hj).2, (show PostI G w ρ H Q _ h1 from g1) w1 ρ1 H1 _ e1 R1 (it_rng 0 j.toNat)⟩
      · exact g1.elim
    · exact g1.elim
theorem xi_range2 (hg : Gl X "range") (hm : X.mg "range" = none) (ha : XA X G E [e, e2] cs) (hs : starEach [e, e2] X.env = [(false, eval e X.env), (false, eval e2 X.env)] := by rfl) (hs2 : starEach [e2] X.env = [(false, eval e2 X.env)] := by rfl) :
    XI X G E tg (.Call (.Name "range" p) [e, e2] [] pos) (iRng2 cs) := pi_imp (pi_range2 hg hm ha hs hs2) fun σ H Q ⟨w, ρ, l, h, R, L, g⟩ => rds_then R L g fun w1 ρ1 h1 H1 xs v e1 R1 L1 r1 g1 => by
    split at g1
    · rename_i i j
      split at g1
      · rename_i hj
        obtain ⟨u, u2, k1, k2, k3⟩ := two_of r1
        rw [rc_int k2, rc_int k3] at k1
        exact ⟨i, j, k1, ⟨(okR_ok hj.1).1, (okR_ok hj.1).2, (okR_ok hj.2).1, (okR_ok hj.2).2⟩, (show PostI G w ρ H Q _ h1 from g1) w1 ρ1 H1 _ e1 R1 (it_rng i (j - i).toNat)⟩
      · exact g1.elim
    · exact g1.elim
/-! ### enumerate of a list, of a tuple -/
theorem it_enumG {w : Wd} {ρ : List Addr} {H : Hp} {h : CH} {xs : List CV} {vs : List V} {J : It} {Z : Hp → Prop} (R : Rep G w ρ h H) (r : RelCs G w ρ H xs vs) (hZ : ∀ w1 ρ1 H1, ExtW w ρ H w1 ρ1 H1 → Z H1) (W : Walk J vs.length Z (YPair (fun i => some (.int (i : Nat))) (fun i => vs[i]?))) :
    ItOk G w ρ H (pairs (rng 0 xs.length) xs) J := fun w1 ρ1 hh H1 e R1 i => by
  have z := hZ w1 ρ1 H1 e
  refine ⟨fun x hx => ?_, fun hi => ?_⟩
  · obtain ⟨c, d, ex, q1, q2⟩ := pairs_get hx
    subst ex
    obtain ⟨v, k1, k2⟩ := r.get q2
    have hi : i < vs.length := (List.getElem?_eq_some_iff.mp k1).1
    refine ⟨W.goes i H1 hi z, fun u H' y => ?_⟩
    obtain ⟨T, a, b, y1, y2, y3, y4, y5⟩ := W.yields i H1 u H' hi z y
    subst y1 y3
    cases y4
    have y6 : vs[i]? = some b := y5
    rw [k1] at y6
    cases y6
    rw [rng_get] at q1
    split at q1
    · cases q1
      rw [Int.zero_add]
      exact pair_new (cr_int _) (k2.upW e) R1 y2
    · cases q1
  · rw [pairs_len, rng_len, Nat.min_self, r.length] at hi
    rw [hi]
    exact W.stops H1 z
end
section
open PySem.Spec PyProof.Rows
/-- the tuple at a, each item in a new pair -/
def IteT (K : PySem.W.Frag) (a : Addr) : It where
  go := fun i H => ∃ (xs : List V) (x : V), SqT K H a xs ∧ xs[i]? = some x
  yld := fun i H v H' => ∃ T x, v = .ref T ∧ H T = none ∧ H' = upd H T (.tup [.int (i : Nat), x]) ∧ ∀ xs, SqT K H a xs → xs[i]? = some x
  stop := fun i H => ∃ xs : List V, SqT K H a xs ∧ i = xs.length
theorem tup_apart {h : Heap} {a e it : Addr} {i : Int} {k : Nat} {old : Value} {its : Array Value} (ht : h.IsTuple a its) (he : IsEnum h e it i old) (hi : h.IsTupleIter it a k) : a ≠ e ∧ a ≠ it := by
  obtain ⟨o, ho, _, n, hd⟩ := ht
  constructor
  · intro z
    subst z
    have q := ho.symm.trans he
    cases q
    cases hd
  · intro z
    subst z
    obtain ⟨o2, h2, _, d2⟩ := hi
    rw [ho] at h2
    cases h2
    rw [hd] at d2
    cases d2
theorem turn_enumT {P : Program} {w : World} {K : PySem.W.Frag} {elts : List Expr} {kk : Nat} {tpos : Pos} (a e it : Addr) : Turn P w K (.Tuple elts kk tpos) (IteT K a) [e, it] e (fun i h => ∃ old, IsEnum h e it ((i : Nat) : Int) old ∧ h.IsTupleIter it a i ∧ e ≠ it) where
  mem := List.mem_cons_self
  obj := fun i h st b hb => by
    obtain ⟨old, he, ⟨o, ho, _, hd⟩, _⟩ := st
    rcases List.mem_cons.mp hb with z | z
    · subst z
      exact ⟨_, he, fun v q => nomatch q⟩
    · have z' := List.mem_singleton.mp z
      subst z'
      refine ⟨o, ho, fun v q => ?_⟩
      rw [hd] at q
      cases q
  keep := fun i h h' st k => by
    obtain ⟨old, he, hi, ne⟩ := st
    exact ⟨old, k e (by simp) _ he, hi.at fun o q => k it (by simp) o q, ne⟩
  item := by
    intro X hP hw hK hc i pins s σ H E I hf st hg
    subst hP hw hK
    obtain ⟨old, he, hit, hne⟩ := st
    obtain ⟨xs, x, hq, hx⟩ := hg
    obtain ⟨its, rv, p, hz⟩ := I.tuple hq
    obtain ⟨u, hu, ru⟩ := rv.get hx
    have isT : s.heap.IsTuple a its.toArray := p
    obtain ⟨na, nb⟩ := tup_apart isT he hit
    have lt_e : e < s.heap.objs.size := Heap.lt_size he
    have lt_i : it < s.heap.objs.size := hit.elim fun _ q => Heap.lt_size q.1
    have small : i < its.toArray.size := by
      have := (List.getElem?_eq_some_iff.mp hu).1
      simpa using this
    refine wpAny_pyNext_enum_itemD (Draws.tuple (A := X.A.in1) (show X.A.in1.handled = none from I.ok.hd hc) it a nb its.toArray) he ⟨hit, isT⟩ small hne (by simp; exact ⟨hne, na.symm⟩) fun y hA tk py out stA newT szA keepA => ?_
    have ey : y = u := by
      have q : its[i]? = some y := by simpa using py
      rw [hu] at q
      exact (Option.some.inj q).symm
    subst ey
    refine ⟨_, rfl, wpAny_letOwnedTupleGo_enum (s := { s with heap := hA, toks := tk + 1 }) out fun hB heB sb => ?_⟩
    have tB : hB.get? s.heap.objs.size = some { cls := .type "tuple", data := .seq #[.int i tk, y] } := (sb.2 _ (Nat.ne_of_gt lt_e)).trans newT
    have okB : ObjOk X.prog X.w (upd H s.heap.objs.size (.tup [.int (i : Nat), x])) hB s.heap.objs.size (.tup [.int (i : Nat), x]) :=
      ⟨(by decide : 2 ≤ sizeLine), [.int i tk, y], .cons ⟨tk, rfl⟩ (.cons ru .nil), _, tB, rfl, _, rfl⟩
    have kAB : ∀ b ob, b ∉ ([e, it] : List Addr) → s.heap.get? b = some ob → hB.get? b = some ob := fun b ob nb q => by
      rw [List.mem_cons, List.mem_singleton, not_or] at nb
      exact (sb.2 b nb.1).trans (keepA b ob nb.1 nb.2 q)
    have IB : Inv X pins σ (upd H s.heap.objs.size (.tup [.int (i : Nat), x])) { s with heap := hB, toks := tk + 1 } := I.turnedNew (ch := [e, it]) kAB hf (Nat.le_refl _) okB
    refine ⟨.ref s.heap.objs.size, _, IB, rfl, ⟨_, x, rfl, I.hok.fresh (Nat.le_refl _), rfl, fun ys hy => by rw [I.tuple_inj hy hq]; exact hx⟩, ⟨y, ?_, ?_, hne⟩, fun b hb => ?_⟩
    · rw [show ((i + 1 : Nat) : Int) = (i : Int) + 1 from by omega]
      exact heB
    · exact stA.1.at fun o q => (sb.2 it hne.symm).trans q
    · have lb : b < s.heap.objs.size := by
        rcases List.mem_cons.mp hb with z | z
        · rw [z]; exact lt_e
        · rw [List.mem_singleton.mp z]; exact lt_i
      rw [upd_ne (Nat.ne_of_lt lb)]
      exact (hf b hb).1
  done := by
    intro X hP hw hK hc i pins s σ H E I hf st hg
    subst hP hw hK
    obtain ⟨old, he, hit, hne⟩ := st
    obtain ⟨xs, hq, hx⟩ := hg
    obtain ⟨its, rv, p, hz⟩ := I.tuple hq
    have isT : s.heap.IsTuple a its.toArray := p
    obtain ⟨na, nb⟩ := tup_apart isT he hit
    have en : i = its.toArray.size := by
      have := rv.length
      rw [List.size_toArray]
      omega
    obtain ⟨f0, f1, f2, f3, f4, f5⟩ := hf it (by simp)
    refine wpAny_pyNext_enum_endD (Draws.tuple (A := X.A.in1) (show X.A.in1.handled = none from I.ok.hd hc) it a nb its.toArray) he ⟨by rw [← en]; exact hit, isT⟩ fun h' eb => ⟨rfl, I.turned (t' := s.toks) (fun b o hb q => eb b o hb q) f0 f1 f3 f4 f5⟩
  self := fun A i s Q E st h => by
    obtain ⟨_, he, _⟩ := st
    exact wpAny_pyIter_enum he h
theorem meets_enum_tup (a : Addr) (its : Array Value) (o : Obj) (oc : o.cls = .type "tuple") (n : Nat) (od : o.data = .seq its n) :
    Meets (Builtin.«enumerate.__new__» ⟨[.type "enumerate", .ref a], []⟩) (fun _ R s => s.heap.get? a = some o ∧
      R (.ok (.ret (.ref (s.heap.push { cls := .type "tuple_iterator", data := .fields #[.ref a, .int 0 0] }).objs.size)))
        { s with heap := (s.heap.push { cls := .type "tuple_iterator", data := .fields #[.ref a, .int 0 0] }).push ({ cls := .type "enumerate", data := .fields #[.none, .bool false, .ref s.heap.objs.size, rawInt 0, .none, .none] } : Obj) }) := by
  refine .of_wp fun prog w A R s want => ?_
  obtain ⟨hp, g, d, tk, os⟩ := s
  obtain ⟨at_a, want⟩ := want
  have sub := sub_enumerate
  have isT : Heap.IsTuple (Shared.heap ⟨hp, g, d, tk, os⟩) a its := ⟨o, at_a, oc, n, od⟩
  obtain ⟨oc', odct, odt, osl⟩ := o
  simp only at oc od
  subst oc od
  wp_walk using AutoSeq1.wpAny_loadPart' at_a
  refine wpAny_stack_any fun st => wpAny_pure ?_
  split
  · rename_i c _ _ _ _ _
    cases (c == Value.type "enumerate")
    · wp_walk using AutoSeq1.wpAny_loadPart' at_a, wpAny_pyIter_tuple isT
      exact ⟨_, rfl, want⟩
    · wp_walk using AutoSeq1.wpAny_loadPart' at_a, wpAny_pyIter_tuple isT
      exact ⟨_, rfl, want⟩
  · wp_walk using AutoSeq1.wpAny_loadPart' at_a, wpAny_pyIter_tuple isT
    exact ⟨_, rfl, want⟩
theorem call_enum_tup {prog : Program} {w : World} {A : Around} {E : Value → Shared → Prop} {s : Shared} {a : Addr} {its : Array Value} {Q : Value → Shared → Prop} (isT : s.heap.IsTuple a its)
    (h : ∀ h', IsEnum h' (s.heap.objs.size + 1) s.heap.objs.size 0 .none → h'.IsTupleIter s.heap.objs.size a 0 → (∀ b o, s.heap.get? b = some o → h'.get? b = some o) → Q (.ref (s.heap.objs.size + 1)) { s with heap := h' }) :
    wpAny (model prog w) A (call (.type "enumerate") [.ref a]) Q E s := by
  obtain ⟨o, ho, oc, n, od⟩ := isT
  refine callType_new F.called_enumerate (by decide) (F.typeCall_enumerate_1 _) (F.newCall_enumerate_1 _) (fun obj => F.args_object_init_2 obj _) F.entry_enumerate_new (meets_enum_tup a its o oc n od) ⟨ho, ?_⟩
  have z1 := Heap.size_push s.heap ({ cls := .type "tuple_iterator", data := .fields #[.ref a, .int 0 0] } : Obj)
  show _ ∧ _
  rw [z1]
  have q := Heap.get?_push_size (s.heap.push ({ cls := .type "tuple_iterator", data := .fields #[.ref a, .int 0 0] } : Obj)) (o := { cls := .type "enumerate", data := .fields #[.none, .bool false, .ref s.heap.objs.size, rawInt 0, .none, .none] }) rfl
  rw [z1] at q
  exact ⟨⟨_, q, rfl⟩, h _ q ⟨_, Heap.get?_push_of_some _ (Heap.get?_push_size _ rfl), rfl, rfl⟩ fun b ob e => Heap.get?_push_of_some _ (Heap.get?_push_of_some _ e)⟩
theorem pi_enumA {X : Cx} {e : Expr} {ta : TA} {p pos tpos : Pos} {elts : List Expr} {kk : Nat} (hg : Gl X "enumerate") (hm : X.mg "enumerate" = none) (ha : PA X [e] ta) (hs : starEach [e] X.env = [(false, eval e X.env)] := by rfl) :
    PI X (.Tuple elts kk tpos) (.Call (.Name "enumerate" p) [e] [] pos) (fun σ H R => ta σ H fun vs H1 => ∃ a xs, vs = [.ref a] ∧ ((SqL X.K H1 a xs ∧ R (Ite X.K a) H1) ∨ (SqT X.K H1 a xs ∧ R (IteT X.K a) H1))) := by
  constructor
  intro pins s σ H R inv want
  refine Call_ (ld_blt inv hg hm boot_enumerate (PyProof.Rows.callWith_type1 (thn (ha.run pos pins s σ H _ inv want) fun us sA hA => ?_) hs rfl))
  obtain ⟨vs, HA, iA, r, a, xs, ex, alt⟩ := hA
  subst ex
  obtain ⟨u, rfl, ru⟩ := Vals.one r
  cases ru
  have free : ∀ b : Addr, sA.heap.objs.size ≤ b → FpOk X pins HA b := fun b le => iA.fpOk le (iA.hok.fresh le)
  have every : ∀ b ∈ ([sA.heap.objs.size + 1, sA.heap.objs.size] : List Addr), FpOk X pins HA b := fun b hb => by
    rcases List.mem_cons.mp hb with z | z
    · rw [z]; exact free _ (Nat.le_succ _)
    · rw [List.mem_singleton.mp z]; exact free _ (Nat.le_refl _)
  rcases alt with ⟨sq, q⟩ | ⟨sq, q⟩
  · obtain ⟨its, rv, isl, _⟩ := iA.list sq
    exact call_enumerate_list isl.isList fun hN he hit hsz hk => wpAny_pyIter_enum he ⟨_, _, _, _, HA, rfl, iA.kept (t' := sA.toks) hk, turn_enum a (sA.heap.objs.size + 1) sA.heap.objs.size, ⟨⟨.none, he⟩, hit, Nat.succ_ne_self _⟩, every, q⟩
  · obtain ⟨its, rv, ist, _⟩ := iA.tuple sq
    exact call_enum_tup (show sA.heap.IsTuple a its.toArray from ist) fun hN he hit hk => wpAny_pyIter_enum he ⟨_, _, _, _, HA, rfl, iA.kept (t' := sA.toks) hk, turn_enumT a (sA.heap.objs.size + 1) sA.heap.objs.size, ⟨.none, he, hit, Nat.succ_ne_self _⟩, every, q⟩
theorem walk_enumT {K : PySem.W.Frag} {a : Addr} {xs : List V} : Walk (IteT K a) xs.length (fun H => SqT K H a xs) (YPair (fun i => some (.int (i : Nat))) (fun i => xs[i]?)) where
  goes := fun i _ hi q => ⟨xs, xs[i], q, by simp [hi]⟩
  stops := fun _ q => ⟨xs, q, rfl⟩
  yields := fun i H v H' _ q y => by
    obtain ⟨T, x, h1, h2, h3, h4⟩ := y
    exact ⟨T, .int (i : Nat), x, h1, h2, h3, rfl, h4 xs q⟩
theorem walk_zipT {K : PySem.W.Frag} {a b : Addr} {xs ys : List V} : Walk (RZ.ItzT K a b) (min xs.length ys.length) (fun H => SqT K H a xs ∧ SqT K H b ys) (YPair (fun i => xs[i]?) (fun i => ys[i]?)) where
  goes := fun i _ hi q => by
    have l1 : i < xs.length := Nat.lt_of_lt_of_le hi (Nat.min_le_left _ _)
    have l2 : i < ys.length := Nat.lt_of_lt_of_le hi (Nat.min_le_right _ _)
    exact ⟨xs, ys, xs[i], ys[i], q.1, q.2, by simp [l1], by simp [l2]⟩
  stops := fun _ q => ⟨xs, ys, q.1, q.2, by omega⟩
  yields := fun i H v H' _ q y => by
    obtain ⟨T, x, z, h1, h2, h3, h4, h5⟩ := y
    exact ⟨T, x, z, h1, h2, h3, h4 xs q.1, h5 ys q.2⟩
end
section
variable {X : Cx} {G : Gb} {E : XO} {e e2 : Expr} {cs : CEs} {p pos tpos : Pos} {elts : List Expr} {kk : Nat}
theorem xi_enum (hK : X.K = G.K) (hg : Gl X "enumerate") (hm : X.mg "enumerate" = none) (ha : XA X G E [e] cs) (hs : starEach [e] X.env = [(false, eval e X.env)] := by rfl) : XI X G E (.Tuple elts kk tpos) (.Call (.Name "enumerate" p) [e] [] pos) (iEnum cs) :=
  pi_imp (pi_enumA hg hm ha hs) fun σ H Q ⟨w, ρ, l, h, R, L, g⟩ => rds_then R L g fun w1 ρ1 h1 H1 xs v e1 R1 L1 r1 g1 => by
    split at g1
    · rename_i ys
      obtain ⟨u, k1, k2⟩ := one_of r1
      obtain ⟨a, vs, q1, q2, q3, q4⟩ := rc_lst k2
      rw [q1] at k1
      exact ⟨a, vs, k1, .inl ⟨SqL.of q3, (show PostI G w ρ H Q _ h1 from g1) w1 ρ1 H1 _ e1 R1 (hK ▸ it_enumG R1 q4 (Z := fun H => SqL G.K H a vs) (fun w2 ρ2 H2 e2 => SqL.of (e2.e.keep _ _ q3 q2 trivial)) walk_enum)⟩⟩
    · rename_i ys
      obtain ⟨u, k1, k2⟩ := one_of r1
      obtain ⟨a, vs, q1, q3, q4⟩ := rc_tup k2
      rw [q1] at k1
      exact ⟨a, vs, k1, .inr ⟨hK ▸ q3, (show PostI G w ρ H Q _ h1 from g1) w1 ρ1 H1 _ e1 R1 (hK ▸ it_enumG R1 q4 (Z := fun H => SqT G.K H a vs) (fun w2 ρ2 H2 e2 => e2.e.rdT q3) walk_enumT)⟩⟩
    · exact g1.elim
theorem it_zipG {w : Wd} {ρ : List Addr} {H : Hp} {h : CH} {xs ys : List CV} {vs us : List V} {J : It} {Z : Hp → Prop} (R : Rep G w ρ h H) (r : RelCs G w ρ H xs vs) (r' : RelCs G w ρ H ys us) (hZ : ∀ w1 ρ1 H1, ExtW w ρ H w1 ρ1 H1 → Z H1)
    (W : Walk J (min vs.length us.length) Z (YPair (fun i => vs[i]?) (fun i => us[i]?))) : ItOk G w ρ H (pairs xs ys) J := fun w1 ρ1 hh H1 e R1 i => by
  have z := hZ w1 ρ1 H1 e
  refine ⟨fun x hx => ?_, fun hi => ?_⟩
  · obtain ⟨c, d, ex, q1, q2⟩ := pairs_get hx
    subst ex
    obtain ⟨v, k1, k2⟩ := r.get q1
    obtain ⟨u, k3, k4⟩ := r'.get q2
    have l1 : i < vs.length := (List.getElem?_eq_some_iff.mp k1).1
    have l2 : i < us.length := (List.getElem?_eq_some_iff.mp k3).1
    have hi : i < min vs.length us.length := by omega
    refine ⟨W.goes i H1 hi z, fun x H' y => ?_⟩
    obtain ⟨T, a, b, y1, y2, y3, y4, y5⟩ := W.yields i H1 x H' hi z y
    subst y1 y3
    have y6 : vs[i]? = some a := y4
    have y7 : us[i]? = some b := y5
    rw [k1] at y6
    rw [k3] at y7
    cases y6
    cases y7
    exact pair_new (k2.upW e) (k4.upW e) R1 y2
  · rw [pairs_len, r.length, r'.length] at hi
    rw [hi]
    exact W.stops H1 z
theorem xi_zip (hK : X.K = G.K) (hg : Gl X "zip") (hm : X.mg "zip" = none) (ha : XA X G E [e, e2] cs) (hs : starEach [e, e2] X.env = (false, eval e X.env) :: starEach [e2] X.env := by rfl) (hpl : (backTo pos (starEach [e2] X.env)).any (·.1) = false := by rfl) :
    XI X G E (.Tuple elts kk tpos) (.Call (.Name "zip" p) [e, e2] [] pos) (iZip cs) := pi_imp (RZ.pi_zipA hg hm ha hs hpl) fun σ H Q ⟨w, ρ, l, h, R, L, g⟩ => rds_then R L g fun w1 ρ1 h1 H1 xs v e1 R1 L1 r1 g1 => by
    split at g1
    · rename_i ys zs
      obtain ⟨u1, u2, k1, k2, k3⟩ := two_of r1
      obtain ⟨a, vs, q1, q2, q3, q4⟩ := rc_lst k2
      obtain ⟨b, us, p1, p2, p3, p4⟩ := rc_lst k3
      rw [q1, p1] at k1
      exact ⟨a, b, vs, us, k1, .inl ⟨SqL.of q3, SqL.of p3, (show PostI G w ρ H Q _ h1 from g1) w1 ρ1 H1 _ e1 R1 (hK ▸ it_zipG R1 q4 p4 (Z := fun H => SqL G.K H a vs ∧ SqL G.K H b us) (fun w2 ρ2 H2 e2 => ⟨SqL.of (e2.e.keep _ _ q3 q2 trivial), SqL.of (e2.e.keep _ _ p3 p2 trivial)⟩) (walk_zip rfl))⟩⟩
    · rename_i ys zs
      obtain ⟨u1, u2, k1, k2, k3⟩ := two_of r1
      obtain ⟨a, vs, q1, q3, q4⟩ := rc_tup k2
      obtain ⟨b, us, p1, p3, p4⟩ := rc_tup k3
      rw [q1, p1] at k1
      exact ⟨a, b, vs, us, k1, .inr ⟨hK ▸ q3, hK ▸ p3, (show PostI G w ρ H Q _ h1 from g1) w1 ρ1 H1 _ e1 R1 (hK ▸ it_zipG R1 q4 p4 (Z := fun H => SqT G.K H a vs ∧ SqT G.K H b us) (fun w2 ρ2 H2 e2 => ⟨e2.e.rdT q3, e2.e.rdT p3⟩) walk_zipT)⟩⟩
    · exact g1.elim
end
end Rn

set_option Elab.async false
set_option linter.all false
set_option maxRecDepth 100000
set_option maxHeartbeats 4000000
namespace Rn
open PySem L2

theorem Out.bind_assoc {α β γ : Type} {f : α → CH → Out β} {g : β → CH → Out γ} : ∀ {o : Out α}, (o.bind f).bind g = o.bind fun a h => (f a h).bind g
  | .ok _ _ => rfl
  | .exc _ _ _ => rfl
  | .ask n k => by
    show Out.ask n _ = Out.ask n _
    congr 1
    funext d
    exact Out.bind_assoc
  | .stuck => rfl

/-! ### slots forgotten -/
theorem wipe_get {σ : St} {i : Nat} : ∀ {vs : List Nat}, (wipe σ vs)[i]? = if i ∈ vs ∧ i < σ.length then some none else σ[i]?
  | [] => by simp [wipe]
  | v :: vs => by
    unfold wipe
    by_cases hv : v = i
    · subst hv
      by_cases hl : v < σ.length
      · rw [List.getElem?_set_self (by rw [wipe_length]; exact hl), if_pos ⟨List.mem_cons_self, hl⟩]
      · rw [if_neg (fun z => hl z.2), List.getElem?_eq_none (by rw [List.length_set, wipe_length]; omega), List.getElem?_eq_none (by omega)]
    · rw [List.getElem?_set_ne hv, wipe_get]
      by_cases hi : i ∈ vs ∧ i < σ.length
      · rw [if_pos hi, if_pos ⟨List.mem_cons_of_mem _ hi.1, hi.2⟩]
      · rw [if_neg hi, if_neg]
        rintro ⟨z, z2⟩
        rcases List.mem_cons.mp z with q | q
        · exact hv q.symm
        · exact hi ⟨q, z2⟩
theorem wipe_wipe {σ : St} {vs us : List Nat} (h : ∀ i ∈ us, i ∈ vs) : wipe (wipe σ us) vs = wipe σ vs := by
  apply List.ext_getElem?
  intro i
  rw [wipe_get, wipe_get, wipe_get, wipe_length]
  by_cases hv : i ∈ vs ∧ i < σ.length
  · rw [if_pos hv, if_pos hv]
  · rw [if_neg hv, if_neg hv, if_neg (fun z => hv ⟨h i z.1, z.2⟩)]
theorem wipe_set {σ : St} {vs : List Nat} {i : Nat} {o : Option V} (h : i ∈ vs) : wipe (σ.set i o) vs = wipe σ vs := by
  apply List.ext_getElem?
  intro j
  rw [wipe_get, wipe_get, List.length_set]
  by_cases hv : j ∈ vs ∧ j < σ.length
  · rw [if_pos hv, if_pos hv]
  · rw [if_neg hv, if_neg hv]
    by_cases hj : i = j
    · subst hj
      have hl : σ.length ≤ i := by
        by_cases z : i < σ.length
        · exact absurd ⟨h, z⟩ hv
        · omega
      rw [List.getElem?_eq_none (by simpa using hl), List.getElem?_eq_none hl]
    · rw [List.getElem?_set_ne hj]
def wipeL (l : Lc) : List Nat → Lc
  | [] => l
  | v :: vs => (wipeL l vs).set v none
theorem wipeL_length (l : Lc) : ∀ vs : List Nat, (wipeL l vs).length = l.length
  | [] => rfl
  | v :: vs => by unfold wipeL; rw [List.length_set, wipeL_length l vs]
section
variable {G : Gb} {w : Wd} {ρ : List Addr} {H : Hp}
theorem LocR.setN {l : Lc} {σ : St} (L : LocR G w ρ H l σ) (i : Nat) : LocR G w ρ H (l.set i none) (σ.set i none) := by
  refine ⟨by simp [L.1], fun j d hd => ?_⟩
  by_cases hj : i = j
  · subst hj
    by_cases hl : i < l.length
    · rw [List.getElem?_set_self hl] at hd; cases hd
    · rw [List.getElem?_eq_none (by simp; omega)] at hd; cases hd
  · rw [List.getElem?_set_ne hj] at hd
    obtain ⟨u, h1, h2⟩ := L.2 j d hd
    exact ⟨u, by rw [List.getElem?_set_ne hj]; exact h1, h2⟩
theorem LocR.wipe {l : Lc} {σ : St} (L : LocR G w ρ H l σ) : ∀ vs : List Nat, LocR G w ρ H (wipeL l vs) (L2.wipe σ vs)
  | [] => L
  | v :: vs => (LocR.wipe L vs).setN v
end
/-- a target of a comprehension's own names -/
def PostW (G : Gb) (w : Wd) (ρ : List Addr) (H : Hp) (σ : St) (vs : List Nat) (Q : St → Hp → Prop) : Lc → CH → Prop := fun l h' => ∀ w' ρ' H' σ', Ext w ρ H w' ρ' H' → Rep G w' ρ' h' H' → LocR G w' ρ' H' l σ' → wipe σ' vs = wipe σ vs → Q σ' H'
def rdW (G : Gb) (E : XO) (vs : List Nat) (t : CTg) : TG := fun v σ H Q => ∃ w ρ l h c, Rep G w ρ h H ∧ LocR G w ρ H l σ ∧ RelC G w ρ H c v ∧ (t c l h).Good (PostW G w ρ H σ vs Q) (PostX G w ρ H E)
def rdWs (G : Gb) (E : XO) (vs : List Nat) (t : CTgs) : TGs := fun v σ H Q => ∃ w ρ l h c, Rep G w ρ h H ∧ LocR G w ρ H l σ ∧ RelCs G w ρ H c v ∧ (t c l h).Good (PostW G w ρ H σ vs Q) (PostX G w ρ H E)

/-! ### the terms -/
def compL (t : CTg) (tt : CTt) (el : CE) : List CV → Lc → CH → Out (List CV)
  | [], _, h => .ok [] h
  | x :: xs, l, h => (t x l h).bind fun l1 h1 => (tt l1 h1).bind fun b h2 => match b with
    | false => compL t tt el xs l h2
    | true => (el l1 h2).bind fun y h3 => (compL t tt el xs l h3).bind fun ys h4 => .ok (y :: ys) h4
/-- over a tracked list, as it stands at each turn -/
def compR (n : Nat) (t : CTg) (tt : CTt) (el : CE) : Nat → Nat → Lc → CH → Out (List CV)
  | 0, _, _, _ => .stuck
  | k + 1, i, l, h => match lstOf h (.ref n) with
    | none => .stuck
    | some xs => match xs[i]? with
      | none => .ok [] h
      | some x => (t x l h).bind fun l1 h1 => (tt l1 h1).bind fun b h2 => match b with
        | false => compR n t tt el k (i + 1) l h2
        | true => (el l1 h2).bind fun y h3 => (compR n t tt el k (i + 1) l h3).bind fun ys h4 => .ok (y :: ys) h4
def Out.noExc {α : Type} : Out α → Out α
  | .ok a h => .ok a h
  | .exc _ _ _ => .stuck
  | .ask n f => .ask n fun d => (f d).noExc
  | .stuck => .stuck
theorem Out.good_noExc {α : Type} {Q : α → CH → Prop} {E E' : Nat → Option CV → CH → Prop} : ∀ {o : Out α}, o.noExc.Good Q E → o.Good Q E'
  | .ok _ _, g => g
  | .exc _ _ _, g => g.elim
  | .ask n f, g => fun d hd => Out.good_noExc (g d hd)
  | .stuck, g => g.elim
def cComp0 (vs : List Nat) (ci : CI) (t : CTg) (tt : CTt) (el : CE) : CE := fun l h => (ci l h).bind fun src h1 => match src with
  | .vals xs => if xs.length ≤ big then (compL t tt el xs (wipeL l vs) h1).bind fun ys h2 => .ok (.lst ys) h2 else .stuck
  | .obj n => (compR n t tt el big 0 (wipeL l vs) h1).bind fun ys h2 => .ok (.lst ys) h2
def cComp (vs : List Nat) (ci : CI) (t : CTg) (tt : CTt) (el : CE) : CE := fun l h => (cComp0 vs ci t tt el l h).noExc
def tYesC : CTt := fun _ h => .ok true h

section
variable {G : Gb} {w w' : Wd} {ρ ρ' : List Addr} {H H' : Hp} {h : CH}
/-- an object that came behind the start may change -/
theorem Ext.mutNew (e : Ext w ρ H w' ρ' H') {D : Addr} {o : HO} (hD : H D = none) : Ext w ρ H w' ρ' (upd H' D o) := by
  have ne : ∀ b u, H b = some u → b ≠ D := fun b u q z => by rw [z, hD] at q; cases q
  exact ⟨e.mM, e.mO, e.mF, e.new, e.pre, fun b u q n k => by rw [upd_ne (ne b u q)]; exact e.keep b u q n k, fun b u q => by rw [upd_ne (ne b u q)]; exact e.there b u q, fun b xs q => by rw [upd_ne (ne b _ q)]; exact e.tup b xs q, fun b u x q => by rw [upd_ne (ne b _ q)]; exact e.frz b u x q⟩
/-- a member that is nobody's slot changes -/
theorem Rep.writeM (R : Rep G w ρ h H) {D : Addr} {o u : HO} (hM : D ∈ w.M) (hn : D ∉ ρ) (hu : H D = some u) (ku : Kind u) (ko : Kind o) : Rep G w ρ h (upd H D o) := by
  have e : Ext w [D] H w [D] (upd H D o) := Ext.write w (by simp) hu ku
  have sub : ∀ a ∈ [D], a ∈ w.M := fun a ha => by simp at ha; subst ha; exact hM
  refine ⟨R.nd, R.sub, R.len, fun b hb => ?_, fun n a v h1 h2 => ?_, fun r hr => ?_, R.wne, R.wnf, fh_upd R.fh, tabs_write R.tab hu ku, fun p hp => ?_, R.ow, R.pn.ext e sub R.mh⟩
  · by_cases z : b = D
    · subst z; exact ⟨o, upd_same, ko⟩
    · obtain ⟨v, k1, k2⟩ := R.mh b hb; exact ⟨v, by rw [upd_ne z]; exact k1, k2⟩
  · have na : a ≠ D := fun z => hn (by rw [← z]; exact List.mem_of_getElem? h1)
    exact (R.obj n a v h1 h2).ext e sub fun o ho => by rw [upd_ne na]; exact ho
  · obtain ⟨ks, k1, k2⟩ := R.web r hr
    refine ⟨ks, k1.ext e sub R.mh ?_, fun kv hk => (k2 kv hk).ext e sub⟩
    obtain ⟨_, _, _, _, _, z⟩ := k1
    rw [upd_ne (fun y => R.wne r hr (by rw [y]; exact hM))]; exact z
  · have q := R.lco p hp
    rw [upd_ne (kind_ne hu ku q (fun z => z))]; exact q
theorem rel_writeM {r : List Addr} {D : Addr} {o u : HO} (hM : D ∈ w.M) (hu : H D = some u) (ku : Kind u) : (∀ x v, RelC G w r H x v → RelC G w r (upd H D o) x v) ∧ ∀ x v, RelCs G w r H x v → RelCs G w r (upd H D o) x v := by
  have e : Ext w [D] H w [D] (upd H D o) := Ext.write w (by simp) hu ku
  have sub : ∀ a ∈ [D], a ∈ w.M := fun a ha => by simp at ha; subst ha; exact hM
  exact ⟨fun x v q => RelC.ext e sub ⟨[], by simp⟩ q, fun x v q => RelCs.ext e sub ⟨[], by simp⟩ q⟩
/-- a member that is nobody's slot is a member no more -/
def Wd.out (w : Wd) (D : Addr) : Wd := ⟨w.M.filter fun a => decide (a ≠ D), w.O, w.F⟩
theorem out_sub {D : Addr} : ∀ a ∈ (w.out D).M, a ∈ w.M := fun a h => (List.mem_filter.mp h).1
theorem out_not {D : Addr} : D ∉ (w.out D).M := fun h => by
  have := of_decide_eq_true (List.mem_filter.mp h).2
  exact this rfl
theorem CoOk.less (hM : ∀ a ∈ w'.M, a ∈ w.M) (hO : ∀ r ∈ w.O, r ∈ w'.O) (hF : ∀ a ∈ w.F, a ∈ w'.F) {a : Addr} {o : CO} (q : CoOk G w H a o) : CoOk G w' H a o := by
  cases o with
  | lst xs => obtain ⟨vs, h1, h2⟩ := q; exact ⟨vs, RelCs.less hM hO hF h1, h2⟩
  | dk kvs => obtain ⟨ks, h0, h1, h2⟩ := q; exact ⟨ks, h0, RelCs.less hM hO hF h1, h2⟩
  | dt kvs => obtain ⟨ks, h0, h1, h2⟩ := q; exact ⟨ks, h0, RelCs.less hM hO hF h1, h2⟩
  | bag => exact q
theorem WebOk.less (hM : ∀ a ∈ w'.M, a ∈ w.M) (hO : ∀ r ∈ w.O, r ∈ w'.O) (hF : ∀ a ∈ w.F, a ∈ w'.F) {r : WRec} (q : WebOk G w H r) : WebOk G w' H r := by
  obtain ⟨ks, ⟨dx, tv, h1, hn, h2, h3⟩, h4⟩ := q
  refine ⟨ks, ⟨dx, tv, h1, hn, RelC.less hM hO hF h2, h3⟩, fun kv hk => ?_⟩
  obtain ⟨x, cv, k1, k2, kn, k3⟩ := h4 kv hk
  exact ⟨x, cv, k1, k2, kn, RelC.less hM hO hF k3⟩
theorem Rep.out (R : Rep G w ρ h H) {D : Addr} (hn : D ∉ ρ) : Rep G (w.out D) ρ h H := by
  have hO : ∀ r ∈ w.O, r ∈ (w.out D).O := fun _ h => h
  refine ⟨R.nd, fun a ha => List.mem_filter.mpr ⟨R.sub a ha, decide_eq_true (fun z => hn (by rw [← z]; exact ha))⟩, R.len, fun a ha => R.mh a (out_sub a ha), fun n a o h1 h2 => (R.obj n a o h1 h2).less out_sub hO (fun _ h => h), fun r hr => (R.web r hr).less out_sub hO (fun _ h => h), fun r hr z => R.wne r hr (out_sub _ z), R.wnf, R.fh, R.tab, R.lco, R.ow, R.pn.less out_sub hO (fun _ h => h)⟩
theorem Ext.out (e : Ext w ρ H w' ρ' H') {D : Addr} (hD : H D = none) (mh : ∀ a ∈ w.M, ∃ o, H a = some o ∧ Kind o) : Ext w ρ H (w'.out D) ρ' H' :=
  ⟨fun a ha => List.mem_filter.mpr ⟨e.mM a ha, decide_eq_true (fun z => by obtain ⟨o, q, _⟩ := mh a ha; rw [z, hD] at q; cases q)⟩, e.mO, e.mF, fun a ha => e.new a (out_sub a ha), e.pre, e.keep, e.there, e.tup, e.frz⟩
end
section
variable {X : Cx} {G : Gb} {E : XO}
abbrev XGw (X : Cx) (G : Gb) (E : XO) (vs : List Nat) (e : Expr) (c : CTg) : Prop := PG X e (rdW G E vs c)
abbrev XGws (X : Cx) (G : Gb) (E : XO) (vs : List Nat) (e : List Expr) (c : CTgs) : Prop := PGs X e (rdWs G E vs c)
theorem xgw_name {i : Nat} {x : Str} {vs : List Nat} {pos : Pos} (hN : X.N.Nodup) (hi : X.N[i]? = some x) (hx : Loc X.env.scope x) (hv : i ∈ vs) (hf : X.fn x = true ∨ X.env.scope.names.lookup x = some .local := by first | exact .inl rfl | exact .inr rfl | assumption) : XGw X G E vs (.Name x pos) (tgName i) :=
  pg_imp (pg_name hN hi hx hf) fun v σ H Q ⟨w, ρ, l, h, c, R, L, r, g⟩ => (show PostW G w ρ H σ vs Q (l.set i (some c)) h from g) w ρ H _ (Ext.refl w ρ H) R (L.set i r) (wipe_set hv)
theorem xgws_nil {vs : List Nat} : XGws X G E vs [] tgsNil := pgs_imp pgs_nil fun v σ H Q ⟨w, ρ, l, h, c, R, L, r, g⟩ => by
  cases c with
  | nil =>
    unfold RelCs at r
    exact ⟨r, (show PostW G w ρ H σ vs Q l h from g) w ρ H _ (Ext.refl w ρ H) R L rfl⟩
  | cons _ _ => exact g.elim
theorem PostW.at {w w' : Wd} {ρ ρ' : List Addr} {H H' : Hp} {σ σ' : St} {vs : List Nat} {Q : St → Hp → Prop} {f : Lc} {h : CH} (e : Ext w ρ H w' ρ' H') (s : wipe σ' vs = wipe σ vs) (p : PostW G w ρ H σ vs Q f h) : PostW G w' ρ' H' σ' vs Q f h := fun w2 ρ2 H2 σ2 e2 R L z => p w2 ρ2 H2 σ2 (e.trans e2) R L (z.trans s)
theorem xgws_cons {e : Expr} {es : List Expr} {vs : List Nat} {t : CTg} {u : CTgs} (h1 : XGw X G E vs e t) (h2 : XGws X G E vs es u)
    (hs : (assignEach (e :: es) X.env).map (·.2) = assign e X.env :: (assignEach es X.env).map (·.2) := by rfl) : XGws X G E vs (e :: es) (tgsCons t u) := pgs_imp (pgs_cons h1 h2 hs) fun v σ H Q ⟨w, ρ, l, h, c, R, L, r, g⟩ => by
  cases c with
  | nil => exact g.elim
  | cons x xs =>
    unfold RelCs at r
    obtain ⟨v1, vr, e1, r1, r2⟩ := r
    refine ⟨v1, vr, e1, w, ρ, l, h, x, R, L, r1, (Out.good_bind.mp g).mono (fun l1 hh g1 w' ρ' H' σ' e R' L' z => ?_) fun _ _ _ q => q⟩
    exact ⟨w', ρ', l1, hh, xs, R', L', r2.up e R, g1.mono (fun _ _ q => q.at e z) fun _ _ _ q => q.at e⟩
theorem xgw_tup {es : List Expr} {k : Nat} {vs : List Nat} {t : CTgs} {n : Nat} {pos : Pos} (hK : X.K = G.K) (hc : X.calm = true) (h : XGws X G E vs es t)
    (hn : (assignEach es X.env).length = n := by rfl) (hst : (assignEach es X.env).findIdx? (·.1) = none := by rfl) : XGw X G E vs (.Tuple es k pos) (tgTup n t) := pg_imp (pg_tup hc h hn hst) fun v σ H Q ⟨w, ρ, l, h, c, R, L, r, g⟩ => by
  unfold tgTup at g
  split at g
  · rename_i xs
    split at g
    · rename_i hl
      obtain ⟨a, vs, e1, e2, e3⟩ := rc_tup r
      exact ⟨a, vs, e1, hK ▸ e2, by rw [← e3.length]; exact hl, w, ρ, l, h, xs, R, L, e3, g⟩
    · exact g.elim
  · exact g.elim
abbrev XTs (X : Cx) (G : Gb) (E : XO) (es : List Expr) (c : CTt) : Prop := PTs X es (rdt G E c)
theorem pts_imp {e : List Expr} {t t' : TT} (h : PTs X e t) (i : ∀ σ H Q, t' σ H Q → t σ H Q) : PTs X e t' := ⟨fun pins s σ H Q I q => h.run pins s σ H Q I (i σ H Q q)⟩
theorem xts_nil : XTs X G E [] tYesC := pts_imp pts_nil fun σ H Q ⟨w, ρ, l, h, R, L, g⟩ => (show PostB G w ρ H Q true h from g) w ρ H (Ext.refl w ρ H) R
theorem xts_one {c : Expr} {tt : CTt} (h : XT X G E c tt) : XTs X G E [c] tt := pts_one h
abbrev Noth : XO := none

theorem rd_comp {own : List Nat} {ci : CI} {t : CTg} {tt : CTt} {el : CE} : ∀ σ H Q, rd G Noth (cComp0 own ci t tt el) σ H Q → tLc (rdI G Noth ci) (rdW G Noth own t) (rdt G Noth tt) (rd G Noth el) own σ H Q := fun σ H Q ⟨w, ρ, l, h, R, L, g⟩ => by
  refine ⟨w, ρ, l, h, R, L, (Out.good_bind.mp g).mono (fun src h0 g0 w0 ρ0 H0 J e0 R0 okS D hD => ?_) fun _ _ _ q => q⟩
  have hD0 : H D = none := e0.isNone hD
  have eD : Ext w0 ρ0 H0 ⟨D :: w0.M, w0.O, w0.F⟩ ρ0 (upd H0 D (.lst [])) := by
    have z := Ext.newM w0 ρ0 (.lst []) hD
    exact ⟨z.mM, z.mO, z.mF, z.new, ⟨[], by simp, by simp⟩, z.keep, z.there, z.tup, z.frz⟩
  have RD : Rep G ⟨D :: w0.M, w0.O, w0.F⟩ ρ0 h0 (upd H0 D (.lst [])) := by
    have z := R0.fresh (.lst []) hD
    refine ⟨z.nd, fun a ha => List.mem_cons_of_mem _ (z.sub a ha), z.len, fun a ha => ?_, fun n a o h1 h2 => ?_, fun r hr => ?_, fun r hr y => ?_, z.wnf, z.fh, z.tab, z.lco, z.ow, R0.pn.ext eD R0.sub R0.mh⟩
    · rcases List.mem_cons.mp ha with y | y
      · subst y; exact ⟨_, upd_same, trivial⟩
      · exact z.mh a y
    · refine (R0.obj n a o h1 h2).ext eD R0.sub fun u hu => ?_
      rw [upd_ne (ne_of_none hu hD)]; exact hu
    · obtain ⟨ks, k1, k2⟩ := R0.web r hr
      refine ⟨ks, k1.ext eD R0.sub R0.mh ?_, fun kv hk => (k2 kv hk).ext eD R0.sub⟩
      obtain ⟨_, _, _, _, _, q⟩ := k1
      rw [upd_ne (ne_of_none q hD)]; exact q
    · rcases List.mem_cons.mp y with y | y
      · obtain ⟨ks, ⟨_, _, _, _, _, q⟩, _⟩ := R0.web r hr
        rw [y, hD] at q; cases q
      · exact R0.wne r hr y
  cases src with
  | vals xs =>
    have ok : ItOk G w0 ρ0 H0 xs J := okS
    replace g0 : (if xs.length ≤ big then (compL t tt el xs (wipeL l own) h0).bind fun ys h2 => .ok (.lst ys) h2 else .stuck).Good (PostV G w ρ H Q) (PostX G w ρ H Noth) := g0
    split at g0
    case isFalse => exact g0.elim
    case isTrue hbig =>
    -- the word: what is made so far stands at D
    refine ⟨fun i m H' => m = xs.length - i ∧ i ≤ xs.length ∧ ∃ w1 ρ1 h1 acc vs, Ext w0 ρ0 H0 w1 ρ1 H' ∧ Rep G w1 ρ1 h1 H' ∧ D ∈ w1.M ∧ D ∉ ρ1 ∧ H' D = some (.lst vs) ∧ RelCs G w1 ρ1 H' acc vs ∧ acc.length ≤ i ∧
      ((compL t tt el (xs.drop i) (wipeL l own) h1).bind fun ys h2 => Out.ok (CV.lst (acc ++ ys)) h2).Good (PostV G w ρ H Q) (PostX G w1 ρ1 H' Noth), ⟨_, rfl, Nat.zero_le _, ⟨D :: w0.M, w0.O, w0.F⟩, ρ0, h0, [], [], eD, RD, List.mem_cons_self, fun z => R0.notM hD (R0.sub D z), upd_same, RelCs.nil, Nat.le_refl _, ?_⟩, ?_⟩
    · exact g0.mono (fun _ _ q => q) fun _ _ _ q => q.at (e0.trans eD)
    rintro i m H1 ⟨rfl, hi, w1, ρ1, h1, acc, vs, e1, R1, dM, dn, hDv, ra, hacc, g1⟩
    have L1 : LocR G w1 ρ1 H1 (wipeL l own) (wipe σ own) := (L.wipe own).up (e0.trans e1) R
    obtain ⟨k1, k2⟩ := ok w1 ρ1 h1 H1 (ExtW.of e1 R0.sub) R1 i
    by_cases hlt : i < xs.length
    · have hx : xs[i]? = some xs[i] := by simp [hlt]
      obtain ⟨a1, a2⟩ := k1 _ hx
      rw [List.drop_eq_getElem_cons hlt] at g1
      refine .inr ⟨a1, fun H' => i + 1 ≤ xs.length ∧ ∃ w1 ρ1 h1 acc vs, Ext w0 ρ0 H0 w1 ρ1 H' ∧ Rep G w1 ρ1 h1 H' ∧ D ∈ w1.M ∧ D ∉ ρ1 ∧ H' D = some (.lst vs) ∧ RelCs G w1 ρ1 H' acc vs ∧ acc.length ≤ i + 1 ∧
        ((compL t tt el (xs.drop (i + 1)) (wipeL l own) h1).bind fun ys h2 => Out.ok (CV.lst (acc ++ ys)) h2).Good (PostV G w ρ H Q) (PostX G w1 ρ1 H' Noth), fun H' q => ⟨_, by omega, rfl, q⟩, fun v H' y => ?_⟩
      obtain ⟨b1, b2, b3⟩ := a2 v H' y
      rw [compL] at g1
      simp only [Out.bind_assoc] at g1
      have hD2 : H' D = some (.lst vs) := b2.keep D _ hDv dn trivial
      refine ⟨w1, ρ1, wipeL l own, h1, xs[i], b3, L1.up b2 R1, b1, (Out.good_bind.mp g1).mono (fun l2 h2 g2 w2 ρ2 H2 σ2 e2 R2 L2 hw => ?_) fun _ _ _ q => q.at b2⟩
      refine ⟨hw.trans (wipe_wipe fun _ z => z), ?_⟩
      have e12 := b2.trans e2
      have hD3 : H2 D = some (.lst vs) := e2.keep D _ hD2 dn trivial
      have dn2 : D ∉ ρ2 := fun z => by
        obtain ⟨q, p1, p2⟩ := e2.pre
        rw [p1] at z
        rcases List.mem_append.mp z with z | z
        · exact dn z
        · have := p2 D z; rw [hD2] at this; cases this
      refine rdt_then R2 L2 (g2.mono (fun _ _ q => q) fun _ _ _ q => q.at e12) fun w3 ρ3 h3 H3 b e3 R3 L3 g3 => ?_
      have hD4 : H3 D = some (.lst vs) := e3.keep D _ hD3 dn2 trivial
      have dn3 : D ∉ ρ3 := fun z => by
        obtain ⟨q, p1, p2⟩ := e3.pre
        rw [p1] at z
        rcases List.mem_append.mp z with z | z
        · exact dn2 z
        · have := p2 D z; rw [hD3] at this; cases this
      have e13 := e12.trans e3
      cases b with
      | false =>
        rw [if_neg Bool.false_ne_true]
        exact ⟨hlt, w3, ρ3, h3, acc, vs, e1.trans e13, R3, e13.mM D dM, dn3, hD4, ra.up e13 R1, by omega, g3⟩
      | true =>
        rw [if_pos rfl]
        simp only [Out.bind_assoc] at g3
        refine rd_then R3 L3 g3 fun w4 ρ4 h4 H4 y u e4 R4 L4 r4 g4 => ?_
        have hD5 : H4 D = some (.lst vs) := e4.keep D _ hD4 dn3 trivial
        have dn4 : D ∉ ρ4 := fun z => by
          obtain ⟨q, p1, p2⟩ := e4.pre
          rw [p1] at z
          rcases List.mem_append.mp z with z | z
          · exact dn3 z
          · have := p2 D z; rw [hD4] at this; cases this
        have e14 := e13.trans e4
        have dM4 := e14.mM D dM
        obtain ⟨q1, q2⟩ := rel_writeM (G := G) (r := ρ4) (o := .lst (vs ++ [u])) dM4 hD5 trivial
        have ra4 := ra.up e14 R1
        refine ⟨vs, hD5, Nat.lt_of_lt_of_le (show vs.length < big + 1 from ?_) (by decide), hlt, w4, ρ4, h4, acc ++ [y], vs ++ [u], (e1.trans e14).mutNew hD, R4.writeM dM4 dn4 hD5 trivial trivial, dM4, dn4, upd_same, (q2 _ _ ra4).append (RelCs.cons (q1 _ _ r4) RelCs.nil), by simp; omega, ?_⟩
        · rw [← ra.length]; unfold big at hbig ⊢; omega
        · have g5 : ((compL t tt el (xs.drop (i + 1)) (wipeL l own) h4).bind fun ys h2 => Out.ok (CV.lst ((acc ++ [y]) ++ ys)) h2).Good (PostV G w ρ H Q) (PostX G w4 ρ4 H4 Noth) := by
            simp only [List.append_assoc, List.singleton_append]
            exact g4
          exact g5
    · have hi' : i = xs.length := by omega
      subst hi'
      rw [List.drop_length, compL] at g1
      refine .inl ⟨k2 rfl, ?_⟩
      have g2 : PostV G w ρ H Q (.lst acc) h1 := by
        have z : PostV G w ρ H Q (.lst (acc ++ [])) h1 := g1
        rw [List.append_nil] at z
        exact z
      have e2 := (e0.trans e1).out hD0 R.mh
      refine g2 _ _ _ _ e2 (R1.out dn) ?_
      unfold RelC
      exact ⟨D, vs, rfl, out_not, hDv, RelCs.less out_sub (fun _ z => z) (fun _ z => z) ra⟩
  | obj n =>
    replace g0 : ((compR n t tt el big 0 (wipeL l own) h0).bind fun ys h2 => .ok (.lst ys) h2).Good (PostV G w ρ H Q) (PostX G w ρ H Noth) := g0
    obtain ⟨a, hn, eJ⟩ := okS
    subst eJ
    have isL : ∀ {w1 ρ1 h1 H1 xs}, Ext w0 ρ0 H0 w1 ρ1 H1 → Rep G w1 ρ1 h1 H1 → lstOf h1 (.ref n) = some xs → ∃ vs, H1 a = some (.lst vs) ∧ RelCs G w1 ρ1 H1 xs vs := fun {w1 ρ1 h1 H1 xs} e R1 q => by
      obtain ⟨b, vs, k1, k2, k3⟩ := lstOf_ok R1 ((show RelC G w0 ρ0 H0 (.ref n) (.ref a) by unfold RelC; exact ⟨a, hn, rfl⟩).up e R0) q
      cases k1
      exact ⟨vs, k2, k3⟩
    -- the word: what is made so far stands at D
    refine ⟨fun i m H' => m + i = big ∧ ∃ w1 ρ1 h1 acc vs, Ext w0 ρ0 H0 w1 ρ1 H' ∧ Rep G w1 ρ1 h1 H' ∧ D ∈ w1.M ∧ D ∉ ρ1 ∧ H' D = some (.lst vs) ∧ RelCs G w1 ρ1 H' acc vs ∧ acc.length ≤ i ∧
      ((compR n t tt el m i (wipeL l own) h1).bind fun ys h2 => Out.ok (CV.lst (acc ++ ys)) h2).Good (PostV G w ρ H Q) (PostX G w1 ρ1 H' Noth), ⟨big, rfl, ⟨D :: w0.M, w0.O, w0.F⟩, ρ0, h0, [], [], eD, RD, List.mem_cons_self, fun z => R0.notM hD (R0.sub D z), upd_same, RelCs.nil, Nat.le_refl _, ?_⟩, ?_⟩
    · exact g0.mono (fun _ _ q => q) fun _ _ _ q => q.at (e0.trans eD)
    rintro i m H1 ⟨hm, w1, ρ1, h1, acc, vs, e1, R1, dM, dn, hDv, ra, hacc, g1⟩
    have L1 : LocR G w1 ρ1 H1 (wipeL l own) (wipe σ own) := (L.wipe own).up (e0.trans e1) R
    cases m with
    | zero => exact g1.elim
    | succ m =>
    cases q : lstOf h1 (.ref n) with
    | none => rw [compR, q] at g1; exact g1.elim
    | some xs =>
    obtain ⟨us, k1, k2⟩ := isL e1 R1 q
    rw [compR, q] at g1
    cases qx : xs[i]? with
    | none =>
      simp only [qx] at g1
      refine .inl ⟨⟨us, SqL.of k1, by rw [← k2.length]; exact List.getElem?_eq_none_iff.mp qx⟩, ?_⟩
      have g2 : PostV G w ρ H Q (.lst acc) h1 := by
        have z : PostV G w ρ H Q (.lst (acc ++ [])) h1 := g1
        rw [List.append_nil] at z
        exact z
      have e2 := (e0.trans e1).out hD0 R.mh
      refine g2 _ _ _ _ e2 (R1.out dn) ?_
      unfold RelC
      exact ⟨D, vs, rfl, out_not, hDv, RelCs.less out_sub (fun _ z => z) (fun _ z => z) ra⟩
    | some y0 =>
      simp only [qx] at g1
      obtain ⟨u0, u1, u2⟩ := k2.get qx
      refine .inr ⟨⟨us, u0, SqL.of k1, u1⟩, fun H' => m + (i + 1) = big ∧ ∃ w1 ρ1 h1 acc vs, Ext w0 ρ0 H0 w1 ρ1 H' ∧ Rep G w1 ρ1 h1 H' ∧ D ∈ w1.M ∧ D ∉ ρ1 ∧ H' D = some (.lst vs) ∧ RelCs G w1 ρ1 H' acc vs ∧ acc.length ≤ i + 1 ∧
        ((compR n t tt el m (i + 1) (wipeL l own) h1).bind fun ys h2 => Out.ok (CV.lst (acc ++ ys)) h2).Good (PostV G w ρ H Q) (PostX G w1 ρ1 H' Noth), fun H' q => ⟨m, Nat.lt_succ_self m, q⟩, fun v H' y => ?_⟩
      obtain ⟨y1, y2⟩ := y
      subst y1
      have y3 := y2 us (SqL.of k1)
      rw [u1] at y3
      cases y3
      have b2 := Ext.refl w1 ρ1 H'
      simp only [Out.bind_assoc] at g1
      have hD2 : H' D = some (.lst vs) := b2.keep D _ hDv dn trivial
      refine ⟨w1, ρ1, wipeL l own, h1, y0, R1, L1.up b2 R1, u2, (Out.good_bind.mp g1).mono (fun l2 h2 g2 w2 ρ2 H2 σ2 e2 R2 L2 hw => ?_) fun _ _ _ q => q.at b2⟩
      refine ⟨hw.trans (wipe_wipe fun _ z => z), ?_⟩
      have e12 := b2.trans e2
      have hD3 : H2 D = some (.lst vs) := e2.keep D _ hD2 dn trivial
      have dn2 : D ∉ ρ2 := fun z => by
        obtain ⟨q, p1, p2⟩ := e2.pre
        rw [p1] at z
        rcases List.mem_append.mp z with z | z
        · exact dn z
        · have := p2 D z; rw [hD2] at this; cases this
      refine rdt_then R2 L2 (g2.mono (fun _ _ q => q) fun _ _ _ q => q.at e12) fun w3 ρ3 h3 H3 b e3 R3 L3 g3 => ?_
      have hD4 : H3 D = some (.lst vs) := e3.keep D _ hD3 dn2 trivial
      have dn3 : D ∉ ρ3 := fun z => by
        obtain ⟨q, p1, p2⟩ := e3.pre
        rw [p1] at z
        rcases List.mem_append.mp z with z | z
        · exact dn2 z
        · have := p2 D z; rw [hD3] at this; cases this
      have e13 := e12.trans e3
      cases b with
      | false =>
        rw [if_neg Bool.false_ne_true]
        exact ⟨by omega, w3, ρ3, h3, acc, vs, e1.trans e13, R3, e13.mM D dM, dn3, hD4, ra.up e13 R1, by omega, g3⟩
      | true =>
        rw [if_pos rfl]
        simp only [Out.bind_assoc] at g3
        refine rd_then R3 L3 g3 fun w4 ρ4 h4 H4 y u e4 R4 L4 r4 g4 => ?_
        have hD5 : H4 D = some (.lst vs) := e4.keep D _ hD4 dn3 trivial
        have dn4 : D ∉ ρ4 := fun z => by
          obtain ⟨q, p1, p2⟩ := e4.pre
          rw [p1] at z
          rcases List.mem_append.mp z with z | z
          · exact dn3 z
          · have := p2 D z; rw [hD4] at this; cases this
        have e14 := e13.trans e4
        have dM4 := e14.mM D dM
        obtain ⟨q1, q2⟩ := rel_writeM (G := G) (r := ρ4) (o := .lst (vs ++ [u])) dM4 hD5 trivial
        have ra4 := ra.up e14 R1
        refine ⟨vs, hD5, Nat.lt_of_lt_of_le (show vs.length < big + 1 from ?_) (by decide), by omega, w4, ρ4, h4, acc ++ [y], vs ++ [u], (e1.trans e14).mutNew hD, R4.writeM dM4 dn4 hD5 trivial trivial, dM4, dn4, upd_same, (q2 _ _ ra4).append (RelCs.cons (q1 _ _ r4) RelCs.nil), by simp; omega, ?_⟩
        · rw [← ra.length]; omega
        · have g5 : ((compR n t tt el m (i + 1) (wipeL l own) h4).bind fun ys h2 => Out.ok (CV.lst ((acc ++ [y]) ++ ys)) h2).Good (PostV G w ρ H Q) (PostX G w4 ρ4 H4 Noth) := by
            simp only [List.append_assoc, List.singleton_append]
            exact g4
          exact g5
theorem rd_comp' {own : List Nat} {ci : CI} {t : CTg} {tt : CTt} {el : CE} : ∀ σ H Q, rd G E (cComp own ci t tt el) σ H Q → tLc (rdI G Noth ci) (rdW G Noth own t) (rdt G Noth tt) (rd G Noth el) own σ H Q := fun σ H Q ⟨w, ρ, l, h, R, L, g⟩ =>
  rd_comp σ H Q ⟨w, ρ, l, h, R, L, Out.good_noExc g⟩
theorem xe_comp {elt tg iter : Expr} {ifs : List Expr} {scope : Scope} {own : List (Str × Nat)} {pos : Pos} {ci : CI} {t : CTg} {tt : CTt} {el : CE} (hc : X.calm = true) (hN : X.N.Nodup) (hi : XI X G Noth tg iter ci) (ok : BlkOk X.N X.env.scope scope own)
    (hg : ∀ (s : Shared) (H : Hp) (C : Addr) (cl : List (Str × Addr)) (fp : List Addr), XGw (X.blk s H scope (compEnvC scope cl C X.env) fp) G Noth (own.map (·.2)) tg t) (ht : ∀ (s : Shared) (H : Hp) (C : Addr) (cl : List (Str × Addr)) (fp : List Addr), XTs (X.blk s H scope (compEnvC scope cl C X.env) fp) G Noth ifs tt)
    (he : ∀ (s : Shared) (H : Hp) (C : Addr) (cl : List (Str × Addr)) (fp : List Addr), XE (X.blk s H scope (compEnvC scope cl C X.env) fp) G Noth elt el) (hs : ∀ x, foldedSetIterable iter X.env x = pure x := by intro _; rfl) :
    XE X G E (.ListComp elt [⟨tg, iter, ifs, 0⟩] scope pos) (cComp (own.map (·.2)) ci t tt el) := pe_imp (pe_lc hc hN hi ok hg ht he hs) rd_comp'
theorem xs_setComp {i : Nat} {y : Str} {py : Pos} {elt tg iter : Expr} {ifs : List Expr} {scope : Scope} {own : List (Str × Nat)} {pos spos : Pos} {ci : CI} {t : CTg} {tt : CTt} {el : CE} (hc : X.calm = true) (hN : X.N.Nodup) (hy : X.N[i]? = some y) (hyl : X.env.scope.names.lookup y = some .local)
    (hsw : swapsWith (.ListComp elt [⟨tg, iter, ifs, 0⟩] scope pos) (some (.Name y py)) spos.line X.env = pure true) (hi : XI X G Noth tg iter ci) (ok : BlkOk X.N X.env.scope scope own)
    (hg : ∀ (s : Shared) (H : Hp) (C : Addr) (cl : List (Str × Addr)) (fp : List Addr), XGw (X.blk s H scope (compEnvC scope cl C X.env) fp) G Noth (own.map (·.2)) tg t) (ht : ∀ (s : Shared) (H : Hp) (C : Addr) (cl : List (Str × Addr)) (fp : List Addr), XTs (X.blk s H scope (compEnvC scope cl C X.env) fp) G Noth ifs tt)
    (he : ∀ (s : Shared) (H : Hp) (C : Addr) (cl : List (Str × Addr)) (fp : List Addr), XE (X.blk s H scope (compEnvC scope cl C X.env) fp) G Noth elt el) (hs : ∀ x, foldedSetIterable iter X.env x = pure x := by intro _; rfl) :
    XS X G E (.Assign [.Name y py] (.ListComp elt [⟨tg, iter, ifs, 0⟩] scope pos) spos) (sAsg (cComp (own.map (·.2)) ci t tt el) (tgName i)) := ps_imp (ps_setLc hc hN hy hyl hsw hi ok hg ht he hs) fun D σ H q => by
  have z : rd G E (cComp (own.map (·.2)) ci t tt el) σ H (fun x H1 => gName i x σ H1 D.nx) := by
    obtain ⟨w, ρ, l, h, R, L, g⟩ := q
    exact rd_then R L g fun w1 ρ1 h1 H1 x v e1 R1 L1 r1 g1 => (show PostF G w ρ H D (.nx (l.set i (some x))) h1 from g1) w1 ρ1 H1 e1 R1 _ (L1.set i r1)
  exact rd_comp' σ H _ z
end
end Rn

set_option Elab.async false
set_option linter.all false
set_option maxRecDepth 100000
set_option maxHeartbeats 4000000
namespace Rn
open PySem PySem.Spec PyProof.Rows L2

def cFun (n m : Nat) (c : CS) : Fn := fun cs h => if cs.length = n then (c (cs.map some ++ List.replicate (m - n) none) h).bind fun f h1 => match f with
  | .rt v => .ok v h1
  | .nx _ => .ok .non h1
  | _ => .stuck else .stuck
def spF (G : Gb) (n : Nat) (F : Fn) : Sp := fun vs H Q E => vs.length = n ∧ rdF G (some E) F vs H Q

section
variable {G : Gb} {w w' : Wd} {ρ ρ' : List Addr} {H H' : Hp} {h h' : CH} {E : XO}
theorem LocR.start {cs : List CV} {vs : List V} (N : List Str) (r : RelCs G w ρ H cs vs) : LocR G w ρ H (cs.map some ++ List.replicate (N.length - cs.length) none) (L2.start N vs) := by
  refine ⟨by simp [L2.start, r.length], fun i c hc => ?_⟩
  by_cases hi : i < cs.length
  · rw [List.getElem?_append_left (by simpa using hi), List.getElem?_map] at hc
    cases q : cs[i]? with
    | none => rw [q] at hc; cases hc
    | some d =>
      rw [q] at hc; cases hc
      obtain ⟨v, h1, h2⟩ := r.get q
      refine ⟨v, ?_, h2⟩
      unfold L2.start
      rw [List.getElem?_append_left (by simpa [← r.length] using hi), List.getElem?_map, h1]; rfl
  · rw [List.getElem?_append_right (by simpa using hi), List.getElem?_replicate] at hc
    split at hc <;> cases hc
/-- a value that leaves a call: a tracked list is a list now -/
def deref (h : CH) : CV → Option CV
  | .ref n => match h[n]? with
    | some (.lst xs) => some (.lst xs)
    | some (.dt kvs) => some (.dit (kvs.map (·.1)) (kvs.map (·.2)))
    | _ => none
  | x => if noRef x = true then some x else none
/-- a call that gets no tracked thing: its own heap is its own -/
def Out.pure (h : CH) : Out CV → Out CV
  | .ok v h' => match deref h' v with
    | some v' => .ok v' h
    | none => .stuck
  | .exc k none _ => .exc k none h
  | .exc k (some v) _ => if noRef v = true then .exc k (some v) h else .stuck
  | .ask n f => .ask n fun d => (f d).pure h
  | .stuck => .stuck
def pureF (f : Fn) : Fn := fun cs h => if noRefs cs = true then (f cs []).pure h else .stuck
theorem Ext.wide {ρ0 : List Addr} (e : Ext w [] H w' ρ' H') : Ext w ρ0 H w' ρ0 H' := ⟨e.mM, e.mO, e.mF, e.new, ⟨[], by simp, by simp⟩, fun b o h1 _ h2 => e.keep b o h1 (by simp) h2, e.there, e.tup, e.frz⟩
theorem Rep.nil (R : Rep G w ρ h H) : Rep G w [] [] H := ⟨List.nodup_nil, by simp, rfl, R.mh, fun n a o h1 => by simp at h1, R.web, R.wne, R.wnf, R.fh, R.tab, R.lco, R.ow, R.pn⟩
/-- behind a call on a heap of its own -/
theorem Rep.back (R : Rep G w ρ h H) (e : Ext w [] H w' ρ' H') (R' : Rep G w' ρ' h' H') : Rep G w' ρ h H' := by
  refine ⟨R.nd, fun a ha => e.mM a (R.sub a ha), R.len, R'.mh, fun n a o h1 h2 => ?_, R'.web, R'.wne, R'.wnf, R'.fh, R'.tab, R'.lco, R'.ow, R'.pn⟩
  have ha : a ∈ ρ := List.mem_of_getElem? h1
  refine (R.obj n a o h1 h2).ext e (by simp) fun u hu => ?_
  obtain ⟨u', q1, q2⟩ := R.mh a (R.sub a ha)
  rw [hu] at q1; cases q1
  exact e.keep a u hu (by simp) (by cases u <;> first | exact True.intro | exact .inl (R.sub a ha) | exact q2.elim)
theorem pre_nil (e : Ext w [] H w' ρ' H') {n : Nat} {a : Addr} (h : ρ'[n]? = some a) : H a = none := by
  obtain ⟨q, p1, p2⟩ := e.pre
  rw [List.nil_append] at p1
  exact p2 a (by rw [← p1]; exact List.mem_of_getElem? h)
theorem Out.good_pure {Q : VK} (R : Rep G w ρ h H) : ∀ {o : Out CV}, (o.pure h).Good (PostV G w ρ H Q) (PostX G w ρ H E) → o.Good (PostV G w [] H Q) (PostX G w [] H E)
  | .ok v h', g => fun w' ρ' H' x e R' r => by
    unfold Out.pure at g
    cases q : deref h' v with
    | none => rw [q] at g; exact g.elim
    | some v' =>
      rw [q] at g
      have g' : PostV G w ρ H Q v' h := g
      cases v
      case ref n =>
        unfold deref at q
        simp only at q
        cases z : h'[n]? with
        | none => rw [z] at q; cases q
        | some o =>
          rw [z] at q
          cases o <;> try cases q
          · rename_i xs
            unfold RelC at r
            obtain ⟨a, r1, r2⟩ := r
            obtain ⟨vs, k1, k2⟩ := R'.obj n a _ r1 z
            have fr := pre_nil e r1
            have na : a ∉ ρ := fun y => R.notM fr (R.sub a y)
            have e2 : Ext w [] H (w'.out a) [] H' := ((Ext.wide (ρ0 := []) e).out fr R.mh)
            refine g' (w'.out a) ρ H' x (Ext.wide e2) ((R.back e R').out na) ?_
            unfold RelC
            exact ⟨a, vs, r2, out_not, k2, RelCs.less out_sub (fun _ z => z) (fun _ z => z) k1.any⟩
          · rename_i kvs
            unfold RelC at r
            obtain ⟨a, r1, r2⟩ := r
            obtain ⟨vs, k0, k1, k2⟩ := R'.obj n a _ r1 z
            have fr := pre_nil e r1
            have na : a ∉ ρ := fun y => R.notM fr (R.sub a y)
            have e2 : Ext w [] H (w'.out a) [] H' := ((Ext.wide (ρ0 := []) e).out fr R.mh)
            refine g' (w'.out a) ρ H' x (Ext.wide e2) ((R.back e R').out na) ?_
            unfold RelC
            exact ⟨a, vs, r2, out_not, k2, k0, RelCs.less out_sub (fun _ z => z) (fun _ z => z) k1.any⟩
      all_goals
        unfold deref at q
        simp only at q
        split at q
        · rename_i nr
          cases q
          exact g' w' ρ H' x (Ext.wide e) (R.back e R') (RelC.free ρ nr r)
        · cases q
  | .exc k none h', g => by
    cases E with
    | none => exact g
    | some E => exact fun w' ρ' H' d e R' x => (show PostX G w ρ H (some E) k none h from g) w' ρ H' d (Ext.wide e) (R.back e R') x
  | .exc k (some v) h', g => by
    unfold Out.pure at g
    split at g
    · cases E with
      | none => exact g
      | some E => exact fun w' ρ' H' d e R' x => (show PostX G w ρ H (some E) k (some v) h from g) w' ρ H' d (Ext.wide e) (R.back e R') x
    · exact g.elim
  | .ask n f, g => fun d hd => Out.good_pure R (g d hd)
  | .stuck, g => g.elim
theorem rd_pure {f : Fn} : ∀ xs H Q, rdF G E (pureF f) xs H Q → rdF G E f xs H Q := fun xs H Q ⟨w, ρ, h, cs, R, r, g⟩ => by
  unfold pureF at g
  split at g
  · rename_i nr
    exact ⟨w, [], [], cs, R.nil, RelCs.free [] nr r, Out.good_pure R g⟩
  · exact g.elim
/-- a call whose first argument is a bag, the others are values -/
def Out.bagged (n : Nat) (h : CH) : Out CV → Out CV
  | .ok v h' => match h' with
    | .bag :: _ => match v with
      | .ref (m + 1) => match deref h' (.ref (m + 1)) with
        | some v' => .ok v' h
        | none => .stuck
      | v => if noRef v = true then .ok v h else .stuck
    | _ => .stuck
  | .exc _ _ _ => .stuck
  | .ask k f => .ask k fun d => (f d).bagged n h
  | .stuck => .stuck
def bagF (f : Fn) : Fn := fun cs h => match cs with
  | .ref n :: r => if noRefs r = true then (match h[n]? with
    | some .bag => (f (.ref 0 :: r) [.bag]).bagged n h
    | _ => .stuck) else .stuck
  | _ => .stuck
end

/-! ### defs: what is known of the guards around -/
structure FnG (P : Program) (W : World) (K : PySem.W.Frag) (mg : Str → Option Value) (base : Heap) (CX : CXT) (k : Nat) (f : Addr) (fd : FuncData) (ps : List Str) (sp : Sp) : Prop where
  len : ∀ vs H Q E, sp vs H Q E → vs.length = ps.length
  go : ∀ (A : Around) (outer : List Env) (s : Shared) (H : Hp) (args : Args) (us : List Value) (vs : List V) (Q : VK) (E : XK), A.guards = some [] → Room k A → Env0 P W K mg base A outer s H → BindsTo s fd args (ps.zip us) →
    Vals vs us → sp vs H Q E → codeAny (model P W) A (.call (.ref f) args) (CR CX outer P W H s Q E) s
theorem FnG.mono {P : Program} {W : World} {K : PySem.W.Frag} {mg : Str → Option Value} {base : Heap} {CX : CXT} {j k : Nat} {f : Addr} {fd : FuncData} {ps : List Str} {sp : Sp} (F : FnG P W K mg base CX j f fd ps sp) (h : j ≤ k) : FnG P W K mg base CX k f fd ps sp :=
  ⟨F.len, fun A o s H args us vs Q E g r => F.go A o s H args us vs Q E g (r.mono h)⟩
theorem FnOk.toG {P : Program} {W : World} {K : PySem.W.Frag} {mg : Str → Option Value} {base : Heap} {CX : CXT} {k : Nat} {f : Addr} {fd : FuncData} {ps : List Str} {sp : Sp} (F : FnOk P W K mg base CX k f fd ps sp) : FnG P W K mg base CX k f fd ps sp :=
  ⟨F.len, fun A o s H args us vs Q E _ r => F.run A o s H args us vs Q E r⟩
section
variable {P : Program} {W : World} {K : PySem.W.Frag} {mg : Str → Option Value} {base : Heap} {G : Gb}
theorem fnG_raw {x qual : Str} {params : Arguments} {body : List Stmt} {scope : Scope} {f : Addr} {N ps : List Str} {k : Nat} {sp : Sp} {dV kV doc pm cdv ct oc : Value} {an od : Option Addr} {osl : Array (Option Value)} (lk : K.lookup f = some ⟨oc, od, .func (PySem.W.fnOf x qual params body scope dV kV doc pm an cdv ct), osl⟩) (hcd : PySem.W.codeIn K cdv qual = true)
    (S : FnScope N ps scope) (len : ∀ vs H Q E, sp vs H Q E → vs.length = ps.length)
    (hb : ∀ (A : Around) (outer : List Env) (s : Shared) (H : Hp) (vs : List V) (Q : VK) (E : XK), A.guards = some [] → Room k (A.deeper (envOfC qual scope s.heap.objs.size f cdv)) → sp vs H Q E →
      ∃ t, PSs (cxOf (L2.CX P W) P W K mg base N qual scope f cdv A outer s H E) body t ∧ t { nx := fun _ H' => Q .non H', rt := Q } (L2.start N vs) H) : FnG P W K mg base (L2.CX P W) (k + 1) f (PySem.W.fnOf x qual params body scope dV kV doc pm an cdv ct) ps sp := by
  constructor
  · exact len
  · intro A outer s H args us vs Q E gd room ev bind rel want
    have inH : K.In s.heap := ev.mod.kin.keeps (fun b o e => And.left (ev.bs b o e))
    have noLim : s.heap.NoLimit := ev.mod.nolimit.keeps (fun b o e => And.left (ev.bs b o e))
    refine codeAny_call_function room.depth (inH f _ lk) rfl S.co S.gen rfl (PySem.W.codeRec_of inH hcd) (bind _ _ _ _ ?_)
    refine wpAny_newFunctionEnv_cells S.kind ?kinds fun env ee s1 made => ?_
    case kinds =>
      intro y hy
      have q := S.par y.1 (List.of_mem_zip (show (y.1, y.2) ∈ _ from hy)).1
      exact q.imp (fun z => z) fun z => ⟨z, PySem.W.cellsFrom_some _ _ _ (.inl z)⟩
    subst ee
    refine ⟨noLim.keeps made.toInCall.keep, codeAny_func ?_⟩
    obtain ⟨t, bodyOk, meets⟩ := hb A outer s H vs Q E gd (room.deeper _) want
    have inv0 : Inv (cxOf (L2.CX P W) P W K mg base N qual scope f cdv A outer s H E) [] (L2.start N vs) H s1 := inv_start S room.hd ev (len _ _ _ _ want) rel made
    refine wpAny_mono (bodyOk.run [] s1 (L2.start N vs) H _ inv0 meets) ?_ fun _ _ z => z
    intro fl s' hs
    cases fl with
    | ret u => obtain ⟨v, σ', H', J, rv, q⟩ := hs; exact ⟨v, H', J.os, J.bare, J.base, J.hok, rv, q⟩
    | next => obtain ⟨σ', H', J, q⟩ := hs; exact ⟨V.non, H', J.os, J.bare, J.base, J.hok, (rfl : RelV V.non Value.none), q⟩
    | brk => exact hs.elim fun _ z => z.elim fun _ z => z.2.elim
    | cont => exact hs.elim fun _ z => z.elim fun _ z => z.2.elim
theorem fnG_of {x qual : Str} {st : Stmt} {f : Addr} {fd : FuncData} {N ps : List Str} {k : Nat} {sp : Sp} (F : Fun K x qual st f fd) (S : FnScope N ps (defScope st)) (len : ∀ vs H Q E, sp vs H Q E → vs.length = ps.length)
    (hb : ∀ (cdv : Value) (A : Around) (outer : List Env) (s : Shared) (H : Hp) (vs : List V) (Q : VK) (E : XK), fd.code = cdv → A.guards = some [] → Room k (A.deeper (envOfC qual (defScope st) s.heap.objs.size f cdv)) → sp vs H Q E →
      ∃ t, PSs (cxOf (L2.CX P W) P W K mg base N qual (defScope st) f cdv A outer s H E) (defBody st) t ∧ t { nx := fun _ H' => Q .non H', rt := Q } (L2.start N vs) H) : FnG P W K mg base (L2.CX P W) (k + 1) f fd ps sp := by
  obtain ⟨oc, od, kV, doc, pm, an, cdv, ct, osl, eF, lk, hcd⟩ := F.ex
  subst eF
  exact fnG_raw lk hcd S len fun A outer s H vs Q E gd hr h => hb cdv A outer s H vs Q E rfl gd hr h
/-- a def's term keeps its promise -/
theorem fn_run {x qual : Str} {st : Stmt} {f : Addr} {fd : FuncData} {N ps : List Str} {k : Nat} {c : CS} (F : Fun K x qual st f fd) (S : FnScope N ps (defScope st))
    (hb : ∀ (cdv : Value) (A : Around) (outer : List Env) (s : Shared) (H : Hp) (E : XK), A.guards = some [] → Room k (A.deeper (envOfC qual (defScope st) s.heap.objs.size f cdv)) → XSs (cxOf (L2.CX P W) P W K mg base N qual (defScope st) f cdv A outer s H E) G (some E) (defBody st) c) :
    FnG P W K mg base (L2.CX P W) (k + 1) f fd ps (spF G ps.length (cFun ps.length N.length c)) := by
  refine fnG_of F S (fun vs H Q E h => h.1) fun cdv A outer s H vs Q E _ gd hr hsp => ⟨_, hb cdv A outer s H E gd hr, ?_⟩
  obtain ⟨hl, w, ρ, h, cs, R, r, g⟩ := hsp
  unfold cFun at g
  split at g
  · rename_i hn
    refine ⟨w, ρ, _, h, R, LocR.start N r, ?_⟩
    rw [hn]
    refine (Out.good_bind.mp g).mono (fun fl h1 g1 w' ρ' H' e R' => ?_) fun _ _ _ q => q
    cases fl with
    | nx l => exact fun σ' L' => (show PostV G w ρ H Q .non h1 from g1) w' ρ' H' _ e R' cr_non
    | rt v => exact fun u ru => (show PostV G w ρ H Q v h1 from g1) w' ρ' H' u e R' ru
    | bk l => exact g1.elim
    | ct l => exact g1.elim
  · exact g.elim
end

/-! ### calls of the text's own defs -/
/-- what may be raised within X is what is wished for -/
def Lets (X : Cx) (E : XO) : Prop := match E with
  | none => True
  | some E => Takes X (fun cls d _ H => E cls d H)
def eOf : XO → XK
  | none => E0
  | some E => E
theorem Lets.pass {X : Cx} {E : XO} (t : Lets X E) : Passes (L2.CX X.prog X.w) X (eOf E) := by
  cases E with
  | none => exact passL
  | some E => exact passes_call t fun _ _ _ _ h => h
theorem rdF_e {G : Gb} {E : XO} {F : Fn} {vs : List V} {H : Hp} {Q : VK} (q : rdF G E F vs H Q) : rdF G (some (eOf E)) F vs H Q := by
  cases E with
  | some E => exact q
  | none =>
    obtain ⟨w, ρ, h, cs, R, r, g⟩ := q
    exact ⟨w, ρ, h, cs, R, r, g.mono (fun _ _ q => q) fun _ _ _ q => q.elim⟩
def cCall (n : Nat) (f : Fn) : Fn := fun cs h => if cs.length = n then f cs h else .stuck
section
variable {X : Cx} {G : Gb} {E : XO} {k n : Nat} {f : Addr} {fd : FuncData} {ps : List Str} {F F' : Fn} {x : Str} {p pos : Pos} {e : Expr} {es : List Expr} {cs : CEs} {sp : Sp} {EX : XK}
theorem run_fnG {pins : List (Addr × Obj)} {σ : L2.St} {H : Hp} {s : Shared} {Q : VK} {args : Args} {us : List Value} {vs : List V} (Fo : FnG X.prog X.w X.K X.mg X.base (L2.CX X.prog X.w) k f fd ps sp) (gd : X.A.guards = some []) (hr : Room k X.A)
    (hx : Passes (L2.CX X.prog X.w) X EX) (I : Inv X pins σ H s) (hb : BindsTo s fd args (ps.zip us)) (r : Vals vs us) (h : sp vs H Q EX) : codeAny (model X.prog X.w) X.A (.call (.ref f) args) (fun r s' => match r with | .ok (.ret u) => EP X pins σ Q u s' | .error e => X.xe e s' | _ => False) s := by
  refine codeAny_mono (Fo.go X.A X.stack s H args us vs Q EX gd hr I.env0 hb r h) fun r s' hq => ?_
  cases r with
  | error e => exact hx _ _ _ _ _ _ I hq
  | ok fl => cases fl with
    | ret u => exact I.after hq
    | next => exact hq
    | brk => exact hq
    | cont => exact hq
theorem call_fnG {pins : List (Addr × Obj)} {σ : L2.St} {H : Hp} {s : Shared} {Q : VK} {us : List Value} {kw : List (Str × Value)} {vs : List V} {us' : List Value} (Fo : FnG X.prog X.w X.K X.mg X.base (L2.CX X.prog X.w) k f fd ps sp) (gd : X.A.guards = some []) (hr : Room k X.A)
    (hx : Passes (L2.CX X.prog X.w) X EX) (I : Inv X pins σ H s) (hb : BindsTo s fd ⟨us, kw⟩ (ps.zip us')) (r : Vals vs us') (h : sp vs H Q EX) : wpAny (model X.prog X.w) X.A (call (.ref f) us kw) (EP X pins σ Q) X.xe s := by
  refine wpAny_call (codeAny_mono (run_fnG Fo gd hr hx I hb r h) fun r s' hq => ?_)
  cases r with
  | error e => exact hq
  | ok fl => cases fl <;> exact hq
theorem rd_call (hw : ∀ xs H Q, rdF G E F' xs H Q → rdF G E F xs H Q) {dvs : List V} {dcs : List CV} (hd : ∀ w ρ H, RelCs G w ρ H dcs dvs) : ∀ σ H Q, rd G E (cF (fun cs => cCall n F' (cs ++ dcs)) cs) σ H Q → tCall (spF G n F) dvs (eOf E) (rds G E cs) σ H Q := fun σ H Q ⟨w, ρ, l, h, R, L, g⟩ => by
  refine rds_then R L g fun w1 ρ1 h1 H1 xs vs e1 R1 L1 r1 g1 => ?_
  have r2 : RelCs G w1 ρ1 H1 (xs ++ dcs) (vs ++ dvs) := r1.append (hd _ _ _)
  simp only [cCall] at g1
  split at g1
  · rename_i hl
    exact ⟨by rw [← r2.length]; exact hl, rdF_e (hw _ _ _ ⟨w1, ρ1, h1, _, R1, r2, g1.mono (fun _ _ q => q.at e1) fun _ _ _ q => q⟩)⟩
  · exact g1.elim
/-- f(..), the last ones by default -/
theorem xe_callD {dvs : List V} {ds : List Value} {dcs : List CV} (Fo : FnG X.prog X.w X.K X.mg X.base (L2.CX X.prog X.w) k f fd ps (spF G n F)) (gd : X.A.guards = some []) (hr : Room k X.A) (hg : Gl X x) (hm : X.mg x = some (.ref f)) (hk : PySem.W.keepIn X.K (.ref f) = true) (hb : L2.Binds X.K fd ps ds) (hd : Vals dvs ds)
    (hc : ∀ w ρ H, RelCs G w ρ H dcs dvs) (le : Lets X E) (hw : ∀ xs H Q, rdF G E F' xs H Q → rdF G E F xs H Q) (ha : XA X G E (e :: es) cs) (hdb : (x == ("__debug__" : Str)) = false := by decide) (he : starEach (e :: es) X.env = (false, eval e X.env) :: starEach es X.env := by rfl)
    (hpl : (backTo pos (starEach es X.env)).any (·.1) = false := by rfl) : XE X G E (.Call (.Name x p) (e :: es) [] pos) (cF (fun cs => cCall n F' (cs ++ dcs)) cs) := by
  refine pe_imp (t := tCall (spF G n F) dvs (eOf E) (rds G E cs)) ⟨fun pins s σ H Q I h => ?_⟩ (rd_call hw hc)
  refine wpAny_Call_Name_kw (ld_glob I hg hm (PySem.W.callWith_K (h₀ := X.base) I.ok.mod.kin hk (thn (ha.run pos pins s σ H _ I h) fun us s1 hh => ?_) he hpl) hdb)
  obtain ⟨vs, H1, I1, r, q⟩ := hh
  have r2 := r.append hd
  exact ⟨I1.kIn, call_fnG Fo gd hr le.pass I1 (hb s1 us I1.kIn (by rw [← r2.length]; exact Fo.len _ _ _ _ q)) r2 q⟩
theorem xe_call (Fo : FnG X.prog X.w X.K X.mg X.base (L2.CX X.prog X.w) k f fd ps (spF G n F)) (gd : X.A.guards = some []) (hr : Room k X.A) (hg : Gl X x) (hm : X.mg x = some (.ref f)) (hk : PySem.W.keepIn X.K (.ref f) = true) (hb : L2.Binds X.K fd ps []) (le : Lets X E)
    (hw : ∀ xs H Q, rdF G E F' xs H Q → rdF G E F xs H Q) (ha : XA X G E (e :: es) cs) (hdb : (x == ("__debug__" : Str)) = false := by decide) (he : starEach (e :: es) X.env = (false, eval e X.env) :: starEach es X.env := by rfl)
    (hpl : (backTo pos (starEach es X.env)).any (·.1) = false := by rfl) : XE X G E (.Call (.Name x p) (e :: es) [] pos) (cF (cCall n F') cs) := by
  have q := xe_callD (dcs := []) Fo gd hr hg hm hk hb .nil (fun _ _ _ => RelCs.nil) le hw ha hdb he hpl (p := p)
  have e2 : (fun cs => cCall n F' (cs ++ [])) = cCall n F' := by funext cs; rw [List.append_nil]
  rw [e2] at q
  exact q
/-- f() -/
theorem xe_call0 {dvs : List V} {ds : List Value} {dcs : List CV} (Fo : FnG X.prog X.w X.K X.mg X.base (L2.CX X.prog X.w) k f fd ps (spF G n F)) (gd : X.A.guards = some []) (hr : Room k X.A) (hg : Gl X x) (hm : X.mg x = some (.ref f)) (hk : PySem.W.keepIn X.K (.ref f) = true) (hb : L2.Binds X.K fd ps ds) (hd : Vals dvs ds)
    (hc : ∀ w ρ H, RelCs G w ρ H dcs dvs) (le : Lets X E) (hw : ∀ xs H Q, rdF G E F' xs H Q → rdF G E F xs H Q) (hdb : (x == ("__debug__" : Str)) = false := by decide) : XE X G E (.Call (.Name x p) [] [] pos) (cF (fun cs => cCall n F' (cs ++ dcs)) cNil) := by
  refine pe_imp (t := tCall (spF G n F) dvs (eOf E) (rds G E cNil)) ⟨fun pins s σ H Q I h => ?_⟩ (rd_call hw hc)
  obtain ⟨w, ρ, l, h0, R, L, g⟩ := h
  have q := (show PostVs G w ρ H _ [] h0 from g) w ρ H [] (Ext.refl w ρ H) R RelCs.nil
  refine wpAny_Call_Name_kw (ld_glob I hg hm (PySem.W.callWith_K0 I.kIn hk ?_) hdb)
  have l2 : ds.length = ps.length := by rw [← hd.length]; exact Fo.len _ _ _ _ q
  exact call_fnG (us' := ds) Fo gd hr le.pass I (hb s [] I.kIn l2) hd q

/-! ### keywords alone, keywords behind -/
/-- the keywords' values, written from the left -/
structure XKw (X : Cx) (G : Gb) (E : XO) (kws : List Keyword) (c : CEs) : Prop where
  go : ∀ (pos : Pos) (pins : List (Addr × Obj)) (s : Shared) (σ : L2.St) (H : Hp) (Q : List V → Hp → Prop), Inv X pins σ H s → rds G E c σ H Q → wpAny (model X.prog X.w) X.A (evalAll ((backToKw pos (keywordEach kws X.env)).map (·.2))) (AP X pins σ Q) X.xe s
variable {kws : List Keyword} {nm : Option Str} {kpos : Pos} {ca : CE}
theorem xk_nil : XKw X G E [] cNil := ⟨fun pos pins s σ H Q I h => pk_nil.run pos pins s σ H Q I (by
  obtain ⟨w, ρ, l, h0, R, L, g⟩ := h
  exact (show PostVs G w ρ H _ [] h0 from g) w ρ H [] (Ext.refl w ρ H) R RelCs.nil)⟩
theorem xk_cons (ha : XE X G E e ca) (hr : XKw X G E kws cs) : XKw X G E (⟨nm, e, kpos⟩ :: kws) (cCons ca cs) := ⟨fun pos pins s σ H Q I h => (pk_cons ha ⟨hr.go⟩).run pos pins s σ H Q I (by
  obtain ⟨w, ρ, l, h, R, L, g⟩ := h
  exact rd_then R L g fun w1 ρ1 h1 H1 x v e1 R1 L1 r1 g1 => rds_then R1 L1 g1 fun w2 ρ2 h2 H2 xs vs e2 R2 L2 r2 g2 =>
    (show PostVs G w ρ H Q (x :: xs) h2 from g2) w2 ρ2 H2 _ (e1.trans e2) R2 (RelCs.cons (r1.up e2 R1) r2))⟩
/-- the order of the parameters: pm i is the place of the i-th parameter's value among positional ones, then keywords' -/
def permV {α : Type} (pm : List Nat) (xs : List α) : List α := pm.filterMap fun i => xs[i]?
theorem perm_vals {xs : List V} {ys : List Value} (h : Vals xs ys) : ∀ pm : List Nat, Vals (permV pm xs) (permV pm ys)
  | [] => .nil
  | i :: pm => by
    have ih := perm_vals h pm
    unfold permV at ih ⊢
    rw [List.filterMap_cons, List.filterMap_cons]
    cases q : xs[i]? with
    | none =>
      have z : ys[i]? = none := by
        rw [List.getElem?_eq_none_iff] at q ⊢
        rw [← h.length]; exact q
      rw [z]; exact ih
    | some x =>
      obtain ⟨y, e1, e2⟩ := h.get q
      rw [e1]; exact .cons e2 ih
theorem perm_rels {w : Wd} {ρ : List Addr} {H : Hp} {xs : List CV} {ys : List V} (h : RelCs G w ρ H xs ys) : ∀ pm : List Nat, RelCs G w ρ H (permV pm xs) (permV pm ys)
  | [] => RelCs.nil
  | i :: pm => by
    have ih := perm_rels h pm
    unfold permV at ih ⊢
    rw [List.filterMap_cons, List.filterMap_cons]
    cases q : xs[i]? with
    | none =>
      have z : ys[i]? = none := by
        rw [List.getElem?_eq_none_iff] at q ⊢
        rw [← h.length]; exact q
      rw [z]; exact ih
    | some x =>
      obtain ⟨y, e1, e2⟩ := h.get q
      rw [e1]; exact RelCs.cons e2 ih
/-- how the given ones bind -/
def KP (K : PySem.W.Frag) (fd : FuncData) (ps ks : List Str) (np : Nat) (pm : List Nat) : Prop := ∀ (s : Shared) (us ws : List Value), K.In s.heap → us.length = np → ws.length = ks.length → BindsTo s fd ⟨us, ks.zip ws⟩ (ps.zip (permV pm (us ++ ws)))
def cKey (np nk : Nat) (pm : List Nat) (n : Nat) (f : Fn) (a b : CEs) : CE := fun l h => (a l h).bind fun xs h1 => (b l h1).bind fun ys h2 => if xs.length = np ∧ ys.length = nk then cCall n f (permV pm (xs ++ ys)) h2 else .stuck
variable {np nk : Nat} {pm : List Nat} {ks : List Str} {ck : CEs}
/-- f(e, .., k = v, ..) -/
theorem xe_callK (Fo : FnG X.prog X.w X.K X.mg X.base (L2.CX X.prog X.w) k f fd ps (spF G n F)) (gd : X.A.guards = some []) (hr : Room k X.A) (hg : Gl X x) (hm : X.mg x = some (.ref f)) (hk : PySem.W.keepIn X.K (.ref f) = true) (hb : KP X.K fd ps ks np pm) (le : Lets X E)
    (hw : ∀ xs H Q, rdF G E F' xs H Q → rdF G E F xs H Q) (ha : XA X G E (e :: es) cs) (hkw : XKw X G E kws ck) (hnk : ks.length = nk) (hall : (backToKw pos (keywordEach kws X.env)).all (·.1.isSome) = true := by rfl) (hks : (backToKw pos (keywordEach kws X.env)).filterMap (·.1) = ks := by rfl)
    (hdb : (x == ("__debug__" : Str)) = false := by decide) (he : starEach (e :: es) X.env = (false, eval e X.env) :: starEach es X.env := by rfl) (hpl : ((backTo pos (starEach (e :: es) X.env)).any (·.1) || (backToKw pos (keywordEach kws X.env)).any (·.1.isNone)) = false := by rfl) :
    XE X G E (.Call (.Name x p) (e :: es) kws pos) (cKey np nk pm n F' cs ck) := by
  refine ⟨fun pins s σ H Q I h => ?_⟩
  obtain ⟨w, ρ, l, h0, R, L, g⟩ := h
  refine wpAny_Call_Name_kw (ld_glob I hg hm (PySem.W.callWith_KW (h₀ := X.base) I.ok.mod.kin hk hall (thn (ha.run pos pins s σ H _ I (rds_then R L g fun w1 ρ1 h1 H1 xs vs e1 R1 L1 r1 g1 => (⟨w1, ρ1, l, h1, xs, e1, R1, L1, r1, g1⟩ : ∃ w1 ρ1 l1 h1 xs, Ext w ρ H w1 ρ1 H1 ∧ Rep G w1 ρ1 h1 H1 ∧ LocR G w1 ρ1 H1 l1 σ ∧ RelCs G w1 ρ1 H1 xs vs ∧ ((ck l1 h1).bind fun ys h2 => if xs.length = np ∧ ys.length = nk then cCall n F' (permV pm (xs ++ ys)) h2 else .stuck).Good (PostV G w ρ H Q) (PostX G w1 ρ1 H1 E)))) fun us s1 hh => ?_) hpl he) hdb)
  obtain ⟨vs, H1, I1, r, w1, ρ1, l1, h1, xs, e1, R1, L1, r1, g1⟩ := hh
  refine thn (hkw.go pos pins s1 σ H1 _ I1 (rds_then R1 L1 g1 fun w2 ρ2 h2 H2 ys zs e2 R2 L2 r2 g2 => (⟨w2, ρ2, h2, ys, e2, R2, r2, g2⟩ : ∃ w2 ρ2 h2 ys, Ext w1 ρ1 H1 w2 ρ2 H2 ∧ Rep G w2 ρ2 h2 H2 ∧ RelCs G w2 ρ2 H2 ys zs ∧ (if xs.length = np ∧ ys.length = nk then cCall n F' (permV pm (xs ++ ys)) h2 else .stuck).Good (PostV G w ρ H Q) (PostX G w2 ρ2 H2 E)))) fun ws s2 hh => ?_
  obtain ⟨zs, H2, I2, rz, w2, ρ2, h2, ys, e2, R2, r2, g2⟩ := hh
  split at g2
  case isFalse => exact g2.elim
  case isTrue hl =>
  unfold cCall at g2
  split at g2
  case isFalse => exact g2.elim
  case isTrue hn =>
  have r3 : RelCs G w2 ρ2 H2 (permV pm (xs ++ ys)) (permV pm (vs ++ zs)) := perm_rels ((r1.up e2 R1).append r2) pm
  refine ⟨I2.kIn, ?_⟩
  rw [hks]
  refine call_fnG Fo gd hr le.pass I2 (hb s2 us ws I2.kIn (by rw [← r.length, ← r1.length]; exact hl.1) (by rw [← rz.length, ← r2.length, hnk]; exact hl.2)) (perm_vals (r.append rz) pm) ⟨by rw [← r3.length]; exact hn, rdF_e (hw _ _ _ ⟨w2, ρ2, h2, _, R2, r3, g2.mono (fun _ _ q => q.at (e1.trans e2)) fun _ _ _ q => q⟩)⟩
/-- f(k = v, ..) -/
theorem xe_callK0 (Fo : FnG X.prog X.w X.K X.mg X.base (L2.CX X.prog X.w) k f fd ps (spF G n F)) (gd : X.A.guards = some []) (hr : Room k X.A) (hg : Gl X x) (hm : X.mg x = some (.ref f)) (hk : PySem.W.keepIn X.K (.ref f) = true) (hb : KP X.K fd ps ks 0 pm) (le : Lets X E)
    (hw : ∀ xs H Q, rdF G E F' xs H Q → rdF G E F xs H Q) (hkw : XKw X G E kws ck) (hnk : ks.length = nk) (hall : (backToKw pos (keywordEach kws X.env)).all (·.1.isSome) = true := by rfl) (hks : (backToKw pos (keywordEach kws X.env)).filterMap (·.1) = ks := by rfl)
    (hdb : (x == ("__debug__" : Str)) = false := by decide) (hpl : ((backTo pos (starEach [] X.env)).any (·.1) || (backToKw pos (keywordEach kws X.env)).any (·.1.isNone)) = false := by rfl) :
    XE X G E (.Call (.Name x p) [] kws pos) (cKey 0 nk pm n F' cNil ck) := by
  refine ⟨fun pins s σ H Q I h => ?_⟩
  obtain ⟨w, ρ, l, h0, R, L, g0⟩ := h
  have g : ((ck l h0).bind fun ys h2 => if ([] : List CV).length = 0 ∧ ys.length = nk then cCall n F' (permV pm ([] ++ ys)) h2 else .stuck).Good (PostV G w ρ H Q) (PostX G w ρ H E) := g0
  refine wpAny_Call_Name_kw (ld_glob I hg hm (PySem.W.callWith_KW0 (h₀ := X.base) I.ok.mod.kin hk hall (thn (hkw.go pos pins s σ H _ I (rds_then R L g fun w2 ρ2 h2 H2 ys zs e2 R2 L2 r2 g2 => (⟨w2, ρ2, h2, ys, e2, R2, r2, g2⟩ : ∃ w2 ρ2 h2 ys, Ext w ρ H w2 ρ2 H2 ∧ Rep G w2 ρ2 h2 H2 ∧ RelCs G w2 ρ2 H2 ys zs ∧ (if ([] : List CV).length = 0 ∧ ys.length = nk then cCall n F' (permV pm ([] ++ ys)) h2 else .stuck).Good (PostV G w ρ H Q) (PostX G w2 ρ2 H2 E)))) fun ws s2 hh => ?_) hpl) hdb)
  obtain ⟨zs, H2, I2, rz, w2, ρ2, h2, ys, e2, R2, r2, g2⟩ := hh
  split at g2
  case isFalse => exact g2.elim
  case isTrue hl =>
  unfold cCall at g2
  split at g2
  case isFalse => exact g2.elim
  case isTrue hn =>
  have r3 : RelCs G w2 ρ2 H2 (permV pm ([] ++ ys)) (permV pm ([] ++ zs)) := perm_rels (RelCs.nil.append r2) pm
  refine ⟨I2.kIn, ?_⟩
  rw [hks]
  exact call_fnG Fo gd hr le.pass I2 (hb s2 [] ws I2.kIn rfl (by rw [← rz.length, ← r2.length, hnk]; exact hl.2)) (perm_vals (Vals.append .nil rz) pm) ⟨by rw [← r3.length]; exact hn, rdF_e (hw _ _ _ ⟨w2, ρ2, h2, _, R2, r3, g2.mono (fun _ _ q => q.at e2) fun _ _ _ q => q⟩)⟩
end
end Rn

set_option Elab.async false
set_option linter.all false
set_option maxRecDepth 100000
set_option maxHeartbeats 4000000
namespace Rn
open PySem L2

/-! ### small words over values -/
def insI (x : Int) : List Int → List Int
  | [] => [x]
  | y :: r => if x ≤ y then x :: y :: r else y :: insI x r
def isort : List Int → List Int
  | [] => []
  | x :: r => insI x (isort r)
theorem insI_perm (x : Int) : ∀ l : List Int, (insI x l).Perm (x :: l)
  | [] => List.Perm.refl _
  | y :: r => by
    unfold insI
    split
    · exact List.Perm.refl _
    · exact ((insI_perm x r).cons y).trans (List.Perm.swap x y r)
theorem isort_perm : ∀ l : List Int, (isort l).Perm l
  | [] => List.Perm.refl _
  | x :: r => (insI_perm x _).trans ((isort_perm r).cons x)
theorem insI_sorted (x : Int) : ∀ {l : List Int}, l.Pairwise (· ≤ ·) → (insI x l).Pairwise (· ≤ ·)
  | [], _ => by unfold insI; simp
  | y :: r, h => by
    unfold insI
    rw [List.pairwise_cons] at h
    split
    · rename_i q
      rw [List.pairwise_cons]
      refine ⟨fun z hz => ?_, List.pairwise_cons.mpr h⟩
      rcases List.mem_cons.mp hz with e | e
      · rw [e]; exact q
      · exact Int.le_trans q (h.1 z e)
    · rename_i q
      rw [List.pairwise_cons]
      refine ⟨fun z hz => ?_, insI_sorted x h.2⟩
      rcases List.mem_cons.mp ((insI_perm x r).mem_iff.mp hz) with e | e
      · rw [e]; omega
      · exact h.1 z e
theorem isort_sorted : ∀ l : List Int, (isort l).Pairwise (· ≤ ·)
  | [] => List.Pairwise.nil
  | x :: r => insI_sorted x (isort_sorted r)
theorem sorted_eq {l m : List Int} (p : m.Perm l) (s : m.Pairwise (· ≤ ·)) : m = isort l :=
  List.Perm.eq_of_pairwise (fun a b _ _ h1 h2 => Int.le_antisymm h1 h2) s (isort_sorted l) (p.trans (isort_perm l).symm)
def blsOf : List CV → Option (List Bool)
  | [] => some []
  | .bl i :: r => (blsOf r).map (i :: ·)
  | _ => none

/-! ### built-in functions -/
def fLen : Fn := fun cs h => match cs with
  | [.str z] => if z.length ≤ big then .ok (.int z.length) h else .stuck
  | [x] => match seqOf h x with
    | some xs => .ok (.int (xs.length : Nat)) h
    | none => .stuck
  | _ => .stuck
def fII (f : Int → Int → Int) : Fn := fun cs h => match cs with
  | [.int i, .int j] => .ok (.int (f i j)) h
  | _ => .stuck
def fMin2 : Fn := fII fun i j => if j < i then j else i
def fMax2 : Fn := fII fun i j => if j > i then j else i
def fAbs : Fn := fun cs h => match cs with
  | [.int i] => .ok (.int (if i < 0 then -i else i)) h
  | _ => .stuck
def fDivmod : Fn := fun cs h => match cs with
  | [.int i, .int j] => if 0 < j ∧ j < 1073741824 then .ok (.tup [.int (i / j), .int (i % j)]) h else .stuck
  | _ => .stuck
def fTuple : Fn := fun cs h => match cs with
  | [x] => match seqOf h x with
    | some xs => .ok (.tup xs) h
    | none => .stuck
  | _ => .stuck
def fList : Fn := fun cs h => match cs with
  | [x] => match seqOf h x with
    | some xs => .ok (.lst xs) h
    | none => .stuck
  | _ => .stuck
def onL {α : Type} (g : List CV → Option α) (k : α → CV) : Fn := fun cs h => match cs with
  | [x] => match lstOf h x with
    | some xs => match g xs with
      | some a => .ok (k a) h
      | none => .stuck
    | none => .stuck
  | _ => .stuck
def fAll : Fn := onL blsOf fun bs => .bl (bs.all id)
def fAny : Fn := onL blsOf fun bs => .bl (bs.any id)
def fSum : Fn := onL intsOf fun ns => .int ns.sum
def ints64 (xs : List CV) : Option (List Int) := match intsOf xs with
  | some ns => if ns.length < 64 then some ns else none
  | none => none
def fSorted : Fn := onL ints64 fun ns => .lst ((isort ns).map CV.int)
def ints1 (xs : List CV) : Option (List Int) := match intsOf xs with
  | some (n :: ns) => some (n :: ns)
  | _ => none
def maxI : List Int → Int
  | [] => 0
  | [x] => x
  | x :: r => if x ≤ maxI r then maxI r else x
def minI : List Int → Int
  | [] => 0
  | [x] => x
  | x :: r => if minI r ≤ x then minI r else x
theorem maxI_mem : ∀ {l : List Int}, l ≠ [] → maxI l ∈ l ∧ ∀ y ∈ l, y ≤ maxI l
  | [], h => absurd rfl h
  | [x], _ => ⟨by simp [maxI], fun y hy => by simp at hy; subst hy; exact Int.le_refl _⟩
  | x :: y :: r, _ => by
    obtain ⟨h1, h2⟩ := maxI_mem (l := y :: r) (by simp)
    have e : maxI (x :: y :: r) = if x ≤ maxI (y :: r) then maxI (y :: r) else x := rfl
    rw [e]
    split
    · rename_i q
      exact ⟨List.mem_cons_of_mem _ h1, fun z hz => by
        rcases List.mem_cons.mp hz with e | e
        · rw [e]; exact q
        · exact h2 z e⟩
    · rename_i q
      exact ⟨List.mem_cons_self, fun z hz => by
        rcases List.mem_cons.mp hz with e | e
        · rw [e]; exact Int.le_refl _
        · have := h2 z e; omega⟩
theorem minI_mem : ∀ {l : List Int}, l ≠ [] → minI l ∈ l ∧ ∀ y ∈ l, minI l ≤ y
  | [], h => absurd rfl h
  | [x], _ => ⟨by simp [minI], fun y hy => by simp at hy; subst hy; exact Int.le_refl _⟩
  | x :: y :: r, _ => by
    obtain ⟨h1, h2⟩ := minI_mem (l := y :: r) (by simp)
    have e : minI (x :: y :: r) = if minI (y :: r) ≤ x then minI (y :: r) else x := rfl
    rw [e]
    split
    · rename_i q
      exact ⟨List.mem_cons_of_mem _ h1, fun z hz => by
        rcases List.mem_cons.mp hz with e | e
        · rw [e]; exact q
        · exact h2 z e⟩
    · rename_i q
      exact ⟨List.mem_cons_self, fun z hz => by
        rcases List.mem_cons.mp hz with e | e
        · rw [e]; exact Int.le_refl _
        · have := h2 z e; omega⟩
def fMaxL : Fn := onL ints1 fun ns => .int (maxI ns)
def fMinL : Fn := onL ints1 fun ns => .int (minI ns)
def fInt : Fn := fun cs h => match cs with
  | [.int i] => .ok (.int i) h
  | [.bl b] => .ok (.int (if b then 1 else 0)) h
  | _ => .stuck

section
variable {X : Cx} {G : Gb} {E : XO} {w : Wd} {ρ : List Addr} {H : Hp} {h : CH}
theorem blsOf_ok : ∀ {xs : List CV} {ns : List Bool} {vs : List V}, RelCs G w ρ H xs vs → blsOf xs = some ns → vs = ns.map V.bl
  | [], ns, vs, r, e => by unfold blsOf at e; cases e; unfold RelCs at r; exact r
  | x :: xs, ns, vs, r, e => by
    unfold RelCs at r
    obtain ⟨v, rs, h1, h2, h3⟩ := r
    cases x <;> try (unfold blsOf at e; cases e)
    unfold blsOf at e
    cases q : blsOf xs with
    | none => rw [q] at e; cases e
    | some ms =>
      rw [q] at e; cases e
      rw [h1, rc_bl h2, blsOf_ok h3 q]; rfl
theorem b_len (hK : X.K = G.K) : CallR X (.builtin "len") (rdF G E fLen) := CallR.imp call_len fun xs H Q ⟨w, ρ, h, cs, R, r, g⟩ => by
  unfold fLen at g
  split at g
  · rename_i z
    obtain ⟨u, k1, k2⟩ := one_of r
    rw [rc_str k2] at k1
    split at g
    · rename_i hb
      exact ⟨_, _, k1, ⟨big_le hb, rfl⟩, okV R g (cr_int _)⟩
    · exact g.elim
  · rename_i x _
    obtain ⟨u, k1, k2⟩ := one_of r
    split at g
    · rename_i ys q
      obtain ⟨a, vs, q1, q2, q3⟩ := seqOf_ok R k2 q
      rw [q1] at k1
      have g' : (Out.ok (CV.int (vs.length : Nat)) h : Out CV).Good (PostV G w ρ H Q) (PostX G w ρ H E) := q3.length ▸ g
      rcases q2 with q2 | q2
      · exact ⟨_, _, k1, .inl ⟨vs, hK ▸ q2, rfl⟩, okV R g' (cr_int _)⟩
      · exact ⟨_, _, k1, .inr ⟨vs, hK ▸ q2, rfl⟩, okV R g' (cr_int _)⟩
    · exact g.elim
  · exact g.elim
theorem fII_ok {f : Int → Int → Int} {xs : List V} {Q : VK} (q : rdF G E (fII f) xs H Q) : ∃ i j, xs = [.int i, .int j] ∧ Q (.int (f i j)) H := by
  obtain ⟨w, ρ, h, cs, R, r, g⟩ := q
  unfold fII at g
  split at g
  · rename_i i j
    obtain ⟨u1, u2, k1, k2, k3⟩ := two_of r
    rw [rc_int k2, rc_int k3] at k1
    exact ⟨i, j, k1, okV R g (cr_int _)⟩
  · exact g.elim
theorem b_min2 (hc : X.calm = true) : CallR X (.builtin "min") (rdF G E fMin2) := CallR.imp (call_min2 hc) fun xs H Q q => fII_ok q
theorem b_max2 (hc : X.calm = true) : CallR X (.builtin "max") (rdF G E fMax2) := CallR.imp (call_max2 hc) fun xs H Q q => fII_ok q
theorem b_abs : CallR X (.builtin "abs") (rdF G E fAbs) := CallR.imp call_abs fun xs H Q ⟨w, ρ, h, cs, R, r, g⟩ => by
  unfold fAbs at g
  split at g
  · obtain ⟨u, k1, k2⟩ := one_of r
    rw [rc_int k2] at k1
    exact ⟨_, k1, okV R g (cr_int _)⟩
  · exact g.elim
theorem b_int : CallR X (.type "int") (rdF G E fInt) := CallR.imp call_int1 fun xs H Q ⟨w, ρ, h, cs, R, r, g⟩ => by
  unfold fInt at g
  split at g
  · obtain ⟨u, k1, k2⟩ := one_of r
    rw [rc_int k2] at k1
    exact .inl ⟨_, k1, okV R g (cr_int _)⟩
  · obtain ⟨u, k1, k2⟩ := one_of r
    rw [rc_bl k2] at k1
    exact .inr ⟨_, k1, okV R g (cr_int _)⟩
  · exact g.elim
theorem b_divmod : CallR X (.builtin "divmod") (rdF G E fDivmod) := CallR.imp call_divmod fun xs H Q ⟨w, ρ, h, cs, R, r, g⟩ => by
  unfold fDivmod at g
  split at g
  · rename_i i j
    obtain ⟨u1, u2, k1, k2, k3⟩ := two_of r
    rw [rc_int k2, rc_int k3] at k1
    split at g
    · rename_i hd
      exact ⟨i, j, k1, hd, fun p hp => PostV.newT (Q := Q) (show PostV G w ρ H Q _ h from g) R (RelCs.cons (cr_int _) (RelCs.cons (cr_int _) RelCs.nil)) hp⟩
    · exact g.elim
  · exact g.elim
theorem b_tuple (hK : X.K = G.K) : CallR X (.type "tuple") (rdF G E fTuple) := CallR.imp call_tuple_of fun xs H Q ⟨w, ρ, h, cs, R, r, g⟩ => by
  unfold fTuple at g
  split at g
  · rename_i x
    split at g
    · rename_i ys q
      obtain ⟨u, k1, k2⟩ := one_of r
      obtain ⟨a, vs, q1, q2, q3⟩ := seqOf_okA R k2 q
      rw [q1] at k1
      have g' : PostV G w ρ H Q (.tup ys) h := g
      rcases q2 with q2 | q2
      · exact ⟨a, vs, k1, .inl ⟨hK ▸ q2, fun p hp => PostV.newT (Q := Q) g' R q3 hp⟩⟩
      · exact ⟨a, vs, k1, .inr ⟨hK ▸ q2.1, PostV.go (Q := Q) g' R (by unfold RelC; exact ⟨a, vs, rfl, q2, q3⟩)⟩⟩
    · exact g.elim
  · exact g.elim
theorem b_list (hK : X.K = G.K) : CallR X (.type "list") (rdF G E fList) := CallR.imp call_list_of fun xs H Q ⟨w, ρ, h, cs, R, r, g⟩ => by
  unfold fList at g
  split at g
  · rename_i x
    split at g
    · rename_i ys q
      obtain ⟨u, k1, k2⟩ := one_of r
      obtain ⟨a, vs, q1, q2, q3⟩ := seqOf_ok R k2 q
      rw [q1] at k1
      exact ⟨a, vs, k1, hK ▸ q2, fun p hp => PostV.newL (Q := Q) (show PostV G w ρ H Q (.lst ys) h from g) R q3 hp⟩
    · exact g.elim
  · exact g.elim
theorem onL_ok {α : Type} {g : List CV → Option α} {k : α → CV} {xs : List V} {Q : VK} (q : rdF G E (onL g k) xs H Q) : ∃ w ρ h a ys vs b, Rep G w ρ h H ∧ xs = [.ref a] ∧ H a = some (.lst vs) ∧ RelCs G w ρ H ys vs ∧ g ys = some b ∧ (Out.ok (k b) h : Out CV).Good (PostV G w ρ H Q) (PostX G w ρ H E) := by
  obtain ⟨w, ρ, h, cs, R, r, gg⟩ := q
  unfold onL at gg
  split at gg
  · split at gg
    · rename_i ys q
      split at gg
      · rename_i b q2
        obtain ⟨u, k1, k2⟩ := one_of r
        obtain ⟨a, vs, e1, e2, e3⟩ := lstOf_ok R k2 q
        rw [e1] at k1
        exact ⟨w, ρ, h, a, ys, vs, b, R, k1, e2, e3, q2, gg⟩
      · exact gg.elim
    · exact gg.elim
  · exact gg.elim
theorem b_all (hc : X.calm = true) : CallR X (.builtin "all") (rdF G E fAll) := CallR.imp (cr_all hc) fun xs H Q q => by
  obtain ⟨w, ρ, h, a, ys, vs, bs, R, e1, e2, e3, e4, g⟩ := onL_ok q
  rw [blsOf_ok e3 e4] at e2
  exact ⟨a, bs, e1, SqL.of e2, okV R g (cr_bl _)⟩
theorem b_any (hc : X.calm = true) : CallR X (.builtin "any") (rdF G E fAny) := CallR.imp (cr_any hc) fun xs H Q q => by
  obtain ⟨w, ρ, h, a, ys, vs, bs, R, e1, e2, e3, e4, g⟩ := onL_ok q
  rw [blsOf_ok e3 e4] at e2
  exact ⟨a, bs, e1, SqL.of e2, okV R g (cr_bl _)⟩
theorem b_sum (hc : X.calm = true) : CallR X (.builtin "sum") (rdF G E fSum) := CallR.imp (cr_sum hc) fun xs H Q q => by
  obtain ⟨w, ρ, h, a, ys, vs, ns, R, e1, e2, e3, e4, g⟩ := onL_ok q
  rw [intsOf_ok e3 e4] at e2
  exact ⟨a, ns, e1, SqL.of e2, okV R g (cr_int _)⟩
theorem ints64_ok {xs : List CV} {ns : List Int} (h : ints64 xs = some ns) : intsOf xs = some ns ∧ ns.length < 64 := by
  unfold ints64 at h
  split at h
  · rename_i m q
    split at h
    · cases h; exact ⟨q, ‹_›⟩
    · cases h
  · cases h
theorem ints1_ok {xs : List CV} {ns : List Int} (h : ints1 xs = some ns) : intsOf xs = some ns ∧ ns ≠ [] := by
  unfold ints1 at h
  split at h
  · rename_i n m q
    cases h; exact ⟨q, by simp⟩
  · cases h
theorem b_sorted : CallR X (.builtin "sorted") (rdF G E fSorted) := CallR.imp cr_sorted fun xs H Q q => by
  obtain ⟨w, ρ, h, a, ys, vs, ns, R, e1, e2, e3, e4, g⟩ := onL_ok q
  obtain ⟨e5, e6⟩ := ints64_ok e4
  rw [intsOf_ok e3 e5] at e2
  refine ⟨a, ns, e1, SqL.of e2, e6, fun ns' p hp hs hq => ?_⟩
  rw [sorted_eq hp hs]
  exact PostV.newL (Q := Q) (show PostV G w ρ H Q _ h from g) R (relCs_ints _) hq
theorem b_maxL (hc : X.calm = true) : CallR X (.builtin "max") (rdF G E fMaxL) := CallR.imp (cr_max hc) fun xs H Q q => by
  obtain ⟨w, ρ, h, a, ys, vs, ns, R, e1, e2, e3, e4, g⟩ := onL_ok q
  obtain ⟨e5, e6⟩ := ints1_ok e4
  rw [intsOf_ok e3 e5] at e2
  refine ⟨a, ns, e1, SqL.of e2, List.length_pos_iff.mpr e6, fun m hm hle => ?_⟩
  obtain ⟨k1, k2⟩ := maxI_mem e6
  have e : m = maxI ns := Int.le_antisymm (k2 m hm) (hle _ k1)
  subst e
  exact okV R g (cr_int _)
theorem b_minL (hc : X.calm = true) : CallR X (.builtin "min") (rdF G E fMinL) := CallR.imp (cr_min hc) fun xs H Q q => by
  obtain ⟨w, ρ, h, a, ys, vs, ns, R, e1, e2, e3, e4, g⟩ := onL_ok q
  obtain ⟨e5, e6⟩ := ints1_ok e4
  rw [intsOf_ok e3 e5] at e2
  refine ⟨a, ns, e1, SqL.of e2, List.length_pos_iff.mpr e6, fun m hm hle => ?_⟩
  obtain ⟨k1, k2⟩ := minI_mem e6
  have e : m = minI ns := Int.le_antisymm (hle _ k1) (k2 m hm)
  subst e
  exact okV R g (cr_int _)
end

/-! ### methods of a list that is changed -/
def mAppend : CV → List CV → CH → Out CV := fun x cs h => match x, cs with
  | .ref n, [y] => match lstOf h (.ref n) with
    | some xs => if xs.length < big ∧ noRef y = true then .ok .non (h.set n (.lst (xs ++ [y]))) else .stuck
    | none => .stuck
  | _, _ => .stuck
def mExtend : CV → List CV → CH → Out CV := fun x cs h => match x, cs with
  | .ref n, [y] => match lstOf h (.ref n), lstOf h y with
    | some xs, some ys => if xs.length + ys.length ≤ big ∧ noRefs ys = true then .ok .non (h.set n (.lst (xs ++ ys))) else .stuck
    | _, _ => .stuck
  | _, _ => .stuck
def mPop : CV → List CV → CH → Out CV := fun x cs h => match x, cs with
  | .ref n, [] => match lstOf h (.ref n) with
    | some xs => match xs[xs.length - 1]? with
      | some y => .ok y (h.set n (.lst xs.dropLast))
      | none => .stuck
    | none => .stuck
  | _, _ => .stuck
section
variable {X : Cx} {G : Gb} {E : XO}
theorem refL {w : Wd} {ρ : List Addr} {H : Hp} {h : CH} {n : Nat} {v : V} {xs : List CV} (R : Rep G w ρ h H) (r : RelC G w ρ H (.ref n) v) (e : lstOf h (.ref n) = some xs) : ∃ a vs, v = .ref a ∧ ρ[n]? = some a ∧ H a = some (.lst vs) ∧ RelCs G w [] H xs vs := by
  unfold RelC at r
  obtain ⟨a, h1, h2⟩ := r
  unfold lstOf at e
  simp only at e
  cases q : h[n]? with
  | none => rw [q] at e; cases e
  | some o =>
    rw [q] at e
    cases o <;> try cases e
    obtain ⟨vs, h3, h4⟩ := R.obj n a _ h1 q
    exact ⟨a, vs, h2, h1, h4, h3⟩
/-- a tracked list gets other items -/
theorem putL {w : Wd} {ρ : List Addr} {H : Hp} {h : CH} {n : Nat} {a : Addr} {xs : List CV} {vs us : List V} {Q : VK} (R : Rep G w ρ h H) (hn : ρ[n]? = some a) (hv : H a = some (.lst us)) (r : RelCs G w [] H xs vs) {c : CV} {v : V} (rc : ∀ w ρ H, RelC G w ρ H c v)
    (g : PostV G w ρ H Q c (h.set n (.lst xs))) : Q v (upd H a (.lst vs)) := by
  have hm : a ∈ ρ := List.mem_of_getElem? hn
  have e : Ext w ρ H w ρ (upd H a (.lst vs)) := Ext.write w hm hv trivial
  have r2 : RelCs G w [] (upd H a (.lst vs)) xs vs := RelCs.ext e R.sub ⟨[], rfl⟩ r
  obtain ⟨R2, _⟩ := R.write (o := .lst vs) (co := .lst xs) hn trivial ⟨vs, r2, upd_same⟩
  exact g w ρ _ v e R2 (rc _ _ _)
theorem m_append : MtR X "list.append" (rdM G E mAppend) := MtR.imp mt_append fun x xs H Q ⟨w, ρ, h, cx, cs, R, rx, r, g⟩ => by
  unfold mAppend at g
  split at g
  · rename_i n y
    split at g
    · rename_i zs q
      split at g
      · rename_i hb
        obtain ⟨a, vs, k1, k2, k3, k4⟩ := refL R rx q
        obtain ⟨u, p1, p2⟩ := one_of r
        refine ⟨a, vs, u, k1, p1, k3, Nat.lt_of_lt_of_le (show vs.length < big by rw [← k4.length]; exact hb.1) (big_le (Nat.le_refl _)), ?_⟩
        exact putL R k2 k3 (k4.append (RelCs.cons (RelC.free [] hb.2 p2) RelCs.nil)) (fun _ _ _ => cr_non) g
      · exact g.elim
    · exact g.elim
  · exact g.elim
theorem m_extend : MtR X "list.extend" (rdM G E mExtend) := MtR.imp mt_extend fun x xs H Q ⟨w, ρ, h, cx, cs, R, rx, r, g⟩ => by
  unfold mExtend at g
  split at g
  · rename_i n y
    split at g
    · rename_i zs ys q q2
      split at g
      · rename_i hb
        obtain ⟨a, vs, k1, k2, k3, k4⟩ := refL R rx q
        obtain ⟨u, p1, p2⟩ := one_of r
        obtain ⟨b, us, e1, e2, e3⟩ := lstOf_ok R p2 q2
        rw [e1] at p1
        exact ⟨a, b, vs, us, k1, p1, k3, e2, by rw [← k4.length, ← e3.length]; exact big_le hb.1, putL R k2 k3 (k4.append (RelCs.free [] hb.2 e3)) (fun _ _ _ => cr_non) g⟩
      · exact g.elim
    · exact g.elim
  · exact g.elim
theorem RelCs.dropLast {w : Wd} {ρ : List Addr} {H : Hp} {xs : List CV} {vs : List V} (r : RelCs G w ρ H xs vs) : RelCs G w ρ H xs.dropLast vs.dropLast := by
  rw [List.dropLast_eq_take, List.dropLast_eq_take, r.length]
  exact r.take _
theorem m_pop : MtR X "list.pop" (rdM G E mPop) := MtR.imp mt_pop fun x xs H Q ⟨w, ρ, h, cx, cs, R, rx, r, g⟩ => by
  unfold mPop at g
  split at g
  · rename_i n
    split at g
    · rename_i zs q
      split at g
      · rename_i y qy
        obtain ⟨a, vs, k1, k2, k3, k4⟩ := refL R rx q
        unfold RelCs at r
        obtain ⟨v, p1, p2⟩ := k4.get qy
        rw [k4.length] at p1
        have hm : a ∈ ρ := List.mem_of_getElem? k2
        have e : Ext w ρ H w ρ (upd H a (.lst vs.dropLast)) := Ext.write w hm k3 trivial
        have r2 : RelCs G w [] (upd H a (.lst vs.dropLast)) zs.dropLast vs.dropLast := RelCs.ext e R.sub ⟨[], rfl⟩ k4.dropLast
        obtain ⟨R2, _⟩ := R.write (o := .lst vs.dropLast) (co := .lst zs.dropLast) k2 trivial ⟨_, r2, upd_same⟩
        exact ⟨a, vs, v, k1, r, k3, p1, (show PostV G w ρ H Q y _ from g) w ρ _ v e R2 (p2.any.up e R)⟩
      · exact g.elim
    · exact g.elim
  · exact g.elim
variable {o e : Expr} {es : List Expr} {co : CE} {cs : CEs} {name : Str} {apos cpos : Pos} {T id : String} {m : CV → List CV → CH → Out CV}
def cLM (m : CV → List CV → CH → Out CV) (o : CE) (a : CEs) : CE := fun l h => (o l h).bind fun x h1 => match x with
  | .ref n => match lstOf h1 (.ref n) with
    | some _ => (a l h1).bind fun ys h2 => m (.ref n) ys h2
    | none => .stuck
  | _ => .stuck
/-- a method of a tracked list, arguments written -/
theorem xe_lm (pa : PlainAttrs "list") (slot : Slot "list" name id) (hty : typeOf (.builtin id) = pure (.type "method_descriptor")) (hm : MtR X id (rdM G E m)) (ho : XE X G E o co) (ha : XA X G E (e :: es) cs)
    (hbase : attributeBase o name X.env (eval o X.env) = eval o X.env := by rfl)
    (hfew : ((backTo cpos (starEach (e :: es) X.env)).all (fun x => !x.1) && (backToKw cpos (keywordEach [] X.env)).all (fun x => x.1.isSome) && decide ((e :: es).length + ([] : List Keyword).length + (if ([] : List Keyword).isEmpty then 0 else 1) < 30)) = true := by rfl)
    (hline : (apos.endLine == cpos.line) = true := by rfl) (hs : starEach (e :: es) X.env = (false, eval e X.env) :: starEach es X.env := by rfl) (hplain : (backTo cpos (starEach es X.env)).any (·.1) = false := by rfl) :
    XE X G E (.Call (.Attribute o name apos) (e :: es) [] cpos) (cLM m co cs) := pe_imp (pe_bm pa slot hty hm ho ha hbase hfew hline hs hplain) fun σ H Q ⟨w, ρ, l, h, R, L, g⟩ =>
  rd_then R L g fun w1 ρ1 h1 H1 x v e1 R1 L1 r1 g1 => by
    split at g1
    · rename_i n
      split at g1
      · rename_i xs q
        obtain ⟨a, vs, k1, k2, k3, k4⟩ := refL R1 r1 q
        refine ⟨by rw [k1]; exact .inl ⟨rfl, vs, SqL.of k3⟩, rds_then R1 L1 g1 fun w2 ρ2 h2 H2 ys us e2 R2 L2 r2 g2 => ⟨w2, ρ2, h2, _, ys, R2, r1.up e2 R1, r2, g2.mono (fun _ _ q => q.at (e1.trans e2)) fun _ _ _ q => q⟩⟩
      · exact g1.elim
    · exact g1.elim
theorem xe_lm0 (pa : PlainAttrs "list") (slot : Slot "list" name id) (hty : typeOf (.builtin id) = pure (.type "method_descriptor")) (hm : MtR X id (rdM G E m)) (ho : XE X G E o co)
    (hbase : attributeBase o name X.env (eval o X.env) = eval o X.env := by rfl) (hline : (apos.endLine == cpos.line) = true := by rfl) :
    XE X G E (.Call (.Attribute o name apos) [] [] cpos) (cLM m co cNil) := pe_imp (pe_bm0 pa slot hty hm ho hbase hline) fun σ H Q ⟨w, ρ, l, h, R, L, g⟩ =>
  rd_then R L g fun w1 ρ1 h1 H1 x v e1 R1 L1 r1 g1 => by
    split at g1
    · rename_i n
      split at g1
      · rename_i xs q
        obtain ⟨a, vs, k1, k2, k3, k4⟩ := refL R1 r1 q
        exact ⟨by rw [k1]; exact .inl ⟨rfl, vs, SqL.of k3⟩, w1, ρ1, h1, _, [], R1, r1, RelCs.nil, (show (m (.ref n) [] h1).Good (PostV G w ρ H Q) (PostX G w1 ρ1 H1 E) from g1).mono (fun _ _ q => q.at e1) fun _ _ _ q => q⟩
      · exact g1.elim
    · exact g1.elim
end

/-! ### slices -/
def cutC (xs : List CV) (lo hi : Option Int) : List CV := (xs.drop (HT.sIx xs.length 0 lo)).take (HT.sIx xs.length xs.length hi - HT.sIx xs.length 0 lo)
def fSl (x : CV) (lo hi : Option Int) : CH → Out CV := fun h => match x with
  | .tup xs => .ok (.tup (cutC xs lo hi)) h
  | .scr ns => .ok (.lst (cutC (ns.map CV.int) lo hi)) h
  | x => match lstOf h x with
    | some xs => .ok (.lst (cutC xs lo hi)) h
    | none => .stuck
abbrev COe := Lc → CH → Out (Option Int)
def oNo : COe := fun _ h => .ok none h
def oYes (e : CE) : COe := fun l h => (e l h).bind fun c h1 => match c with
  | .int i => .ok (some i) h1
  | _ => .stuck
def cSl (a : CE) (lo hi : COe) : CE := fun l h => (a l h).bind fun x h1 => (lo l h1).bind fun i h2 => (hi l h2).bind fun j h3 => fSl x i j h3
section
variable {X : Cx} {G : Gb} {E : XO} {a e : Expr} {ca ce : CE} {lo hi : Option Expr} {cl cu : COe} {pos p2 : Pos}
def PostO (G : Gb) (w : Wd) (ρ : List Addr) (H : Hp) (Q : Option Int → Hp → Prop) : Option Int → CH → Prop := fun c h' => ∀ w' ρ' H', Ext w ρ H w' ρ' H' → Rep G w' ρ' h' H' → Q c H'
def rdO (G : Gb) (E : XO) (c : COe) : TO := fun σ H Q => ∃ w ρ l h, Rep G w ρ h H ∧ LocR G w ρ H l σ ∧ (c l h).Good (PostO G w ρ H Q) (PostX G w ρ H E)
abbrev XOp (X : Cx) (G : Gb) (E : XO) (e : Option Expr) (c : COe) : Prop := PO X e (rdO G E c)
theorem po_imp {X : Cx} {e : Option Expr} {t t' : TO} (h : PO X e t) (i : ∀ σ H Q, t' σ H Q → t σ H Q) : PO X e t' := ⟨fun pins s σ H Q I q => h.run pins s σ H Q I (i σ H Q q)⟩
theorem xo_no : XOp X G E none oNo := po_imp po_none fun σ H Q ⟨w, ρ, l, h, R, L, g⟩ => (show PostO G w ρ H Q none h from g) w ρ H (Ext.refl w ρ H) R
theorem xo_yes (he : XE X G E e ce) : XOp X G E (some e) (oYes ce) := po_imp (po_some he) fun σ H Q ⟨w, ρ, l, h, R, L, g⟩ => rd_then R L g fun w1 ρ1 h1 H1 x v e1 R1 L1 r1 g1 => by
  cases x <;> try exact g1.elim
  rename_i i
  exact ⟨i, rc_int r1, (show PostO G w ρ H Q (some i) h1 from g1) w1 ρ1 H1 e1 R1⟩
theorem rdO_then {β : Type} {w : Wd} {ρ : List Addr} {H : Hp} {h : CH} {l : Lc} {c : COe} {F : Option Int → CH → Out β} {P : β → CH → Prop} {σ : St} (R : Rep G w ρ h H) (L : LocR G w ρ H l σ) (g : ((c l h).bind F).Good P (PostX G w ρ H E)) {Q : Option Int → Hp → Prop}
    (k : ∀ w' ρ' h' H' x, Ext w ρ H w' ρ' H' → Rep G w' ρ' h' H' → LocR G w' ρ' H' l σ → (F x h').Good P (PostX G w' ρ' H' E) → Q x H') : rdO G E c σ H Q := by
  refine ⟨w, ρ, l, h, R, L, (Out.good_bind.mp g).mono (fun x h1 g1 w' ρ' H' e R' => ?_) fun k v h' q => q⟩
  exact k w' ρ' h1 H' x e R' (L.up e R) (g1.mono (fun _ _ q => q) fun _ _ _ q => q.at e)
theorem cut_rel {w : Wd} {ρ : List Addr} {H : Hp} {xs : List CV} {vs : List V} (r : RelCs G w ρ H xs vs) (lo hi : Option Int) : RelCs G w ρ H (cutC xs lo hi) (cutV vs lo hi) := by
  unfold cutC cutV
  rw [r.length]
  exact (r.drop _).take _
theorem xe_slice (hK : X.K = G.K) (ha : XE X G E a ca) (hl : XOp X G E lo cl) (hu : XOp X G E hi cu) : XE X G E (.Subscript a (.Slice lo hi none p2) pos) (cSl ca cl cu) := pe_imp (pe_slice (sl_tupA.or sl_list) ha hl hu) fun σ H Q ⟨w, ρ, l, h, R, L, g⟩ =>
  rd_then R L g fun w1 ρ1 h1 H1 x v e1 R1 L1 r1 g1 => rdO_then R1 L1 g1 fun w2 ρ2 h2 H2 i e2 R2 L2 g2 => rdO_then R2 L2 g2 fun w3 ρ3 h3 H3 j e3 R3 L3 g3 => by
    have r3 := r1.up (e2.trans e3) R1
    have e13 := (e1.trans e2).trans e3
    unfold fSl at g3
    split at g3
    · rename_i xs
      obtain ⟨a, vs, k1, k2, k3⟩ := rc_tup r3
      have g' : PostV G w3 ρ3 H3 Q (.tup (cutC xs i j)) h3 := (show PostV G w ρ H Q (.tup (cutC xs i j)) h3 from g3).at e13
      refine .inl ⟨a, vs, k1, hK ▸ k2, fun hw => ?_, fun _ p hp => PostV.newT (Q := Q) g' R3 (cut_rel k3 i j) hp⟩
      have e : cutC xs i j = xs := by
        unfold cutC
        rw [k3.length, hw.1, hw.2, List.drop_zero, Nat.sub_zero, ← k3.length, List.take_length]
      rw [e] at g'
      exact PostV.go (Q := Q) g' R3 (k1 ▸ r3)
    · rename_i ns
      unfold RelC at r3
      obtain ⟨a, k1, k2⟩ := r3
      exact .inr ⟨a, _, k1, hK ▸ k2.sq, fun p hp => PostV.newL (Q := Q) ((show PostV G w ρ H Q (.lst (cutC (ns.map CV.int) i j)) h3 from g3).at e13) R3 (cut_rel (relCs_ints ns) i j) hp⟩
    · split at g3
      · rename_i xs q
        obtain ⟨a, vs, k1, k2, k3⟩ := lstOf_ok R3 r3 q
        exact .inr ⟨a, vs, k1, SqL.of k2, fun p hp => PostV.newL (Q := Q) ((show PostV G w ρ H Q (.lst (cutC xs i j)) h3 from g3).at e13) R3 (cut_rel k3 i j) hp⟩
      · exact g3.elim
end
end Rn

set_option Elab.async false
set_option linter.all false
set_option maxRecDepth 100000
set_option maxHeartbeats 4000000
namespace Rn
open PySem L2

/-! ### isinstance -/
inductive Ty where
  | non | bl | int | str | tup | lst | dic
  deriving DecidableEq
def Ty.nm : Ty → String
  | .non => "NoneType"
  | .bl => "bool"
  | .int => "int"
  | .str => "str"
  | .tup => "tuple"
  | .lst => "list"
  | .dic => "dict"
def coTy : CO → Ty
  | .lst _ => .lst
  | .bag => .lst
  | _ => .dic
def tyOf (h : CH) : CV → Option Ty
  | .non => some .non
  | .bl _ => some .bl
  | .int _ => some .int
  | .str _ => some .str
  | .tup _ => some .tup
  | .lst _ => some .lst
  | .dic _ _ => some .dic
  | .dit _ _ => some .dic
  | .ref n => (h[n]?).map coTy
  | _ => none
def subTy (t c : Ty) : Bool := decide (t = c) || (decide (t = .bl) && decide (c = .int))
theorem kit_sub {K : PySem.W.Frag} (t c : Ty) : PySem.W.kitOne K (.type t.nm) (.type c.nm) = some (subTy t c) := kit_ty (by cases t <;> cases c <;> decide +kernel)
def isiB (c : Ty) : F1 := fun x h => match tyOf h x with
  | some t => .ok (.bl (subTy t c)) h
  | none => .stuck
/-- is it a web -/
def isiW (ts : List Ty) : F1 := fun x h => match x with
  | .web _ _ => .ok (.bl true) h
  | x => match tyOf h x with
    | some t => if t ∈ ts then .ok (.bl false) h else .stuck
    | none => .stuck
/-- what is known of the class of webs -/
structure WebF (K : PySem.W.Frag) (C : Addr) (ts : List Ty) : Prop where
  cl : Cls K C
  ha : PySem.W.findIn K (.ref C) "__class__" = some (some (.builtin "object.__class__"))
  hn : PySem.W.specialIn K (.builtin "object.__class__") "__get__" = some (some (.builtin "getset_descriptor.__get__"))
  htk : PySem.W.takesIn K (.builtin "object.__class__") = some true
  hm : PySem.W.mroIn K C (.type "object") = some true
  nP : NoAttr K C "places"
  nT : NoAttr K C "ties"
  nK : NoAttr K C "kept"
  no : ∀ t ∈ ts, PySem.W.kitOne K (.type t.nm) (.ref C) = some false
section
variable {X : Cx} {G : Gb} {E : XO} {e ec : Expr} {ce : CE} {p pos : Pos}
theorem tyOf_ok {w : Wd} {ρ : List Addr} {H : Hp} {h : CH} {x : CV} {v : V} {t : Ty} (R : Rep G w ρ h H) (r : RelC G w ρ H x v) (e : tyOf h x = some t) : TyX G.K H v (.type t.nm) := by
  cases x <;> try (unfold tyOf at e; cases e)
  case non => rw [rc_non r]; exact .base .non
  case bl b => rw [rc_bl r]; exact .base (.bl b)
  case int b => rw [rc_int r]; exact .base (.int b)
  case str b => rw [rc_str r]; exact .base (.str b)
  case tup xs =>
    obtain ⟨a, vs, e1, e2, _⟩ := rc_tup r
    rw [e1]
    rcases e2 with (e2 | ⟨o, e2⟩) | ⟨o, its, n, e2, e3, _⟩
    · exact .base (.tup e2)
    · exact .fTuple e2
    · exact .kTuple e2 e3
  case lst xs =>
    obtain ⟨a, vs, e1, _, e2, _⟩ := rc_lst r
    rw [e1]
    exact .base (.lst e2)
  case dic ks xs =>
    unfold RelC at r
    obtain ⟨a, kvs, e1, _, _, e2, _⟩ := r
    rw [e1]
    exact .base (.dK e2)
  case dit ks xs =>
    obtain ⟨a, kvs, e1, _, e2, _⟩ := rc_dit r
    rw [e1]
    exact .base (.dT e2)
  case ref n =>
    unfold tyOf at e
    obtain ⟨o, e1, e2⟩ := Option.map_eq_some_iff.mp e
    unfold RelC at r
    obtain ⟨a, r1, r2⟩ := r
    have q := R.obj n a o r1 e1
    rw [r2]
    cases o with
    | lst xs => obtain ⟨vs, _, z⟩ := q; cases e2; exact .base (.lst z)
    | dk kvs => obtain ⟨ks, _, _, z⟩ := q; cases e2; exact .base (.dK z)
    | dt kvs => obtain ⟨ks, _, _, z⟩ := q; cases e2; exact .base (.dT z)
    | bag => obtain ⟨i, j, k, _, _, _, z⟩ := q; cases e2; exact .base (.lst z)
theorem xe_isi {f : F1} {vc : V} {u : Value} (hg : Gl X "isinstance") (hm : X.mg "isinstance" = none) (ha : XE X G E e ce) (hc : PE X ec (tC vc)) (kc : ClsV vc u)
    (hk : ∀ w ρ h H x v Q, Rep G w ρ h H → RelC G w ρ H x v → (f x h).Good (PostV G w ρ H Q) (PostX G w ρ H E) → ∃ t b, TyX X.K H v t ∧ PySem.W.kitOne X.K t u = some b ∧ Q (.bl b) H)
    (hb : bootBuiltins "isinstance" = some (.builtin "isinstance") := by first | rfl | decide +kernel)
    (he : starEach [e, ec] X.env = (false, eval e X.env) :: starEach [ec] X.env := by rfl) (he2 : starEach [ec] X.env = (false, eval ec X.env) :: starEach [] X.env := by rfl) (hpl : (backTo pos (starEach [ec] X.env)).any (·.1) = false := by rfl) :
    XE X G E (.Call (.Name "isinstance" p) [e, ec] [] pos) (c1 f ce) := pe_imp (pe_callB call_isi hg hm hb (pa_cons ha (pa_cons hc pa_nil he2) he) (by decide) (by decide) he hpl) fun σ H Q ⟨w, ρ, l, h, R, L, g⟩ => by
  refine rd_then R L g fun w1 ρ1 h1 H1 x v e1 R1 L1 r1 g1 => ?_
  obtain ⟨t, b, k1, k2, k3⟩ := hk w1 ρ1 h1 H1 x v Q R1 r1 (g1.mono (fun _ _ q => q.at e1) fun _ _ _ q => q)
  exact ⟨v, vc, t, u, b, rfl, kc, k1, k2, k3⟩
theorem isiB_ok (hK : X.K = G.K) (c : Ty) : ∀ w ρ h H x v Q, Rep G w ρ h H → RelC G w ρ H x v → (isiB c x h).Good (PostV G w ρ H Q) (PostX G w ρ H E) → ∃ t b, TyX X.K H v t ∧ PySem.W.kitOne X.K t (.type c.nm) = some b ∧ Q (.bl b) H := fun w ρ h H x v Q R r g => by
  unfold isiB at g
  split at g
  · rename_i t q
    exact ⟨_, _, hK ▸ tyOf_ok R r q, kit_sub t c, okV R g (cr_bl _)⟩
  · exact g.elim
theorem isiW_ok {ts : List Ty} (hK : X.K = G.K) (W : WebF X.K G.cw ts) : ∀ w ρ h H x v Q, Rep G w ρ h H → RelC G w ρ H x v → (isiW ts x h).Good (PostV G w ρ H Q) (PostX G w ρ H E) → ∃ t b, TyX X.K H v t ∧ PySem.W.kitOne X.K t (.ref G.cw) = some b ∧ Q (.bl b) H := fun w ρ h H x v Q R r g => by
  unfold isiW at g
  split at g
  · rename_i pl tt
    unfold RelC at r
    obtain ⟨y, r1, r2, _⟩ := r
    obtain ⟨ks, ⟨dx, tv, z, _⟩, _⟩ := R.web y r1
    refine ⟨.ref G.cw, true, by rw [r2]; exact .base (.ins z W.cl W.ha W.hn W.htk W.hm), by unfold PySem.W.kitOne; exact if_pos (beq_self_eq_true _), okV R g (cr_bl _)⟩
  · split at g
    · rename_i t q
      split at g
      · rename_i ht
        exact ⟨_, false, hK ▸ tyOf_ok R r q, W.no t ht, okV R g (cr_bl _)⟩
      · exact g.elim
    · exact g.elim

/-! ### attributes of a web -/
def fPlaces : F1 := fun x h => match x with
  | .web p _ => .ok (.int p) h
  | _ => .stuck
def fTies : F1 := fun x h => match x with
  | .web _ t => .ok (.tup t) h
  | _ => .stuck
theorem web_at {w : Wd} {ρ : List Addr} {H : Hp} {h : CH} {pl : Int} {t : List CV} {v : V} (R : Rep G w ρ h H) (r : RelC G w ρ H (.web pl t) v) : ∃ a dx tv d, v = .ref a ∧ H a = some (.ins G.cw dx [(("places" : Str), .int pl), (("ties" : Str), tv), (("kept" : Str), .ref d)]) ∧ RelC G w ρ H (.tup t) tv := by
  unfold RelC at r
  obtain ⟨y, r1, r2, r3, r4⟩ := r
  obtain ⟨ks, ⟨dx, tv, z, _, z2, _⟩, _⟩ := R.web y r1
  rw [r3] at z
  rw [r4] at z2
  exact ⟨y.a, dx, tv, y.d, r2, z, z2.any⟩
theorem xe_places {ts : List Ty} (W : WebF X.K G.cw ts) (ha : XE X G E e ce) (hb : attributeBase e "places" X.env (eval e X.env) = eval e X.env := by rfl) : XE X G E (.Attribute e "places" pos) (c1 fPlaces ce) := pe_imp (pe_fld ha hb) fun σ H Q ⟨w, ρ, l, h, R, L, g⟩ =>
  rd_then R L g fun w1 ρ1 h1 H1 x v e1 R1 L1 r1 g1 => by
    unfold fPlaces at g1
    split at g1
    · obtain ⟨a, dx, tv, d, k1, k2, k3⟩ := web_at R1 r1
      exact ⟨a, _, dx, _, _, k1, k2, W.cl, W.nP, rfl, okV R1 (g1.mono (fun _ _ q => q.at e1) fun _ _ _ q => q) (cr_int _)⟩
    · exact g1.elim
theorem xe_ties {ts : List Ty} (W : WebF X.K G.cw ts) (ha : XE X G E e ce) (hb : attributeBase e "ties" X.env (eval e X.env) = eval e X.env := by rfl) : XE X G E (.Attribute e "ties" pos) (c1 fTies ce) := pe_imp (pe_fld ha hb) fun σ H Q ⟨w, ρ, l, h, R, L, g⟩ =>
  rd_then R L g fun w1 ρ1 h1 H1 x v e1 R1 L1 r1 g1 => by
    unfold fTies at g1
    split at g1
    · obtain ⟨a, dx, tv, d, k1, k2, k3⟩ := web_at R1 r1
      exact ⟨a, _, dx, _, _, k1, k2, W.cl, W.nT, rfl, okV R1 (g1.mono (fun _ _ q => q.at e1) fun _ _ _ q => q) k3⟩
    · exact g1.elim
end

/-! ### dicts that are never changed -/
abbrev CPs := Lc → CH → Out (List (CV × CV))
def pNil : CPs := fun _ h => .ok [] h
def pCons (k v : CE) (r : CPs) : CPs := fun l h => (k l h).bind fun x h1 => (v l h1).bind fun y h2 => (r l h2).bind fun ps h3 => .ok ((x, y) :: ps) h3
def keysOf : List (CV × CV) → Option (List Key)
  | [] => some []
  | p :: r => match keyOf p.1, keysOf r with
    | some k, some ks => some (k :: ks)
    | _, _ => none
def cDic (ps : CPs) : CE := fun l h => (ps l h).bind fun qs h1 => match keysOf qs with
  | some ks => if ks.Nodup ∧ ks.length ≤ 15 then .ok (.dic ks (qs.map (·.2))) h1 else .stuck
  | none => .stuck
section
variable {X : Cx} {G : Gb} {E : XO} {pos : Pos}
def RelPs (G : Gb) (w : Wd) (ρ : List Addr) (H : Hp) (c : List (CV × CV)) (v : List (V × V)) : Prop := RelCs G w ρ H (c.map (·.1)) (v.map (·.1)) ∧ RelCs G w ρ H (c.map (·.2)) (v.map (·.2))
def PostPs (G : Gb) (w : Wd) (ρ : List Addr) (H : Hp) (Q : List (V × V) → Hp → Prop) : List (CV × CV) → CH → Prop := fun c h' => ∀ w' ρ' H' v, Ext w ρ H w' ρ' H' → Rep G w' ρ' h' H' → RelPs G w' ρ' H' c v → Q v H'
def rdP (G : Gb) (E : XO) (c : CPs) (σ : St) (H : Hp) (Q : List (V × V) → Hp → Prop) : Prop := ∃ w ρ l h, Rep G w ρ h H ∧ LocR G w ρ H l σ ∧ (c l h).Good (PostPs G w ρ H Q) (PostX G w ρ H E)
structure XPs (X : Cx) (G : Gb) (E : XO) (pos : Pos) (ks : List (Option Expr)) (vs : List Expr) (c : CPs) : Prop where
  ok : ∃ trs, PPs X pos ks vs trs ∧ ∀ σ H Q, rdP G E c σ H Q → tPairs trs σ H Q
theorem xps_nil : XPs X G E pos [] [] pNil := ⟨[], pps_nil, fun σ H Q ⟨w, ρ, l, h, R, L, g⟩ => (show PostPs G w ρ H Q [] h from g) w ρ H [] (Ext.refl w ρ H) R ⟨RelCs.nil, RelCs.nil⟩⟩
theorem xps_cons {k v : Expr} {ks : List (Option Expr)} {vs : List Expr} {ck cv : CE} {r : CPs} (hk : XE X G E k ck) (hv : XE X G E v cv) (hr : XPs X G E pos ks vs r) : XPs X G E pos (some k :: ks) (v :: vs) (pCons ck cv r) := by
  obtain ⟨trs, h1, h2⟩ := hr.ok
  refine ⟨(rd G E ck, rd G E cv) :: trs, pps_cons hk hv h1, fun σ H Q ⟨w, ρ, l, h, R, L, g⟩ => ?_⟩
  refine rd_then R L g fun w1 ρ1 h1 H1 x v e1 R1 L1 r1 g1 => rd_then R1 L1 g1 fun w2 ρ2 h2' H2 y u e2 R2 L2 r2 g2 => h2 σ H2 _ ?_
  refine ⟨w2, ρ2, l, h2', R2, L2, (Out.good_bind.mp g2).mono (fun ps h3 g3 w3 ρ3 H3 qs e3 R3 r3 => ?_) fun _ _ _ q => q⟩
  exact (show PostPs G w ρ H Q ((x, y) :: ps) h3 from g3) w3 ρ3 H3 _ ((e1.trans e2).trans e3) R3 ⟨RelCs.cons (r1.up (e2.trans e3) R1) r3.1, RelCs.cons (r2.up e3 R2) r3.2⟩
theorem merge_nodup : ∀ (more acc : List (Key × V)), ((acc ++ more).map (·.1)).Nodup → mergeK acc more = acc ++ more
  | [], acc, _ => by simp [mergeK]
  | p :: r, acc, nd => by
    have e : putK acc p.1 p.2 = acc ++ [p] := by
      unfold putK
      rw [if_neg]
      intro z
      obtain ⟨q, h1, h2⟩ := List.any_eq_true.mp z
      have h3 := of_decide_eq_true h2
      rw [List.map_append, List.nodup_append] at nd
      exact nd.2.2 q.1 (List.mem_map.mpr ⟨q, h1, rfl⟩) p.1 (by simp) h3
    show mergeK (putK acc p.1 p.2) r = _
    rw [e, merge_nodup r (acc ++ [p]) (by rw [List.append_assoc, List.singleton_append]; exact nd), List.append_assoc, List.singleton_append]
theorem keysOf_rel {w : Wd} {ρ : List Addr} {H : Hp} : ∀ {qs : List (CV × CV)} {vs : List (V × V)} {ks : List Key}, RelPs G w ρ H qs vs → keysOf qs = some ks → ∃ kvs : List (Key × V), vs = kvs.map (fun kv => (kV kv.1, kv.2)) ∧ kvs.map (·.1) = ks ∧ RelCs G w ρ H (qs.map (·.2)) (kvs.map (·.2))
  | [], vs, ks, r, e => by
    unfold keysOf at e
    cases e
    have : vs = [] := by
      have q := r.1
      rw [List.map_nil] at q
      unfold RelCs at q
      exact List.map_eq_nil_iff.mp q
    exact ⟨[], this, rfl, RelCs.nil⟩
  | q :: qs, vs, ks, r, e => by
    unfold keysOf at e
    cases vs with
    | nil => have z := r.1; rw [List.map_cons, List.map_nil] at z; unfold RelCs at z; obtain ⟨_, _, z, _⟩ := z; cases z
    | cons v vs =>
      obtain ⟨r1, r2⟩ := r
      rw [List.map_cons, List.map_cons] at r1 r2
      unfold RelCs at r1 r2
      obtain ⟨a, b, e1, a1, a2⟩ := r1
      obtain ⟨c, d, e2, c1, c2⟩ := r2
      cases e1
      cases e2
      split at e
      · rename_i k ks' e3 e4
        cases e
        obtain ⟨kvs, k1, k2, k3⟩ := keysOf_rel ⟨a2, c2⟩ e4
        refine ⟨(k, v.2) :: kvs, ?_, by rw [List.map_cons, k2], RelCs.cons c1 k3⟩
        rw [List.map_cons, ← k1, ← keyOf_rel a1 e3]
      · cases e
theorem xe_dic {ks : List (Option Expr)} {vs : List Expr} {ps : CPs} (h : XPs X G E pos ks vs ps) (hall : ks.all (·.isSome) = true := by rfl) (hl : ks.length = vs.length := by rfl) (h0 : ks ≠ [] := by simp) (h15 : ks.length ≤ 15 := by decide) : XE X G E (.Dict ks vs pos) (cDic ps) := by
  obtain ⟨trs, h1, h2⟩ := h.ok
  refine pe_imp (pe_disp h1 hall hl h0 h15) fun σ H Q ⟨w, ρ, l, h, R, L, g⟩ p hp => h2 σ _ _ ?_
  have eD : Ext w ρ H ⟨p :: w.M, w.O, w.F⟩ ρ (upd H p (.dK [])) := by
    have z := Ext.newM w ρ (.dK []) hp
    exact ⟨z.mM, z.mO, z.mF, z.new, ⟨[], by simp, by simp⟩, z.keep, z.there, z.tup, z.frz⟩
  have RD : Rep G ⟨p :: w.M, w.O, w.F⟩ ρ h (upd H p (.dK [])) := by
    have z := R.fresh (.dK []) hp
    refine ⟨z.nd, fun a ha => List.mem_cons_of_mem _ (z.sub a ha), z.len, fun a ha => ?_, fun n a o h1 h2 => ?_, fun r hr => ?_, fun r hr y => ?_, z.wnf, z.fh, z.tab, z.lco, z.ow, R.pn.ext eD R.sub R.mh⟩
    · rcases List.mem_cons.mp ha with y | y
      · subst y; exact ⟨_, upd_same, trivial⟩
      · exact z.mh a y
    · refine (R.obj n a o h1 h2).ext eD R.sub fun u hu => ?_
      rw [upd_ne (ne_of_none hu hp)]; exact hu
    · obtain ⟨ks, k1, k2⟩ := R.web r hr
      refine ⟨ks, k1.ext eD R.sub R.mh ?_, fun kv hk => (k2 kv hk).ext eD R.sub⟩
      obtain ⟨_, _, _, _, _, q⟩ := k1
      rw [upd_ne (ne_of_none q hp)]; exact q
    · rcases List.mem_cons.mp y with y | y
      · obtain ⟨ks, ⟨_, _, _, _, _, q⟩, _⟩ := R.web r hr
        rw [y, hp] at q; cases q
      · exact R.wne r hr y
  refine ⟨_, ρ, l, h, RD, L.up eD R, (Out.good_bind.mp g).mono (fun qs h1 g1 w1 ρ1 H1 vs e1 R1 r1 => ?_) fun _ _ _ q => q.at eD⟩
  have hpp : p ∉ ρ := fun z => R.notM hp (R.sub p z)
  have hp1 : H1 p = some (.dK []) := e1.keep p _ upd_same hpp (.inl List.mem_cons_self)
  have dM : p ∈ w1.M := e1.mM p List.mem_cons_self
  have dn : p ∉ ρ1 := fun z => by
    obtain ⟨q, p1, p2⟩ := e1.pre
    rw [p1] at z
    rcases List.mem_append.mp z with z | z
    · exact hpp z
    · have := p2 p z; rw [upd_same] at this; cases this
  refine ⟨hp1, ?_⟩
  split at g1
  · rename_i ks q
    split at g1
    · rename_i hn
      obtain ⟨kvs, k1, k2, k3⟩ := keysOf_rel r1 q
      have hlen : kvs.length ≤ 15 := by rw [← List.length_map (f := (·.1)), k2]; exact hn.2
      refine ⟨kvs, k1, hlen, ?_⟩
      rw [merge_nodup kvs [] (by rw [List.nil_append, k2]; exact hn.1), List.nil_append]
      have R2 := R1.writeM (o := .dK kvs) dM dn hp1 trivial trivial
      obtain ⟨q1, q2⟩ := rel_writeM (G := G) (r := ρ1) (o := .dK kvs) dM hp1 trivial
      have e2 : Ext w ρ H w1 ρ1 (upd H1 p (.dK kvs)) := (eD.trans e1).mutNew hp
      have e3 := e2.out hp R.mh
      have R3 := R2.out dn
      have nf : ∀ r ∈ w1.O, r.d ≠ p := fun r hr z => R1.wne r hr (by rw [z]; exact dM)
      have e4 : Ext w ρ H ⟨(w1.out p).M, (w1.out p).O, p :: (w1.out p).F⟩ ρ1 (upd H1 p (.dK kvs)) := ⟨e3.mM, e3.mO, fun a ha => List.mem_cons_of_mem _ (e3.mF a ha), e3.new, e3.pre, e3.keep, e3.there, e3.tup, e3.frz⟩
      obtain ⟨w9, ew⟩ : ∃ w9 : Wd, w9 = ⟨(w1.out p).M, (w1.out p).O, p :: (w1.out p).F⟩ := ⟨_, rfl⟩
      have mM : ∀ a ∈ w9.M, a ∈ (w1.out p).M := by rw [ew]; exact fun _ h => h
      have mO : ∀ a ∈ (w1.out p).O, a ∈ w9.O := by rw [ew]; exact fun _ h => h
      have lessF : ∀ a ∈ (w1.out p).F, a ∈ w9.F := by rw [ew]; exact fun a ha => List.mem_cons_of_mem _ ha
      rw [← ew] at e4
      have R4 : Rep G w9 ρ1 h1 (upd H1 p (.dK kvs)) := by
        refine ⟨R3.nd, by rw [ew]; exact R3.sub, R3.len, by rw [ew]; exact R3.mh, fun n a o z1 z2 => (R3.obj n a o z1 z2).less mM mO lessF, fun r hr => (R3.web r (by rw [ew] at hr; exact hr)).less mM mO lessF, by rw [ew]; exact R3.wne, fun r hr z => ?_, fun a ha => ?_, R3.tab, R3.lco, by rw [ew]; exact R3.ow, R3.pn.less mM mO lessF⟩
        rw [ew] at hr z
        rcases List.mem_cons.mp z with z | z
        · exact nf r hr z
        · exact R3.wnf r hr z
        rw [ew] at ha
        rcases List.mem_cons.mp ha with z | z
        · rw [z]; exact ⟨_, upd_same⟩
        · exact R3.fh a z
      refine (show PostV G w ρ H Q (.dic ks (qs.map (·.2))) h1 from g1) _ _ _ _ e4 R4 ?_
      unfold RelC
      exact ⟨p, kvs, rfl, fun z => out_not (mM p z), by rw [ew]; exact List.mem_cons_self, upd_same, k2, RelCs.less (fun a h => out_sub a (mM a h)) (fun a h => mO a h) lessF (q2 _ _ k3)⟩
    · exact g1.elim
  · exact g1.elim
end
end Rn

set_option Elab.async false
set_option linter.all false
set_option maxRecDepth 100000
set_option maxHeartbeats 4000000
namespace Rn
open PySem L2
def okShow (d : PyData) : Bool := d.leavesShort 13 && decide (d.weight ≤ 2 ^ 20) && d.showable && !d.hasDict && decide (d.depth ≤ 40)
def isSeq : PyData → Bool
  | .list _ => true
  | .tuple _ => true
  | _ => false
/-- repr of a list, of a tuple -/
def fRepr : Fn := fun cs h => match cs with
  | [x] => match toDh h x with
    | some d => if isSeq d = true ∧ okShow d = true then .ok (.str d.shown) h else .stuck
    | none => .stuck
  | _ => .stuck
theorem b_repr {X : Cx} {G : Gb} {E : XO} (hK : X.K = G.K) (hgd : X.A.guards = some []) (hu : X.A.units + 64 < cLine) : CallR X (.builtin "repr") (rdF G E fRepr) := by
  intro pins s σ H xs us Q I r h
  obtain ⟨w, ρ, hh, cs, R, rr, g⟩ := h
  unfold fRepr at g
  split at g
  · rename_i x
    split at g
    · rename_i d q
      split at g
      · rename_i hd
        obtain ⟨v, k1, k2⟩ := one_of rr
        subst k1
        obtain ⟨u, e1, ru⟩ := Vals.one r
        subst e1
        have dp : Dp X.K H v d := hK ▸ toDh_ok R k2 q
        obtain ⟨as, rd⟩ := Dp.reads I _ _ _ dp ru
        obtain ⟨a, ea⟩ : ∃ a, u = .ref a := by
          cases dp <;> first | exact ⟨_, ru⟩ | exact absurd hd.1 Bool.false_ne_true
        subst ea
        have ok := hd.2
        simp only [okShow, Bool.and_eq_true, decide_eq_true_eq, Bool.not_eq_true'] at ok
        obtain ⟨⟨⟨⟨o1, o2⟩, o3⟩, o4⟩, o5⟩ := ok
        refine PySem.repr_of_reads' rd o3 (PyData.noDict_hsm o4) hgd (by omega) (fun _ _ e => e) (fun h' t tk hk => ?_) (PyData.shown_fits (B := 13) (by decide) (by decide) o1 o2)
        exact ⟨.str d.shown, H, I.kept hk, ⟨t, rfl⟩, okV R g (cr_str _)⟩
      · exact g.elim
    · exact g.elim
  · exact g.elim
end Rn

set_option Elab.async false
set_option linter.all false
set_option maxRecDepth 100000
set_option maxHeartbeats 4000000
namespace Rn
open PySem PySem.Spec PyProof.Rows L2 LamX NdefX

/-! ### a lambda with parameters, called where it was handed to -/
def lamF (X : Cx) (params : Arguments) (scope : Scope) (c' : Addr) : NF := ⟨"<lambda>", X.env.qual ++ "<lambda>", params, [], scope, cloFrom X.env.cells scope.names [], c'⟩
theorem cells_un {cl : List (Str × Addr)} {fr : List Str} {ws : List (Option V)} {h h' : Heap} {H H' : Hp} {fs : List Addr} (C : CellsAt cl fr ws h H) (un : Un fs [] H H' h h') : CellsAt cl fr ws h' H' := by
  have kp : ∀ {c : Addr} {v : Option Value}, H c = none → h.IsCell c v → h'.IsCell c v := fun {c v} n ⟨o, ho, hd⟩ => by
    obtain ⟨sl, q⟩ := un.any ho n (by simp)
    exact ⟨_, q, hd⟩
  refine ⟨C.len, fun y c e => ?_, C.inj, fun i y e => ?_⟩
  · obtain ⟨n, v, z⟩ := C.all y c e
    refine ⟨?_, v, kp n z⟩
    obtain ⟨o, ho, _⟩ := z
    exact un.free c o ho n (by simp)
  · obtain ⟨c, hc, hv⟩ := C.has i y e
    refine ⟨c, hc, fun v ev => ?_⟩
    obtain ⟨u, r, z⟩ := hv v ev
    exact ⟨u, r, kp (C.all y c hc).1 z⟩
section
variable {X : Cx} {pins : List (Addr × Obj)} {σ : L2.St} {H : Hp} {s : Shared} {E : XO}
/-- x(e, ..) in the def that got the lambda as x; ws: what the captured names hold -/
theorem pe_actP {CXg CXl : CXT} {Eg El : XK} {Ng Nl ps fr : List Str} {qg : Str} {sg : Scope} {g f c' : Addr} {cdg pm ctv : Value} {params : Arguments} {body : Expr} {scope : Scope} {k i : Nat} {a : Str} {ws : List (Option V)} {tA : TA} {tb : TE} {p1 p2 : Pos} {e : Expr} {es : List Expr}
    (I : Inv X pins σ H s) (S : NScope Nl ps fr scope) (C : CellsAt (cloFrom X.env.cells scope.names []) fr ws s.heap H)
    (hf : s.heap.get? f = some (PySem.W.kla_obj "<lambda>" (X.env.qual ++ "<lambda>") params body scope (cloFrom X.env.cells scope.names []) pm c' ctv)) (hfn : H f = none) (hfr : f ∉ frs X.stack)
    (hbind : ∀ us : List Value, us.length = ps.length → bindArgs (PySem.W.kla_fn "<lambda>" (X.env.qual ++ "<lambda>") params body scope (cloFrom X.env.cells scope.names []) pm (.ref c') ctv) ⟨us, []⟩ = pure (ps.zip us))
    (hr : Room (k + 1) (X.A.deeper (envOfC qg sg s.heap.objs.size g cdg)))
    (hbody : ∀ (A : Around) (outer : List Env) (s : Shared) (H : Hp), A.guards = X.A.guards → Room k (A.deeper (envF (lamF X params scope c') f s.heap.objs.size)) → PE (ncx CXl X.prog X.w X.K X.mg X.base Nl (lamF X params scope c') f A outer s H El) body tb)
    (hCX : ∀ o H s e s', CXl o H s El e s' → False)
    (hN : Ng[i]? = some a) (hv : Vis sg a) (ha : PA (cxOf CXg X.prog X.w X.K X.mg X.base Ng qg sg g cdg X.A X.stack s H Eg) (e :: es) tA) (hd : (a == ("__debug__" : Str)) = false := by decide) (hcd : (a == ("__classdict__" : Str)) = false := by decide)
    (he : starEach (e :: es) (envOfC qg sg s.heap.objs.size g cdg) = (false, eval e (envOfC qg sg s.heap.objs.size g cdg)) :: starEach es (envOfC qg sg s.heap.objs.size g cdg) := by rfl) (hpl : (backTo p2 (starEach es (envOfC qg sg s.heap.objs.size g cdg))).any (·.1) = false := by rfl) :
    PE (cxOf CXg X.prog X.w X.K X.mg X.base Ng qg sg g cdg X.A X.stack s H Eg) (.Call (.Name a p1) (e :: es) [] p2)
      (fun σZ HZ Q => σZ[i]? = some (some (.ref f)) ∧ tA σZ HZ fun vs H2 => H2 c' = some (CodeO c' (X.env.qual ++ "<lambda>")) ∧ vs.length = ps.length ∧ tb (startF Nl vs ws) H2 Q) := by
  constructor
  intro pinsZ sZ σZ HZ Q IZ want
  obtain ⟨at_i, want⟩ := want
  refine wpAny_Call_Name_kw (thn ((pe_var (pos := p1) (i := i) hN hv hd hcd).run pinsZ sZ σZ HZ (fun v H1 => v = .ref f ∧ H1 = HZ) IZ ⟨.ref f, at_i, rfl, rfl⟩) fun u s1 got => ?_)
  obtain ⟨v, H1, I1, r1, ev, eH⟩ := got
  subst ev
  rw [eH] at I1
  obtain rfl : u = Value.ref f := r1
  have there : ∀ {pinsY : List (Addr × Obj)} {σY : L2.St} {HY : Hp} {sY : Shared}, Inv (cxOf CXg X.prog X.w X.K X.mg X.base Ng qg sg g cdg X.A X.stack s H Eg) pinsY σY HY sY → sY.heap.get? f = some (PySem.W.kla_obj "<lambda>" (X.env.qual ++ "<lambda>") params body scope (cloFrom X.env.cells scope.names []) pm c' ctv) :=
    fun J => J.base.keep f _ hf hfn hfr (fun z => nomatch (show f ∈ ([] : List Addr) from z))
  have fnAt : ∀ {h : Heap}, h.get? f = some (PySem.W.kla_obj "<lambda>" (X.env.qual ++ "<lambda>") params body scope (cloFrom X.env.cells scope.names []) pm c' ctv) → PySem.W.FnAt f h := fun z => ⟨_, _, _, _, z⟩
  refine PySem.W.callWith_F (first := []) (fnAt (there I1)) (thn (ha.run p2 pinsZ s1 σZ HZ _ I1 want) fun us s2 got2 => ?_) he hpl
  obtain ⟨vs, H2, I2, rv, hc, hl, ht⟩ := got2
  have of2 := there I2
  refine ⟨fnAt of2, ?_⟩
  show wpAny _ _ (call (.ref f) us) _ _ _
  obtain ⟨⟨oc, ov, t, hoc, hdc, hvc⟩, _, _⟩ := I2.hok c' _ hc
  have un : Un (frs X.stack) [] H H2 s.heap s2.heap := I2.base
  have rc : codeAny (model X.prog X.w) (X.A.deeper (envOfC qg sg s.heap.objs.size g cdg)) (.call (.ref f) ⟨us, []⟩) (CR CXl (envOfC qg sg s.heap.objs.size g cdg :: X.stack) X.prog X.w H2 s2 Q El) s2 := by
    refine PySem.W.kla_callFunE hr.depth of2 rfl S.co S.gen rfl ⟨c', oc, ov, t, rfl, hoc, hdc, hvc⟩ ?_
    rw [hbind us (by rw [← rv.length]; exact hl)]
    refine wpAny_pure (wpAny_newFunctionEnv S.nocell (fun y hy => S.par y.1 (List.of_mem_zip (show (y.1, y.2) ∈ _ from hy)).1) (fun h₁ hns hsb => ⟨I2.nolimit.fresh _ hsb, ?_⟩) S.kind)
    have kp : ∀ b o, s2.heap.get? b = some o → h₁.get? b = some o := fun b o q => hsb.extBut b o (Nat.ne_of_lt (Heap.lt_size q)) (Heap.get?_push_of_some _ q)
    have J : Inv (ncx CXl X.prog X.w X.K X.mg X.base Nl (lamF X params scope c') f (X.A.deeper (envOfC qg sg s.heap.objs.size g cdg)) (envOfC qg sg s.heap.objs.size g cdg :: X.stack) s2 H2 El) [] (startF Nl vs ws) H2 { s2 with heap := h₁, toks := s2.toks + (ps.zip us).length } :=
      inv_startN (F := lamF X params scope c') S hr.hd I2.env0 hl rv (cells_un C un) hns kp
    show codeAny _ _ (.expr body (envF (lamF X params scope c') f s2.heap.objs.size)) _ _
    refine PySem.W.kla_codeExpr (wpAny_mono ((hbody (X.A.deeper (envOfC qg sg s.heap.objs.size g cdg)) (envOfC qg sg s.heap.objs.size g cdg :: X.stack) s2 H2 rfl (hr.deeper _)).run [] _ _ H2 Q J ht) (fun v s' hq => ?_) fun e s' hq => hq)
    obtain ⟨v', H', J', rv', q⟩ := hq
    exact ⟨v', H', J'.os, J'.bare, J'.base, J'.hok, rv', q⟩
  refine wpAny_call (codeAny_mono rc fun r s' hq => ?_)
  cases r with
  | error e => exact (hCX _ _ _ _ _ hq).elim
  | ok fl => cases fl with
    | ret u => exact I2.after hq
    | next => exact hq.elim
    | brk => exact hq.elim
    | cont => exact hq.elim
/-- the lambda is made; nothing that was tracked is gone -/
theorem lam_makeP {T : List (Addr × Str)} {c P : Addr} {params : Arguments} {body : Expr} {scope : Scope} {pos : Pos} {EE : Value → Shared → Prop} {Q : Value → Shared → Prop} (I : Inv X pins σ H s) (TB : TabB X.base X.mg c P) (hcode : X.env.code = .ref c)
    (hm : (P, X.env.qual ++ "<lambda>") ∈ T) (hu : ∀ p ∈ T, p.1 = P → p.2 = X.env.qual ++ "<lambda>") (hT : Tabs T H) (hdef : defaultsOf params X.env = ([], [])) (hfree : ∀ y ∈ scope.names, y.2 = .free → ∃ c, X.env.cells.lookup y.1 = some c)
    (want : ∀ (f c' : Addr) (pm ctv : Value) (H1 : Hp) (s' : Shared), Inv X pins σ H1 s' → ExtN H H1 → (∀ b, H1 b = none → H b = none) → Tabs T H1 →
      s'.heap.get? f = some (PySem.W.kla_obj "<lambda>" (X.env.qual ++ "<lambda>") params body scope (cloFrom X.env.cells scope.names []) pm c' ctv) → H1 f = none → f ∉ frs X.stack → H1 c' = some (CodeO c' (X.env.qual ++ "<lambda>")) → Q (.ref f) s') :
    wpAny (model X.prog X.w) X.A (eval (.Lambda params body scope pos) X.env) Q EE s := by
  obtain ⟨tb, at_P, trip, all⟩ := hT _ hm
  refine PySem.W.kla_eval hdef ?_
  have bltP : s.heap.BuiltinsAt X.mg P := TB.bm.keeps I.bk
  have hpP : s.heap.get? P = some { cls := .none, data := .fields tb } := I.hok P _ at_P
  have outside : ∀ f, s.heap.objs.size ≤ f → f ∉ frs X.stack := fun f le z => by
    rcases List.mem_cons.mp (I.stkSub _ z) with q | q
    · subst q
      exact absurd (Nat.lt_of_lt_of_le I.lt le) (Nat.lt_irrefl _)
    · exact I.nofs le q
  cases among : codeAmong pos tb.toList with
  | some cv =>
    obtain ⟨c', ev, co⟩ := all pos cv among
    subst ev
    refine PySem.W.kla_makeFunctionHit (mg := X.mg) (c := c) (P := P) (ps := tb) (closure_ok hfree) I.ok.glob (I.mod.glob.keeps I.bk) hcode (TB.code.keeps I.bk) hpP trip among bltP fun ctv hN tk hx hsz => ?_
    have IN : Inv X pins σ H { s with heap := hN.push (PySem.W.kla_obj "<lambda>" (X.env.qual ++ "<lambda>") params body scope (cloFrom X.env.cells scope.names []) ((X.mg "__name__").getD .none) c' ctv), toks := tk } := I.kept fun b o q => Heap.get?_push_of_some _ (hx b o q)
    exact want hN.objs.size c' _ ctv H _ IN (ExtN.refl H) (fun _ z => z) hT (Heap.get?_push_size _ rfl) (I.hok.fresh hsz) (outside _ hsz) co
  | none =>
    refine PySem.W.kla_makeFunction (mg := X.mg) (c := c) (P := P) (ps := tb) (closure_ok hfree) I.ok.glob (I.mod.glob.keeps I.bk) hcode (TB.code.keeps I.bk) hpP trip among TB.gP bltP fun c' ctv hN tk hx le lt rec_ tab_ => ?_
    obtain ⟨c2, oc, ov, t, e2, hoc, hd, hv⟩ := rec_
    cases e2
    have freshC : H c' = none := I.hok.fresh le
    have le2 : s.heap.objs.size ≤ hN.objs.size := Nat.le_of_lt (Nat.lt_of_le_of_lt le lt)
    have ne1 : hN.objs.size ≠ c' := Nat.ne_of_gt lt
    have ne2 : hN.objs.size ≠ P := Nat.ne_of_gt (Nat.lt_of_lt_of_le (Heap.lt_size hpP) le2)
    obtain ⟨HN, eHN⟩ : ∃ HN : Hp, HN = upd (upd H P (.tbl (tb ++ #[rawInt pos.line, rawInt pos.col, .ref c']))) c' (CodeO c' (X.env.qual ++ "<lambda>")) := ⟨_, rfl⟩
    have IN := inv_table (t' := tk) (more := #[rawInt pos.line, rawInt pos.col, .ref c']) (h' := hN.push (PySem.W.kla_obj "<lambda>" (X.env.qual ++ "<lambda>") params body scope (cloFrom X.env.cells scope.names []) ((X.mg "__name__").getD .none) c' ctv)) I at_P
      (fun b o nb q => Heap.get?_push_of_some _ (hx b o nb q)) (Heap.get?_push_of_some _ tab_) le ⟨oc, ov, t, Heap.get?_push_of_some _ hoc, hd, hv⟩
    rw [← eHN] at IN
    have eN : ExtN H HN := fun b o q nt => by
      rw [eHN, upd_ne (ne_of_none q freshC), upd_ne (fun z => nt tb (Option.some.inj (q.symm.trans (by rw [z]; exact at_P))))]
      exact q
    have gone : ∀ b, HN b = none → H b = none := fun b q => upd_none (upd_none (by rw [eHN] at q; exact q))
    have atC : HN c' = some (CodeO c' (X.env.qual ++ "<lambda>")) := by rw [eHN]; exact upd_same
    refine want hN.objs.size c' _ ctv HN _ IN eN gone (fun p hp => ?_) (Heap.get?_push_size _ rfl) (by rw [eHN, upd_ne ne1, upd_ne ne2]; exact I.hok.fresh le2) (outside _ le2) atC
    by_cases hb : p.1 = P
    · rw [hu p hp hb, hb]
      refine ⟨tb ++ #[rawInt pos.line, rawInt pos.col, .ref c'], by rw [eHN, upd_ne (ne_of_none at_P freshC), upd_same], ?_, fun p' cv hcv => ?_⟩
      · rw [Array.toList_append]
        exact PySem.TriplesOk_snoc _ _ _ _ trip
      · rw [Array.toList_append] at hcv
        rcases among_app _ trip hcv with z | z
        · obtain ⟨c0, k1, k2⟩ := all p' cv z
          exact ⟨c0, k1, eN _ _ k2 codeO_ne⟩
        · exact ⟨c', z, atC⟩
    · obtain ⟨tb2, k1, k2, k3⟩ := hT p hp
      refine ⟨tb2, by rw [eHN, upd_ne (ne_of_none k1 freshC), upd_ne hb]; exact k1, k2, fun p' cv hcv => ?_⟩
      obtain ⟨c0, q1, q2⟩ := k3 p' cv hcv
      exact ⟨c0, q1, eN _ _ q2 codeO_ne⟩
end
end Rn
namespace Rn
open PySem PyProof.Rows L2 LamX NdefX
def Gb.wl (G : Gb) (a : Addr) (cs : List (Addr × Str)) : Gb := { G with lam := a, lcs := cs }
section
variable {G : Gb} {w w' : Wd} {ρ ρ' : List Addr} {H H' : Hp} {h h' : CH}
theorem WebOk.lamc {G2 : Gb} (hK : G.K = G2.K) (hg : G.ga = G2.ga) (hc : G.cw = G2.cw) (hm : G.memo = G2.memo) {r : WRec} (q : WebOk G w H r) : WebOk G2 w H r := by
  obtain ⟨ks, ⟨dx, tv, h1, hn, h2, h3⟩, h4⟩ := q
  refine ⟨ks, ⟨dx, tv, by rw [← hc]; exact h1, hn, RelC.lamc hK hg [] (by unfold noRef; exact hn) h2, h3⟩, fun kv hk => ?_⟩
  obtain ⟨x, cv, k1, k2, kn, k3⟩ := h4 kv hk
  exact ⟨x, cv, k1, by rw [← hm]; exact k2, kn, RelC.lamc hK hg [] kn k3⟩
theorem PinOk.wl {a : Addr} {cs : List (Addr × Str)} (q : PinOk G w H) : PinOk (G.wl a cs) w H := ⟨fun dd f c z => by
  obtain ⟨x, h1, n, h2⟩ := q.1 dd f c z
  exact ⟨x, h1, n, RelC.lamc (G := G) (G2 := G.wl a cs) rfl rfl [] n h2⟩, fun p hp => ⟨(q.2 p hp).1, RelC.lamc (G := G) (G2 := G.wl a cs) rfl rfl [] (q.2 p hp).1 (q.2 p hp).2⟩⟩
theorem PinOk.unwl {a : Addr} {cs : List (Addr × Str)} (q : PinOk (G.wl a cs) w H) : PinOk G w H := ⟨fun dd f c z => by
  obtain ⟨x, h1, n, h2⟩ := q.1 dd f c z
  exact ⟨x, h1, n, RelC.lamc (G := G.wl a cs) (G2 := G) rfl rfl [] n h2⟩, fun p hp => ⟨(q.2 p hp).1, RelC.lamc (G := G.wl a cs) (G2 := G) rfl rfl [] (q.2 p hp).1 (q.2 p hp).2⟩⟩
theorem Rep.wl (R : Rep G w ρ h H) {a : Addr} {cs : List (Addr × Str)} (hc : ∀ p ∈ cs, H p.1 = some (CodeO p.1 p.2)) : Rep (G.wl a cs) w [] [] H :=
  ⟨List.nodup_nil, by simp, rfl, R.mh, fun n a o h1 => by simp at h1, fun r hr => WebOk.lamc (G := G) (G2 := G.wl a cs) rfl rfl rfl rfl (R.web r hr), R.wne, R.wnf, R.fh, R.tab, hc, R.ow, R.pn.wl⟩
theorem Rep.backL (R : Rep G w ρ h H) {a : Addr} {cs : List (Addr × Str)} (e : Ext w [] H w' ρ' H') (R' : Rep (G.wl a cs) w' ρ' h' H') : Rep G w' ρ h H' := by
  refine ⟨R.nd, fun a ha => e.mM a (R.sub a ha), R.len, R'.mh, fun n a o h1 h2 => ?_, fun r hr => WebOk.lamc (G := G.wl a cs) (G2 := G) rfl rfl rfl rfl (R'.web r hr), R'.wne, R'.wnf, R'.fh, R'.tab, fun p hp => e.keep _ _ (R.lco p hp) (by simp) trivial, R'.ow, R'.pn.unwl⟩
  have ha : a ∈ ρ := List.mem_of_getElem? h1
  refine (R.obj n a o h1 h2).ext e (by simp) fun u hu => ?_
  obtain ⟨u', q1, q2⟩ := R.mh a (R.sub a ha)
  rw [hu] at q1; cases q1
  exact e.keep a u hu (by simp) (by cases u <;> first | exact True.intro | exact .inl (R.sub a ha) | exact q2.elim)
/-- the making of a lambda -/
theorem Rep.extN (R : Rep G w ρ h H) {H1 : Hp} (eN : ExtN H H1) (gone : ∀ b, H1 b = none → H b = none) (T : Tabs G.tabs H1) : Rep G w ρ h H1 ∧ Ext w ρ H w ρ H1 := by
  have e : Ext w ρ H w ρ H1 := by
    refine ⟨fun _ h => h, fun _ h => h, fun _ h => h, fun _ h => .inl h, ⟨[], by simp, by simp⟩, fun b o q _ hd => eN b o q (fun ps z => by subst z; exact hd), fun b o q => ?_, fun b xs q => eN b _ q (fun ps z => nomatch z), fun b o u q => eN b _ q (fun ps z => nomatch z)⟩
    cases z : H1 b with
    | none => rw [gone b z] at q; cases q
    | some o' => exact ⟨o', rfl⟩
  have kp : ∀ b o, H b = some o → Kind o → H1 b = some o := fun b o q k => eN b o q fun ps z => by subst z; exact k
  refine ⟨⟨R.nd, R.sub, R.len, fun a ha => ?_, fun n a o h1 h2 => ?_, fun r hr => ?_, R.wne, R.wnf, fun a ha => ?_, T, fun p hp => eN _ _ (R.lco p hp) codeO_ne, R.ow, R.pn.ext e R.sub R.mh⟩, e⟩
  · obtain ⟨o, h1, h2⟩ := R.mh a ha; exact ⟨o, kp a o h1 h2, h2⟩
  · refine (R.obj n a o h1 h2).ext e R.sub fun u hu => ?_
    obtain ⟨u', q1, q2⟩ := R.mh a (R.sub a (List.mem_of_getElem? h1))
    rw [hu] at q1; cases q1
    exact kp a u hu q2
  · obtain ⟨ks, h1, h2⟩ := R.web r hr
    refine ⟨ks, h1.ext e R.sub R.mh ?_, fun kv hk => (h2 kv hk).ext e R.sub⟩
    obtain ⟨_, _, _, _, _, z⟩ := h1
    exact kp _ _ z trivial
  · obtain ⟨o, z⟩ := R.fh a ha
    exact e.there a o z
/-- a value that stands for itself -/
def scal : CV → Bool
  | .non => true
  | .bl _ => true
  | .int _ => true
  | .str _ => true
  | .g _ => true
  | _ => false
theorem scal_rel {G2 : Gb} {c : CV} {v : V} (s : scal c = true) (hg : G.ga = G2.ga) (r : RelC G w ρ H c v) : RelC G2 w' ρ' H' c v := by
  cases c <;> first | exact absurd s Bool.false_ne_true | (unfold RelC at r ⊢; first | exact r | (rw [← hg]; exact r))
def scalAt (l : Lc) (j : Nat) : Option CV := match l[j]? with
  | some (some c) => if scal c = true then some c else none
  | _ => none
/-- a call of a lambda's holder: only a value comes back -/
def Out.pureL (h : CH) : Out CV → Out CV
  | .ok v _ => if noRef v = true then .ok v h else .stuck
  | .exc _ _ _ => .stuck
  | .ask n f => .ask n fun d => (f d).pureL h
  | .stuck => .stuck
theorem Out.good_pureL {Q : VK} {a : Addr} {cs : List (Addr × Str)} {E : XO} (R : Rep G w ρ h H) : ∀ {o : Out CV}, (o.pureL h).Good (PostV G w ρ H Q) (PostX G w ρ H E) → o.Good (PostV (G.wl a cs) w [] H Q) (PostX (G.wl a cs) w [] H none)
  | .ok v h', g => fun w' ρ' H' x e R' r => by
    unfold Out.pureL at g
    split at g
    · rename_i nr
      exact (show PostV G w ρ H Q v h from g) w' ρ H' x (Ext.wide e) (R.backL e R') (RelC.lamc (G := G.wl a cs) (G2 := G) rfl rfl ρ nr r)
    · exact g.elim
  | .exc _ _ _, g => g.elim
  | .ask n f, g => fun d hd => Out.good_pureL R (g d hd)
  | .stuck, g => g.elim
end
/-- x(..), x the slot i that holds the lambda -/
def cFL (i : Nat) (φ : Fn) (cs : CEs) : CE := fun l h => match l[i]? with
  | some (some .lam) => (cs l h).bind fun xs h1 => φ xs h1
  | _ => .stuck
/-- what the lambda computes: its parameters, the captured names -/
def lamFn (np nl : Nat) (js : List Nat) (cb : CE) (l : Lc) : Fn := fun args h => if args.length = np then cb (args.map some ++ (js.map (scalAt l) ++ List.replicate (nl - args.length - js.length) none)) h else .stuck
def cLamC (ng np nl : Nat) (js : List Nat) (cb : CE) (cg : Fn → CS) (ce : CE) : CE := fun l h => (ce l h).bind fun x h1 => if noRef x = true then (cFun 2 ng (cg (lamFn np nl js cb l)) [x, .lam] []).pureL h1 else .stuck
section
variable {X : Cx} {G : Gb} {E : XO}
/-- the promise of the def that gets the lambda, told of one call -/
def HolderOk (X : Cx) (G : Gb) (k : Nat) (q a : Str) (Ng : List Str) (x : Str) (stg : Stmt) (g : Addr) (cg : Fn → CS) : Prop :=
  ∀ (cdv : Value) (s : Shared) (H : Hp) (f c' : Addr) (φ : Fn), X.A.guards = some [] → Room (k + 1) (X.A.deeper (envOfC x (defScope stg) s.heap.objs.size g cdv)) →
    (∀ (e : Expr) (es : List Expr) (cs : CEs) (p1 p2 : Pos), XA (cxOf (L2.CX X.prog X.w) X.prog X.w X.K X.mg X.base Ng x (defScope stg) g cdv X.A X.stack s H E0) (G.wl f [(c', q)]) none (e :: es) cs →
      starEach (e :: es) (envOfC x (defScope stg) s.heap.objs.size g cdv) = (false, eval e (envOfC x (defScope stg) s.heap.objs.size g cdv)) :: starEach es (envOfC x (defScope stg) s.heap.objs.size g cdv) →
      (backTo p2 (starEach es (envOfC x (defScope stg) s.heap.objs.size g cdv))).any (·.1) = false →
      XE (cxOf (L2.CX X.prog X.w) X.prog X.w X.K X.mg X.base Ng x (defScope stg) g cdv X.A X.stack s H E0) (G.wl f [(c', q)]) none (.Call (.Name a p1) (e :: es) [] p2) (cFL 1 φ cs)) →
    XSs (cxOf (L2.CX X.prog X.w) X.prog X.w X.K X.mg X.base Ng x (defScope stg) g cdv X.A X.stack s H E0) (G.wl f [(c', q)]) none (defBody stg) (cg φ)
theorem cx0_no {P : Program} {W : World} : ∀ o H s e s', L2.CX P W o H s E0 e s' → False := fun o H s e s' h => by
  obtain ⟨_, _, _, _, _, _, _, _, _, _, _, _, z⟩ := h
  exact z
theorem loc_lam {w : Wd} {ρ : List Addr} {H w' ρ' H'} {G2 : Gb} {l : Lc} {σ : L2.St} {args : List CV} {vs : List V} {js : List Nat} {Nl : List Str} (hg : G.ga = G2.ga) (L : LocR G w ρ H l σ) (r : RelCs G2 w' ρ' H' args vs) :
    LocR G2 w' ρ' H' (args.map some ++ (js.map (scalAt l) ++ List.replicate (Nl.length - args.length - js.length) none)) (startF Nl vs (js.map (slotAt σ))) := by
  unfold startF
  refine ⟨by simp [r.length], fun i c hc => ?_⟩
  have len := r.length
  by_cases h1 : i < args.length
  · rw [List.getElem?_append_left (by simpa using h1), List.getElem?_map] at hc
    cases q : args[i]? with
    | none => rw [q] at hc; cases hc
    | some d =>
      rw [q] at hc; cases hc
      obtain ⟨v, k1, k2⟩ := r.get q
      exact ⟨v, by rw [List.getElem?_append_left (by simpa [← len] using h1), List.getElem?_map, k1]; rfl, k2⟩
  · rw [List.getElem?_append_right (by simpa using h1), List.length_map] at hc
    by_cases h2 : i - args.length < js.length
    · rw [List.getElem?_append_left (by simpa using h2), List.getElem?_map] at hc
      cases q : js[i - args.length]? with
      | none => rw [q] at hc; cases hc
      | some j =>
        rw [q] at hc
        have hc' : scalAt l j = some c := Option.some.inj hc
        unfold scalAt at hc'
        split at hc'
        · rename_i d qd
          split at hc'
          · rename_i sd
            cases hc'
            obtain ⟨v, k1, k2⟩ := L.2 j _ qd
            refine ⟨v, ?_, scal_rel sd hg k2⟩
            have e3 : (vs.map some).length = args.length := by rw [List.length_map, len]
            rw [List.getElem?_append_right (by rw [e3]; omega), e3, List.getElem?_append_left (by rw [List.length_map]; exact h2), List.getElem?_map, q]
            show some (slotAt σ j) = some (some v)
            rw [slotAt_of k1]
          · cases hc'
        · cases hc'
    · rw [List.getElem?_append_right (by simpa using h2), List.getElem?_replicate] at hc
      split at hc <;> cases hc
/-- g(e, lambda ..) -/
theorem xe_lamcall {x a : Str} {g c P : Addr} {k ng np nl : Nat} {stg : Stmt} {fdg : FuncData} {Ng Nl ps fr : List Str} {v0 : Str} {js : List Nat} {params : Arguments} {body : Expr} {scope : Scope} {cb ce : CE} {cg : Fn → CS} {p lpos pos : Pos} {e : Expr}
    (gd : X.A.guards = some []) (hr : Room (k + 2) X.A) (hg : Gl X x) (hm : X.mg x = some (.ref g)) (F : Fun X.K x x stg g fdg) (hb : L2.Binds X.K fdg [v0, a] []) (Sg : FnScope Ng [v0, a] (defScope stg)) (hng : Ng.length = ng) (hNg : Ng[1]? = some a) (hva : Vis (defScope stg) a)
    (S : NScope Nl ps fr scope) (hnp : ps.length = np) (hnl : Nl.length = nl) (hfree : ∀ y ∈ scope.names, y.2 = .free → X.env.scope.names.lookup y.1 = some .cell ∨ X.env.scope.names.lookup y.1 = some .free) (hfr : ∀ y ∈ fr, (y, NameKind.free) ∈ scope.names) (hjs : js.map (fun j => X.N[j]?) = fr.map some)
    (TB : TabB X.base X.mg c P) (hcode : X.env.code = .ref c) (hmT : (P, X.env.qual ++ "<lambda>") ∈ G.tabs) (hu : ∀ p ∈ G.tabs, p.1 = P → p.2 = X.env.qual ++ "<lambda>") (hdef : defaultsOf params X.env = ([], []))
    (hbind : ∀ (q : Str) (cl : List (Str × Addr)) (pm cv ctv : Value) (us : List Value), us.length = ps.length → bindArgs (PySem.W.kla_fn "<lambda>" q params body scope cl pm cv ctv) ⟨us, []⟩ = pure (ps.zip us))
    (hG : HolderOk X G k (X.env.qual ++ "<lambda>") a Ng x stg g cg)
    (hbody : ∀ (A : Around) (outer : List Env) (s : Shared) (H : Hp) (f c' : Addr), A.guards = some [] → Room k (A.deeper (envF (lamF X params scope c') f s.heap.objs.size)) →
      XE (ncx (L2.CX X.prog X.w) X.prog X.w X.K X.mg X.base Nl (lamF X params scope c') f A outer s H E0) (G.wl f [(c', X.env.qual ++ "<lambda>")]) none body cb)
    (ha : XE X G E e ce) (hdb : (x == ("__debug__" : Str)) = false := by decide) (hd : (a == ("__debug__" : Str)) = false := by decide) (hcd : (a == ("__classdict__" : Str)) = false := by decide)
    (he : starEach [e, .Lambda params body scope lpos] X.env = [(false, eval e X.env), (false, eval (.Lambda params body scope lpos) X.env)] := by rfl) (hpl : (backTo pos (starEach [.Lambda params body scope lpos] X.env)).any (·.1) = false := by rfl)
    (hbk : backTo pos (starEach [e, .Lambda params body scope lpos] X.env) = [(false, eval e X.env), (false, eval (.Lambda params body scope lpos) X.env)] := by rfl) :
    XE X G E (.Call (.Name x p) [e, .Lambda params body scope lpos] [] pos) (cLamC ng np nl js cb cg ce) := by
  constructor
  intro pins s σ H Q I want
  obtain ⟨w, ρ, l, h, R, L, gg⟩ := want
  refine wpAny_Call_Name_kw (ld_glob I hg hm (PySem.W.callWith_K (h₀ := X.base) I.ok.mod.kin F.kp ?_ he hpl) hdb)
  rw [hbk]
  refine Calls.spliced_cons (thn (ha.run pins s σ H _ I (rd_then R L gg fun w1 ρ1 h1 H1 x v e1 R1 L1 r1 g1 => (⟨w1, ρ1, h1, x, e1, R1, L1, r1, g1⟩ : ∃ w1 ρ1 h1 x, Ext w ρ H w1 ρ1 H1 ∧ Rep G w1 ρ1 h1 H1 ∧ LocR G w1 ρ1 H1 l σ ∧ RelC G w1 ρ1 H1 x v ∧
    (if noRef x = true then (cFun 2 ng (cg (lamFn np nl js cb l)) [x, .lam] []).pureL h1 else .stuck).Good (PostV G w ρ H Q) (PostX G w1 ρ1 H1 E)))) fun u s1 got => ?_)
  obtain ⟨v, H1, I1, rv, w1, ρ1, h1, x1, e1, R1, L1, r1, g1⟩ := got
  split at g1
  case isFalse => exact g1.elim
  case isTrue nr =>
  have hfree' : ∀ y ∈ scope.names, y.2 = .free → ∃ c, X.env.cells.lookup y.1 = some c := fun y hy e => (hfree y hy e).elim (fun z => I1.ok.has _ (.inl z)) fun z => I1.ok.has _ (.inr z)
  refine Calls.spliced_cons (lam_makeP I1 TB hcode hmT hu R1.tab hdef hfree' fun f c' pm ctv H2 s2 I2 eN gone T2 hf hfn hfo hco => ?_)
  refine Calls.spliced_nil ⟨I2.kIn, ?_⟩
  obtain ⟨R2, e2⟩ := R1.extN eN gone T2
  have Rw : Rep (G.wl f [(c', X.env.qual ++ "<lambda>")]) w1 [] [] H2 := R2.wl fun p hp => by
    have z := List.mem_singleton.mp hp
    subst z
    exact hco
  have C : CellsAt (cloFrom X.env.cells scope.names []) fr (js.map (slotAt σ)) s2.heap H2 := cells_of I2 (Caps.made I2.ok hfree hfr hjs)
  obtain ⟨oc, od, kV, doc, pmg, an, cdv, ct, osl, eF, lk, hcd2⟩ := F.ex
  subst eF
  have L2' : LocR G w1 ρ1 H2 l σ := L1.up e2 R1
  have rc : codeAny (model X.prog X.w) X.A (.call (.ref g) ⟨[u, .ref f], []⟩) (CR (L2.CX X.prog X.w) X.stack X.prog X.w H2 s2 Q E0) s2 := by
    refine run_ofS (N := Ng) (ps := [v0, a]) (us := [u, .ref f]) (vs := [v, .ref f]) lk hcd2 Sg hr I2.env0 (by
      have q := hb s2 [u, .ref f] I2.kIn rfl
      rw [List.append_nil] at q
      exact q) (.cons rv (.cons rfl .nil)) rfl fun hr' => ?_
    refine ⟨_, hG cdv s2 H2 f c' (lamFn np nl js cb l) gd hr' fun e' es' cs' p1 p2 hA' he' hpl' => ?_, ?_⟩
    · refine pe_imp (pe_actP (ps := ps) (fr := fr) (Nl := Nl) (k := k) I2 S C hf hfn hfo (hbind _ _ _ _ _) hr' (fun A outer s H gA hrA => hbody A outer s H f c' (gA.trans gd) hrA) cx0_no hNg hva hA' hd hcd he' hpl') fun σZ HZ QZ q => ?_
      obtain ⟨wZ, ρZ, lZ, hZ, RZ, LZ, gZ⟩ := q
      unfold cFL at gZ
      split at gZ
      case h_2 => exact gZ.elim
      case h_1 at1 =>
      obtain ⟨vz, z1, z2⟩ := LZ.2 1 _ at1
      have z3 : vz = .ref f := by unfold RelC at z2; exact z2
      subst z3
      refine ⟨z1, rds_then RZ LZ gZ fun w5 ρ5 h5 H5 ys us5 e5 R5 L5 r5 g5 => ?_⟩
      unfold lamFn at g5
      split at g5
      case isFalse => exact g5.elim
      case isTrue hl =>
      refine ⟨R5.lco _ (List.mem_singleton_self _), by rw [← r5.length, hl, hnp], w5, ρ5, _, h5, R5, ?_, g5.mono (fun _ _ q => q.at e5) fun _ _ _ q => q⟩
      rw [← hnl]
      exact loc_lam (G := G) (G2 := G.wl f [(c', X.env.qual ++ "<lambda>")]) rfl L2' r5
    · have r2 : RelCs (G.wl f [(c', X.env.qual ++ "<lambda>")]) w1 [] H2 [x1, .lam] [v, .ref f] := RelCs.cons (RelC.lamc (G := G) (G2 := G.wl f [(c', X.env.qual ++ "<lambda>")]) rfl rfl [] nr (r1.up e2 R1)) (RelCs.cons (by unfold RelC; rfl) RelCs.nil)
      have g2 := Out.good_pureL (E := E) (a := f) (cs := [(c', X.env.qual ++ "<lambda>")]) R2 (g1.mono (fun _ _ q => q.at (e1.trans e2)) fun _ _ _ q => q.at e2)
      refine ⟨w1, [], _, [], Rw, LocR.start Ng r2, ?_⟩
      unfold cFun at g2
      split at g2
      · rw [hng]
        refine (Out.good_bind.mp g2).mono (fun fl h1 g3 w' ρ' H' e R' => ?_) fun _ _ _ q => q
        cases fl with
        | nx l => exact fun σ' L' => (show PostV (G.wl f [(c', X.env.qual ++ "<lambda>")]) w1 [] H2 Q .non h1 from g3) w' ρ' H' _ e R' cr_non
        | rt v => exact fun u ru => (show PostV (G.wl f [(c', X.env.qual ++ "<lambda>")]) w1 [] H2 Q v h1 from g3) w' ρ' H' u e R' ru
        | bk l => exact g3.elim
        | ct l => exact g3.elim
      · exact g2.elim
  refine wpAny_call (codeAny_mono rc fun r s' hq => ?_)
  cases r with
  | error e => exact (cx0_no _ _ _ _ _ hq).elim
  | ok fl => cases fl with
    | ret u => exact I2.after hq
    | next => exact hq.elim
    | brk => exact hq.elim
    | cont => exact hq.elim
end
end Rn

set_option Elab.async false
set_option linter.all false
set_option maxRecDepth 100000
set_option maxHeartbeats 4000000
namespace Rn
open PySem PyProof.Rows L2

/-! ### an instance's attributes do not matter to values -/
def NotIns : HO → Prop
  | .ins _ _ _ => False
  | _ => True
section
variable {G : Gb} {w : Wd} {H H' : Hp}
theorem same_rdT {K : PySem.W.Frag} {a : Addr} {vs : List V} (k : ∀ b o, H b = some o → NotIns o → H' b = some o) (h : SqT K H a vs) : SqT K H' a vs := by
  rcases h with (h | ⟨o, h⟩) | h
  · exact .inl (.inl (k _ _ h trivial))
  · exact .inl (.inr ⟨o, k _ _ h trivial⟩)
  · exact .inr h
mutual
theorem RelC.same (k : ∀ b o, H b = some o → NotIns o → H' b = some o) {r : List Addr} : ∀ {x : CV} {v : V}, RelC G w r H x v → RelC G w r H' x v
  | .non, _, h => by unfold RelC at h ⊢; exact h
  | .bl _, _, h => by unfold RelC at h ⊢; exact h
  | .int _, _, h => by unfold RelC at h ⊢; exact h
  | .str _, _, h => by unfold RelC at h ⊢; exact h
  | .g _, _, h => by unfold RelC at h ⊢; exact h
  | .tup xs, _, h => by
    unfold RelC at h ⊢
    obtain ⟨a, vs, h1, h2, h3⟩ := h
    exact ⟨a, vs, h1, ⟨same_rdT k h2.1, fun z => k _ _ (h2.2 z) trivial⟩, RelCs.same k h3⟩
  | .lst xs, _, h => by
    unfold RelC at h ⊢
    obtain ⟨a, vs, h1, h2, h3, h4⟩ := h
    exact ⟨a, vs, h1, h2, k _ _ h3 trivial, RelCs.same k h4⟩
  | .web p t, _, h => by unfold RelC at h ⊢; exact h
  | .ref n, _, h => by unfold RelC at h ⊢; exact h
  | .dic ks xs, _, h => by
    unfold RelC at h ⊢
    obtain ⟨a, kvs, h1, h2, h3, h4, h5, h6⟩ := h
    exact ⟨a, kvs, h1, h2, h3, k _ _ h4 trivial, h5, RelCs.same k h6⟩
  | .dit ks xs, _, h => by
    unfold RelC at h ⊢
    obtain ⟨a, kvs, h1, h2, h4, h5, h6⟩ := h
    exact ⟨a, kvs, h1, h2, k _ _ h4 trivial, h5, RelCs.same k h6⟩
  | .lam, _, h => by unfold RelC at h ⊢; exact h
  | .scr ns, _, h => by
    unfold RelC at h ⊢
    obtain ⟨a, h1, h2⟩ := h
    exact ⟨a, h1, h2.imp (fun ⟨o, z⟩ => ⟨o, k _ _ z trivial⟩) (fun z => z)⟩
theorem RelCs.same (k : ∀ b o, H b = some o → NotIns o → H' b = some o) {r : List Addr} : ∀ {xs : List CV} {vs : List V}, RelCs G w r H xs vs → RelCs G w r H' xs vs
  | [], _, h => by unfold RelCs at h ⊢; exact h
  | x :: xs, _, h => by
    unfold RelCs at h ⊢
    obtain ⟨v, y, h1, h2, h3⟩ := h
    exact ⟨v, y, h1, RelC.same k h2, RelCs.same k h3⟩
end
/-- the attributes of an instance that is no known web -/
theorem Rep.ins {ρ : List Addr} {h : CH} (R : Rep G w ρ h H) {x C dx : Addr} {fs fs' : List (Str × V)} (hx : H x = some (.ins C dx fs)) (no : ∀ r ∈ w.O, r.a ≠ x) : Rep G w ρ h (upd H x (.ins C dx fs')) := by
  have k : ∀ b o, H b = some o → NotIns o → upd H x (.ins C dx fs') b = some o := fun b o e n => by
    rw [upd_ne (fun z => by rw [z, hx] at e; cases e; exact n)]; exact e
  have kk : ∀ b o, H b = some o → Kind o → upd H x (.ins C dx fs') b = some o := fun b o e n => k b o e (by cases o <;> first | trivial | exact n.elim)
  refine ⟨R.nd, R.sub, R.len, fun a ha => ?_, fun n a o h1 h2 => ?_, fun r hr => ?_, R.wne, R.wnf, fh_upd R.fh, fun p hp => ?_, fun p hp => k _ _ (R.lco p hp) trivial, R.ow, ⟨fun dd f c z => (let ⟨x', h1, n, h2⟩ := R.pn.1 dd f c z; ⟨x', k _ _ h1 trivial, n, RelC.same k h2⟩), fun p hp => ⟨(R.pn.2 p hp).1, RelC.same k (R.pn.2 p hp).2⟩⟩⟩
  · obtain ⟨o, h1, h2⟩ := R.mh a ha; exact ⟨o, kk a o h1 h2, h2⟩
  · have q := R.obj n a o h1 h2
    cases o with
    | lst xs => obtain ⟨vs, q1, q2⟩ := q; exact ⟨vs, RelCs.same k q1, k _ _ q2 trivial⟩
    | dk kvs => obtain ⟨ks, q0, q1, q2⟩ := q; exact ⟨ks, q0, RelCs.same k q1, k _ _ q2 trivial⟩
    | dt kvs => obtain ⟨ks, q0, q1, q2⟩ := q; exact ⟨ks, q0, RelCs.same k q1, k _ _ q2 trivial⟩
    | bag => obtain ⟨i, j, l, q1, q2, q3, q4⟩ := q; exact ⟨i, j, l, q1, q2, q3, k _ _ q4 trivial⟩
  · obtain ⟨ks, ⟨d2, tv, q1, qn, q2, q3⟩, q4⟩ := R.web r hr
    refine ⟨ks, ⟨d2, tv, by rw [upd_ne (no r hr)]; exact q1, qn, RelC.same k q2, k _ _ q3 trivial⟩, fun kv hk => ?_⟩
    obtain ⟨y, cv, z1, z2, zn, z3⟩ := q4 kv hk
    exact ⟨y, cv, z1, z2, zn, RelC.same k z3⟩
  · obtain ⟨ps, q1, q2, q3⟩ := R.tab p hp
    refine ⟨ps, k _ _ q1 trivial, q2, fun pos cv hc => ?_⟩
    obtain ⟨c, z1, z2⟩ := q3 pos cv hc
    exact ⟨c, z1, k _ _ z2 trivial⟩
end
/-! ### a web is made -/
def webEnd : Fl → CH → Out CV := fun f h => match f with
  | .nx (some .lam :: some (.int p) :: some (.tup t) :: _) => if noRefs t = true then .ok (.web p t) h else .stuck
  | _ => .stuck
def fWeb (m : Nat) (pre : CS) : Fn := fun cs h => match cs with
  | [a, b] => if noRef a = true ∧ noRef b = true then ((pre ([some .lam, some a, some b] ++ List.replicate (m - 3) none) []).bind webEnd).pureL h else .stuck
  | _ => .stuck
theorem Out.good_end {α : Type} {k : α → CH → Out CV} {h : CH} {P : CV → CH → Prop} {Z : Nat → Option CV → CH → Prop} : ∀ {o : Out α}, ((o.bind k).pureL h).Good P Z → o.Good (fun a h' => ((k a h').pureL h).Good P Z) (fun _ _ _ => False)
  | .ok _ _, g => g
  | .exc _ _ _, g => g.elim
  | .ask n f, g => fun d hd => Out.good_end (g d hd)
  | .stuck, g => g.elim
inductive XPre (X : Cx) (G : Gb) : List Stmt → CS → Prop
  | nil : XPre X G [] sNil
  | cons {st : Stmt} {rest : List Stmt} {ca cb : CS} : XS X G none st ca → XPre X G rest cb → XPre X G (st :: rest) (sSeq ca cb)
def PreP (G : Gb) (w : Wd) (ρ : List Addr) (H : Hp) (N : L2.St → Hp → Prop) : Fl → CH → Prop := fun f h' => match f with
  | .nx l => ∀ w' ρ' H', Ext w ρ H w' ρ' H' → Rep G w' ρ' h' H' → ∀ σ', LocR G w' ρ' H' l σ' → N σ' H'
  | _ => False
theorem pre_app {X : Cx} {G : Gb} {b : List Stmt} {u : TS} (hb : PSs X b u) : ∀ {a : List Stmt} {ca : CS}, XPre X G a ca → PSs X (a ++ b) (fun D σ H => ∃ w ρ l h, Rep G w ρ h H ∧ LocR G w ρ H l σ ∧ (ca l h).Good (PreP G w ρ H (u D)) (fun _ _ _ => False))
  | _, _, .nil => pss_imp hb fun D σ H ⟨w, ρ, l, h, R, L, g⟩ => (show PreP G w ρ H (u D) (.nx l) h from g) w ρ H (Ext.refl w ρ H) R σ L
  | _, _, .cons h1 h2 => pss_imp (pss_cons h1 (pre_app hb h2)) fun D σ H ⟨w, ρ, l, h, R, L, g⟩ => by
    refine ⟨w, ρ, l, h, R, L, (Out.good_bind.mp g).mono (fun f hh g1 w' ρ' H' e R' => ?_) fun _ _ _ q => q⟩
    cases f with
    | nx l1 => exact fun σ' L' => ⟨w', ρ', l1, hh, R', L', (show (_ : Out Fl).Good (PreP G w ρ H (u D)) _ from g1).mono (fun f hh q => by
        cases f with
        | nx l2 => exact fun w2 ρ2 H2 e2 => q w2 ρ2 H2 (e.trans e2)
        | rt c => exact q
        | bk l => exact q
        | ct l => exact q) fun _ _ _ q => q⟩
    | rt c => exact (show PreP G w ρ H (u D) (.rt c) hh from g1).elim
    | bk l1 => exact (show PreP G w ρ H (u D) (.bk l1) hh from g1).elim
    | ct l1 => exact (show PreP G w ρ H (u D) (.ct l1) hh from g1).elim
def fsP (v1 : V) : List (Str × V) := [(("places" : Str), v1)]
def fsPT (v1 v2 : V) : List (Str × V) := [(("places" : Str), v1), (("ties" : Str), v2)]
def fsPTK (v1 v2 : V) (d : Addr) : List (Str × V) := [(("places" : Str), v1), (("ties" : Str), v2), (("kept" : Str), .ref d)]
/-- what the three stores of __init__ want -/
def Fin3 (C x dx : Addr) (Q : Hp → Prop) (σ : L2.St) (H : Hp) : Prop := ∃ v1 v2, σ[0]? = some (some (.ref x)) ∧ σ[1]? = some (some v1) ∧ σ[2]? = some (some v2) ∧ H x = some (.ins C dx []) ∧
  ∀ dk, upd (upd H x (.ins C dx (fsP v1))) x (.ins C dx (fsPT v1 v2)) dk = none → Q (upd (upd (upd (upd H x (.ins C dx (fsP v1))) x (.ins C dx (fsPT v1 v2))) dk (.dK [])) x (.ins C dx (fsPTK v1 v2 dk)))
theorem stores3 {X : Cx} {C : Addr} {ts : List Ty} {s0 s1 s2 : Str} {a1 a2 b1 b2 c1 c2 d1 d2 e1 p1 p2 p3 : Pos} (W : WebF X.K C ts) (h0 : X.N[0]? = some s0) (h1 : X.N[1]? = some s1) (h2 : X.N[2]? = some s2) (v0 : Vis X.env.scope s0) (v1 : Vis X.env.scope s1) (v2 : Vis X.env.scope s2)
    (n0 : (s0 == ("__debug__" : Str)) = false ∧ (s0 == ("__classdict__" : Str)) = false) (n1 : (s1 == ("__debug__" : Str)) = false ∧ (s1 == ("__classdict__" : Str)) = false) (n2 : (s2 == ("__debug__" : Str)) = false ∧ (s2 == ("__classdict__" : Str)) = false)
    (w1 : swapsWith (.Name s1 b1) (some (.Attribute (.Name s0 a1) "places" a2)) p1.line X.env = pure false := by rfl) (w2 : swapsWith (.Name s2 b2) (some (.Attribute (.Name s0 c1) "ties" c2)) p2.line X.env = pure false := by rfl)
    (w3 : swapsWith (.Dict [] [] e1) (some (.Attribute (.Name s0 d1) "kept" d2)) p3.line X.env = pure false := by rfl) :
    PSs X [.Assign [.Attribute (.Name s0 a1) "places" a2] (.Name s1 b1) p1, .Assign [.Attribute (.Name s0 c1) "ties" c2] (.Name s2 b2) p2, .Assign [.Attribute (.Name s0 d1) "kept" d2] (.Dict [] [] e1) p3]
      (fun D σ H => ∃ x dx, Fin3 C x dx (fun H' => D.nx σ H') σ H) := by
  refine pss_imp (pss_cons (ps_fld (pe_var h0 v0 n0.1 n0.2) (pe_var h1 v1 n1.1 n1.2) w1) (pss_cons (ps_fld (pe_var h0 v0 n0.1 n0.2) (pe_var h2 v2 n2.1 n2.2) w2) (pss_one (ps_fld (pe_var h0 v0 n0.1 n0.2) pe_dnewK w3)))) fun D σ H ⟨x, dx, u1, u2, k0, k1, k2, hx, q⟩ => ?_
  refine ⟨u1, k1, .ref x, k0, x, C, dx, [], rfl, hx, W.cl, W.nP, by simp, ?_⟩
  refine ⟨u2, k2, .ref x, k0, x, C, dx, fsP u1, rfl, upd_same, W.cl, W.nT, by simp [fsP], ?_⟩
  intro dk hdk
  refine ⟨.ref x, k0, x, C, dx, fsPT u1 u2, rfl, ?_, W.cl, W.nK, by simp [fsPT], q dk hdk⟩
  have ne : x ≠ dk := fun z => by
    have hdk' : upd (upd H x (.ins C dx (fsP u1))) x (.ins C dx (fsPT u1 u2)) dk = none := hdk
    rw [← z, upd_same] at hdk'; cases hdk'
  rw [upd_ne ne]
  exact upd_same
/-- __init__ of a web -/
def spInit (G : Gb) (m : Nat) (pre : CS) : Sp := fun vs H Q E => vs.length = 3 ∧ ∃ x dx v1 v2 w c1 c2, vs = [.ref x, v1, v2] ∧ H x = some (.ins G.cw dx []) ∧ Rep (G.wl x []) w [] [] H ∧ RelCs (G.wl x []) w [] H [c1, c2] [v1, v2] ∧
  (pre ([some .lam, some c1, some c2] ++ List.replicate (m - 3) none) []).Good (PreP (G.wl x []) w [] H fun σ' H' => Fin3 G.cw x dx (fun H2 => Q .non H2) σ' H') (fun _ _ _ => False)
section
variable {P : Program} {W : World} {K : PySem.W.Frag} {mg : Str → Option Value} {base : Heap} {G : Gb}
theorem init_ok {qual : Str} {st : Stmt} {f : Addr} {fd : FuncData} {N : List Str} {s0 s1 s2 : Str} {k m : Nat} {pre : CS} {a post : List Stmt} {dvs : List V} {dkw : List (Str × V)} (F : FunD K "__init__" qual (defArgs st) (defBody st) (defScope st) dvs dkw f fd) (S : FnScope N [s0, s1, s2] (defScope st)) (hm : N.length = m)
    (hbd : defBody st = a ++ post)
    (hpre : ∀ (cdv : Value) (A : Around) (outer : List Env) (s : Shared) (H : Hp) (E : XK) (x : Addr), A.guards = some [] → Room k (A.deeper (envOfC qual (defScope st) s.heap.objs.size f cdv)) → XPre (cxOf (L2.CX P W) P W K mg base N qual (defScope st) f cdv A outer s H E) (G.wl x []) a pre)
    (hpost : ∀ (cdv : Value) (A : Around) (outer : List Env) (s : Shared) (H : Hp) (E : XK), PSs (cxOf (L2.CX P W) P W K mg base N qual (defScope st) f cdv A outer s H E) post (fun D σ H => ∃ x dx, Fin3 G.cw x dx (fun H' => D.nx σ H') σ H)) :
    FnG P W K mg base (L2.CX P W) (k + 1) f fd [s0, s1, s2] (spInit G m pre) := by
  obtain ⟨oc, od, dV, kV, doc, pm, an, cdv, ct, osl, eF, lk, hcd, _, _⟩ := F.ex
  subst eF
  refine fnG_raw lk hcd S (fun vs H Q E h => h.1) fun A outer s H vs Q E gd hr hsp => ?_
  obtain ⟨hl, x, dx, v1, v2, w, c1, c2, ev, hx, R, r, g⟩ := hsp
  subst ev
  rw [hbd]
  refine ⟨_, pre_app (hpost cdv A outer s H E) (hpre cdv A outer s H E x gd hr), w, [], _, [], R, LocR.start N (RelCs.cons (x := .lam) (v := .ref x) (by unfold RelC; rfl) r), ?_⟩
  rw [hm]
  exact g.mono (fun fl hh q => by
    cases fl with
    | nx l => exact fun w' ρ' H' e R' σ' L' => ⟨x, dx, (show PreP (G.wl x []) w [] H _ (.nx l) hh from q) w' ρ' H' e R' σ' L'⟩
    | rt c => exact q
    | bk l => exact q
    | ct l => exact q) fun _ _ _ q => q
end
section
variable {X : Cx} {G : Gb} {E : XO} {k : Nat} {f C : Addr} {fd : FuncData} {ps : List Str} {sp : Sp} {x : Str} {p pos : Pos} {e : Expr} {es : List Expr} {cs : CEs}
theorem under_guards {A : Around} {C : Addr} {us : List Value} {kw : List (Str × Value)} : (A.under (.builtin "type.__call__" ⟨.ref C :: us, kw⟩)).guards = A.guards := by
  have e : (Code.builtin "type.__call__" ⟨.ref C :: us, kw⟩).guards = [] := by
    unfold Code.guards
    rw [if_neg]
    show ¬ (guardIds.contains "type.__call__" = true)
    decide
  show pushGuards (Code.builtin "type.__call__" ⟨.ref C :: us, kw⟩).guards A.guards = A.guards
  rw [e]
  rfl
theorem run_makeG {pins : List (Addr × Obj)} {σ : L2.St} {H : Hp} {s : Shared} {Q : VK} {us : List Value} {vs : List V} {dvs : List V} {ds : List Value} (M : Mk X.K C f) (F : FnG X.prog X.w X.K X.mg X.base (L2.CX X.prog X.w) k f fd ps sp) (gd : X.A.guards = some []) (hr : Room (k + 1) X.A) (hb : L2.Binds X.K fd ps ds) (hd : Vals dvs ds)
    (hx : Passes (L2.CX X.prog X.w) X E0) (I : L2.Inv X pins σ H s) (r : Vals vs us)
    (h : ∀ x dx, H x = none → H dx = none → dx ≠ x → sp (.ref x :: (vs ++ dvs)) (upd (upd H dx (.own x)) x (.ins C dx [])) (fun v H2 => v = .non ∧ Q (.ref x) H2) E0) :
    wpAny (model X.prog X.w) X.A (call (.ref C) us) (EP X pins σ Q) X.xe s := by
  have hx0 : H (s.heap.objs.size + 1) = none := I.hok.fresh (Nat.le_succ _)
  have hd0 : H s.heap.objs.size = none := I.hok.fresh (Nat.le_refl _)
  have hq := h _ _ hx0 hd0 (Nat.ne_of_lt (Nat.lt_succ_self _))
  have I2 := Inv.made (C := C) I
  have r2 : Vals (V.ref (s.heap.objs.size + 1) :: (vs ++ dvs)) (Value.ref (s.heap.objs.size + 1) :: (us ++ ds)) := .cons rfl (r.append hd)
  have hl : (Value.ref (s.heap.objs.size + 1) :: us ++ ds).length = ps.length := by
    rw [List.cons_append, ← r2.length]
    exact F.len _ _ _ _ hq
  refine wpAny_call (make_map (f := f) I.kIn M.makes M.init (beq_iff_eq.mp M.fn) (codeAny_mono (F.go _ X.stack _ _ ⟨Value.ref (s.heap.objs.size + 1) :: us, []⟩ (Value.ref (s.heap.objs.size + 1) :: (us ++ ds)) _ _ E0 (under_guards.trans gd) (hr.make C us []) (I2.env0.make C us [])
    (hb _ (Value.ref (s.heap.objs.size + 1) :: us) I2.kIn hl) r2 hq) fun r s' hq' => ?_))
  cases r with
  | error e => exact hx _ _ _ _ _ _ I2 hq'
  | ok fl => cases fl with
    | ret u =>
      obtain ⟨v, H', I3, rv, ev, q3⟩ := I2.after hq'
      subst ev
      exact ⟨rv, ⟨V.ref (s.heap.objs.size + 1), H', I3, rfl, q3⟩⟩
    | next => exact hq'.elim
    | brk => exact hq'.elim
    | cont => exact hq'.elim
theorem xe_web {m : Nat} {pre : CS} {s0 s1 s2 : Str} {dvs : List V} {ds : List Value} {dcs : List CV} (hK : X.K = G.K) (hC : C = G.cw) (M : Mk X.K C f) (F : FnG X.prog X.w X.K X.mg X.base (L2.CX X.prog X.w) k f fd [s0, s1, s2] (spInit G m pre)) (gd : X.A.guards = some []) (hr : Room (k + 1) X.A) (hg : Gl X x) (hm : X.mg x = some (.ref C)) (hb : L2.Binds X.K fd [s0, s1, s2] ds) (hd : Vals dvs ds)
    (hc : ∀ w ρ H, RelCs G w ρ H dcs dvs) (nd : noRefs dcs = true) (ha : XA X G E (e :: es) cs) (hdb : (x == ("__debug__" : Str)) = false := by decide) (he : starEach (e :: es) X.env = (false, eval e X.env) :: starEach es X.env := by rfl)
    (hpl : (backTo pos (starEach es X.env)).any (·.1) = false := by rfl) : XE X G E (.Call (.Name x p) (e :: es) [] pos) (cF (fun ys => fWeb m pre (ys ++ dcs)) cs) := by
  subst hC
  constructor
  intro pins s σ H Q I want
  obtain ⟨w, ρ, l, h, R, L, gg⟩ := want
  refine wpAny_Call_Name_kw (ld_glob I hg hm (PySem.W.callWith_K (h₀ := X.base) I.ok.mod.kin M.kp (thn (ha.run pos pins s σ H _ I (rds_then R L gg fun w1 ρ1 h1 H1 xs vs e1 R1 L1 r1 g1 => (⟨w1, ρ1, h1, xs, e1, R1, r1, g1⟩ : ∃ w1 ρ1 h1 xs, Ext w ρ H w1 ρ1 H1 ∧ Rep G w1 ρ1 h1 H1 ∧ RelCs G w1 ρ1 H1 xs vs ∧ (fWeb m pre (xs ++ dcs) h1).Good (PostV G w ρ H Q) (PostX G w1 ρ1 H1 E)))) fun us s1 got => ?_) he hpl) hdb)
  obtain ⟨vs, H1, I1, rv, w1, ρ1, h1, xs, e1, R1, r1, g1⟩ := got
  refine ⟨I1.kIn, run_makeG M F gd hr hb hd passL I1 rv fun x dx hx hdx ne => ?_⟩
  have r2 : RelCs G w1 ρ1 H1 (xs ++ dcs) (vs ++ dvs) := r1.append (hc _ _ _)
  unfold fWeb at g1
  split at g1
  case h_2 => exact g1.elim
  case h_1 a b ex =>
  split at g1
  case isFalse => exact g1.elim
  case isTrue nr =>
  rw [ex] at r2
  obtain ⟨v1, v2, ev, ra, rb⟩ := two_of r2
  rw [ev]
  have hx2 : upd H1 dx (.own x) x = none := by rw [upd_ne ne.symm]; exact hx
  have eA : Ext w1 ρ1 H1 w1 ρ1 (upd (upd H1 dx (.own x)) x (.ins G.cw dx [])) := (Ext.fresh w1 ρ1 (.own x) hdx).trans (Ext.fresh w1 ρ1 (.ins G.cw dx []) hx2)
  have RA : Rep G w1 ρ1 h1 (upd (upd H1 dx (.own x)) x (.ins G.cw dx [])) := (R1.fresh (.own x) hdx).fresh (.ins G.cw dx []) hx2
  have RW : Rep (G.wl x []) w1 [] [] (upd (upd H1 dx (.own x)) x (.ins G.cw dx [])) := RA.wl (fun p hp => by cases hp)
  refine ⟨rfl, x, dx, v1, v2, w1, a, b, rfl, upd_same, RW, RelCs.cons (RelC.lamc (G := G) (G2 := G.wl x []) rfl rfl [] nr.1 (ra.up eA R1)) (RelCs.cons (RelC.lamc (G := G) (G2 := G.wl x []) rfl rfl [] nr.2 (rb.up eA R1)) RelCs.nil), ?_⟩
  refine (Out.good_end g1).mono (fun fl hh q => ?_) fun _ _ _ q => q
  unfold webEnd at q
  split at q
  case h_2 => exact q.elim
  case h_1 pp tt rest =>
  split at q
  case isFalse => exact q.elim
  case isTrue nt =>
  have q' : PostV G w ρ H Q (.web pp tt) h1 := by
    unfold Out.pureL at q
    exact q
  intro w' ρ' H' e2 R' σ' L'
  obtain ⟨u0, k0, z0⟩ := L'.2 0 .lam (by simp)
  obtain ⟨u1, k1, z1⟩ := L'.2 1 (.int pp) (by simp)
  obtain ⟨u2, k2, z2⟩ := L'.2 2 (.tup tt) (by simp)
  have e0 : u0 = .ref x := by unfold RelC at z0; exact z0
  subst e0
  have ei := rc_int z1
  subst ei
  have hxI : H' x = some (.ins G.cw dx []) := e2.keep x _ upd_same (by simp) trivial
  refine ⟨.int pp, u2, k0, k1, k2, hxI, fun dk hdk => ⟨rfl, ?_⟩⟩
  have RB : Rep G w' ρ1 h1 H' := RA.backL e2 R'
  have no : ∀ r ∈ w'.O, r.a ≠ x := fun r hr z => by
    obtain ⟨ks, ⟨d2, tv, q1, _⟩, _⟩ := RB.web r hr
    rw [z, hxI] at q1
    cases q1
  have eB : Ext w ρ H w' ρ1 H' := (e1.trans eA).trans (Ext.wide e2)
  have hx0 : H x = none := e1.isNone hx
  have tie0 : RelC G w' [] H' (.tup tt) u2 := RelC.lamc (G := G.wl x []) (G2 := G) rfl rfl [] (by unfold noRef; exact nt) z2
  have kI : ∀ {H2 : Hp} {fs fs' : List (Str × V)}, H2 x = some (.ins G.cw dx fs) → ∀ b o, H2 b = some o → NotIns o → upd H2 x (.ins G.cw dx fs') b = some o := fun {H2 fs fs'} hh b o e n => by
    rw [upd_ne (fun z => by rw [z, hh] at e; cases e; exact n)]; exact e
  have R3 := RB.ins (fs' := fsP (.int pp)) hxI no
  have hx3 : upd H' x (.ins G.cw dx (fsP (.int pp))) x = some (.ins G.cw dx (fsP (.int pp))) := upd_same
  have R4 := R3.ins (fs' := fsPT (.int pp) u2) hx3 no
  have hx4 : upd (upd H' x (.ins G.cw dx (fsP (.int pp)))) x (.ins G.cw dx (fsPT (.int pp) u2)) x = some (.ins G.cw dx (fsPT (.int pp) u2)) := upd_same
  have e4 := (eB.mutNew (o := .ins G.cw dx (fsP (.int pp))) hx0).mutNew (o := .ins G.cw dx (fsPT (.int pp) u2)) hx0
  have t4 : RelC G w' [] (upd (upd H' x (.ins G.cw dx (fsP (.int pp)))) x (.ins G.cw dx (fsPT (.int pp) u2))) (.tup tt) u2 := RelC.same (kI hx3) (RelC.same (kI hxI) tie0)
  have nedk : x ≠ dk := fun z => by rw [← z, hx4] at hdk; cases hdk
  have R5 := R4.fresh (.dK []) hdk
  have e5 := e4.trans (Ext.fresh w' ρ1 (.dK []) hdk)
  have hx5 : upd (upd (upd H' x (.ins G.cw dx (fsP (.int pp)))) x (.ins G.cw dx (fsPT (.int pp) u2))) dk (.dK []) x = some (.ins G.cw dx (fsPT (.int pp) u2)) := by rw [upd_ne nedk]; exact hx4
  have t5 : RelC G w' [] (upd (upd (upd H' x (.ins G.cw dx (fsP (.int pp)))) x (.ins G.cw dx (fsPT (.int pp) u2))) dk (.dK [])) (.tup tt) u2 := RelC.same (fun b o e n => by rw [upd_ne (ne_of_none e hdk)]; exact e) t4
  have R6 := R5.ins (fs' := fsPTK (.int pp) u2 dk) hx5 no
  have e6 := e5.mutNew (o := .ins G.cw dx (fsPTK (.int pp) u2 dk)) hx0
  have t6 := RelC.same (kI (fs' := fsPTK (.int pp) u2 dk) hx5) t5
  have dM : dk ∉ w'.M := R4.notM hdk
  have dF : dk ∉ w'.F := fun z => by obtain ⟨o, q⟩ := R4.fh dk z; rw [hdk] at q; cases q
  obtain ⟨w9, ew⟩ : ∃ w9 : Wd, w9 = ⟨w'.M, ⟨x, dk, pp, tt⟩ :: w'.O, w'.F⟩ := ⟨_, rfl⟩
  have mM : ∀ a ∈ w9.M, a ∈ w'.M := by rw [ew]; exact fun _ h => h
  have mO : ∀ a ∈ w'.O, a ∈ w9.O := by rw [ew]; exact fun a h => List.mem_cons_of_mem _ h
  have mF : ∀ a ∈ w'.F, a ∈ w9.F := by rw [ew]; exact fun _ h => h
  have hdk6 : upd (upd (upd (upd H' x (.ins G.cw dx (fsP (.int pp)))) x (.ins G.cw dx (fsPT (.int pp) u2))) dk (.dK [])) x (.ins G.cw dx (fsPTK (.int pp) u2 dk)) dk = some (.dK []) := by rw [upd_ne nedk.symm]; exact upd_same
  have R9 : Rep G w9 ρ1 h1 (upd (upd (upd (upd H' x (.ins G.cw dx (fsP (.int pp)))) x (.ins G.cw dx (fsPT (.int pp) u2))) dk (.dK [])) x (.ins G.cw dx (fsPTK (.int pp) u2 dk))) := by
    refine ⟨R6.nd, by rw [ew]; exact R6.sub, R6.len, by rw [ew]; exact R6.mh, fun n a o z1 z2 => (R6.obj n a o z1 z2).less mM mO mF, fun r hr => ?_, fun r hr z => ?_, fun r hr z => ?_, by rw [ew]; exact R6.fh, R6.tab, R6.lco, ?_, R6.pn.less mM mO mF⟩
    · rw [ew] at hr
      rcases List.mem_cons.mp hr with z | z
      · subst z
        exact ⟨[], ⟨dx, u2, upd_same, nt, RelC.less mM mO mF t6, hdk6⟩, fun kv hk => by cases hk⟩
      · exact (R6.web r z).less mM mO mF
    · rw [ew] at hr
      rcases List.mem_cons.mp hr with y | y
      · subst y; exact dM (mM _ z)
      · exact R6.wne r y (mM _ z)
    · rw [ew] at hr z
      rcases List.mem_cons.mp hr with y | y
      · subst y; exact dF z
      · exact R6.wnf r y z
    · rw [ew]
      have nd : ∀ r ∈ w'.O, r.d ≠ dk := fun r hr z => by
        obtain ⟨ks, ⟨_, _, _, _, _, q⟩, _⟩ := R4.web r hr
        rw [z, hdk] at q
        cases q
      refine ⟨fun r1 k1 r2 k2 ed => ?_, fun a p t eo => ?_⟩
      · rcases List.mem_cons.mp k1 with y1 | y1
        · rcases List.mem_cons.mp k2 with y2 | y2
          · rw [y1, y2]; exact ⟨rfl, rfl⟩
          · rw [y1] at ed; exact (nd r2 y2 ed.symm).elim
        · rcases List.mem_cons.mp k2 with y2 | y2
          · rw [y2] at ed; exact (nd r1 y1 ed).elim
          · exact R6.ow.1 r1 y1 r2 y2 ed
      · obtain ⟨r, h1, h2⟩ := R6.ow.2 a p t eo
        exact ⟨r, List.mem_cons_of_mem _ h1, h2⟩
  have e9 : Ext w ρ H w9 ρ1 (upd (upd (upd (upd H' x (.ins G.cw dx (fsP (.int pp)))) x (.ins G.cw dx (fsPT (.int pp) u2))) dk (.dK [])) x (.ins G.cw dx (fsPTK (.int pp) u2 dk))) := by
    rw [ew]
    exact ⟨e6.mM, fun r hr => List.mem_cons_of_mem _ (e6.mO r hr), e6.mF, e6.new, e6.pre, e6.keep, e6.there, e6.tup, e6.frz⟩
  refine q' w9 ρ1 _ (.ref x) e9 R9 ?_
  unfold RelC
  exact ⟨⟨x, dk, pp, tt⟩, by rw [ew]; exact List.mem_cons_self, rfl, rfl, rfl⟩
end
end Rn

set_option Elab.async false
set_option linter.all false
set_option maxRecDepth 100000
set_option maxHeartbeats 4000000
namespace Rn
open PySem L2

/-! ### a store into a tracked list -/
def tgSub (eo ei : CE) : CTg := fun c l h => (eo l h).bind fun o h1 => (ei l h1).bind fun i h2 => match o, i with
  | .ref n, .int k => match lstOf h2 (.ref n) with
    | some xs => match ixN xs.length k with
      | some j => if noRef c = true then .ok l (h2.set n (.lst (xs.set j c))) else .stuck
      | none => .stuck
    | none => .stuck
  | _, _ => .stuck
section
variable {G : Gb} {w : Wd} {ρ : List Addr} {H : Hp} {h : CH}
theorem RelCs.setAt : ∀ {xs : List CV} {vs : List V} {j : Nat} {c : CV} {v : V}, RelCs G w ρ H xs vs → RelC G w ρ H c v → RelCs G w ρ H (xs.set j c) (vs.set j v)
  | [], _, j, c, v, r, _ => by unfold RelCs at r; subst r; exact RelCs.nil
  | x :: xs, _, 0, c, v, r, rc => by
    unfold RelCs at r
    obtain ⟨u, us, h1, h2, h3⟩ := r
    subst h1
    exact RelCs.cons rc h3
  | x :: xs, _, j + 1, c, v, r, rc => by
    unfold RelCs at r
    obtain ⟨u, us, h1, h2, h3⟩ := r
    subst h1
    exact RelCs.cons h2 (RelCs.setAt h3 rc)
end
theorem xg_sub {X : Cx} {G : Gb} {E : XO} {o i : Expr} {eo ei : CE} {pos : Pos} (ho : XE X G E o eo) (hi : XE X G E i ei) (ha : ∀ v, assign (.Subscript o i pos) X.env v = (do
      let ov ← holding [v] (eval o X.env)
      let iv ← holding [v, ov] (eval i X.env)
      standAt pos
      holding [v, ov, iv] (setItem ov iv v)
      release [v, ov, iv] []) := by intro _; rfl) : XG X G E (.Subscript o i pos) (tgSub eo ei) := pg_imp (pg_sub ho hi set_list ha) fun v σ H Q ⟨w, ρ, l, h, c, R, L, r, g⟩ => by
  refine rd_then R L g fun w1 ρ1 h1 H1 x u e1 R1 L1 r1 g1 => rd_then R1 L1 g1 fun w2 ρ2 h2 H2 y z e2 R2 L2 r2 g2 => ?_
  split at g2
  case h_2 => exact g2.elim
  case h_1 n k =>
  split at g2
  case h_2 => exact g2.elim
  case h_1 xs q =>
  split at g2
  case h_2 => exact g2.elim
  case h_1 j hj =>
  split at g2
  case isFalse => exact g2.elim
  case isTrue nr =>
  obtain ⟨a, vs, k1, k2, k3, k4⟩ := refL R2 (r1.up e2 R1) q
  refine ⟨a, vs, k, j, k1, rc_int r2, k3, by rw [← k4.length]; exact hj, ?_⟩
  have hm : a ∈ ρ2 := List.mem_of_getElem? k2
  have e3 : Ext w2 ρ2 H2 w2 ρ2 (upd H2 a (.lst (vs.set j v))) := Ext.write w2 hm k3 trivial
  have r3 : RelCs G w2 [] (upd H2 a (.lst (vs.set j v))) (xs.set j c) (vs.set j v) := RelCs.ext e3 R2.sub ⟨[], rfl⟩ (k4.setAt (RelC.free [] nr (r.up (e1.trans e2) R)))
  obtain ⟨R3, _⟩ := R2.write (o := .lst (vs.set j v)) (co := .lst (xs.set j c)) k2 trivial ⟨_, r3, upd_same⟩
  exact (show PostL G w ρ H Q l _ from g2) w2 ρ2 _ σ ((e1.trans e2).trans e3) R3 (L2.up e3 R2)

/-! ### bags: lists of three whole numbers from which anything may be drawn -/
def takeF : Fn := fun cs h => match cs with
  | [.ref n, .int m] => match h[n]? with
    | some .bag => if okM m = true then .ask m.toNat fun d => .ok (.int d) h else .stuck
    | _ => .stuck
  | _ => .stuck
def bag3 (i j k : Int) : CO := .lst [.int i, .int j, .int k]
/-- what a def that draws must do -/
def Takes3 (f : Fn) : Prop := ∀ (n : Nat) (h : CH) (i j k m : Int), 0 ≤ i → 0 ≤ j → 0 ≤ k → 0 < m → m < 1073741824 → h[n]? = some (bag3 i j k) →
  ∃ (d : Nat) (i' j' k' : Int), d < m.toNat ∧ 0 ≤ i' ∧ 0 ≤ j' ∧ 0 ≤ k' ∧ f [.ref n, .int m] h = .ok (.int d) (h.set n (bag3 i' j' k'))
def okScr (ns : List Int) : Bool := decide (ns.length ≤ 63) && ns.all fun z => decide (Builtin.Int.intBits z ≤ 1048576)
def makeF : Fn := fun cs h => match cs with
  | [.scr ns, .int k] => if okScr ns = true ∧ 0 ≤ k ∧ k < 64 then .ok (.ref h.length) (h ++ [.bag]) else .stuck
  | _ => .stuck
def Makes3 (f : Fn) : Prop := ∀ (h : CH) (ns : List Int) (k : Int), ns.length ≤ 63 → (∀ z ∈ ns, Builtin.Int.intBits z ≤ 1048576) → 0 ≤ k → k < 64 → ∃ i j l : Int, 0 ≤ i ∧ 0 ≤ j ∧ 0 ≤ l ∧ f [.scr ns, .int k] h = .ok (.ref h.length) (h ++ [bag3 i j l])
section
variable {G : Gb} {E : XO} {w : Wd} {ρ : List Addr} {H : Hp} {h : CH}
theorem bag_in {n : Nat} (R : Rep G w ρ h H) (e : h[n]? = some .bag) : ∃ i j k : Int, 0 ≤ i ∧ 0 ≤ j ∧ 0 ≤ k ∧ Rep G w ρ (h.set n (bag3 i j k)) H := by
  have hl : n < ρ.length := by rw [R.len]; exact (List.getElem?_eq_some_iff.mp e).1
  obtain ⟨i, j, k, h1, h2, h3, h4⟩ := R.obj n ρ[n] .bag (by simp [hl]) e
  refine ⟨i, j, k, h1, h2, h3, R.nd, R.sub, by simp [R.len], R.mh, fun m a o k1 k2 => ?_, R.web, R.wne, R.wnf, R.fh, R.tab, R.lco, R.ow, R.pn⟩
  by_cases z : m = n
  · subst z
    rw [List.getElem?_set_self (by rw [← R.len]; exact hl)] at k2
    cases k2
    have ea : a = ρ[m] := by
      rw [List.getElem?_eq_getElem hl] at k1
      exact (Option.some.inj k1).symm
    rw [ea]
    exact ⟨_, RelCs.cons (cr_int i) (RelCs.cons (cr_int j) (RelCs.cons (cr_int k) RelCs.nil)), h4⟩
  · rw [List.getElem?_set_ne (Ne.symm z)] at k2
    exact R.obj m a o k1 k2
theorem bag_out {n : Nat} {i j k : Int} (R : Rep G w ρ (h.set n (bag3 i j k)) H) (e : h[n]? = some .bag) (h1 : 0 ≤ i) (h2 : 0 ≤ j) (h3 : 0 ≤ k) : Rep G w ρ h H := by
  have hl : n < h.length := (List.getElem?_eq_some_iff.mp e).1
  have len := R.len
  rw [List.length_set] at len
  refine ⟨R.nd, R.sub, len, R.mh, fun m a o k1 k2 => ?_, R.web, R.wne, R.wnf, R.fh, R.tab, R.lco, R.ow, R.pn⟩
  by_cases z : m = n
  · subst z
    rw [e] at k2
    cases k2
    obtain ⟨vs, q1, q2⟩ := R.obj m a (bag3 i j k) k1 (by rw [List.getElem?_set_self hl])
    have ev := intsOf_ok q1 (show intsOf [.int i, .int j, .int k] = some [i, j, k] from rfl)
    subst ev
    exact ⟨i, j, k, h1, h2, h3, q2⟩
  · exact R.obj m a o k1 (by rw [List.getElem?_set_ne (Ne.symm z)]; exact k2)
theorem rd_take {f : Fn} (T : Takes3 f) : ∀ xs H Q, rdF G E takeF xs H Q → rdF G E f xs H Q := fun xs H Q ⟨w, ρ, h, cs, R, r, g⟩ => by
  unfold takeF at g
  split at g
  case h_2 => exact g.elim
  case h_1 n m =>
  split at g
  case h_2 => exact g.elim
  case h_1 e =>
  split at g
  case isFalse => exact g.elim
  case isTrue hm =>
  obtain ⟨i, j, k, h1, h2, h3, R2⟩ := bag_in R e
  have hl : n < h.length := (List.getElem?_eq_some_iff.mp e).1
  obtain ⟨d, i', j', k', hd, p1, p2, p3, ef⟩ := T n (h.set n (bag3 i j k)) i j k m h1 h2 h3 (okM_iff.mp hm).1 (okM_iff.mp hm).2 (by rw [List.getElem?_set_self hl])
  refine ⟨w, ρ, _, [.ref n, .int m], R2, r, ?_⟩
  rw [ef, List.set_set]
  have gd : PostV G w ρ H Q (.int d) h := g d hd
  exact fun w' ρ' H' v e' R' rv => gd w' ρ' H' v e' (bag_out R' e p1 p2 p3) rv
theorem rd_make {f : Fn} (T : Makes3 f) : ∀ xs H Q, rdF G E makeF xs H Q → rdF G E f xs H Q := fun xs H Q ⟨w, ρ, h, cs, R, r, g⟩ => by
  unfold makeF at g
  split at g
  case h_2 => exact g.elim
  case h_1 ns k =>
  split at g
  case isFalse => exact g.elim
  case isTrue hk =>
  obtain ⟨ok, hk0, hk1⟩ := hk
  simp only [okScr, Bool.and_eq_true, decide_eq_true_eq, List.all_eq_true] at ok
  obtain ⟨i, j, l, h1, h2, h3, ef⟩ := T h ns k ok.1 ok.2 hk0 hk1
  refine ⟨w, ρ, h, [.scr ns, .int k], R, r, ?_⟩
  rw [ef]
  intro w' ρ' H' v e R r
  refine (show PostV G w ρ H Q (.ref h.length) (h ++ [.bag]) from g) w' ρ' H' v e (bag_out (n := h.length) (i := i) (j := j) (k := l) ?_ (by rw [List.getElem?_append_right (Nat.le_refl _)]; simp) h1 h2 h3) r
  have q : (h ++ [CO.bag]).set h.length (bag3 i j l) = h ++ [bag3 i j l] := by
    rw [List.set_append_right _ _ (Nat.le_refl _)]
    simp
  rw [q]
  exact R
end
end Rn

set_option Elab.async false
set_option linter.all false
set_option maxRecDepth 100000
set_option maxHeartbeats 4000000
/-! sorting of tuples of whole numbers, any number of them -/
namespace RnS
open PySem PyProof.Rows Srt SrtO
/-- the loop over two tuples -/
def lexZ (fin : Bool) : List Int → List Int → Bool
  | x :: xs, y :: ys => if x = y then lexZ fin xs ys else decide (x < y)
  | _, _ => fin
theorem lexZ_eq : ∀ xs ys : List Int, lexZ (decide (xs.length < ys.length)) xs ys = HT.lexLt xs ys
  | [], [] => by simp [lexZ, HT.lexLt]
  | [], _ :: _ => by simp [lexZ, HT.lexLt]
  | _ :: _, [] => by simp [lexZ, HT.lexLt]
  | x :: xs, y :: ys => by
    have e : decide ((x :: xs).length < (y :: ys).length) = decide (xs.length < ys.length) := by simp
    rw [e]
    unfold lexZ HT.lexLt
    rw [lexZ_eq xs ys]
theorem lexLt_irr : ∀ xs : List Int, HT.lexLt xs xs = false
  | [] => rfl
  | x :: xs => by unfold HT.lexLt; rw [if_pos rfl]; exact lexLt_irr xs
theorem lexLt_asym : ∀ {xs ys : List Int}, HT.lexLt xs ys = true → HT.lexLt ys xs = false
  | [], [], h => by cases h
  | [], _ :: _, _ => rfl
  | _ :: _, [], h => by cases h
  | x :: xs, y :: ys, h => by
    unfold HT.lexLt at h ⊢
    by_cases e : x = y
    · subst e
      rw [if_pos rfl] at h ⊢
      exact lexLt_asym h
    · rw [if_neg e] at h
      rw [if_neg (Ne.symm e)]
      have a := of_decide_eq_true h
      exact decide_eq_false (by omega)
/-- no greater: a before, or like, b -/
theorem lexLe_trans : ∀ {xs ys zs : List Int}, HT.lexLt ys xs = false → HT.lexLt zs ys = false → HT.lexLt zs xs = false
  | [], _, zs, _, _ => by cases zs <;> rfl
  | x :: xs, [], _, h, _ => by cases h
  | x :: xs, y :: ys, [], _, h => by cases h
  | x :: xs, y :: ys, z :: zs, h1, h2 => by
    unfold HT.lexLt at h1 h2 ⊢
    by_cases e1 : y = x
    · rw [if_pos e1] at h1
      by_cases e2 : z = y
      · rw [if_pos e2] at h2
        rw [if_pos (e2.trans e1)]
        exact lexLe_trans h1 h2
      · rw [if_neg e2] at h2
        rw [if_neg (fun q => e2 (q.trans e1.symm)), ← e1]
        exact h2
    · rw [if_neg e1] at h1
      have a := of_decide_eq_false h1
      by_cases e2 : z = y
      · rw [if_neg (fun q => e1 (e2.symm.trans q)), e2]
        exact h1
      · rw [if_neg e2] at h2
        have b := of_decide_eq_false h2
        rw [if_neg (by omega)]
        exact decide_eq_false (by omega)
theorem lexLt_same : ∀ {xs ys : List Int}, HT.lexLt xs ys = false → HT.lexLt ys xs = false → xs = ys
  | [], [], _, _ => rfl
  | [], _ :: _, h, _ => by cases h
  | _ :: _, [], _, h => by cases h
  | x :: xs, y :: ys, h1, h2 => by
    unfold HT.lexLt at h1 h2
    by_cases e : x = y
    · subst e
      rw [if_pos rfl] at h1 h2
      rw [lexLt_same h1 h2]
    · rw [if_neg e] at h1
      rw [if_neg (Ne.symm e)] at h2
      have a := of_decide_eq_false h1
      have b := of_decide_eq_false h2
      omega
theorem swo_tup (k : Value → List Int) : Swo fun v u => HT.lexLt (k v) (k u) :=
  ⟨fun _ _ h => lexLt_asym h, fun _ _ _ h1 h2 => lexLe_trans h1 h2⟩
section
variable {prog : Program} {w : World} {A : Around} {E : Value → Shared → Prop} {s : Shared}
theorem kat_ints {fin : Bool} {Q : Bool → Shared → Prop} : ∀ {xs ys : List Value} {ns ms : List Int} (i : Nat), IntsAre xs ns → IntsAre ys ms → Q (lexZ fin ns ms) s → PySem.W.KatLex prog w A true fin Q (xs.zip ys) i s
  | _, _, _, _, i, .nil, hy, q => by
    show PySem.W.KatLex prog w A true fin Q [] i s
    refine PySem.W.kat_nil ?_
    unfold lexZ at q
    exact q
  | _, _, _, _, i, .cons n t r, .nil, q => by
    show PySem.W.KatLex prog w A true fin Q [] i s
    refine PySem.W.kat_nil ?_
    unfold lexZ at q
    exact q
  | _, _, _, _, i, .cons (vs := xs) (ns := ns) n t r, .cons (vs := ys) (ns := ms) m u r', q => by
    show PySem.W.KatLex prog w A true fin Q ((.int n t, .int m u) :: xs.zip ys) i s
    refine PySem.W.kat_cons (SeqAt.EqAt.int_int n t m u prog w _ _ ?_)
    unfold lexZ at q
    refine PySem.W.kat_go (fun e1 => ?_) (fun e1 => ?_)
    · have ex : n = m := by simpa using e1
      rw [if_pos ex] at q
      exact PySem.W.kat_yes (kat_ints (i + 1) r r' q)
    · have ex : ¬ n = m := by simpa using e1
      rw [if_neg ex] at q
      cases i with
      | zero => exact PySem.W.kat_no (oneLt_int q)
      | succ i => exact PySem.W.kat_no (PySem.W.kat_one _ _ (PyProof.Rows.lt_int q))
theorem tup_cmp {vs : List Value} {k : Value → List Int} (hp : ∀ v ∈ vs, TS.TupInts s.heap v (k v)) : Cmp prog w A s (tuples' true) (fun p => p.1 ∈ vs) (lt2 fun v u => HT.lexLt (k v) (k u)) := by
  intro p q hm hm'
  obtain ⟨a, xs, e, ⟨o, ho, hc, n, hd⟩, hi⟩ := hp _ hm
  obtain ⟨a', xs', e', ⟨o', ho', hc', n', hd'⟩, hi'⟩ := hp _ hm'
  show wpAny (model prog w) A (keyLt' (tuples' true) p.1 q.1) (fun r s' => s' = s ∧ r = HT.lexLt (k p.1) (k q.1)) (fun _ _ => False) s
  generalize k p.1 = ns at hi ⊢
  generalize k q.1 = ms at hi' ⊢
  rw [e, e']
  refine PySem.W.kat_lt ho hd ho' hd' (kat_ints 0 hi hi' ⟨rfl, ?_⟩)
  rw [← lexZ_eq, ← hi.length, ← hi'.length]
  rfl
theorem tup_firsts : ∀ {vs : List Value} {k : Value → List Int}, (∀ v ∈ vs, TS.TupInts s.heap v (k v) ∧ k v ≠ []) → ∃ fs, PySem.W.KatTups s.heap vs fs ∧ fs.length = vs.length ∧ ∀ f ∈ fs, ∃ i t, f = Value.int i t
  | [], _, _ => ⟨[], PySem.W.KatTups.nil, rfl, by simp⟩
  | v :: vs, k, h => by
    obtain ⟨fs, h1, h2, h3⟩ := tup_firsts (vs := vs) (k := k) fun u hu => h u (List.mem_cons_of_mem _ hu)
    obtain ⟨⟨a, xs, e, ⟨o, ho, hc, n, hd⟩, hi⟩, hne⟩ := h v List.mem_cons_self
    generalize k v = ns at hi hne
    obtain ⟨l, q⟩ : ∃ l : List Value, l = xs.toList := ⟨_, rfl⟩
    rw [← q] at hi
    cases hi with
    | nil => exact (hne rfl).elim
    | cons i t r =>
      refine ⟨.int i t :: fs, ?_, by simp [h2], fun f hf => ?_⟩
      · rw [e]
        exact PySem.W.KatTups.cons ho hc hd (by rw [← Array.getElem?_toList, ← q]; rfl) h1
      · rcases List.mem_cons.mp hf with z | z
        · exact ⟨i, t, z⟩
        · exact h3 f z
theorem tups_sortableO {a : Addr} {vs : List Value} {k : Value → List Int} (h0 : 0 < vs.length) (hp : ∀ v ∈ vs, TS.TupInts s.heap v (k v) ∧ k v ≠ []) (ha : ∀ o, s.heap.get? a = some o → o.cls ≠ .type "tuple") : SortableO prog w A s a vs fun v u => HT.lexLt (k v) (k u) := by
  intro h' keep
  have hp' : ∀ v ∈ vs, TS.TupInts h' v (k v) ∧ k v ≠ [] := fun v hm => ⟨(hp v hm).1.keeps fun b o e c => keep b o (fun z => by subst z; exact ha o e c) e, (hp v hm).2⟩
  obtain ⟨fs, h1, h2, h3⟩ := tup_firsts (s := { s with heap := h' }) hp'
  refine ⟨tuples' true, fun Q E hq => ?_, tup_cmp (s := { s with heap := h' }) fun v hv => (hp' v hv).1⟩
  refine PySem.W.kat_kind (T := .type "int") h1 (by omega) (fun f hm => ?_) (by rfl) ?_
  · obtain ⟨x, t, rfl⟩ := h3 f hm
    exact PySem.W.Looks.now
  · have e : (Value.type "int" != Value.type "tuple") = true := by first | decide +kernel | rfl | decide
    rw [e]
    exact hq
end
end RnS

namespace L2
open PySem PySem.Spec PyProof.Rows
/-- sorted(xs), a list of tuples of ints, none empty, any number of them -/
def rSortedTI (K : PySem.W.Frag) : List V → Hp → VK → Prop := fun vs H Q => ∃ (a : Addr) (L : List (V × List Int)), vs = [V.ref a] ∧ SqL K H a (L.map (·.1)) ∧ (∀ p ∈ L, ∃ t, p.1 = V.ref t ∧ SqT K H t (p.2.map V.int) ∧ p.2 ≠ []) ∧
  ∀ (L' : List (V × List Int)) (p : Addr), L'.Perm L → L'.Pairwise (fun x y => HT.lexLt y.2 x.2 = false) → H p = none → Q (.ref p) (upd H p (.lst (L'.map (·.1))))
section
variable {X : Cx}
theorem tup_back {pins : List (Addr × Obj)} {σ : St} {H : Hp} {s : Shared} (I : Inv X pins σ H s) : ∀ {L : List (V × List Int)} {its : List Value}, Vals (L.map (·.1)) its → (∀ p ∈ L, ∃ t, p.1 = V.ref t ∧ SqT X.K H t (p.2.map V.int) ∧ p.2 ≠ []) →
    its.map (fun u => (bkV u, TS.intsOf s.heap u)) = L ∧ (∀ u ∈ its, TS.TupInts s.heap u (TS.intsOf s.heap u) ∧ TS.intsOf s.heap u ≠ []) ∧ ∀ u ∈ its, ∃ a, u = Value.ref a
  | [], its, rv, _ => by cases rv; exact ⟨rfl, by simp, by simp⟩
  | p :: L, its, rv, h => by
    rw [List.map_cons] at rv
    cases rv with
    | cons r1 r2 =>
      rename_i u us
      obtain ⟨h1, h2, h3⟩ := tup_back I r2 fun q hq => h q (List.mem_cons_of_mem _ hq)
      obtain ⟨t, e, ht, hn⟩ := h p List.mem_cons_self
      rw [e] at r1
      cases r1
      have ti := tupI_raw I ht
      have ei := ti.ints
      refine ⟨?_, fun u hu => ?_, fun u hu => ?_⟩
      · rw [List.map_cons, h1, ei]
        congr 1
        exact Prod.ext e.symm rfl
      · rcases List.mem_cons.mp hu with z | z
        · subst z
          rw [ei]
          exact ⟨ti, hn⟩
        · exact h2 u z
      · rcases List.mem_cons.mp hu with z | z
        · exact ⟨t, z⟩
        · exact h3 u z
theorem cr_sortedTI : CallR X (.builtin "sorted") (rSortedTI X.K) := by
  intro pins s σ H vs us Q I r h
  obtain ⟨a, L, rfl, hs, hx, q⟩ := h
  obtain ⟨its, rv, hl, hz⟩ := I.list hs
  rw [Vals.ref1 r]
  obtain ⟨b1, b2, b3⟩ := tup_back I rv hx
  refine SrtO.sorted_ord (RnS.swo_tup (TS.intsOf s.heap)) hl.isList (by rw [← rv.length]; exact hz) (fun h2 h₁ a' ha' hk => ?_) fun out h1 h2 => ?_
  · have e : ∀ v ∈ its, TS.intsOf h₁ v = TS.intsOf s.heap v := fun v hv => ((b2 v hv).1.keeps fun b o e c => (hk b o e).2).ints
    refine RnS.tups_sortableO (s := { s with heap := h₁ }) (by omega) (fun v hv => ⟨(b2 v hv).1.keeps fun b o e c => (hk b o e).2, (b2 v hv).2⟩) fun o ho => ?_
    have e' : some o = some (seqObj "list" its.toArray 0) := ho.symm.trans ha'
    cases e'
    intro c
    exact absurd (Value.type.inj c) (by decide)
  · have pm : (out.map fun u => (bkV u, TS.intsOf s.heap u)).Perm L := by
      rw [← b1]
      exact h2.perm.map _
    obtain ⟨ep, he'⟩ := PyProof.Rows.sortedAll_at s.heap its out.toArray
    have hv : Vals (((out.map fun u => (bkV u, TS.intsOf s.heap u))).map (·.1)) out := by
      rw [List.map_map]
      exact bkV_vals fun u hu => b3 u (h2.perm.mem_iff.mp hu)
    have hlen : (((out.map fun u => (bkV u, TS.intsOf s.heap u))).map (·.1)).length ≤ sizeLine := by
      rw [List.length_map, pm.length_eq]
      rw [List.length_map] at hz
      exact hz
    exact ⟨.ref _, upd H (s.heap.objs.size + 1) (.lst (((out.map fun u => (bkV u, TS.intsOf s.heap u))).map (·.1))), I.laid (t' := s.toks) (fun _ _ => PyProof.Rows.sortedAll_old) (Nat.le_succ _) ⟨hlen, out, ep, hv, he'⟩, rfl,
      q _ _ pm (List.pairwise_map.mpr h1) (I.hok.fresh (Nat.le_succ _))⟩

/-- sorted(d), a dict with tuples of ints, none empty, as keys -/
def rSortedDT : List V → Hp → VK → Prop := fun vs H Q => ∃ (a : Addr) (kvs : List (List Key × V)) (ks : List (List Int)), vs = [V.ref a] ∧ Rd H a (.dT kvs) ∧ kvs.map (·.1) = ks.map (·.map Sum.inl) ∧ (∀ k ∈ ks, k ≠ []) ∧
  ∀ (L' : List (Addr × List Int)) (p : Addr), (L'.map (·.2)).Perm ks → L'.Pairwise (fun x y => HT.lexLt y.2 x.2 = false) → (∀ q ∈ L', H q.1 = some (.tup (q.2.map V.int))) → H p = none → Q (.ref p) (upd H p (.lst (L'.map fun q => V.ref q.1)))
theorem keys_ints {P : Program} {w : World} {h : Heap} : ∀ {xs : List (List Key × Addr × Value)} {ks : List (List Int)}, xs.map (·.1) = ks.map (·.map Sum.inl) → (∀ x ∈ xs, (tupleKind (mixKind P w)).is h x.1 x.2.1) → ∀ x ∈ xs, ∃ ns, ns ∈ ks ∧ x.1 = ns.map Sum.inl ∧ TS.TupInts h (.ref x.2.1) ns := fun {xs ks} e hi x hx => by
  have m : x.1 ∈ ks.map (·.map Sum.inl) := by rw [← e]; exact List.mem_map.mpr ⟨x, hx, rfl⟩
  obtain ⟨ns, h1, h2⟩ := List.mem_map.mp m
  refine ⟨ns, h1, h2.symm, ?_⟩
  obtain ⟨o, its, n, q1, q2, q3, q4⟩ := hi x hx
  refine ⟨x.2.1, its, rfl, ⟨o, q1, q2, n, q3⟩, ?_⟩
  rw [← h2] at q4
  clear q1 q2 q3 h1 h2 m
  obtain ⟨l, el⟩ : ∃ l, l = its.toList := ⟨_, rfl⟩
  rw [← el] at q4 ⊢
  clear el
  induction ns generalizing l with
  | nil => cases q4; exact .nil
  | cons i ns ih =>
    rw [List.map_cons] at q4
    cases q4 with
    | cons k1 k2 =>
      rcases keyIs_shape (show keyIs (Sum.inl i) _ = true from k1) with ⟨j, t, ek, ev⟩ | ⟨z, t, ek, ev⟩
      · cases ek
        rw [ev]
        exact .cons _ _ (ih _ k2)
      · cases ek
theorem tkeys_at {pins : List (Addr × Obj)} {σ : St} {H : Hp} {s : Shared} (I1 : Inv X pins σ H s) {kvs : List (List Key × V)} {xs : List (List Key × Addr × Value)} (pr : KT H kvs xs) : ∀ {ks : List (List Int)}, kvs.map (·.1) = ks.map (·.map Sum.inl) → (∀ k ∈ ks, k ≠ []) →
      (xs.map fun x => Value.ref x.2.1).map (fun u => TS.intsOf s.heap u) = ks ∧ ∀ u ∈ xs.map fun x => Value.ref x.2.1, ∃ t, u = Value.ref t ∧ TS.TupInts s.heap u (TS.intsOf s.heap u) ∧ TS.intsOf s.heap u ≠ [] ∧ H t = some (.tup ((TS.intsOf s.heap u).map V.int)) := by
  induction pr with
  | nil =>
    intro ks e _
    cases ks with
    | nil => exact ⟨rfl, by simp⟩
    | cons k r => cases e
  | @cons p x ps ys hq t ih =>
    intro ks e hne
    cases ks with
    | nil => cases e
    | cons k r =>
      rw [List.map_cons, List.map_cons] at e
      injection e with e1 e2
      obtain ⟨i1, i2⟩ := ih e2 fun k' hk' => hne k' (List.mem_cons_of_mem _ hk')
      have hb : H x.2.1 = some (.tup (k.map V.int)) := by
        have z := hq.2.1
        rw [e1, List.map_map] at z
        exact z
      have ti : TS.TupInts s.heap (.ref x.2.1) k := tupI_raw I1 (SqT.of hb)
      have ei := ti.ints
      refine ⟨by rw [List.map_cons, List.map_cons, i1, ei], fun u hu => ?_⟩
      rw [List.map_cons] at hu
      rcases List.mem_cons.mp hu with z | z
      · subst z
        rw [ei]
        exact ⟨_, rfl, ti, hne k List.mem_cons_self, hb⟩
      · exact i2 u z
theorem vals_ad {h' : Heap} (ad : Value → Addr) (hr : ∀ t, ad (.ref t) = t) : ∀ {out : List Value}, (∀ u ∈ out, ∃ t, u = Value.ref t) → Vals ((out.map fun u => (ad u, TS.intsOf h' u)).map fun q => V.ref q.1) out
  | [], _ => .nil
  | u :: us, h => by
    obtain ⟨t, e⟩ := h u List.mem_cons_self
    rw [List.map_cons, List.map_cons]
    refine .cons ?_ (vals_ad ad hr fun v hv => h v (List.mem_cons_of_mem _ hv))
    subst e
    show Value.ref t = Value.ref (ad (.ref t))
    rw [hr]
theorem call_sortedDT (hc : X.calm = true) : CallR X (.builtin "sorted") rSortedDT := by
  intro pins s σ H vs us Q I r h
  obtain ⟨a, kvs, ks, rfl, hd, hks, hne, q⟩ := h
  rw [Vals.ref1 r]
  obtain ⟨z, lo, xs, pr, o, es, ep, ho, hx, hdt, he, hrest⟩ := (show ObjOk X.prog X.w H s.heap a (.dT kvs) from hd.ok I.hok)
  have l1 : es.size = xs.length := size_of_entries he
  have l2 : kvs.length = xs.length := Paired.length pr
  have l3 : kvs.length = ks.length := by
    have e := congrArg List.length hks
    rw [List.length_map, List.length_map] at e
    exact e
  refine Calls.call_function_entry PyProof.Rows.kind_sorted PyProof.Rows.plain_sorted PyProof.Rows.entry_sorted (PyProof.Rows.args_sorted1 _) ?_
  unfold Builtin.«sorted»
  refine wpAny_bind (m := checkCount "sorted" 1 1 _) (wpAny_pure ?_)
  refine wpAny_bind (PySem.W.kdu_collect (A := X.A.in1) (kdl_raw lo hx hdt) (I.ok.hd hc) ho (by omega) fun h' tk acc hk hacc => ?_)
  have ea : acc.toList = xs.map fun x => Value.ref x.2.1 := by
    have hl : acc.toList.length = xs.length := by rw [Array.length_toList, hacc.1]; exact l1
    apply List.ext_getElem?
    intro j
    rw [List.getElem?_map]
    cases hj : acc.toList[j]? with
    | none =>
      have h1 := List.getElem?_eq_none_iff.mp hj
      rw [List.getElem?_eq_none (by omega)]
      all_goals rfl
    | some v =>
      obtain ⟨en, hen, hv⟩ := hacc.2 j v (by rw [← Array.getElem?_toList]; exact hj)
      have qe := entry_at he j
      rw [hen] at qe
      cases hb : xs[j]? with
      | none =>
        rw [hb] at qe
        exact nomatch (show some en = none from qe)
      | some b =>
        rw [hb] at qe
        have e2 : en = entryOfKey (tupleKind (mixKind X.prog X.w)) b := Option.some.inj qe
        rw [hv, e2]
        all_goals rfl
  have I1 : Inv X pins σ H { s with heap := h', toks := tk } := I.kept hk
  -- the keys as lists of ints
  obtain ⟨m1, m2⟩ := tkeys_at I1 pr hks hne
  rw [← ea] at m1 m2
  have hal : acc.toList.length = ks.length := by rw [← m1, List.length_map]
  have h16 : acc.toList.length ≤ sizeLine := by rw [hal, ← l3]; exact z
  refine wpAny_bind (wpAny_newList ?_ h16)
  have hoL : (h'.push (seqObj "list" acc.toList.toArray 0)).get? h'.objs.size = some (seqObj "list" acc.toList.toArray 0) := Heap.get?_push_size _ rfl
  show wpAny _ _ _ _ _ { s with heap := h'.push (seqObj "list" acc.toList.toArray 0), toks := tk }
  have kp : ∀ v ∈ acc.toList, TS.TupInts (h'.push (seqObj "list" acc.toList.toArray 0)) v (TS.intsOf h' v) ∧ TS.intsOf h' v ≠ [] := fun v hv => by
    obtain ⟨t, _, q1, q2, _⟩ := m2 v hv
    exact ⟨q1.keeps fun b o e _ => Heap.get?_push_of_some _ e, q2⟩
  refine wpAny_bind (wpAny_holding (wpAny_call_entry PyProof.Rows.slot_list_sort ⟨_, hoL, rfl⟩ PyProof.Rows.entry_list_sort
    (SrtO.list_sort_ord (s := { s with heap := h'.push (seqObj "list" acc.toList.toArray 0), toks := tk }) (RnS.swo_tup (TS.intsOf h')) hoL h16 (fun h2 => RnS.tups_sortableO (by omega) kp fun o ho' => ?_) fun out h1 h2 => ⟨_, rfl, ?_⟩) (PyProof.Rows.args_list_sort _)))
  · have e' : some o = some (seqObj "list" acc.toList.toArray 0) := ho'.symm.trans hoL
    cases e'
    intro c
    exact absurd (Value.type.inj c) (by decide)
  obtain ⟨e', he'⟩ := PyProof.Rows.sortedHeap_at (vs := acc.toList) (out := out.toArray) hoL
  have h3 : ∀ u ∈ out, ∃ t, u = Value.ref t ∧ TS.TupInts h' u (TS.intsOf h' u) ∧ TS.intsOf h' u ≠ [] ∧ H t = some (.tup ((TS.intsOf h' u).map V.int)) := fun u hu => m2 u (h2.perm.mem_iff.mp hu)
  let ad : Value → Addr := fun u => match u with
    | .ref t => t
    | _ => 0
  have pm : ((out.map fun u => (ad u, TS.intsOf h' u)).map (·.2)).Perm ks := by
    rw [List.map_map, ← m1]
    exact h2.perm.map _
  have hv : Vals ((out.map fun u => (ad u, TS.intsOf h' u)).map fun q => V.ref q.1) out := vals_ad ad (fun _ => rfl) fun u hu => let ⟨t, e, _⟩ := h3 u hu; ⟨t, e⟩
  have hlen : ((out.map fun u => (ad u, TS.intsOf h' u)).map fun q => V.ref q.1).length ≤ sizeLine := by
    rw [List.length_map, List.length_map, h2.perm.length_eq]
    exact h16
  refine wpAny_pure ⟨_, rfl, .ref h'.objs.size, upd H h'.objs.size (.lst ((out.map fun u => (ad u, TS.intsOf h' u)).map fun q => V.ref q.1)), I1.laid (t' := tk) (fun b u e => ?_) (Nat.le_refl _)
    (show ObjOk X.prog X.w _ _ _ (.lst ((out.map fun u => (ad u, TS.intsOf h' u)).map fun q => V.ref q.1)) from ⟨hlen, out, e', hv, he'⟩), rfl, q _ _ pm (List.pairwise_map.mpr h1) (fun p hp => ?_) (I1.hok.fresh (Nat.le_refl _))⟩
  · have hb : b < h'.objs.size := Heap.lt_size e
    rw [PyProof.Rows.sortedHeap_old (Nat.ne_of_lt hb) (by rw [size_push']; exact Nat.lt_succ_of_lt hb)]
    exact Heap.get?_push_of_some _ e
  · obtain ⟨u, hu, e⟩ := List.mem_map.mp hp
    subst e
    obtain ⟨t, e, _, _, ht⟩ := h3 u hu
    subst e
    exact ht
end
end L2

set_option Elab.async false
set_option linter.all false
set_option maxRecDepth 100000
set_option maxHeartbeats 4000000
namespace Rn
open PySem L2

/-! ### dicts with tuples as keys -/
abbrev TKey := List Key
def keysOfC : List CV → Option TKey
  | [] => some []
  | x :: r => match keyOf x, keysOfC r with
    | some k, some ks => some (k :: ks)
    | _, _ => none
def tkOf : CV → Option TKey
  | .tup (x :: xs) => keysOfC (x :: xs)
  | _ => none
def dtOf (h : CH) : CV → Option (List TKey × List CV)
  | .dit ks xs => some (ks, xs)
  | .ref n => match h[n]? with
    | some (.dt kvs) => some (kvs.map (·.1), kvs.map (·.2))
    | _ => none
  | _ => none
def valT : List TKey → List CV → TKey → Option CV
  | k :: ks, v :: vs, x => if k = x then some v else valT ks vs x
  | _, _, _ => none
def putC (kvs : List (TKey × CV)) (k : TKey) (c : CV) : List (TKey × CV) :=
  if (kvs.any fun kv => decide (kv.1 = k)) = true then kvs.map (fun kv => if kv.1 = k then (kv.1, c) else kv) else kvs ++ [(k, c)]
def fInT (neg : Bool) : F2 := fun x y h => match dtOf h y, tkOf x with
  | some d, some k => .ok (.bl (if neg then !(valT d.1 d.2 k).isSome else (valT d.1 d.2 k).isSome)) h
  | _, _ => fInG neg x y h
def fIxT : F2 := fun x y h => match dtOf h x with
  | some d => match tkOf y with
    | some k => match valT d.1 d.2 k with
      | some v => .ok v h
      | none => .stuck
    | none => .stuck
  | none => fIx x y h
def tgSubT (eo ei : CE) : CTg := fun c l h => (eo l h).bind fun o h1 => (ei l h1).bind fun i h2 => match o, tkOf i with
  | .ref n, some k => match h2[n]? with
    | some (.dt kvs) => if noRef c = true ∧ kvs.length < big then .ok l (h2.set n (.dt (putC kvs k c))) else .stuck
    | _ => .stuck
  | _, _ => .stuck
def cDicT : CE := fun _ h => .ok (.ref h.length) (h ++ [.dt []])
def cGet1 (o a : CE) : CE := fun l h => (o l h).bind fun x h1 => match dtOf h1 x with
  | none => .stuck
  | some _ => (a l h1).bind fun y h2 => match dtOf h2 x, tkOf y with
    | some d, some k => .ok ((valT d.1 d.2 k).getD .non) h2
    | _, _ => .stuck
def cGet2 (o a b : CE) : CE := fun l h => (o l h).bind fun x h1 => match dtOf h1 x with
  | none => .stuck
  | some _ => (a l h1).bind fun y h2 => (b l h2).bind fun z h3 => match dtOf h3 x, tkOf y with
    | some d, some k => .ok ((valT d.1 d.2 k).getD z) h3
    | _, _ => .stuck
def fLenT : Fn := fun cs h => match cs with
  | [x] => match dtOf h x with
    | some d => .ok (.int (d.1.length : Nat)) h
    | none => fLen [x] h
  | _ => .stuck
section
variable {X : Cx} {G : Gb} {E : XO} {w : Wd} {ρ : List Addr} {H : Hp} {h : CH}
theorem keysOfC_rel : ∀ {xs : List CV} {vs : List V} {ks : TKey}, RelCs G w ρ H xs vs → keysOfC xs = some ks → vs = ks.map kV
  | [], vs, ks, r, e => by
    unfold keysOfC at e
    cases e
    unfold RelCs at r
    exact r
  | x :: xs, vs, ks, r, e => by
    unfold keysOfC at e
    unfold RelCs at r
    obtain ⟨v, us, h1, h2, h3⟩ := r
    split at e
    · rename_i k ks' e1 e2
      cases e
      rw [h1, List.map_cons, keyOf_rel h2 e1, keysOfC_rel h3 e2]
    · cases e
theorem tk_ok {x : CV} {v : V} {k : TKey} (r : RelC G w ρ H x v) (e : tkOf x = some k) : ∃ b, v = .ref b ∧ H b = some (.tup (k.map kV)) := by
  unfold tkOf at e
  split at e
  · rename_i y ys
    obtain ⟨a, vs, h1, h2, h3⟩ := rc_tupA r
    have ev := keysOfC_rel h3 e
    refine ⟨a, h1, ?_⟩
    rw [← ev]
    refine h2.2 fun z => ?_
    rw [z] at h3
    unfold RelCs at h3
    obtain ⟨_, _, q, _⟩ := h3
    cases q
  · cases e
theorem dt_okC (R : Rep G w ρ h H) {x : CV} {v : V} {d : List TKey × List CV} (r : RelC G w ρ H x v) (e : dtOf h x = some d) : ∃ a kvs, v = .ref a ∧ H a = some (.dT kvs) ∧ kvs.map (·.1) = d.1 ∧ RelCs G w ρ H d.2 (kvs.map (·.2)) := by
  unfold dtOf at e
  split at e
  · cases e
    obtain ⟨a, kvs, h1, _, h2, h3, h4⟩ := rc_dit r
    exact ⟨a, kvs, h1, h2, h3, h4⟩
  · rename_i n
    split at e
    · rename_i kvs q
      cases e
      unfold RelC at r
      obtain ⟨a, r1, r2⟩ := r
      obtain ⟨us, k1, k2, k3⟩ := R.obj n a _ r1 q
      exact ⟨a, us, r2, k3, k1, k2.any⟩
    · cases e
  · cases e
theorem valT_rel : ∀ {kvs : List (TKey × V)} {ks : List TKey} {xs : List CV} (k : TKey), kvs.map (·.1) = ks → RelCs G w ρ H xs (kvs.map (·.2)) → (valT ks xs k = none → valV kvs k = none) ∧ ∀ c, valT ks xs k = some c → ∃ v, valV kvs k = some v ∧ RelC G w ρ H c v
  | [], ks, xs, k, e, r => by
    cases e
    rw [List.map_nil] at r
    cases xs with
    | nil =>
      refine ⟨fun _ => rfl, fun c z => ?_⟩
      unfold valT at z
      cases z
    | cons x xs => unfold RelCs at r; obtain ⟨_, _, q, _⟩ := r; cases q
  | p :: kvs, ks, xs, k, e, r => by
    cases e
    rw [List.map_cons] at r
    cases xs with
    | nil => unfold RelCs at r; cases r
    | cons x xs =>
      unfold RelCs at r
      obtain ⟨v, us, q, r1, r2⟩ := r
      obtain ⟨rfl, rfl⟩ : p.2 = v ∧ kvs.map (·.2) = us := by injection q with q1 q2; exact ⟨q1, q2⟩
      obtain ⟨i1, i2⟩ := valT_rel (kvs := kvs) (xs := xs) k rfl r2
      rw [List.map_cons]
      unfold valT
      by_cases ek : p.1 = k
      · rw [if_pos ek]
        refine ⟨(fun z => nomatch z), fun c z => ?_⟩
        cases z
        exact ⟨p.2, valV_pos ek, r1⟩
      · rw [if_neg ek, valV_neg ek]
        exact ⟨i1, i2⟩
theorem valT_get {kvs : List (TKey × V)} {d : List TKey × List CV} (k : TKey) (e : kvs.map (·.1) = d.1) (r : RelCs G w ρ H d.2 (kvs.map (·.2))) : (valV kvs k).isSome = (valT d.1 d.2 k).isSome := by
  obtain ⟨h1, h2⟩ := valT_rel k e r
  cases q : valT d.1 d.2 k with
  | none => rw [h1 q]; rfl
  | some c => obtain ⟨v, z, _⟩ := h2 c q; rw [z]; rfl
theorem putC_rel {kvs : List (TKey × CV)} {us : List (TKey × V)} {k : TKey} {c : CV} {v : V} (e : us.map (·.1) = kvs.map (·.1)) (r : RelCs G w ρ H (kvs.map (·.2)) (us.map (·.2))) (rv : RelC G w ρ H c v) :
    (putK us k v).map (·.1) = (putC kvs k c).map (·.1) ∧ RelCs G w ρ H ((putC kvs k c).map (·.2)) ((putK us k v).map (·.2)) := by
  have ea : (us.any fun kv => decide (kv.1 = k)) = (kvs.any fun kv => decide (kv.1 = k)) := by
    have z : ∀ (l : List TKey), l.any (fun q => decide (q = k)) = l.any (fun q => decide (q = k)) := fun _ => rfl
    have e1 : (us.map (·.1)).any (fun q => decide (q = k)) = us.any fun kv => decide (kv.1 = k) := by rw [List.any_map]; rfl
    have e2 : (kvs.map (·.1)).any (fun q => decide (q = k)) = kvs.any fun kv => decide (kv.1 = k) := by rw [List.any_map]; rfl
    rw [← e1, ← e2, e]
  unfold putK putC
  rw [ea]
  by_cases hany : (kvs.any fun kv => decide (kv.1 = k)) = true
  · rw [if_pos hany, if_pos hany]
    clear ea hany
    induction us generalizing kvs with
    | nil =>
      cases kvs with
      | nil => exact ⟨rfl, RelCs.nil⟩
      | cons p r => cases e
    | cons q us ih =>
      cases kvs with
      | nil => cases e
      | cons p kvs =>
        rw [List.map_cons, List.map_cons] at e r
        injection e with e1 e2
        unfold RelCs at r
        obtain ⟨v', us', q1, r1, r2⟩ := r
        injection q1 with q2 q3
        subst q2 q3
        obtain ⟨i1, i2⟩ := ih e2 r2
        rw [List.map_cons, List.map_cons, List.map_cons, List.map_cons]
        have e1' : q.1 = p.1 := e1
        by_cases ek : p.1 = k
        · rw [if_pos ek, if_pos (e1'.trans ek)]
          exact ⟨by rw [i1]; exact congrArg (· :: _) e1', RelCs.cons rv i2⟩
        · rw [if_neg ek, if_neg (fun z => ek (e1'.symm.trans z))]
          exact ⟨by rw [i1]; exact congrArg (· :: _) e1', RelCs.cons r1 i2⟩
  · rw [if_neg hany, if_neg hany, List.map_append, List.map_append, List.map_append, List.map_append, e]
    exact ⟨rfl, r.append (RelCs.cons rv RelCs.nil)⟩
theorem putC_len (kvs : List (TKey × CV)) (k : TKey) (c : CV) : (putC kvs k c).length ≤ kvs.length + 1 := by
  unfold putC
  split
  · rw [List.length_map]; omega
  · rw [List.length_append]; simp

/-! ### in, not in, d[k] -/
def rDIn (neg : Bool) : R2 := fun y x H Q => ∃ a o, x = .ref a ∧ DGet H a y o ∧ Q (.bl (if neg then !o.isSome else o.isSome)) H
theorem op_dIn (hu : X.A.units + 1 < cLine) : OpR X (compareOp .In) (rDIn false) := by
  intro pins s σ H x y v u Q I rx ry h
  obtain ⟨a, o, ex, dg, q⟩ := h
  subst ex
  cases ry
  exact d_in hu I dg rx fun s' I' => ⟨.bl o.isSome, H, I', rfl, q⟩
theorem op_dNotIn (hu : X.A.units + 1 < cLine) : OpR X (compareOp .NotIn) (rDIn true) := by
  intro pins s σ H x y v u Q I rx ry h
  obtain ⟨a, o, ex, dg, q⟩ := h
  subst ex
  cases ry
  exact d_notIn hu I dg rx fun s' I' => ⟨.bl (!o.isSome), H, I', rfl, q⟩
theorem fInT_ok {neg : Bool} {cx cy : CV} {x y : V} {Q : VK} (R : Rep G w ρ h H) (rx : RelC G w ρ H cx x) (ry : RelC G w ρ H cy y) (g : (fInT neg cx cy h).Good (PostV G w ρ H Q) (PostX G w ρ H E)) : rDIn neg x y H Q ∨ (fInG neg cx cy h).Good (PostV G w ρ H Q) (PostX G w ρ H E) := by
  unfold fInT at g
  split at g
  · rename_i d k e1 e2
    obtain ⟨a, kvs, k1, k2, k3, k4⟩ := dt_okC R ry e1
    obtain ⟨b, q1, q2⟩ := tk_ok rx e2
    refine .inl ⟨a, valV kvs k, k1, by rw [q1]; exact DGet.t k2 q2, ?_⟩
    rw [valT_get k k3 k4]
    exact okV R g (cr_bl _)
  · exact .inr g
theorem o_inT (hK : X.K = G.K) (hu : X.A.units + 65 < cLine) : OpR X (compareOp .In) (rd2 G E (fInT false)) := OpR.imp ((op_dIn (by omega)).or (o_in hK hu)) fun x y H Q ⟨w, ρ, h, cx, cy, R, rx, ry, g⟩ =>
  (fInT_ok R rx ry g).imp id fun g => ⟨w, ρ, h, cx, cy, R, rx, ry, g⟩
theorem o_notInT (hK : X.K = G.K) (hu : X.A.units + 65 < cLine) : OpR X (compareOp .NotIn) (rd2 G E (fInT true)) := OpR.imp ((op_dNotIn (by omega)).or (o_notIn hK hu)) fun x y H Q ⟨w, ρ, h, cx, cy, R, rx, ry, g⟩ =>
  (fInT_ok R rx ry g).imp id fun g => ⟨w, ρ, h, cx, cy, R, rx, ry, g⟩
theorem o_ixT (hK : X.K = G.K) (hu : X.A.units + 1 < cLine) : IxR X (rd2 G E fIxT) := by
  have z : IxR X (fun x y H Q => rDct x y H Q ∨ rd2 G E fIx x y H Q) := fun vl sl pins s σ H x y v u Q I rx ry q => q.elim (fun q => ix_dct hu vl sl pins s σ H x y v u Q I rx ry q) fun q => o_ix hK hu vl sl pins s σ H x y v u Q I rx ry q
  refine IxR.imp z fun x y H Q ⟨w, ρ, h, cx, cy, R, rx, ry, g⟩ => ?_
  unfold fIxT at g
  split at g
  · rename_i d e1
    split at g
    · rename_i k e2
      split at g
      · rename_i c e3
        obtain ⟨a, kvs, k1, k2, k3, k4⟩ := dt_okC R rx e1
        obtain ⟨b, q1, q2⟩ := tk_ok ry e2
        obtain ⟨v, z1, z2⟩ := (valT_rel k k3 k4).2 c e3
        exact .inl ⟨a, v, k1, by rw [← z1, q1]; exact DGet.t k2 q2, okV R g z2⟩
      · exact g.elim
    · exact g.elim
  · exact .inr ⟨w, ρ, h, cx, cy, R, rx, ry, g⟩
/-! ### a store -/
theorem xg_subT (hu : X.A.units + 1 < cLine) {o i : Expr} {eo ei : CE} {pos : Pos} (ho : XE X G E o eo) (hi : XE X G E i ei) (ha : ∀ v, assign (.Subscript o i pos) X.env v = (do
      let ov ← holding [v] (eval o X.env)
      let iv ← holding [v, ov] (eval i X.env)
      standAt pos
      holding [v, ov, iv] (setItem ov iv v)
      release [v, ov, iv] []) := by intro _; rfl) : XG X G E (.Subscript o i pos) (tgSubT eo ei) := pg_imp (pg_sub ho hi (set_dict hu) ha) fun v σ H Q ⟨w, ρ, l, h, c, R, L, r, g⟩ => by
  refine rd_then R L g fun w1 ρ1 h1 H1 x u e1 R1 L1 r1 g1 => rd_then R1 L1 g1 fun w2 ρ2 h2 H2 y z e2 R2 L2 r2 g2 => ?_
  split at g2
  case h_2 => exact g2.elim
  case h_1 n k ek =>
  split at g2
  case h_2 => exact g2.elim
  case h_1 kvs q =>
  split at g2
  case isFalse => exact g2.elim
  case isTrue nr =>
  have rx := r1.up e2 R1
  unfold RelC at rx
  obtain ⟨a, k1, k2⟩ := rx
  obtain ⟨us, j1, j2, j3⟩ := R2.obj n a _ k1 q
  obtain ⟨b, q1, q2⟩ := tk_ok r2 ek
  have hm : a ∈ ρ2 := List.mem_of_getElem? k1
  have hl : us.length < sizeLine := by
    have z := congrArg List.length j1
    rw [List.length_map, List.length_map] at z
    rw [z]
    exact Nat.lt_of_lt_of_le nr.2 (by decide)
  refine ⟨a, _, k2, by rw [q1]; exact DPut.t j3 q2 hl, ?_⟩
  have e3 : Ext w2 ρ2 H2 w2 ρ2 (upd H2 a (.dT (putK us k v))) := Ext.write w2 hm j3 trivial
  obtain ⟨p1, p2⟩ := putC_rel (k := k) j1 j2 (RelC.free [] nr.1 (r.up (e1.trans e2) R))
  obtain ⟨R3, _⟩ := R2.write (o := .dT (putK us k v)) (co := .dt (putC kvs k c)) k1 trivial ⟨_, p1, RelCs.ext e3 R2.sub ⟨[], rfl⟩ p2, upd_same⟩
  exact (show PostL G w ρ H Q l _ from g2) w2 ρ2 _ σ ((e1.trans e2).trans e3) R3 (L2.up e3 R2)
/-- {} whose keys will be tuples -/
theorem xe_dicT {pos : Pos} : XE X G E (.Dict [] [] pos) cDicT := pe_imp pe_dnewT fun σ H Q ⟨w, ρ, l, h, R, L, g⟩ p hp => by
  have e := Ext.newM w ρ (.dT []) hp
  exact (show PostV G w ρ H Q (.ref h.length) (h ++ [.dt []]) from g) _ _ _ _ e (R.alloc hp trivial ⟨[], rfl, RelCs.nil, upd_same⟩) (by unfold RelC; exact ⟨p, by rw [← R.len, List.getElem?_append_right (Nat.le_refl _)]; simp, rfl⟩)
/-! ### d.get -/
theorem valT_getD {kvs : List (TKey × V)} {d : List TKey × List CV} (k : TKey) (e : kvs.map (·.1) = d.1) (r : RelCs G w ρ H d.2 (kvs.map (·.2))) {c : CV} {v : V} (rc : RelC G w ρ H c v) : RelC G w ρ H ((valT d.1 d.2 k).getD c) ((valV kvs k).getD v) := by
  obtain ⟨h1, h2⟩ := valT_rel k e r
  cases q : valT d.1 d.2 k with
  | none => rw [h1 q]; exact rc
  | some c' => obtain ⟨u, z, z2⟩ := h2 c' q; rw [z]; exact z2
theorem xe_get1 {o e : Expr} {co ca : CE} {apos cpos : Pos} (hu : X.A.units + 1 < cLine) (ho : XE X G E o co) (ha : XE X G E e ca) (m : M1 X o "get" apos e cpos) : XE X G E (.Call (.Attribute o "get" apos) [e] [] cpos) (cGet1 co ca) := pe_imp (pe_dget1 hu ho ha m) fun σ H Q ⟨w, ρ, l, h, R, L, g⟩ => by
  refine rd_then R L g fun w1 ρ1 h1 H1 x u e1 R1 L1 r1 g1 => ?_
  split at g1
  case h_1 => exact g1.elim
  case h_2 d0 q0 =>
  obtain ⟨a, kvs0, k1, k2, _⟩ := dt_okC R1 r1 q0
  refine ⟨a, k1, .inr ⟨kvs0, Rd.of k2⟩, rd_then R1 L1 g1 fun w2 ρ2 h2 H2 y v e2 R2 L2 r2 g2 => ?_⟩
  split at g2
  case h_2 => exact g2.elim
  case h_1 d k q1 q2 =>
  obtain ⟨a', kvs, j1, j2, j3, j4⟩ := dt_okC R2 (r1.up e2 R1) q1
  rw [k1] at j1
  cases j1
  obtain ⟨b, p1, p2⟩ := tk_ok r2 q2
  exact ⟨valV kvs k, by rw [p1]; exact DGet.t j2 p2, okV R2 (g2.mono (fun _ _ q => q.at (e1.trans e2)) fun _ _ _ q => q) (valT_getD k j3 j4 cr_non)⟩
theorem xe_get2 {o e f : Expr} {co ca cb : CE} {apos cpos : Pos} (hu : X.A.units + 1 < cLine) (ho : XE X G E o co) (ha : XE X G E e ca) (hb : XE X G E f cb) (m : M2 X o "get" apos e f cpos) : XE X G E (.Call (.Attribute o "get" apos) [e, f] [] cpos) (cGet2 co ca cb) := pe_imp (pe_dget2 hu ho ha hb m) fun σ H Q ⟨w, ρ, l, h, R, L, g⟩ => by
  refine rd_then R L g fun w1 ρ1 h1 H1 x u e1 R1 L1 r1 g1 => ?_
  split at g1
  case h_1 => exact g1.elim
  case h_2 d0 q0 =>
  obtain ⟨a, kvs0, k1, k2, _⟩ := dt_okC R1 r1 q0
  refine ⟨a, k1, .inr ⟨kvs0, Rd.of k2⟩, rd_then R1 L1 g1 fun w2 ρ2 h2 H2 y v e2 R2 L2 r2 g2 => rd_then R2 L2 g2 fun w3 ρ3 h3 H3 z u' e3 R3 L3 r3 g3 => ?_⟩
  split at g3
  case h_2 => exact g3.elim
  case h_1 d k q1 q2 =>
  obtain ⟨a', kvs, j1, j2, j3, j4⟩ := dt_okC R3 (r1.up (e2.trans e3) R1) q1
  rw [k1] at j1
  cases j1
  obtain ⟨b, p1, p2⟩ := tk_ok (r2.up e3 R2) q2
  exact ⟨valV kvs k, by rw [p1]; exact DGet.t j2 p2, okV R3 (g3.mono (fun _ _ q => q.at ((e1.trans e2).trans e3)) fun _ _ _ q => q) (valT_getD k j3 j4 r3)⟩
/-! ### len -/
theorem b_lenT (hK : X.K = G.K) : CallR X (.builtin "len") (rdF G E fLenT) := by
  have z : CallR X (.builtin "len") (fun xs H Q => rLenT xs H Q ∨ rdF G E fLen xs H Q) := fun pins s σ H xs us Q I r q => q.elim (fun q => call_len_dT pins s σ H xs us Q I r q) fun q => b_len hK pins s σ H xs us Q I r q
  refine CallR.imp z fun xs H Q ⟨w, ρ, h, cs, R, r, g⟩ => ?_
  unfold fLenT at g
  split at g
  · rename_i x
    split at g
    · rename_i d q
      obtain ⟨v, e, rv⟩ := one_of r
      obtain ⟨a, kvs, k1, k2, k3, k4⟩ := dt_okC R rv q
      refine .inl ⟨a, kvs, by rw [e, k1], k2, ?_⟩
      have el : kvs.length = d.1.length := by rw [← k3, List.length_map]
      rw [el]
      exact okV R g (cr_int _)
    · exact .inr ⟨w, ρ, h, _, R, r, g⟩
  · exact g.elim
/-! ### sorted: tuples of whole numbers, none empty; dicts with such keys -/
def insT (x : List Int) : List (List Int) → List (List Int)
  | [] => [x]
  | y :: r => if HT.lexLt y x = true then y :: insT x r else x :: y :: r
def tsort : List (List Int) → List (List Int)
  | [] => []
  | x :: r => insT x (tsort r)
theorem insT_perm (x : List Int) : ∀ l, (insT x l).Perm (x :: l)
  | [] => List.Perm.refl _
  | y :: r => by
    unfold insT
    split
    · exact ((insT_perm x r).cons y).trans (List.Perm.swap x y r)
    · exact List.Perm.refl _
theorem tsort_perm : ∀ l, (tsort l).Perm l
  | [] => List.Perm.refl _
  | x :: r => (insT_perm x _).trans ((tsort_perm r).cons x)
abbrev SrtT (l : List (List Int)) : Prop := l.Pairwise fun x y => HT.lexLt y x = false
theorem insT_srt (x : List Int) : ∀ {l}, SrtT l → SrtT (insT x l)
  | [], _ => List.pairwise_singleton _ _
  | y :: r, s => by
    unfold insT
    obtain ⟨s1, s2⟩ := List.pairwise_cons.mp s
    split
    · rename_i c
      refine List.pairwise_cons.mpr ⟨fun z hz => ?_, insT_srt x s2⟩
      rcases List.mem_cons.mp ((insT_perm x r).mem_iff.mp hz) with e | e
      · rw [e]; exact RnS.lexLt_asym c
      · exact s1 z e
    · rename_i c
      have c' : HT.lexLt y x = false := by simpa using c
      refine List.pairwise_cons.mpr ⟨fun z hz => ?_, s⟩
      rcases List.mem_cons.mp hz with e | e
      · rw [e]; exact c'
      · exact RnS.lexLe_trans c' (s1 z e)
theorem tsort_srt : ∀ l, SrtT (tsort l)
  | [] => List.Pairwise.nil
  | x :: r => insT_srt x (tsort_srt r)
theorem srtT_uniq : ∀ {l m : List (List Int)}, l.Perm m → SrtT l → SrtT m → l = m
  | [], m, p, _, _ => (List.Perm.eq_nil (p.symm)).symm
  | x :: l, [], p, _, _ => by cases (p.length_eq : _ = _)
  | x :: l, y :: m, p, s, t => by
    obtain ⟨s1, s2⟩ := List.pairwise_cons.mp s
    obtain ⟨t1, t2⟩ := List.pairwise_cons.mp t
    have e : x = y := by
      have hx : x ∈ y :: m := p.mem_iff.mp List.mem_cons_self
      have hy : y ∈ x :: l := p.mem_iff.mpr List.mem_cons_self
      rcases List.mem_cons.mp hx with h | h
      · exact h
      · rcases List.mem_cons.mp hy with h' | h'
        · exact h'.symm
        · exact RnS.lexLt_same (t1 x h) (s1 y h') |>.symm ▸ rfl
    subst e
    rw [srtT_uniq (List.Perm.cons_inv p) s2 t2]
theorem tsort_uniq {l m : List (List Int)} (p : l.Perm m) (s : SrtT l) : l = tsort m := srtT_uniq (p.trans (tsort_perm m).symm) s (tsort_srt m)
def tsOf : List CV → Option (List (List Int))
  | [] => some []
  | .tup xs :: r => match intsOf xs, tsOf r with
    | some (n :: ns), some rs => some ((n :: ns) :: rs)
    | _, _ => none
  | _ => none
def intKey : TKey → Option (List Int)
  | [] => some []
  | .inl i :: r => (intKey r).map (i :: ·)
  | .inr _ :: _ => none
def intKeys : List TKey → Option (List (List Int))
  | [] => some []
  | k :: r => match intKey k, intKeys r with
    | some (n :: ns), some rs => some ((n :: ns) :: rs)
    | _, _ => none
abbrev tupN (ns : List Int) : CV := .tup (ns.map CV.int)
def fSortedT : Fn := fun cs h => match cs with
  | [x] => match dtOf h x with
    | some d => match intKeys d.1 with
      | some nss => .ok (.lst ((tsort nss).map tupN)) h
      | none => .stuck
    | none => match lstOf h x with
      | some xs => match tsOf xs with
        | some nss => .ok (.lst ((tsort nss).map tupN)) h
        | none => .stuck
      | none => .stuck
  | _ => .stuck
theorem tsOf_rel : ∀ {xs : List CV} {vs : List V} {nss : List (List Int)}, RelCs G w ρ H xs vs → tsOf xs = some nss → ∃ L : List (V × List Int), L.map (·.1) = vs ∧ L.map (·.2) = nss ∧ ∀ p ∈ L, RelC G w ρ H (tupN p.2) p.1 ∧ p.2 ≠ []
  | [], vs, nss, r, e => by
    unfold tsOf at e
    cases e
    unfold RelCs at r
    exact ⟨[], r.symm, rfl, by simp⟩
  | x :: xs, vs, nss, r, e => by
    unfold tsOf at e
    split at e
    · rename_i q
      cases q
    · rename_i ys r' q
      cases q
      split at e
      · rename_i n ns rs e1 e2
        cases e
        unfold RelCs at r
        obtain ⟨v, us, h1, h2, h3⟩ := r
        obtain ⟨L, k1, k2, k3⟩ := tsOf_rel h3 e2
        refine ⟨(v, n :: ns) :: L, by rw [h1, List.map_cons, k1], by rw [List.map_cons, k2], fun p hp => ?_⟩
        rcases List.mem_cons.mp hp with z | z
        · subst z
          refine ⟨?_, by simp⟩
          obtain ⟨a, ws, q1, q2, q3⟩ := rc_tupA h2
          have ew := intsOf_ok q3 e1
          show RelC G w ρ H (tupN (n :: ns)) v
          unfold RelC
          exact ⟨a, ws, q1, q2, by rw [ew]; exact relCs_ints _⟩
        · exact k3 p z
      · cases e
    · cases e
theorem rels_of : ∀ {L : List (V × List Int)}, (∀ p ∈ L, RelC G w ρ H (tupN p.2) p.1) → RelCs G w ρ H ((L.map (·.2)).map tupN) (L.map (·.1))
  | [], _ => RelCs.nil
  | p :: L, h => by
    rw [List.map_cons, List.map_cons, List.map_cons]
    exact RelCs.cons (h p List.mem_cons_self) (rels_of fun q hq => h q (List.mem_cons_of_mem _ hq))
theorem intKey_eq : ∀ {k : TKey} {ns : List Int}, intKey k = some ns → k = ns.map Sum.inl
  | [], ns, e => by unfold intKey at e; cases e; rfl
  | .inl i :: r, ns, e => by
    unfold intKey at e
    obtain ⟨m, h1, h2⟩ := Option.map_eq_some_iff.mp e
    subst h2
    rw [intKey_eq h1]
    rfl
  | .inr _ :: _, ns, e => by unfold intKey at e; cases e
theorem intKeys_eq : ∀ {ks : List TKey} {nss : List (List Int)}, intKeys ks = some nss → ks = nss.map (·.map Sum.inl) ∧ ∀ k ∈ nss, k ≠ []
  | [], nss, e => by unfold intKeys at e; cases e; exact ⟨rfl, by simp⟩
  | k :: r, nss, e => by
    unfold intKeys at e
    split at e
    · rename_i n ns rs e1 e2
      cases e
      obtain ⟨i1, i2⟩ := intKeys_eq e2
      refine ⟨by rw [List.map_cons, ← i1, ← intKey_eq e1], fun k hk => ?_⟩
      rcases List.mem_cons.mp hk with z | z
      · rw [z]; simp
      · exact i2 k z
    · cases e
theorem b_sortedT (hK : X.K = G.K) (hc : X.calm = true) : CallR X (.builtin "sorted") (rdF G E fSortedT) := by
  have z : CallR X (.builtin "sorted") (fun xs H Q => rSortedDT xs H Q ∨ rSortedTI X.K xs H Q) := fun pins s σ H xs us Q I r q => q.elim (fun q => call_sortedDT hc pins s σ H xs us Q I r q) fun q => cr_sortedTI pins s σ H xs us Q I r q
  refine CallR.imp z fun xs H Q ⟨w, ρ, h, cs, R, r, g⟩ => ?_
  unfold fSortedT at g
  split at g
  case h_2 => exact g.elim
  case h_1 x =>
  obtain ⟨v, e, rv⟩ := one_of r
  split at g
  · rename_i d q
    split at g
    · rename_i nss q2
      obtain ⟨a, kvs, k1, k2, k3, k4⟩ := dt_okC R rv q
      obtain ⟨i1, i2⟩ := intKeys_eq q2
      refine .inl ⟨a, kvs, nss, by rw [e, k1], Rd.of k2, k3.trans i1, i2, fun L' p pm sr hq hp => ?_⟩
      have e2 := tsort_uniq pm (List.pairwise_map.mpr sr)
      have rl : RelCs G w ρ H ((L'.map (·.2)).map tupN) (L'.map fun q => V.ref q.1) := by
        have z := rels_of (G := G) (w := w) (ρ := ρ) (H := H) (L := L'.map fun q => (V.ref q.1, q.2)) fun p hp => by
          obtain ⟨q', h1, h2⟩ := List.mem_map.mp hp
          subst h2
          show RelC G w ρ H (tupN q'.2) (.ref q'.1)
          unfold RelC
          exact ⟨q'.1, _, rfl, TupAt.of (hq q' h1), relCs_ints _⟩
        have e1 : (L'.map fun q => (V.ref q.1, q.2)).map (·.2) = L'.map (·.2) := by rw [List.map_map]; rfl
        have e3 : (L'.map fun q => (V.ref q.1, q.2)).map (·.1) = L'.map fun q => V.ref q.1 := by rw [List.map_map]; rfl
        rw [e1, e3] at z
        exact z
      rw [e2] at rl
      exact PostV.newL (Q := Q) (show PostV G w ρ H Q (.lst ((tsort nss).map tupN)) h from g) R rl hp
    · exact g.elim
  · split at g
    · rename_i ys q
      split at g
      · rename_i nss q2
        obtain ⟨a, vs, k1, k2, k3⟩ := lstOf_ok R rv q
        obtain ⟨L, m1, m2, m3⟩ := tsOf_rel k3 q2
        refine .inr ⟨a, L, by rw [e, k1], by rw [m1]; exact SqL.of k2, fun p hp => ?_, fun L' p pm sr hp => ?_⟩
        · obtain ⟨h1, h2⟩ := m3 p hp
          obtain ⟨t, ws, q1, q3, q4⟩ := rc_tup h1
          have ew := intsOf_ok q4 (intsOf_map p.2)
          rw [ew] at q3
          exact ⟨t, q1, hK ▸ q3, h2⟩
        · have e2 := tsort_uniq (pm.map (·.2)) (List.pairwise_map.mpr sr)
          have rl := rels_of (G := G) (w := w) (ρ := ρ) (H := H) (L := L') fun p hp => (m3 p (pm.mem_iff.mp hp)).1
          rw [e2, m2] at rl
          exact PostV.newL (Q := Q) (show PostV G w ρ H Q (.lst ((tsort nss).map tupN)) h from g) R rl hp
      · exact g.elim
    · exact g.elim
end
end Rn

set_option Elab.async false
set_option linter.all false
set_option maxRecDepth 100000
set_option maxHeartbeats 4000000
namespace L2
open PySem
/-- {k: v}, k a tuple -/
def tDisp1 (trs : List (TE × TE)) : TE := fun σ H Q => ∀ p, H p = none → tPairs trs σ (upd H p (.dT [])) fun ps H2 => ∃ (y z : V) (b : Addr) (key : List Key), ps = [(y, z)] ∧ y = .ref b ∧ H2 b = some (.tup (key.map kV)) ∧ H2 p = some (.dT []) ∧ Q (.ref p) (upd H2 p (.dT [(key, z)]))
theorem pe_disp1T {X : Cx} {k v : Expr} {pos : Pos} {trs : List (TE × TE)} (hu : X.A.units < cLine) (h : PPs X pos [some k] [v] trs) : PE X (.Dict [some k] [v] pos) (tDisp1 trs) := by
  refine ⟨fun pins s σ H Q I q => ?_⟩
  have hn := I.hok.fresh (Nat.le_refl s.heap.objs.size)
  have I1 := I.laid (a := s.heap.objs.size) (o := .dT []) (h' := s.heap.push { cls := .type "dict", data := .dict #[] }) (t' := s.toks) (fun _ _ q => Heap.get?_push_of_some _ q) (Nat.le_refl _) (dt_empty s.heap I.big)
  have e := pairTrees_length [some k] [v] X.env pos rfl rfl
  have e1 : (pairTrees [some k] [v] X.env pos).length = 1 := e
  rw [arm_eval_Dict, zip_pairTrees [some k] [v] X.env pos rfl rfl, dictDisplay_pairs _ (by
    intro z
    rw [z] at e1
    cases e1) (by rw [e1]; decide)]
  refine wpAny_bind (wpAny_standAt (wpAny_bind (wpAny_subDictH (s := s) (knd := tupleKind (mixKind X.prog X.w)) (Q := fun d s' => wpAny (model X.prog X.w) X.A (pure (Value.ref d)) (EP X pins σ Q) X.xe s') hu (by rw [e1]; decide) ?_)))
  refine thn (h.run pins _ σ _ _ I1 (q _ hn)) fun ws s2 ⟨ps, H2, I2, rel, y, z, b, key, eps, ey, eb, ep, q2⟩ => ?_
  subst eps ey
  obtain ⟨u, r, rfl, ru, rz⟩ : ∃ u r, ws = [(u, r)] ∧ RelV (.ref b) u ∧ RelV z r := by
    cases rel with
    | cons h1 h2 =>
      cases h2
      exact ⟨_, _, rfl, h1.1, h1.2⟩
  obtain rfl : u = Value.ref b := ru
  obtain ⟨zz, lo, xs, kt, dd⟩ := dt_of I2.hok ep
  cases kt
  refine ⟨[(key, b, r)], ⟨rfl, rfl, key_of I2.hok eb, trivial⟩, dd, fun h' tk dd' hs => ?_⟩
  have e3 : storedAllH ([] : List (List Key × Addr × Value)) [(key, b, r)] = [(key, b, r)] := by
    unfold storedAllH
    rw [List.foldl_cons, List.foldl_nil]
    unfold storedH
    first | rfl | simp
  rw [e3] at dd'
  have dd2 := dd'
  obtain ⟨o, es, ep', hq, h2, h3, h4, _, h5⟩ := dd'
  refine wpAny_pure ⟨.ref s.heap.objs.size, upd H2 s.heap.objs.size (.dT [(key, z)]), d_write (ob := .dT [(key, z)]) I2 (by rw [ep]; exact True.intro) hs ⟨o, hq⟩ ⟨show 1 ≤ sizeLine by decide, lo, _, .cons ⟨rfl, ?_, rz⟩ .nil, o, es, ep', hq, h2, h3, h4, h5⟩, rfl, q2⟩
  rw [upd_ne (ne_of eb ep (fun z => nomatch z))]
  exact eb
end L2
namespace Rn
open PySem L2
/-- {k: v}, k a tuple -/
def cDict1 (k v : CE) : CE := fun l h => (k l h).bind fun x h1 => (v l h1).bind fun y h2 => match tkOf x with
  | some key => if noRef y = true then .ok (.ref h2.length) (h2 ++ [.dt [(key, y)]]) else .stuck
  | none => .stuck
def cStar (a : CE) (r : CEs) : CEs := fun l h => (a l h).bind fun x h1 => match seqOf h1 x with
  | some xs => (r l h1).bind fun ys h2 => .ok (xs ++ ys) h2
  | none => .stuck
section
variable {X : Cx} {G : Gb} {E : XO} {pos : Pos}
theorem xe_dict1 {k v : Expr} {ck cv : CE} (hu : X.A.units < cLine) (hk : XE X G E k ck) (hv : XE X G E v cv) : XE X G E (.Dict [some k] [v] pos) (cDict1 ck cv) :=
  pe_imp (pe_disp1T hu (pps_cons hk hv pps_nil)) fun σ H Q ⟨w, ρ, l, h, R, L, g⟩ p hp => by
  show (rd G E ck) σ _ _
  have eD : Ext w ρ H ⟨p :: w.M, w.O, w.F⟩ ρ (upd H p (.dT [])) := by
    have z := Ext.newM w ρ (.dT []) hp
    exact ⟨z.mM, z.mO, z.mF, z.new, ⟨[], by simp, by simp⟩, z.keep, z.there, z.tup, z.frz⟩
  have RD : Rep G ⟨p :: w.M, w.O, w.F⟩ ρ h (upd H p (.dT [])) := by
    have z := R.fresh (.dT []) hp
    refine ⟨z.nd, fun a ha => List.mem_cons_of_mem _ (z.sub a ha), z.len, fun a ha => ?_, fun n a o h1 h2 => ?_, fun r hr => ?_, fun r hr y => ?_, z.wnf, z.fh, z.tab, z.lco, z.ow, R.pn.ext eD R.sub R.mh⟩
    · rcases List.mem_cons.mp ha with y | y
      · subst y; exact ⟨_, upd_same, trivial⟩
      · exact z.mh a y
    · refine (R.obj n a o h1 h2).ext eD R.sub fun u hu => ?_
      rw [upd_ne (ne_of_none hu hp)]; exact hu
    · obtain ⟨ks, k1, k2⟩ := R.web r hr
      refine ⟨ks, k1.ext eD R.sub R.mh ?_, fun kv hk => (k2 kv hk).ext eD R.sub⟩
      obtain ⟨_, _, _, _, _, q⟩ := k1
      rw [upd_ne (ne_of_none q hp)]; exact q
    · rcases List.mem_cons.mp y with y | y
      · obtain ⟨ks, ⟨_, _, _, _, _, q⟩, _⟩ := R.web r hr
        rw [y, hp] at q; cases q
      · exact R.wne r hr y
  have hpp : p ∉ ρ := fun z => R.notM hp (R.sub p z)
  refine rd_then RD (L.up eD R) (g.mono (fun _ _ q => q) fun _ _ _ q => q.at eD) fun w1 ρ1 h1 H1 x v1 e1 R1 L1 r1 g1 => rd_then R1 L1 g1 fun w2 ρ2 h2 H2 y u e2 R2 L2 r2 g2 => ?_
  split at g2
  case h_2 => exact g2.elim
  case h_1 key ek =>
  split at g2
  case isFalse => exact g2.elim
  case isTrue nr =>
  have e12 := (eD.trans e1).trans e2
  have ee := e1.trans e2
  obtain ⟨b, q1, q2⟩ := tk_ok (r1.up e2 R1) ek
  have hp2 : H2 p = some (.dT []) := ee.keep p _ upd_same hpp trivial
  have dM : p ∈ w2.M := ee.mM p List.mem_cons_self
  have dn : p ∉ ρ2 := fun z => by
    obtain ⟨q, p1, p2⟩ := ee.pre
    rw [p1] at z
    rcases List.mem_append.mp z with z | z
    · exact hpp z
    · have := p2 p z; rw [upd_same] at this; cases this
  refine ⟨v1, u, b, key, rfl, q1, q2, hp2, ?_⟩
  -- the new dict is tracked
  obtain ⟨m1, m2⟩ := rel_writeM (G := G) (r := ([] : List Addr)) (o := .dT [(key, u)]) dM hp2 trivial
  have R3 := R2.writeM (o := .dT [(key, u)]) dM dn hp2 trivial trivial
  have e3 : Ext w ρ H w2 ρ2 (upd H2 p (.dT [(key, u)])) := e12.mutNew hp
  have ru : RelC G w2 [] (upd H2 p (.dT [(key, u)])) y u := m1 _ _ (RelC.free [] nr r2)
  have e4 : Ext w ρ H w2 (ρ2 ++ [p]) (upd H2 p (.dT [(key, u)])) := ⟨e3.mM, e3.mO, e3.mF, e3.new, (by
    obtain ⟨q, p1, p2⟩ := e3.pre
    refine ⟨q ++ [p], by rw [p1, List.append_assoc], fun a ha => ?_⟩
    rcases List.mem_append.mp ha with z | z
    · exact p2 a z
    · rw [List.mem_singleton.mp z]; exact hp), e3.keep, e3.there, e3.tup, e3.frz⟩
  have R4 : Rep G w2 (ρ2 ++ [p]) (h2 ++ [.dt [(key, y)]]) (upd H2 p (.dT [(key, u)])) := by
    refine ⟨?_, fun a ha => ?_, by simp [R3.len], R3.mh, fun n a o k1 k2 => ?_, R3.web, R3.wne, R3.wnf, R3.fh, R3.tab, R3.lco, R3.ow, R3.pn⟩
    · rw [List.nodup_append]
      refine ⟨R3.nd, by simp, fun a ha b hb => ?_⟩
      simp at hb; subst hb
      intro z; subst z; exact dn ha
    · rcases List.mem_append.mp ha with z | z
      · exact R3.sub a z
      · rw [List.mem_singleton.mp z]; exact dM
    · by_cases hn : n < ρ2.length
      · rw [List.getElem?_append_left hn] at k1
        rw [List.getElem?_append_left (by rw [← R3.len]; exact hn)] at k2
        exact R3.obj n a o k1 k2
      · have hn' : n = ρ2.length := by
          have := (List.getElem?_eq_some_iff.mp k1).1
          simp at this; omega
        subst hn'
        rw [List.getElem?_append_right (Nat.le_refl _)] at k1
        rw [R3.len, List.getElem?_append_right (Nat.le_refl _)] at k2
        simp at k1 k2
        subst k1 k2
        exact ⟨[(key, u)], rfl, RelCs.cons ru RelCs.nil, upd_same⟩
  exact (show PostV G w ρ H Q (.ref h2.length) _ from g2) _ _ _ _ e4 R4 (by unfold RelC; exact ⟨p, by rw [← R3.len, List.getElem?_append_right (Nat.le_refl _)]; simp, rfl⟩)
theorem xa_star {e : Expr} {es : List Expr} {p : Pos} {ca : CE} {cs : CEs} (hK : X.K = G.K) (ha : XE X G E e ca) (hr : XA X G E es cs) (hs : starEach (.Starred e p :: es) X.env = (true, eval e X.env) :: starEach es X.env := by rfl) : XA X G E (.Starred e p :: es) (cStar ca cs) :=
  pa_imp (StX.pa_star ha hr hs) fun σ H Q ⟨w, ρ, l, h, R, L, g⟩ => rd_then R L g fun w1 ρ1 h1 H1 x v e1 R1 L1 r1 g1 => by
    split at g1
    case h_2 => exact g1.elim
    case h_1 xs q =>
    obtain ⟨a, vs, k1, k2, k3⟩ := seqOf_ok R1 r1 q
    refine ⟨a, vs, k1, hK ▸ k2.symm, rds_then R1 L1 g1 fun w2 ρ2 h2 H2 ys us e2 R2 L2 r2 g2 => ?_⟩
    exact (show PostVs G w ρ H Q (xs ++ ys) h2 from g2) w2 ρ2 H2 _ (e1.trans e2) R2 ((k3.up e2 R1).append r2)
end
end Rn

set_option Elab.async false
set_option linter.all false
set_option maxRecDepth 100000
set_option maxHeartbeats 4000000
namespace Rn
open PySem PyProof.Rows L2

/-! ### values as they are: equal or not -/
mutual
def cvEq : CV → CV → Bool
  | .non, .non => true
  | .bl a, .bl b => a == b
  | .int a, .int b => decide (a = b)
  | .str a, .str b => decide (a = b)
  | .g a, .g b => decide (a = b)
  | .tup a, .tup b => cvsEq a b
  | .lst a, .lst b => cvsEq a b
  | .dic k a, .dic m b => decide (k = m) && cvsEq a b
  | .dit k a, .dit m b => decide (k = m) && cvsEq a b
  | _, _ => false
def cvsEq : List CV → List CV → Bool
  | [], [] => true
  | x :: xs, y :: ys => cvEq x y && cvsEq xs ys
  | _, _ => false
end
mutual
theorem cvEq_eq : ∀ {x y : CV}, cvEq x y = true → x = y
  | .non, y, h => by cases y <;> first | rfl | (simp [cvEq] at h)
  | .bl a, y, h => by cases y <;> simp [cvEq] at h; rw [h]
  | .int a, y, h => by cases y <;> simp [cvEq] at h; rw [h]
  | .str a, y, h => by cases y <;> simp [cvEq] at h; rw [h]
  | .g a, y, h => by cases y <;> simp [cvEq] at h; rw [h]
  | .tup a, y, h => by
    cases y <;> try (simp [cvEq] at h; done)
    unfold cvEq at h; rw [cvsEq_eq h]
  | .lst a, y, h => by
    cases y <;> try (simp [cvEq] at h; done)
    unfold cvEq at h; rw [cvsEq_eq h]
  | .dic k a, y, h => by
    cases y <;> try (simp [cvEq] at h; done)
    unfold cvEq at h
    rw [Bool.and_eq_true, decide_eq_true_eq] at h
    rw [h.1, cvsEq_eq h.2]
  | .dit k a, y, h => by
    cases y <;> try (simp [cvEq] at h; done)
    unfold cvEq at h
    rw [Bool.and_eq_true, decide_eq_true_eq] at h
    rw [h.1, cvsEq_eq h.2]
  | .web p t, y, h => by cases y <;> simp [cvEq] at h
  | .ref n, y, h => by cases y <;> simp [cvEq] at h
  | .lam, y, h => by cases y <;> simp [cvEq] at h
  | .scr n, y, h => by cases y <;> simp [cvEq] at h
theorem cvsEq_eq : ∀ {xs ys : List CV}, cvsEq xs ys = true → xs = ys
  | [], ys, h => by cases ys <;> first | rfl | (simp [cvsEq] at h)
  | x :: xs, ys, h => by
    cases ys with
    | nil => simp [cvsEq] at h
    | cons y ys =>
      unfold cvsEq at h
      rw [Bool.and_eq_true] at h
      rw [cvEq_eq h.1, cvsEq_eq h.2]
end
/-! data: what the test of equality knows -/
mutual
def dataC : CV → Bool
  | .web _ _ => false
  | .ref _ => false
  | .lam => false
  | .scr _ => false
  | .tup a => dataCs a
  | .lst a => dataCs a
  | .dic _ a => dataCs a
  | .dit _ a => dataCs a
  | _ => true
def dataCs : List CV → Bool
  | [] => true
  | x :: xs => dataC x && dataCs xs
end
mutual
theorem cvEq_self : ∀ {x : CV}, dataC x = true → cvEq x x = true
  | .non, _ => rfl
  | .bl a, _ => by simp [cvEq]
  | .int a, _ => by simp [cvEq]
  | .str a, _ => by simp [cvEq]
  | .g a, _ => by simp [cvEq]
  | .tup a, h => by unfold cvEq; exact cvsEq_self (by unfold dataC at h; exact h)
  | .lst a, h => by unfold cvEq; exact cvsEq_self (by unfold dataC at h; exact h)
  | .dic k a, h => by unfold cvEq; rw [cvsEq_self (by unfold dataC at h; exact h)]; simp
  | .dit k a, h => by unfold cvEq; rw [cvsEq_self (by unfold dataC at h; exact h)]; simp
  | .web _ _, h => by simp [dataC] at h
  | .ref _, h => by simp [dataC] at h
  | .lam, h => by simp [dataC] at h
  | .scr _, h => by simp [dataC] at h
theorem cvsEq_self : ∀ {xs : List CV}, dataCs xs = true → cvsEq xs xs = true
  | [], _ => rfl
  | x :: xs, h => by
    unfold dataCs at h
    rw [Bool.and_eq_true] at h
    unfold cvsEq
    rw [cvEq_self h.1, cvsEq_self h.2]; rfl
end
mutual
theorem data_noRef : ∀ {x : CV}, dataC x = true → noRef x = true
  | .non, _ => rfl
  | .bl a, _ => rfl
  | .int a, _ => rfl
  | .str a, _ => rfl
  | .g a, _ => rfl
  | .tup a, h => by unfold noRef; exact datas_noRefs (by unfold dataC at h; exact h)
  | .lst a, h => by unfold noRef; exact datas_noRefs (by unfold dataC at h; exact h)
  | .dic k a, h => by unfold noRef; exact datas_noRefs (by unfold dataC at h; exact h)
  | .dit k a, h => by unfold noRef; exact datas_noRefs (by unfold dataC at h; exact h)
  | .web _ _, h => by simp [dataC] at h
  | .ref _, h => by simp [dataC] at h
  | .lam, h => by simp [dataC] at h
  | .scr _, h => by simp [dataC] at h
theorem datas_noRefs : ∀ {xs : List CV}, dataCs xs = true → noRefs xs = true
  | [], _ => rfl
  | x :: xs, h => by
    unfold dataCs at h
    rw [Bool.and_eq_true] at h
    unfold noRefs
    rw [data_noRef h.1, datas_noRefs h.2]; rfl
end

theorem nodup_le {α : Type} [DecidableEq α] : ∀ {l m : List α}, l.Nodup → (∀ x ∈ l, x ∈ m) → l.length ≤ m.length
  | [], _, _, _ => Nat.zero_le _
  | x :: l, m, nd, s => by
    have hx := s x List.mem_cons_self
    obtain ⟨n1, n2⟩ := List.nodup_cons.mp nd
    have ih := nodup_le (m := m.erase x) n2 fun y hy => (List.mem_erase_of_ne (fun z => n1 (by rw [← z]; exact hy))).mpr (s y (List.mem_cons_of_mem _ hy))
    have := List.length_erase_of_mem hx
    have := List.length_pos_of_mem hx
    simp only [List.length_cons]
    omega

/-! ### the store of what is kept -/
def sDPutK (td ty tv : TE) : TS := fun D σ H => tv σ H fun v H1 => td σ H1 fun x H2 => ty σ H2 fun y H3 => ∃ a kvs k, x = .ref a ∧ H3 a = some (.dK kvs) ∧ y = kV k ∧ ((kvs.map (·.1)).Nodup → kvs.length < sizeLine ∧ D.nx σ (upd H3 a (.dK (putK kvs k v))))
theorem ps_dputK {X : Cx} {o i value : Expr} {pos' pos : Pos} {td ty tv : TE} (hu : X.A.units + 1 < cLine) (ho : PE X o td) (hi : PE X i ty) (hv : PE X value tv) (hs : swapsWith value (some (.Subscript o i pos')) pos.line X.env = pure false) :
    PS X (.Assign [.Subscript o i pos'] value pos) (sDPutK td ty tv) := by
  refine ⟨fun pins s σ H D I h => ?_⟩
  refine wpAny_Assign_Subscript (thn (hv.run pins s σ H _ I h) fun r s1 ⟨v, H1, I1, rv, q1⟩ => thn (ho.run pins s1 σ H1 _ I1 q1) fun u s2 ⟨x, H2, I2, rx, q2⟩ => thn (hi.run pins s2 σ H2 _ I2 q2) fun iv s3 ⟨y, H3, I3, ry, a, kvs, k, ex, e, ey, g⟩ => ?_) hs
  subst ex ey
  obtain rfl : u = Value.ref a := rx
  obtain ⟨z, hd, vs, rel, dd⟩ := dk_of I3.hok e
  have nd : (kvs.map (·.1)).Nodup := by
    obtain ⟨_, _, _, _, _, _, _, _, n⟩ := dd
    rw [KV.keys rel]; exact n
  obtain ⟨g1, g2⟩ := g nd
  exact d_setItem hu I3 (DPut.k e g1) ry rv fun s4 I4 => ⟨σ, _, I4, g2⟩
theorem mem_putK {κ : Type} [DecidableEq κ] {kvs : List (κ × V)} {k : κ} {v : V} {p : κ × V} (h : p ∈ putK kvs k v) : p ∈ kvs ∨ p = (k, v) := by
  unfold putK at h
  split at h
  · obtain ⟨q, h1, h2⟩ := List.mem_map.mp h
    split at h2
    · rename_i e
      exact .inr (by rw [← h2, e])
    · exact .inl (by rw [← h2]; exact h1)
  · rcases List.mem_append.mp h with z | z
    · exact .inl z
    · exact .inr (List.mem_singleton.mp z)

section
variable {G : Gb} {w w' : Wd} {ρ' : List Addr} {H H' : Hp} {h' : CH}
/-- what leaves its heap -/
theorem deref_ok {c c1 : CV} {v : V} (e : Ext w [] H w' ρ' H') (mh : ∀ a ∈ w.M, ∃ o, H a = some o ∧ Kind o) (R : Rep G w' ρ' h' H') (r : RelC G w' ρ' H' c v) (q : deref h' c = some c1) :
    ∃ w3, Ext w [] H w3 [] H' ∧ Rep G w3 [] [] H' ∧ RelC G w3 [] H' c1 v ∧ ∀ r ∈ w'.O, r ∈ w3.O := by
  have Rn := R.nil
  cases c
  case ref n =>
    unfold deref at q
    simp only at q
    cases z : h'[n]? with
    | none => rw [z] at q; cases q
    | some o =>
      rw [z] at q
      cases o <;> try cases q
      · rename_i xs
        unfold RelC at r
        obtain ⟨a, r1, r2⟩ := r
        obtain ⟨vs, k1, k2⟩ := R.obj n a _ r1 z
        have fr := pre_nil e r1
        refine ⟨w'.out a, (Ext.wide e).out fr mh, Rn.out (by simp), ?_⟩
        unfold RelC
        exact ⟨⟨a, vs, r2, out_not, k2, RelCs.less out_sub (fun _ z => z) (fun _ z => z) k1⟩, fun _ z => z⟩
      · rename_i kvs
        unfold RelC at r
        obtain ⟨a, r1, r2⟩ := r
        obtain ⟨vs, k0, k1, k2⟩ := R.obj n a _ r1 z
        have fr := pre_nil e r1
        refine ⟨w'.out a, (Ext.wide e).out fr mh, Rn.out (by simp), ?_⟩
        unfold RelC
        exact ⟨⟨a, vs, r2, out_not, k2, k0, RelCs.less out_sub (fun _ z => z) (fun _ z => z) k1⟩, fun _ z => z⟩
  all_goals
    unfold deref at q
    simp only at q
    split at q
    · rename_i nr
      cases q
      exact ⟨w', Ext.wide e, Rn, RelC.free [] nr r, fun _ z => z⟩
    · cases q
/-- a thing more is kept -/
theorem Rep.keep (R : Rep G w [] [] H) {r : WRec} (hr : r ∈ w.O) {ks : List (Key × V)} {x : Str} {c : CV} {v : V} (hd : H r.d = some (.dK ks)) (hm : G.memo x r.p r.t = some c) (nr : noRef c = true) (rc : RelC G w [] H c v) :
    Ext w [] H w [] (upd H r.d (.dK (putK ks (.inr x) v))) ∧ Rep G w [] [] (upd H r.d (.dK (putK ks (.inr x) v))) := by
  have kp : ∀ b o, H b = some o → b ≠ r.d → upd H r.d (.dK (putK ks (.inr x) v)) b = some o := fun b o q n => by rw [upd_ne n]; exact q
  have e : Ext w [] H w [] (upd H r.d (.dK (putK ks (.inr x) v))) := by
    refine ⟨fun _ h => h, fun _ h => h, fun _ h => h, fun _ h => .inl h, ⟨[], by simp, by simp⟩, fun b o q _ hh => kp b o q fun z => ?_, fun b o q => ?_, fun b xs q => kp b _ q fun z => ?_, fun b o u q => kp b _ q fun z => ?_⟩
    · rw [z, hd] at q
      cases q
      rcases hh with y | y
      · exact R.wne r hr (z ▸ y)
      · exact R.wnf r hr (z ▸ y)
    · by_cases z : b = r.d
      · rw [z]; exact ⟨_, upd_same⟩
      · exact ⟨o, kp b o q z⟩
    · rw [z, hd] at q; cases q
    · rw [z, hd] at q; cases q
  refine ⟨e, R.nd, R.sub, R.len, fun a ha => ?_, fun n a o h1 => by simp at h1, fun r2 hr2 => ?_, R.wne, R.wnf, fh_upd R.fh, tabs_write R.tab hd trivial, fun p hp => ?_, R.ow, R.pn.ext e (by simp) R.mh⟩
  · obtain ⟨o, h1, h2⟩ := R.mh a ha
    exact ⟨o, kp a o h1 fun z => R.wne r hr (by rw [← z]; exact ha), h2⟩
  · obtain ⟨k2, q1, q2⟩ := R.web r2 hr2
    have hd2 : H r2.d = some (.dK k2) := by obtain ⟨_, _, _, _, _, z⟩ := q1; exact z
    by_cases z : r2.d = r.d
    · obtain ⟨ep, et⟩ := R.ow.1 r2 hr2 r hr z
      have ek : k2 = ks := by rw [z, hd] at hd2; cases hd2; rfl
      subst ek
      refine ⟨putK k2 (.inr x) v, q1.ext e R.sub R.mh (by rw [z]; exact upd_same), fun kv hk => ?_⟩
      rcases mem_putK hk with y | y
      · exact (q2 kv y).ext e R.sub
      · rw [y]
        exact ⟨x, c, rfl, by rw [ep, et]; exact hm, nr, RelC.ext e R.sub ⟨[], rfl⟩ rc⟩
    · exact ⟨k2, q1.ext e R.sub R.mh (kp _ _ hd2 z), fun kv hk => (q2 kv hk).ext e R.sub⟩
  · have q := R.lco p hp
    exact kp _ _ q fun z => by rw [z, hd] at q; cases q
end

/-! ### the words under which things are kept -/
def keyLoc (i : Nat) : Lc → Option Str := fun l => match l[i]? with
  | some (some (.str x)) => some x
  | _ => none
def keyGlob (x : Str) : Lc → Option Str := fun _ => some x
def StrAt (l : Lc) (σ : L2.St) : Prop := ∀ (j : Nat) (y : Str), l[j]? = some (some (CV.str y)) → σ[j]? = some (some (V.str y))
theorem LocR.strs {G : Gb} {w : Wd} {ρ : List Addr} {H : Hp} {l : Lc} {σ : L2.St} (L : LocR G w ρ H l σ) : StrAt l σ := fun j y e => by
  obtain ⟨v, h1, h2⟩ := L.2 j _ e
  have := rc_str h2
  subst this
  exact h1
def KeyE (X : Cx) (e : Expr) (kf : Lc → Option Str) : Prop := ∃ tk : TE, PE X e tk ∧ ∀ l σ x (Q : VK) H, StrAt l σ → kf l = some x → Q (.str x) H → tk σ H Q
section
variable {X : Cx}
theorem key_loc {i : Nat} {x : Str} {pos : Pos} (hN : X.N[i]? = some x) (hv : Vis X.env.scope x) (hd : (x == ("__debug__" : Str)) = false := by decide) (hcd : (x == ("__classdict__" : Str)) = false := by decide) : KeyE X (.Name x pos) (keyLoc i) :=
  ⟨_, pe_var hN hv hd hcd, fun l σ y Q H L e q => by
    unfold keyLoc at e
    split at e
    · rename_i z hz
      cases e
      exact ⟨_, L i _ hz, q⟩
    · cases e⟩
theorem key_glob {x y : Str} {tk : Tok} {pos : Pos} (hg : Gl X x) (hm : X.mg x = some (.str y tk)) (hd : (x == ("__debug__" : Str)) = false := by decide) : KeyE X (.Name x pos) (keyGlob y) :=
  ⟨_, pe_glob (v := .str y) hg hm ⟨tk, rfl⟩ hd, fun l σ z Q H L e q => by
    unfold keyGlob at e
    cases e
    exact q⟩
end
def sMemo (M : Str → Int → List CV → Option CV) (i : Nat) (kf : Lc → Option Str) (cB : CS) (cv : CE) : CS := fun l h => match h, kf l, l[i]? with
  | [], some x, some (some (.web p t)) => .ask 2 fun d => match d with
    | 0 => match M x p t with
      | some c => .ok (.rt c) []
      | none => .stuck
    | _ => (cB l []).bind fun f h1 => match f with
      | .nx l1 => (cv l1 h1).bind fun v h2 => match kf l1, l1[i]?, deref h2 v with
        | some x1, some (some (.web p1 t1)), some c1 => match M x1 p1 t1 with
          | some c2 => if cvEq c1 c2 = true then .ok (.rt c1) [] else .stuck
          | none => .stuck
        | _, _, _ => .stuck
      | _ => .stuck
  | _, _, _ => .stuck
section
variable {X : Cx} {G : Gb}
theorem xss_memo {ts : List Ty} {M : Str → Int → List CV → Option CV} {ms : List Str} {s0 : Str} {i : Nat} {p1 p2 p3 q1 q2 q3 pc pi pa ps pr pu : Pos} {e1 e2 e3 ev : Expr} {B : List Stmt} {cB : CS} {cv : CE} {kf : Lc → Option Str}
    (hM : G.memo = M) (hms : ∀ x p t c, M x p t = some c → x ∈ ms ∧ noRef c = true) (hml : ms.length < 1000)
    (W : WebF X.K G.cw ts) (hu : X.A.units + 1 < cLine) (h0 : X.N[i]? = some s0) (v0 : Vis X.env.scope s0)
    (k1 : KeyE X e1 kf) (k2 : KeyE X e2 kf) (k3 : KeyE X e3 kf) (hB : XPre X G B cB) (hv : XE X G none ev cv)
    (n1 : (s0 == ("__debug__" : Str)) = false := by decide) (n2 : (s0 == ("__classdict__" : Str)) = false := by decide) (hns : NoSl e3 := by intro _ _; rfl)
    (hsw : swapsWith ev (some (.Subscript (.Attribute (.Name s0 p2) "kept" q2) e2 ps)) pa.line X.env = pure false := by rfl)
    (b1 : attributeBase (.Name s0 p1) "kept" X.env (eval (.Name s0 p1) X.env) = eval (.Name s0 p1) X.env := by rfl)
    (b2 : attributeBase (.Name s0 p2) "kept" X.env (eval (.Name s0 p2) X.env) = eval (.Name s0 p2) X.env := by rfl)
    (b3 : attributeBase (.Name s0 p3) "kept" X.env (eval (.Name s0 p3) X.env) = eval (.Name s0 p3) X.env := by rfl)
    (hbm : behindInMarks .NotIn (.Attribute (.Name s0 p1) "kept" q1) = false := by rfl) :
    XSs X G none [.If (.Compare e1 [.NotIn] [.Attribute (.Name s0 p1) "kept" q1] pc) (B ++ [.Assign [.Subscript (.Attribute (.Name s0 p2) "kept" q2) e2 ps] ev pa]) [] pi, .Return (some (.Subscript (.Attribute (.Name s0 p3) "kept" q3) e3 pu)) pr] (sMemo M i kf cB cv) := by
  obtain ⟨t1, z1, y1⟩ := k1
  obtain ⟨t2, z2, y2⟩ := k2
  obtain ⟨t3, z3, y3⟩ := k3
  refine pss_imp (pss_cons (ps_if (pt_cmpR (op_dNotIn hu) z1 (pe_fld (pe_var h0 v0 n1 n2) b1) hbm) (pre_app (pss_one (ps_dputK hu (pe_fld (pe_var h0 v0 n1 n2) b2) z2 hv hsw)) hB) pss_nil) (pss_one (ps_ret (pe_dget hu (pe_fld (pe_var h0 v0 n1 n2) b3) z3 hns)))) fun D σ H ⟨w, ρ, l, h, R, L, g⟩ => ?_
  unfold sMemo at g
  split at g
  case h_2 => exact g.elim
  case h_1 x p t kx lw =>
  have eρ : ρ = [] := List.length_eq_zero_iff.mp R.len
  subst eρ
  obtain ⟨v, a1, a2⟩ := L.2 i _ lw
  unfold RelC at a2
  obtain ⟨r, hr, ev1, ep, et⟩ := a2
  subst ev1
  obtain ⟨ks, qw, qm⟩ := R.web r hr
  obtain ⟨dx, tv, hins, hn, htie, hd⟩ := qw
  have g0 := g 0 (by decide)
  have g1 := g 1 (by decide)
  refine y1 l σ x _ H L.strs kx ?_
  refine ⟨_, a1, r.a, _, dx, _, _, rfl, hins, W.cl, W.nK, rfl, r.d, valV ks (.inr x), rfl, DGet.k (k := .inr x) hd, _, rfl, ?_⟩
  cases hval : valV ks (.inr x) with
  | some u =>
    rw [if_pos rfl, Option.isSome_some, Bool.not_true, if_neg Bool.false_ne_true]
    -- it is kept
    have hmem : ∃ kv ∈ ks, kv.1 = .inr x ∧ kv.2 = u := by
      unfold valV at hval
      obtain ⟨kv, h1, h2⟩ := Option.map_eq_some_iff.mp hval
      exact ⟨kv, List.mem_of_find?_eq_some h1, of_decide_eq_true (p := kv.1 = .inr x) (by have z := List.find?_some h1; exact z), h2⟩
    obtain ⟨kv, m1, m2, m3⟩ := hmem
    obtain ⟨x', c, c1, c2, c3, c4⟩ := qm kv m1
    rw [m2] at c1
    cases c1
    rw [m3] at c4
    rw [hM, ep, et] at c2
    have g0' : (match M x p t with
      | some c => (.ok (.rt c) [] : Out Fl)
      | none => .stuck).Good (PostF G w [] H D) (PostX G w [] H none) := g0
    rw [c2] at g0'
    refine ⟨_, a1, r.a, _, dx, _, _, rfl, hins, W.cl, W.nK, rfl, ?_⟩
    refine y3 l σ x _ H L.strs kx ?_
    refine ⟨r.d, u, rfl, ?_, ?_⟩
    · rw [← hval]; exact DGet.k (k := .inr x) hd
    · exact (show PostF G w [] H D (.rt c) [] from g0') w [] H (Ext.refl w [] H) R u c4
  | none =>
    rw [if_pos rfl, Option.isSome_none, Bool.not_false, if_pos rfl]
    refine ⟨w, [], l, [], R, L, (Out.good_bind.mp g1).mono (fun f h1 g2 => ?_) fun _ _ _ q => q⟩
    cases f with
    | rt c => exact g2.elim
    | bk l => exact g2.elim
    | ct l => exact g2.elim
    | nx l1 =>
      intro w1 ρ1 H1 x1 R1 σ1 L1
      have g3 : ((cv l1 h1).bind fun v h2 => match kf l1, l1[i]?, deref h2 v with
        | some x1, some (some (.web p1 t1)), some c1 => match M x1 p1 t1 with
          | some c2 => if cvEq c1 c2 = true then (.ok (.rt c1) [] : Out Fl) else .stuck
          | none => .stuck
        | _, _, _ => .stuck).Good (PostF G w [] H D) (PostX G w [] H none) := g2
      refine rd_then R1 L1 (g3.mono (fun _ _ q => q) fun _ _ _ q => q) fun w2 ρ2 h2 H2 c v x2 R2 L2 r2 g4 => ?_
      split at g4
      case h_2 => exact g4.elim
      case h_1 y p1 t1 c1 ky lw1 dc =>
      split at g4
      case h_2 => exact g4.elim
      case h_1 c2 hc2 =>
      split at g4
      case isFalse => exact g4.elim
      case isTrue ce =>
      have := cvEq_eq ce
      subst this
      obtain ⟨k5, k6⟩ := hms _ _ _ _ hc2
      obtain ⟨w3, x3, R3, r3, o3⟩ := deref_ok (x1.trans x2) R.mh R2 r2 dc
      -- the web as it stands now
      obtain ⟨v', b1', b2'⟩ := L2.2 i _ lw1
      have lw3 : RelC G w2 ρ2 H2 (.web p1 t1) v' := b2'
      unfold RelC at b2'
      obtain ⟨r', hr', ev2, ep', et'⟩ := b2'
      subst ev2
      have hr3 := o3 r' hr'
      obtain ⟨ks', qw', qm'⟩ := R3.web r' hr3
      obtain ⟨dx', tv', hins', hn', htie', hd'⟩ := qw'
      have hlen : (ks'.map (·.1)).Nodup → ks'.length < sizeLine := fun nd => by
        have h5 : (ks'.map (·.1)).length ≤ (ms.map (Sum.inr : Str → Key)).length := nodup_le nd fun k hk => by
          obtain ⟨kv, m1, m2⟩ := List.mem_map.mp hk
          obtain ⟨x', c, c1', c2', c3', c4'⟩ := qm' kv m1
          rw [← m2, c1']
          rw [hM] at c2'
          exact List.mem_map.mpr ⟨x', (hms _ _ _ _ c2').1, rfl⟩
        rw [List.length_map, List.length_map] at h5
        rw [sizeLine_eq]
        omega
      obtain ⟨x4, R4⟩ := R3.keep hr3 hd' (x := y) (c := c1) (v := v) (by rw [hM, ep', et']; exact hc2) k6 r3
      refine ⟨_, b1', r'.a, _, dx', _, _, rfl, hins', W.cl, W.nK, rfl, ?_⟩
      refine y2 l1 σ1 y _ H2 L2.strs ky ?_
      refine ⟨r'.d, ks', .inr y, rfl, hd', rfl, fun nd => ⟨hlen nd, ?_⟩⟩
      have hins4 : upd H2 r'.d (.dK (putK ks' (.inr y) v)) r'.a = some (.ins G.cw dx' [(("places" : Str), .int r'.p), (("ties" : Str), tv'), (("kept" : Str), .ref r'.d)]) := by
        rw [upd_ne (fun z => by rw [z, hd'] at hins'; cases hins')]; exact hins'
      refine ⟨_, b1', r'.a, _, dx', _, _, rfl, hins4, W.cl, W.nK, rfl, ?_⟩
      refine y3 l1 σ1 y _ _ L2.strs ky ?_
      refine ⟨r'.d, v, rfl, ?_, ?_⟩
      · have z := DGet.k (k := .inr y) (a := r'.d) (kvs := putK ks' (.inr y) v) (H := upd H2 r'.d (.dK (putK ks' (.inr y) v))) upd_same
        rw [valV_put, if_pos rfl] at z
        exact z
      · exact (show PostF G w [] H D (.rt c1) [] from g4) w3 [] _ (x3.trans x4) R4 v (RelC.ext x4 R3.sub ⟨[], rfl⟩ r3)
end
end Rn

set_option Elab.async false
set_option linter.all false
set_option maxRecDepth 100000
set_option maxHeartbeats 4000000
namespace Rn
open PySem PyProof.Rows L2

/-! ### a list that is being made at D -/
structure AccAt (G : Gb) (w0 : Wd) (ρ0 : List Addr) (H0 : Hp) (D : Addr) (w : Wd) (ρ : List Addr) (h : CH) (H : Hp) (acc : List CV) : Prop where
  e : Ext w0 ρ0 H0 w ρ H
  R : Rep G w ρ h H
  dM : D ∈ w.M
  dn : D ∉ ρ
  v : ∃ vs, H D = some (.lst vs) ∧ RelCs G w ρ H acc vs
section
variable {G : Gb} {w0 w w' : Wd} {ρ0 ρ ρ' : List Addr} {H0 H H' : Hp} {h0 h h' : CH} {D : Addr} {acc : List CV}
theorem AccAt.start (R : Rep G w0 ρ0 h0 H0) (hD : H0 D = none) : AccAt G w0 ρ0 H0 D ⟨D :: w0.M, w0.O, w0.F⟩ ρ0 h0 (upd H0 D (.lst [])) [] := by
  have z := Ext.newM w0 ρ0 (.lst []) hD
  have eD : Ext w0 ρ0 H0 ⟨D :: w0.M, w0.O, w0.F⟩ ρ0 (upd H0 D (.lst [])) := ⟨z.mM, z.mO, z.mF, z.new, ⟨[], by simp, by simp⟩, z.keep, z.there, z.tup, z.frz⟩
  refine ⟨eD, ?_, List.mem_cons_self, fun y => R.notM hD (R.sub D y), [], upd_same, RelCs.nil⟩
  have z := R.fresh (.lst []) hD
  refine ⟨z.nd, fun a ha => List.mem_cons_of_mem _ (z.sub a ha), z.len, fun a ha => ?_, fun n a o h1 h2 => ?_, fun r hr => ?_, fun r hr y => ?_, z.wnf, z.fh, z.tab, z.lco, z.ow, R.pn.ext eD R.sub R.mh⟩
  · rcases List.mem_cons.mp ha with y | y
    · subst y; exact ⟨_, upd_same, trivial⟩
    · exact z.mh a y
  · refine (R.obj n a o h1 h2).ext eD R.sub fun u hu => ?_
    rw [upd_ne (ne_of_none hu hD)]; exact hu
  · obtain ⟨ks, k1, k2⟩ := R.web r hr
    refine ⟨ks, k1.ext eD R.sub R.mh ?_, fun kv hk => (k2 kv hk).ext eD R.sub⟩
    obtain ⟨_, _, _, _, _, q⟩ := k1
    rw [upd_ne (ne_of_none q hD)]; exact q
  · rcases List.mem_cons.mp y with y | y
    · obtain ⟨ks, ⟨_, _, _, _, _, q⟩, _⟩ := R.web r hr
      rw [y, hD] at q; cases q
    · exact R.wne r hr y
theorem AccAt.step (A : AccAt G w0 ρ0 H0 D w ρ h H acc) (e : Ext w ρ H w' ρ' H') (R : Rep G w' ρ' h' H') : AccAt G w0 ρ0 H0 D w' ρ' h' H' acc := by
  obtain ⟨vs, v1, v2⟩ := A.v
  refine ⟨A.e.trans e, R, e.mM D A.dM, fun z => ?_, vs, e.keep D _ v1 A.dn trivial, v2.up e A.R⟩
  obtain ⟨q, p1, p2⟩ := e.pre
  rw [p1] at z
  rcases List.mem_append.mp z with z | z
  · exact A.dn z
  · have := p2 D z; rw [v1] at this; cases this
theorem AccAt.push (A : AccAt G w0 ρ0 H0 D w ρ h H acc) (hD : H0 D = none) {y : CV} {u : V} (r : RelC G w ρ H y u) (hb : acc.length < big + 1) : ∃ vs, H D = some (.lst vs) ∧ vs.length < sizeLine ∧ AccAt G w0 ρ0 H0 D w ρ h (upd H D (.lst (vs ++ [u]))) (acc ++ [y]) := by
  obtain ⟨vs, v1, v2⟩ := A.v
  obtain ⟨q1, q2⟩ := rel_writeM (G := G) (r := ρ) (o := .lst (vs ++ [u])) A.dM v1 trivial
  refine ⟨vs, v1, Nat.lt_of_lt_of_le (show vs.length < big + 1 by rw [← v2.length]; exact hb) (by decide), A.e.mutNew hD, A.R.writeM A.dM A.dn v1 trivial trivial, A.dM, A.dn, _, upd_same, (q2 _ _ v2).append (RelCs.cons (q1 _ _ r) RelCs.nil)⟩
theorem AccAt.fin {wS : Wd} {ρS : List Addr} {HS : Hp} {hS : CH} {Q : VK} (A : AccAt G w0 ρ0 H0 D w ρ h H acc) (hD : H0 D = none) (RS : Rep G wS ρS hS HS) (e0 : Ext wS ρS HS w0 ρ0 H0) (g : PostV G wS ρS HS Q (.lst acc) h) : Q (.ref D) H := by
  obtain ⟨vs, v1, v2⟩ := A.v
  have e2 := (e0.trans A.e).out (e0.isNone hD) RS.mh
  refine g _ _ _ _ e2 (A.R.out A.dn) ?_
  unfold RelC
  exact ⟨D, vs, rfl, out_not, v1, RelCs.less out_sub (fun _ z => z) (fun _ z => z) v2⟩
end

/-! ### comprehensions of two clauses -/
def compL2 (t : CTg) (tt : CTt) (vs1 : List Nat) (ci1 : CI) (t1 : CTg) (tt1 : CTt) (el : CE) : List CV → List CV → Lc → CH → Out (List CV)
  | acc, [], _, h => .ok acc h
  | acc, x :: xs, l, h => (t x l h).bind fun l1 h1 => (tt l1 h1).bind fun b h2 => match b with
    | false => compL2 t tt vs1 ci1 t1 tt1 el acc xs l h2
    | true => (ci1 l1 h2).bind fun src h3 => match src with
      | .vals ys => if acc.length + ys.length ≤ big then (compL t1 tt1 el ys (wipeL l1 vs1) h3).bind fun zs h4 => compL2 t tt vs1 ci1 t1 tt1 el (acc ++ zs) xs l h4 else .stuck
      | _ => .stuck
def cComp20 (vs : List Nat) (ci : CI) (t : CTg) (tt : CTt) (vs1 : List Nat) (ci1 : CI) (t1 : CTg) (tt1 : CTt) (el : CE) : CE := fun l h => (ci l h).bind fun src h1 => match src with
  | .vals xs => (compL2 t tt vs1 ci1 t1 tt1 el [] xs (wipeL l vs) h1).bind fun ys h2 => .ok (.lst ys) h2
  | _ => .stuck
def cComp2 (vs : List Nat) (ci : CI) (t : CTg) (tt : CTt) (vs1 : List Nat) (ci1 : CI) (t1 : CTg) (tt1 : CTt) (el : CE) : CE := fun l h => (cComp20 vs ci t tt vs1 ci1 t1 tt1 el l h).noExc
theorem compL_len {t : CTg} {tt : CTt} {el : CE} : ∀ (xs : List CV) (l : Lc) (h : CH) {Q : List CV → CH → Prop} {E}, (compL t tt el xs l h).Good Q E → (compL t tt el xs l h).Good (fun ys h => Q ys h ∧ ys.length ≤ xs.length) E
  | [], _, _, _, _, g => ⟨g, Nat.le_refl _⟩
  | x :: xs, l, h, Q, E, g => by
    rw [compL] at g ⊢
    refine Out.good_bind.mpr ((Out.good_bind.mp g).mono (fun l1 h1 g1 => ?_) fun _ _ _ q => q)
    refine Out.good_bind.mpr ((Out.good_bind.mp g1).mono (fun b h2 g2 => ?_) fun _ _ _ q => q)
    cases b with
    | false => exact (compL_len xs l h2 g2).mono (fun _ _ q => ⟨q.1, Nat.le_succ_of_le q.2⟩) fun _ _ _ q => q
    | true =>
      refine Out.good_bind.mpr ((Out.good_bind.mp g2).mono (fun y h3 g3 => ?_) fun _ _ _ q => q)
      refine Out.good_bind.mpr ((compL_len xs l h3 (Out.good_bind.mp g3)).mono (fun ys h4 q => ?_) fun _ _ _ q => q)
      exact ⟨q.1, Nat.succ_le_succ q.2⟩
section
variable {X : Cx} {G : Gb} {E : XO}
theorem rd_comp2 {own vs1 : List Nat} {ci ci1 : CI} {t t1 : CTg} {tt tt1 : CTt} {el : CE} : ∀ σ H Q, rd G Noth (cComp20 own ci t tt vs1 ci1 t1 tt1 el) σ H Q →
    tLc2 (rdI G Noth ci) (rdW G Noth own t) (rdt G Noth tt) (rdI G Noth ci1) (rdW G Noth vs1 t1) (rdt G Noth tt1) (rd G Noth el) own vs1 σ H Q := fun σ H Q ⟨w, ρ, l, h, R, L, g⟩ => by
  refine ⟨w, ρ, l, h, R, L, (Out.good_bind.mp g).mono (fun src h0 g0 w0 ρ0 H0 J e0 R0 okS D hD => ?_) fun _ _ _ q => q⟩
  cases src with
  | obj n => exact g0.elim
  | vals xs =>
  have ok : ItOk G w0 ρ0 H0 xs J := okS
  replace g0 : ((compL2 t tt vs1 ci1 t1 tt1 el [] xs (wipeL l own) h0).bind fun ys h2 => .ok (.lst ys) h2).Good (PostV G w ρ H Q) (PostX G w ρ H Noth) := g0
  have L0 : ∀ {w1 ρ1 H1}, Ext w0 ρ0 H0 w1 ρ1 H1 → LocR G w1 ρ1 H1 (wipeL l own) (wipe σ own) := fun e => (L.wipe own).up (e0.trans e) R
  -- the word: what is made so far stands at D
  obtain ⟨Tr, eTr⟩ : ∃ Tr : Nat → Hp → Prop, Tr = fun i H' => i ≤ xs.length ∧ ∃ w1 ρ1 h1 acc, AccAt G w0 ρ0 H0 D w1 ρ1 h1 H' acc ∧
    ((compL2 t tt vs1 ci1 t1 tt1 el acc (xs.drop i) (wipeL l own) h1).bind fun ys h2 => Out.ok (CV.lst ys) h2).Good (PostV G w ρ H Q) (fun _ _ _ => False) := ⟨_, rfl⟩
  refine ⟨fun i m H' => m = xs.length - i ∧ Tr i H', ⟨_, rfl, by rw [eTr]; exact ⟨Nat.zero_le _, _, _, _, [], AccAt.start R0 hD, g0⟩⟩, ?_⟩
  rintro i m H1 ⟨rfl, tr⟩
  rw [eTr] at tr
  obtain ⟨hi, w1, ρ1, h1, acc, A1, g1⟩ := tr
  obtain ⟨k1, k2⟩ := ok w1 ρ1 h1 H1 (ExtW.of A1.e R0.sub) A1.R i
  by_cases hlt : i < xs.length
  case neg =>
    have hi' : i = xs.length := by omega
    subst hi'
    rw [List.drop_length, compL2] at g1
    exact .inl ⟨k2 rfl, A1.fin hD R e0 (show PostV G w ρ H Q (.lst acc) h1 from g1)⟩
  have hx : xs[i]? = some xs[i] := by simp [hlt]
  obtain ⟨a1, a2⟩ := k1 _ hx
  rw [List.drop_eq_getElem_cons hlt] at g1
  refine .inr ⟨a1, Tr (i + 1), fun H' q => ⟨_, by omega, rfl, q⟩, fun v H' y => ?_⟩
  obtain ⟨b1, b2, b3⟩ := a2 v H' y
  rw [compL2] at g1
  simp only [Out.bind_assoc] at g1
  have A1' := A1.step b2 b3
  refine ⟨w1, ρ1, wipeL l own, h1, xs[i], b3, L0 A1'.e, b1, (Out.good_bind.mp g1).mono (fun l2 h2 g2 w2 ρ2 H2 σ2 e2 R2 L2 hw => ?_) fun _ _ _ q => q.elim⟩
  refine ⟨hw.trans (wipe_wipe fun _ z => z), ?_⟩
  have A2 := A1'.step e2 R2
  refine rdt_then R2 L2 (g2.mono (fun _ _ q => q) fun _ _ _ q => q.elim) fun w3 ρ3 h3 H3 b e3 R3 L3 g3 => ?_
  have A3 := A2.step e3 R3
  cases b with
  | false =>
    rw [if_neg Bool.false_ne_true, eTr]
    exact ⟨hlt, w3, ρ3, h3, acc, A3, g3.mono (fun _ _ q => q) fun _ _ _ q => q.elim⟩
  | true =>
    rw [if_pos rfl]
    simp only [Out.bind_assoc] at g3
    refine ⟨w3, ρ3, l2, h3, R3, L3, (Out.good_bind.mp g3).mono (fun src h4 g4 w4 ρ4 H4 J1 e4 R4 okS1 => ?_) fun _ _ _ q => q⟩
    cases src with
    | obj n => exact g4.elim
    | vals ys =>
    have ok1 : ItOk G w4 ρ4 H4 ys J1 := okS1
    have A4 := A3.step e4 R4
    have L4 := L3.up e4 R3
    replace g4 : (((if acc.length + ys.length ≤ big then (compL t1 tt1 el ys (wipeL l2 vs1) h4).bind fun zs h4 => compL2 t tt vs1 ci1 t1 tt1 el (acc ++ zs) (xs.drop (i + 1)) (wipeL l own) h4 else .stuck) : Out (List CV)).bind fun ys h2 => Out.ok (CV.lst ys) h2).Good (PostV G w ρ H Q) (PostX G w3 ρ3 H3 Noth) := g4
    split at g4
    case isFalse => exact g4.elim
    case isTrue hbig =>
    rw [Out.bind_assoc] at g4
    obtain ⟨Tr1, eTr1⟩ : ∃ Tr1 : Nat → Hp → Prop, Tr1 = fun j H' => j ≤ ys.length ∧ ∃ w5 ρ5 h5 zs, ExtW w4 ρ4 H4 w5 ρ5 H' ∧ AccAt G w0 ρ0 H0 D w5 ρ5 h5 H' (acc ++ zs) ∧ zs.length ≤ j ∧
      ((compL t1 tt1 el (ys.drop j) (wipeL l2 vs1) h5).bind fun us h6 => (compL2 t tt vs1 ci1 t1 tt1 el (acc ++ (zs ++ us)) (xs.drop (i + 1)) (wipeL l own) h6).bind fun ys h2 => Out.ok (CV.lst ys) h2).Good (PostV G w ρ H Q) (fun _ _ _ => False) := ⟨_, rfl⟩
    refine ⟨fun j k H' => k = ys.length - j ∧ Tr1 j H', ⟨_, rfl, by rw [eTr1]; exact ⟨Nat.zero_le _, w4, ρ4, h4, [], ExtW.of (Ext.refl _ _ _) R4.sub, by rw [List.append_nil]; exact A4, Nat.le_refl _, g4⟩⟩, ?_⟩
    rintro j k H5 ⟨rfl, tr1⟩
    rw [eTr1] at tr1
    obtain ⟨hj, w5, ρ5, h5, zs, e5, A5, hz, g5⟩ := tr1
    obtain ⟨m1, m2⟩ := ok1 w5 ρ5 h5 H5 e5 A5.R j
    by_cases hlj : j < ys.length
    case neg =>
      have hj' : j = ys.length := by omega
      subst hj'
      rw [List.drop_length, compL] at g5
      refine .inl ⟨m2 rfl, ?_⟩
      rw [eTr]
      refine ⟨hlt, w5, ρ5, h5, acc ++ zs, A5, ?_⟩
      rw [← List.append_nil zs]
      exact g5
    have hy : ys[j]? = some ys[j] := by simp [hlj]
    obtain ⟨c1, c2⟩ := m1 _ hy
    rw [List.drop_eq_getElem_cons hlj] at g5
    refine .inr ⟨c1, Tr1 (j + 1), fun H' q => ⟨_, by omega, rfl, q⟩, fun v H' y => ?_⟩
    obtain ⟨d1, d2, d3⟩ := c2 v H' y
    rw [compL] at g5
    simp only [Out.bind_assoc] at g5
    have A5' := A5.step d2 d3
    refine ⟨w5, ρ5, wipeL l2 vs1, h5, ys[j], d3, (L4.wipe vs1).upW (e5.trans d2 A5.R.sub), d1, (Out.good_bind.mp g5).mono (fun l6 h6 g6 w6 ρ6 H6 σ6 e6 R6 L6 hw6 => ?_) fun _ _ _ q => q.elim⟩
    refine ⟨hw6.trans (wipe_wipe fun _ z => z), ?_⟩
    have A6 := A5'.step e6 R6
    have e46 := (e5.trans d2 A5.R.sub).trans e6 d3.sub
    refine rdt_then R6 L6 (g6.mono (fun _ _ q => q) fun _ _ _ q => q.elim) fun w7 ρ7 h7 H7 b e7 R7 L7 g7 => ?_
    have A7 := A6.step e7 R7
    cases b with
    | false =>
      rw [if_neg Bool.false_ne_true, eTr1]
      exact ⟨hlj, w7, ρ7, h7, zs, e46.trans e7 R6.sub, A7, Nat.le_succ_of_le hz, g7.mono (fun _ _ q => q) fun _ _ _ q => q.elim⟩
    | true =>
      rw [if_pos rfl]
      simp only [Out.bind_assoc] at g7
      refine rd_then R7 L7 g7 fun w8 ρ8 h8 H8 y u e8 R8 L8 r8 g8 => ?_
      have A8 := A7.step e8 R8
      obtain ⟨us, p1, p2, p3⟩ := A8.push hD r8 (by rw [List.length_append]; omega)
      refine ⟨us, p1, p2, ?_⟩
      rw [eTr1]
      refine ⟨hlj, w8, ρ8, h8, zs ++ [y], ((e46.trans e7 R6.sub).trans e8 R7.sub).mut A4.dM p1 trivial, by rw [← List.append_assoc]; exact p3, by simp; omega, ?_⟩
      simp only [List.append_assoc, List.singleton_append]
      exact g8.mono (fun _ _ q => q) fun _ _ _ q => q.elim
theorem rd_comp2' {own vs1 : List Nat} {ci ci1 : CI} {t t1 : CTg} {tt tt1 : CTt} {el : CE} : ∀ σ H Q, rd G E (cComp2 own ci t tt vs1 ci1 t1 tt1 el) σ H Q →
    tLc2 (rdI G Noth ci) (rdW G Noth own t) (rdt G Noth tt) (rdI G Noth ci1) (rdW G Noth vs1 t1) (rdt G Noth tt1) (rd G Noth el) own vs1 σ H Q := fun σ H Q ⟨w, ρ, l, h, R, L, g⟩ =>
  rd_comp2 σ H Q ⟨w, ρ, l, h, R, L, Out.good_noExc g⟩
theorem xe_comp2 {elt tg iter tg1 iter1 : Expr} {ifs ifs1 : List Expr} {scope : Scope} {own : List (Str × Nat)} {vs1 : List Nat} {pos : Pos} {ci ci1 : CI} {t t1 : CTg} {tt tt1 : CTt} {el : CE} (hc : X.calm = true) (hN : X.N.Nodup) (hi : XI X G Noth tg iter ci) (ok : BlkOk X.N X.env.scope scope own) (hv : ∀ i ∈ vs1, i ∈ own.map (·.2))
    (hg : ∀ (s : Shared) (H : Hp) (C : Addr) (cl : List (Str × Addr)) (fp : List Addr), XGw (X.blk s H scope (compEnvC scope cl C X.env) fp) G Noth (own.map (·.2)) tg t) (ht : ∀ (s : Shared) (H : Hp) (C : Addr) (cl : List (Str × Addr)) (fp : List Addr), XTs (X.blk s H scope (compEnvC scope cl C X.env) fp) G Noth ifs tt)
    (hi1 : ∀ (s : Shared) (H : Hp) (C : Addr) (cl : List (Str × Addr)) (fp : List Addr), XI (X.blk s H scope (compEnvC scope cl C X.env) fp) G Noth tg1 iter1 ci1)
    (hg1 : ∀ (s : Shared) (H : Hp) (C : Addr) (cl : List (Str × Addr)) (fp : List Addr), XGw (X.blk s H scope (compEnvC scope cl C X.env) fp) G Noth vs1 tg1 t1) (ht1 : ∀ (s : Shared) (H : Hp) (C : Addr) (cl : List (Str × Addr)) (fp : List Addr), XTs (X.blk s H scope (compEnvC scope cl C X.env) fp) G Noth ifs1 tt1)
    (he : ∀ (s : Shared) (H : Hp) (C : Addr) (cl : List (Str × Addr)) (fp : List Addr), XE (X.blk s H scope (compEnvC scope cl C X.env) fp) G Noth elt el) (hs : ∀ x, foldedSetIterable iter X.env x = pure x := by intro _; rfl) (hs1 : ∀ env x, foldedSetIterable iter1 env x = pure x := by intro _ _; rfl) :
    XE X G E (.ListComp elt [⟨tg, iter, ifs, 0⟩, ⟨tg1, iter1, ifs1, 0⟩] scope pos) (cComp2 (own.map (·.2)) ci t tt vs1 ci1 t1 tt1 el) := pe_imp (pe_lc2 hc hN hi ok hv hg ht hi1 hg1 ht1 he hs hs1) rd_comp2'
theorem xs_setComp2 {i : Nat} {y : Str} {py : Pos} {elt tg iter tg1 iter1 : Expr} {ifs ifs1 : List Expr} {scope : Scope} {own : List (Str × Nat)} {vs1 : List Nat} {pos spos : Pos} {ci ci1 : CI} {t t1 : CTg} {tt tt1 : CTt} {el : CE} (hc : X.calm = true) (hN : X.N.Nodup) (hy : X.N[i]? = some y) (hyl : X.env.scope.names.lookup y = some .local)
    (hsw : swapsWith (.ListComp elt [⟨tg, iter, ifs, 0⟩, ⟨tg1, iter1, ifs1, 0⟩] scope pos) (some (.Name y py)) spos.line X.env = pure true) (hi : XI X G Noth tg iter ci) (ok : BlkOk X.N X.env.scope scope own) (hv : ∀ i ∈ vs1, i ∈ own.map (·.2))
    (hg : ∀ (s : Shared) (H : Hp) (C : Addr) (cl : List (Str × Addr)) (fp : List Addr), XGw (X.blk s H scope (compEnvC scope cl C X.env) fp) G Noth (own.map (·.2)) tg t) (ht : ∀ (s : Shared) (H : Hp) (C : Addr) (cl : List (Str × Addr)) (fp : List Addr), XTs (X.blk s H scope (compEnvC scope cl C X.env) fp) G Noth ifs tt)
    (hi1 : ∀ (s : Shared) (H : Hp) (C : Addr) (cl : List (Str × Addr)) (fp : List Addr), XI (X.blk s H scope (compEnvC scope cl C X.env) fp) G Noth tg1 iter1 ci1)
    (hg1 : ∀ (s : Shared) (H : Hp) (C : Addr) (cl : List (Str × Addr)) (fp : List Addr), XGw (X.blk s H scope (compEnvC scope cl C X.env) fp) G Noth vs1 tg1 t1) (ht1 : ∀ (s : Shared) (H : Hp) (C : Addr) (cl : List (Str × Addr)) (fp : List Addr), XTs (X.blk s H scope (compEnvC scope cl C X.env) fp) G Noth ifs1 tt1)
    (he : ∀ (s : Shared) (H : Hp) (C : Addr) (cl : List (Str × Addr)) (fp : List Addr), XE (X.blk s H scope (compEnvC scope cl C X.env) fp) G Noth elt el) (hs : ∀ x, foldedSetIterable iter X.env x = pure x := by intro _; rfl) (hs1 : ∀ env x, foldedSetIterable iter1 env x = pure x := by intro _ _; rfl) :
    XS X G E (.Assign [.Name y py] (.ListComp elt [⟨tg, iter, ifs, 0⟩, ⟨tg1, iter1, ifs1, 0⟩] scope pos) spos) (sAsg (cComp2 (own.map (·.2)) ci t tt vs1 ci1 t1 tt1 el) (tgName i)) := ps_imp (ps_setLc2 hc hN hy hyl hsw hi ok hv hg ht hi1 hg1 ht1 he hs hs1) fun D σ H q => by
  have z : rd G E (cComp2 (own.map (·.2)) ci t tt vs1 ci1 t1 tt1 el) σ H (fun x H1 => gName i x σ H1 D.nx) := by
    obtain ⟨w, ρ, l, h, R, L, g⟩ := q
    exact rd_then R L g fun w1 ρ1 h1 H1 x v e1 R1 L1 r1 g1 => (show PostF G w ρ H D (.nx (l.set i (some x))) h1 from g1) w1 ρ1 H1 e1 R1 _ (L1.set i r1)
  exact rd_comp2' σ H _ z
end
end Rn

set_option Elab.async false
set_option linter.all false
set_option maxRecDepth 100000
set_option maxHeartbeats 4000000
namespace Rn
open PySem PySem.Spec PyProof.Rows L2

/-! ### a dict whose keys are tuples, by a comprehension -/
/-- the object that a comprehension fills -/
theorem dictSetT {X : Cx} {pins : List (Addr × Obj)} {σ : L2.St} {H : Hp} {s : Shared} {E : Value → Shared → Prop} {D b : Addr} {kvs : List (TKey × V)} {k : TKey} {v : V} {u r : Value} {Q : Unit → Shared → Prop} (hu : X.A.units + 1 < cLine) (I : Inv X pins σ H s) (hD : H D = some (.dT kvs)) (hz : kvs.length < sizeLine)
    (hb : H b = some (.tup (k.map kV))) (ry : RelV (.ref b) u) (rv : RelV v r) (h : ∀ s', Inv X pins σ (upd H D (.dT (putK kvs k v))) s' → Q () s') : wpAny (model X.prog X.w) X.A (dictSet D u r) Q E s := by
  cases (show u = Value.ref b from ry)
  obtain ⟨z, hd, xs, rel, dd⟩ := dt_of I.hok hD
  have zx : xs.length ≤ sizeLine := by rw [← Paired.length rel]; exact z
  have zp : (putK kvs k v).length ≤ sizeLine := by have := length_putK kvs k v; omega
  refine wpAny_dictSet_heap (hsz := zx) (show X.A.units < cLine by omega) (key_of I.hok hb) dd fun h' dd' same => h _ ?_
  obtain ⟨q, es, ep, hq, p1, p2, p3, _, p5⟩ := dd'
  refine d_write I (by rw [hD]; exact True.intro) same ⟨q, hq⟩ ⟨zp, hd, _, (rel.put k hb rv).keeps fun c ys ec => ?_, q, es, ep, hq, p1, p2, p3, p5⟩
  rw [upd_ne (ne_of ec hD (fun z => nomatch z))]
  exact ec
/-- {k: v for target in iter if ..}: D the new dict -/
def tDcT (wi : TI) (g : TG) (tt : TT) (tk tv : TE) (vs : List Nat) : TE := fun σ H Q => wi σ H fun J H1 => ∀ D, H1 D = none → ∃ W : Nat → Nat → Hp → Prop, (∃ m, W 0 m (upd H1 D (.dT []))) ∧ ∀ i m H, W i m H →
  (J.stop i H ∧ Q (.ref D) H) ∨ (J.go i H ∧ ∃ Nx : Hp → Prop, (∀ H', Nx H' → ∃ m', m' < m ∧ W (i + 1) m' H') ∧ ∀ x H', J.yld i H x H' → g x (wipe σ vs) H' fun σ2 H2 => wipe σ2 vs = wipe σ vs ∧ tt σ2 H2 fun b H3 =>
    if b = true then tk σ2 H3 fun y H4 => tv σ2 H4 fun z H5 => ∃ (kvs : List (TKey × V)) (k : TKey) (b : Addr), y = .ref b ∧ H5 b = some (.tup (k.map kV)) ∧ H5 D = some (.dT kvs) ∧ kvs.length < sizeLine ∧ Nx (upd H5 D (.dT (putK kvs k z))) else Nx H3)
section
variable {X : Cx}
theorem dcT_core {pins : List (Addr × Obj)} {s : Shared} {σ : L2.St} {H : Hp} {Q : VK} {use : Option (Value → Sem Unit)} {Qf : Value → Shared → Prop} {pos' : Pos} {kx vx tg iter : Expr} {ifs : List Expr} {scope : Scope} {own : List (Str × Nat)} {pos : Pos} {wi : TI} {g : TG} {tt : TT} {tk tv : TE} (hc : X.calm = true) (hu : X.A.units + 1 < cLine) (hN : X.N.Nodup) (I : Inv X pins σ H s) (hi : PI X tg iter wi) (ok : BlkOk X.N X.env.scope scope own)
    (hg : ∀ (s : Shared) (H : Hp) (C : Addr) (cl : List (Str × Addr)) (fp : List Addr), PG (X.blk s H scope (compEnvC scope cl C X.env) fp) tg g) (ht : ∀ (s : Shared) (H : Hp) (C : Addr) (cl : List (Str × Addr)) (fp : List Addr), PTs (X.blk s H scope (compEnvC scope cl C X.env) fp) ifs tt)
    (hk : ∀ (s : Shared) (H : Hp) (C : Addr) (cl : List (Str × Addr)) (fp : List Addr), PE (X.blk s H scope (compEnvC scope cl C X.env) fp) kx tk)
    (he : ∀ (s : Shared) (H : Hp) (C : Addr) (cl : List (Str × Addr)) (fp : List Addr), PE (X.blk s H scope (compEnvC scope cl C X.env) fp) vx tv) (hs : ∀ x, foldedSetIterable iter X.env x = pure x) (h : tDcT wi g tt tk tv (own.map (·.2)) σ H Q)
    (hRR : ∀ D C s' m H', Inv X pins σ H' s' → Q (.ref D) H' → s'.heap.Ns C m → FpOk X pins H' C → compPost (model X.prog X.w) X.A X.xe use Qf (.ref D) C (.ok .next) s') :
    wpAny (model X.prog X.w) X.A (comprehension (.DictComp kx vx [⟨tg, iter, ifs, 0⟩] scope pos) scope X.env pos' newDict false (eval iter X.env) use) Qf X.xe s := by
  have free : ∀ y ∈ scope.names, y.2 = .free → ∃ c, X.env.cells.lookup y.1 = some c := fun y hy e => (ok.free y hy e).elim (fun k => I.ok.has _ (.inl k)) fun k => I.ok.has _ (.inr k)
  refine wpAny_comprehension_free (use := use) rfl hs (closure_ok free) ok.kind (fun y hy e => by rw [ok.uniq y hy, e]) (thn (hi.run pins s σ H _ I h) fun xv s1 hx => thn hx fun itv s2 h2 => ?_)
  obtain ⟨it, fp, tn, J, H2, e, I2, T, st2, f2, q⟩ := h2
  subst e
  refine wpAny_newObj_type (newEnv_comp ?_)
  generalize hD : s2.heap.objs.size = D
  have gone : H2 D = none := I2.hok.fresh (Nat.le_of_eq hD)
  obtain ⟨W, ⟨m0, w0⟩, turn⟩ := q D gone
  generalize eS : ({ s2 with heap := s2.heap.push { cls := .type "dict", data := .dict #[] } } : Shared) = sD
  have hS : sD.heap = s2.heap.push { cls := .type "dict", data := .dict #[] } := by rw [← eS]
  have ID : Inv X pins σ (upd H2 D (.dT [])) sD := by
    rw [← eS]
    refine I2.laid (t' := s2.toks) (fun b o e => Heap.get?_push_of_some _ e) (Nat.le_of_eq hD) ?_
    rw [← hD]
    exact dt_empty s2.heap I2.big
  have fD : ∀ b ∈ fp, FpOk X pins (upd H2 D (.dT [])) b ∧ b < sD.heap.objs.size := fun b hb => by
    obtain ⟨o, e, _⟩ := T.obj _ _ st2 b hb
    have lt := Heap.lt_size e
    refine ⟨⟨?_, (f2 b hb).2⟩, by rw [hS, Heap.size_push]; exact Nat.lt_succ_of_lt lt⟩
    rw [upd_ne (by rw [← hD]; exact Nat.ne_of_lt lt)]
    exact (f2 b hb).1
  have stD : tn 0 sD.heap := T.keep _ _ _ st2 fun b _ o e => by rw [hS]; exact Heap.get?_push_of_some _ e
  have IB := block_start ID ok hN fD
  have pg := hg sD (upd H2 D (.dT [])) sD.heap.objs.size (cellsFrom (sD.heap.objs.size + 1) scope.names (cloFrom X.env.cells scope.names [])) fp
  have pt := ht sD (upd H2 D (.dT [])) sD.heap.objs.size (cellsFrom (sD.heap.objs.size + 1) scope.names (cloFrom X.env.cells scope.names [])) fp
  have pk := hk sD (upd H2 D (.dT [])) sD.heap.objs.size (cellsFrom (sD.heap.objs.size + 1) scope.names (cloFrom X.env.cells scope.names [])) fp
  have pv := he sD (upd H2 D (.dT [])) sD.heap.objs.size (cellsFrom (sD.heap.objs.size + 1) scope.names (cloFrom X.env.cells scope.names [])) fp
  show codeAny _ _ (.compStart (.DictComp kx vx [⟨tg, iter, ifs, 0⟩] scope pos) 0 (.ref it) (.ref D) (compEnvC scope (cellsFrom (sD.heap.objs.size + 1) scope.names (cloFrom X.env.cells scope.names [])) sD.heap.objs.size X.env)) (compPost (model X.prog X.w) X.A X.xe use Qf (.ref D) sD.heap.objs.size) { sD with heap := pushCells (sD.heap.push { cls := .type "dict", data := .dict #[] }) scope.names }
  have nfp : ∀ b ∈ fp, (upd H2 D (.dT [])) b = none := fun b hb => (fD b hb).1.1
  generalize eC : compEnvC scope (cellsFrom (sD.heap.objs.size + 1) scope.names (cloFrom X.env.cells scope.names [])) sD.heap.objs.size X.env = ce at IB pg pt pk pv ⊢
  have cL : ce.locals = sD.heap.objs.size := by subst eC; rfl
  generalize eH : upd H2 D (.dT []) = HD at ID IB pg pt pk pv w0 nfp fD
  generalize eB : ({ sD with heap := pushCells (sD.heap.push { cls := .type "dict", data := .dict #[] }) scope.names } : Shared) = sB at IB ⊢
  have stB : tn 0 sB.heap := T.keep _ _ _ stD fun b _ o e => by rw [← eB]; exact pushCells_keeps _ _ _ _ (Heap.get?_push_of_some _ e)
  have units : (X.blk sD HD scope ce fp).A.units + 1 < cLine := hu
  have stat : ∀ {σ' : L2.St} {H' : Hp} {s' : Shared}, Inv (X.blk sD HD scope ce fp) [] σ' H' s' → (∀ b ∈ fp, H' b = none) → ∀ b ∈ fp, FpOk (X.blk sD HD scope ce fp) [] H' b := fun {σ' H' s'} I' hn b hb =>
    ⟨hn b hb, (I'.ok.exf b hb).1, I'.ok.exfs b hb, .inl hb, fun x c e => (I'.ok.exf b hb).2 x c e, fun p hp => absurd (show p ∈ ([] : List (Addr × Obj)) ++ [] from hp) (by simp)⟩
  have loop : codeAny (model X.prog X.w) X.A (.compLoop (.DictComp kx vx [⟨tg, iter, ifs, 0⟩] scope pos) 0 (.ref it) (.ref D) ce) (compPost (model X.prog X.w) X.A X.xe use Qf (.ref D) sD.heap.objs.size) sB := by
    refine compLoop_anyD (fun n s' => ∃ i H', Inv (X.blk sD HD scope ce fp) [] (wipe σ (own.map (·.2))) H' s' ∧ tn i s'.heap ∧ (∀ b ∈ fp, H' b = none) ∧ W i n H') ?_ m0 ⟨0, HD, IB, stB, nfp, w0⟩
    rintro n s5 ⟨i, H5, I5, st5, n5, w5⟩
    rcases turn i n H5 w5 with ⟨stop, qq⟩ | ⟨go, Nx, hNx, step⟩
    case inl =>
      refine thnF (T.done (X.blk sD HD scope ce fp) rfl rfl rfl hc i [] s5 _ H5 (fun _ _ => False) I5 (stat I5 n5) st5 stop) fun r s6 ⟨hr, I6⟩ => ?_
      subst hr
      have I7 : Inv X pins σ H5 s6 := ID.call' (ch := fp) I6.os I6.base I6.hok I6.bare fun b hb => ⟨(fD b hb).1.2.2.2.1, (fD b hb).1.2.1, (fD b hb).1.2.2.2.2.1, (fD b hb).1.2.2.2.2.2⟩
      have nC : H5 sD.heap.objs.size = none := by
        have z : H5 ce.locals = none := I6.free
        rw [cL] at z
        exact z
      obtain ⟨m, hn, _⟩ := I6.loc
      have hn : s6.heap.Ns ce.locals m := hn
      rw [cL] at hn
      exact hRR D _ s6 m H5 I7 qq hn (ID.fpOk (Nat.le_refl _) nC)
    case inr =>
      refine thnF (T.item (X.blk sD HD scope ce fp) rfl rfl rfl hc i [] s5 _ H5 (fun _ _ => False) I5 (stat I5 n5) st5 go) fun r s6 ⟨u, hr, h6⟩ => ?_
      subst hr
      refine thnF h6 fun _ s7 ⟨x, H7, I7, r7, y7, st7, n7⟩ => ?_
      have I7' := I7.pinned (stat I7 n7) (T.obj _ _ st7)
      refine thnF (pg.run _ s7 _ H7 x u _ I7' r7 (step x H7 y7)) fun _ s8 ⟨σ8, H8, I8, hw8, q8⟩ => thnF (pt.run _ s8 σ8 H8 _ I8 q8) fun b s9 ⟨H9, I9, q9⟩ => ?_
      have fin : ∀ {s' : Shared} {H' : Hp}, Inv (X.blk sD HD scope ce fp) ([] ++ pinsAt fp s7.heap) σ8 H' s' → Nx H' → ∃ m, m < n ∧ ∃ i H', Inv (X.blk sD HD scope ce fp) [] (wipe σ (own.map (·.2))) H' s' ∧ tn i s'.heap ∧ (∀ b ∈ fp, H' b = none) ∧ W i m H' := fun {s' H'} I' nx => by
        obtain ⟨m', hm, w'⟩ := hNx H' nx
        have pin' : ∀ b ∈ fp, ∀ o, s7.heap.get? b = some o → s'.heap.get? b = some o ∧ H' b = none := fun b hb o e =>
          let z := I'.pin (b, o) (List.mem_append_right _ (List.mem_append_right _ (mem_pinsAt hb e)))
          ⟨z.1, z.2.1⟩
        refine ⟨m', hm, i + 1, H', (I'.unpinned (pins := [])).weak (by rw [← hw8, wipe_length]) (fun j v e => ?_), T.keep _ _ _ st7 fun b hb o e => (pin' b hb o e).1, fun b hb => ?_, w'⟩
        · rw [← hw8] at e
          exact (wipe_some e).1
        · obtain ⟨o, e, _⟩ := T.obj _ _ st7 b hb
          exact (pin' b hb o e).2
      cases b with
      | false =>
        simp only [Bool.false_eq_true, if_false] at q9 ⊢
        exact fin I9 q9
      | true =>
        simp only [if_true] at q9 ⊢
        refine thnF (pk.run _ s9 σ8 H9 _ I9 q9) fun z s10 ⟨yk, H10, I10, r10, q10⟩ => thnF (pv.run _ s10 σ8 H10 _ I10 q10) fun z2 s11 ⟨yv, H11, I11, r11, kvs, k, b, ek, hb11, hD11, hz11, nx⟩ => ?_
        subst ek
        exact dictSetT (X := X.blk sD HD scope ce fp) units I11 hD11 hz11 hb11 r10 r11 fun s12 I12 => fin I12 nx
  exact codeAny_compStart_dict loop (T.self X.A 0 _ _ _ stB loop)
theorem pe_dcT {kx vx tg iter : Expr} {ifs : List Expr} {scope : Scope} {own : List (Str × Nat)} {pos : Pos} {wi : TI} {g : TG} {tt : TT} {tk tv : TE} (hc : X.calm = true) (hu : X.A.units + 1 < cLine) (hN : X.N.Nodup) (hi : PI X tg iter wi) (ok : BlkOk X.N X.env.scope scope own)
    (hg : ∀ (s : Shared) (H : Hp) (C : Addr) (cl : List (Str × Addr)) (fp : List Addr), PG (X.blk s H scope (compEnvC scope cl C X.env) fp) tg g) (ht : ∀ (s : Shared) (H : Hp) (C : Addr) (cl : List (Str × Addr)) (fp : List Addr), PTs (X.blk s H scope (compEnvC scope cl C X.env) fp) ifs tt)
    (hk : ∀ (s : Shared) (H : Hp) (C : Addr) (cl : List (Str × Addr)) (fp : List Addr), PE (X.blk s H scope (compEnvC scope cl C X.env) fp) kx tk)
    (he : ∀ (s : Shared) (H : Hp) (C : Addr) (cl : List (Str × Addr)) (fp : List Addr), PE (X.blk s H scope (compEnvC scope cl C X.env) fp) vx tv) (hs : ∀ x, foldedSetIterable iter X.env x = pure x := by intro _; rfl) :
    PE X (.DictComp kx vx [⟨tg, iter, ifs, 0⟩] scope pos) (tDcT wi g tt tk tv (own.map (·.2))) := by
  refine ⟨fun pins s σ H Q I h => ?_⟩
  rw [arm_eval_DictComp]
  refine dcT_core (use := none) (Qf := fun v s' => EP X pins σ Q v s') hc hu hN I hi ok hg ht hk he hs h fun D C s' m H' I' q hn f => ?_
  obtain ⟨f0, f1, f2, f3, f4, f5⟩ := f
  exact ⟨m, hn, fun h'' sb => ⟨.ref D, H', I'.turned (t' := s'.toks) (fun b o hb e => (sb.2 b hb).trans e) f0 f1 f3 f4 f5, rfl, q⟩⟩
theorem ps_setDcT {i : Nat} {y : Str} {py spos : Pos} {kx vx tg iter : Expr} {ifs : List Expr} {scope : Scope} {own : List (Str × Nat)} {pos : Pos} {wi : TI} {g : TG} {tt : TT} {tk tv : TE} (hc : X.calm = true) (hu : X.A.units + 1 < cLine) (hN : X.N.Nodup) (hy : X.N[i]? = some y) (hyl : X.env.scope.names.lookup y = some .local)
    (hsw : swapsWith (.DictComp kx vx [⟨tg, iter, ifs, 0⟩] scope pos) (some (.Name y py)) spos.line X.env = pure true) (hi : PI X tg iter wi) (ok : BlkOk X.N X.env.scope scope own)
    (hg : ∀ (s : Shared) (H : Hp) (C : Addr) (cl : List (Str × Addr)) (fp : List Addr), PG (X.blk s H scope (compEnvC scope cl C X.env) fp) tg g) (ht : ∀ (s : Shared) (H : Hp) (C : Addr) (cl : List (Str × Addr)) (fp : List Addr), PTs (X.blk s H scope (compEnvC scope cl C X.env) fp) ifs tt)
    (hk : ∀ (s : Shared) (H : Hp) (C : Addr) (cl : List (Str × Addr)) (fp : List Addr), PE (X.blk s H scope (compEnvC scope cl C X.env) fp) kx tk)
    (he : ∀ (s : Shared) (H : Hp) (C : Addr) (cl : List (Str × Addr)) (fp : List Addr), PE (X.blk s H scope (compEnvC scope cl C X.env) fp) vx tv) (hs : ∀ x, foldedSetIterable iter X.env x = pure x := by intro _; rfl) :
    PS X (.Assign [.Name y py] (.DictComp kx vx [⟨tg, iter, ifs, 0⟩] scope pos) spos) (tAsg (tDcT wi g tt tk tv (own.map (·.2))) (gName i)) := by
  refine ⟨fun pins s σ H D I h => ?_⟩
  rw [exec_Assign_Name_used _ _ _ _ hsw]
  refine wpAny_bind (wpAny_standAt (wpAny_bind ?_))
  show wpAny _ X.A (do let _ ← comprehension (.DictComp kx vx [⟨tg, iter, ifs, 0⟩] scope pos) scope X.env (firstIterPos [⟨tg, iter, ifs, 0⟩] pos) newDict false (eval iter X.env) (some (assign (.Name y py) X.env))) _ _ s
  have h : tDcT wi g tt tk tv (own.map (·.2)) σ H (fun x K1 => gName i x σ K1 D.nx) := h
  refine wpAny_bind (thn (dcT_core (Qf := fun _ s' => SP X pins D .next s') hc hu hN I hi ok hg ht hk he hs h fun L C t m K1 J q hn f => ?_) fun _ t hq => wpAny_pure (wpAny_pure hq))
  show wpAny _ _ (assign (.Name y py) X.env (.ref L)) _ _ _
  refine wpAny_assign_Name (store_ok2 (v := V.ref L) J hN hy (.inl hyl) rfl (fun t2 J2 ⟨a, sb, ha⟩ => ?_) (.inr hyl))
  obtain ⟨f0, f1, f2, f3, f4, f5⟩ := f
  have apart : C ≠ a := by
    rcases ha with z | z
    · rw [z]; exact f1
    · exact fun e => f4 y a z e.symm
  exact ⟨m, hn.sameBut sb apart, fun h3 sb3 => ⟨_, K1, J2.turned (t' := t2.toks) (fun b o hb e => (sb3.2 b hb).trans e) f0 f1 f3 f4 f5, q⟩⟩
end

/-! ### hashes of small tuples are unlike -/
def tups4 : Nat → List (List Int)
  | 0 => [[]]
  | n + 1 => (tups4 n).flatMap fun t => [0 :: t, 1 :: t, 2 :: t, 3 :: t]
def hkI (t : List Int) : Int := reduceHash (Builtin.Tuple.tupleHashOf (t.map hashInt))
inductive Bst where
  | e | n (l : Bst) (x : Nat) (r : Bst)
def Bst.ins : Bst → Nat → Option Bst
  | .e, x => some (.n .e x .e)
  | .n l y r, x => if x < y then (match l.ins x with | some l' => some (.n l' y r) | none => none) else if y < x then (match r.ins x with | some r' => some (.n l y r') | none => none) else none
def Bst.has : Bst → Nat → Bool
  | .e, _ => false
  | .n l y r, x => if x < y then l.has x else if y < x then r.has x else true
def Bst.all : Bst → List Nat → Bool
  | _, [] => true
  | t, x :: xs => match t.ins x with
    | some t' => t'.all xs
    | none => false
theorem Bst.ins_has : ∀ {t t' : Bst} {x : Nat}, t.ins x = some t' → t.has x = false ∧ t'.has x = true ∧ ∀ y, t.has y = true → t'.has y = true
  | .e, t', x, h => by
    unfold Bst.ins at h
    cases h
    refine ⟨rfl, ?_, fun y hy => by cases hy⟩
    unfold Bst.has
    rw [if_neg (Nat.lt_irrefl x), if_neg (Nat.lt_irrefl x)]
  | .n l z r, t', x, h => by
    unfold Bst.ins at h
    by_cases h1 : x < z
    · rw [if_pos h1] at h
      cases q : l.ins x with
      | none => rw [q] at h; cases h
      | some l' =>
        rw [q] at h
        cases h
        obtain ⟨i1, i2, i3⟩ := Bst.ins_has q
        refine ⟨by unfold Bst.has; rw [if_pos h1]; exact i1, by unfold Bst.has; rw [if_pos h1]; exact i2, fun y hy => ?_⟩
        unfold Bst.has at hy ⊢
        by_cases g : y < z
        · rw [if_pos g] at hy ⊢; exact i3 y hy
        · rw [if_neg g] at hy ⊢; exact hy
    · rw [if_neg h1] at h
      by_cases h2 : z < x
      · rw [if_pos h2] at h
        cases q : r.ins x with
        | none => rw [q] at h; cases h
        | some r' =>
          rw [q] at h
          cases h
          obtain ⟨i1, i2, i3⟩ := Bst.ins_has q
          refine ⟨by unfold Bst.has; rw [if_neg h1, if_pos h2]; exact i1, by unfold Bst.has; rw [if_neg h1, if_pos h2]; exact i2, fun y hy => ?_⟩
          unfold Bst.has at hy ⊢
          by_cases g : y < z
          · rw [if_pos g] at hy ⊢; exact hy
          · rw [if_neg g] at hy ⊢
            by_cases g2 : z < y
            · rw [if_pos g2] at hy ⊢; exact i3 y hy
            · rw [if_neg g2]
      · rw [if_neg h2] at h; cases h
theorem Bst.all_ne : ∀ {xs : List Nat} {t : Bst}, t.all xs = true → xs.Nodup ∧ ∀ x ∈ xs, t.has x = false
  | [], _, _ => ⟨List.nodup_nil, fun _ h => by cases h⟩
  | x :: xs, t, h => by
    unfold Bst.all at h
    cases q : t.ins x with
    | none => rw [q] at h; cases h
    | some t' =>
      rw [q] at h
      obtain ⟨i1, i2, i3⟩ := Bst.ins_has q
      obtain ⟨j1, j2⟩ := Bst.all_ne h
      refine ⟨List.nodup_cons.mpr ⟨fun z => ?_, j1⟩, fun y hy => ?_⟩
      · have := j2 x z; rw [i2] at this; cases this
      · rcases List.mem_cons.mp hy with e | e
        · rw [e]; exact i1
        · cases g : t.has y with
          | false => rfl
          | true => have := j2 y e; rw [i3 y g] at this; cases this
def keyN (t : List Int) : Nat := (hkI t + 2 ^ 63).toNat
theorem apart4 : ∀ p, p < 7 → Bst.all .e ((tups4 p).map keyN) = true
  | 0, _ => by decide +kernel
  | 1, _ => by decide +kernel
  | 2, _ => by decide +kernel
  | 3, _ => by decide +kernel
  | 4, _ => by decide +kernel
  | 5, _ => by decide +kernel
  | 6, _ => by decide +kernel
  | n + 7, h => absurd h (by omega)
theorem map_inj_of {α β : Type} {f : α → β} : ∀ {l : List α}, (l.map f).Nodup → ∀ x ∈ l, ∀ y ∈ l, f x = f y → x = y
  | [], _, _, h, _, _, _ => by cases h
  | a :: l, nd, x, hx, y, hy, e => by
    rw [List.map_cons, List.nodup_cons] at nd
    rcases List.mem_cons.mp hx with h1 | h1
    · rcases List.mem_cons.mp hy with h2 | h2
      · rw [h1, h2]
      · exact (nd.1 (by rw [← h1, e]; exact List.mem_map_of_mem h2)).elim
    · rcases List.mem_cons.mp hy with h2 | h2
      · exact (nd.1 (by rw [← h2, ← e]; exact List.mem_map_of_mem h1)).elim
      · exact map_inj_of nd.2 x h1 y h2 e
theorem mem_tups4 : ∀ {n : Nat} {t : List Int}, t.length = n → (∀ i ∈ t, 0 ≤ i ∧ i < 4) → t ∈ tups4 n
  | 0, t, h, _ => by
    rw [List.length_eq_zero_iff.mp h]; exact List.mem_singleton_self _
  | n + 1, [], h, _ => by cases h
  | n + 1, i :: t, h, b => by
    unfold tups4
    refine List.mem_flatMap.mpr ⟨t, mem_tups4 (Nat.succ.inj h) fun j hj => b j (List.mem_cons_of_mem _ hj), ?_⟩
    have := b i List.mem_cons_self
    have c : i = 0 ∨ i = 1 ∨ i = 2 ∨ i = 3 := by omega
    rcases c with e | e | e | e <;> simp [e]
/-- tuples of so many ints from 0 to 3 -/
def smallK (p : Nat) (k : TKey) : Bool := decide (k.length = p) && k.all fun x => match x with
  | .inl i => decide (0 ≤ i) && decide (i < 4)
  | .inr _ => false
theorem smallK_of {p : Nat} : ∀ {k : TKey}, (k.all fun x => match x with | .inl i => decide (0 ≤ i) && decide (i < 4) | .inr _ => false) = true → ∃ t : List Int, k = t.map Sum.inl ∧ ∀ i ∈ t, 0 ≤ i ∧ i < 4
  | [], _ => ⟨[], rfl, fun _ h => by cases h⟩
  | x :: k, h => by
    rw [List.all_cons, Bool.and_eq_true] at h
    obtain ⟨t, e, b⟩ := smallK_of (p := p) h.2
    cases x with
    | inr _ => exact absurd h.1 Bool.false_ne_true
    | inl i =>
      have hi := h.1
      simp only [Bool.and_eq_true, decide_eq_true_eq] at hi
      refine ⟨i :: t, by rw [e]; rfl, fun j hj => ?_⟩
      rcases List.mem_cons.mp hj with z | z
      · rw [z]; exact hi
      · exact b j z
theorem hash_small {P : Program} {w : World} {p : Nat} (hp : p < 7) {k k' : TKey} (h : smallK p k = true) (h' : smallK p k' = true) (e : tupleKeyHash (mixKind P w) k = tupleKeyHash (mixKind P w) k') : k = k' := by
  unfold smallK at h h'
  rw [Bool.and_eq_true, decide_eq_true_eq] at h h'
  obtain ⟨t, e1, b1⟩ := smallK_of (p := p) h.2
  obtain ⟨t', e2, b2⟩ := smallK_of (p := p) h'.2
  have q : ∀ t : List Int, tupleKeyHash (mixKind P w) (t.map Sum.inl) = hkI t := fun t => by
    unfold tupleKeyHash hkI
    rw [List.map_map]
    rfl
  rw [e1, e2, q, q] at e
  have l1 : t.length = p := by rw [← h.1, e1, List.length_map]
  have l2 : t'.length = p := by rw [← h'.1, e2, List.length_map]
  have := map_inj_of (Bst.all_ne (apart4 p hp)).1 t (mem_tups4 l1 b1) t' (mem_tups4 l2 b2) (by unfold keyN; rw [e])
  rw [e1, e2, this]
theorem nodup_hash {P : Program} {w : World} {p : Nat} (hp : p < 7) : ∀ {ks : List TKey}, ks.Nodup → (∀ k ∈ ks, smallK p k = true) → (ks.map fun k => tupleKeyHash (mixKind P w) k).Nodup
  | [], _, _ => List.nodup_nil
  | k :: ks, nd, h => by
    obtain ⟨n1, n2⟩ := List.nodup_cons.mp nd
    rw [List.map_cons, List.nodup_cons]
    refine ⟨fun z => ?_, nodup_hash hp n2 fun k' hk => h k' (List.mem_cons_of_mem _ hk)⟩
    obtain ⟨k', h1, h2⟩ := List.mem_map.mp z
    exact n1 (hash_small hp (h k' (List.mem_cons_of_mem _ h1)) (h k List.mem_cons_self) h2 ▸ h1)

/-! ### d.update(e) -/
def mergeT (kvs more : List (TKey × V)) : List (TKey × V) := more.foldl (fun acc kv => putK acc kv.1 kv.2) kvs
theorem mergeT_len : ∀ (more kvs : List (TKey × V)), (mergeT kvs more).length ≤ kvs.length + more.length
  | [], _ => Nat.le_refl _
  | p :: more, kvs => by
    have h1 := mergeT_len more (putK kvs p.1 p.2)
    have h2 := length_putK kvs p.1 p.2
    have e : mergeT kvs (p :: more) = mergeT (putK kvs p.1 p.2) more := rfl
    rw [e, List.length_cons]; omega
theorem KT.mergeT {H : Hp} : ∀ {more : List (TKey × V)} {ms : List (TKey × Addr × Value)}, KT H more ms → ∀ {kvs : List (TKey × V)} {xs : List (TKey × Addr × Value)}, KT H kvs xs → KT H (Rn.mergeT kvs more) (storedAllH xs ms)
  | _, _, .nil, _, _, r => r
  | _, _, .cons h t, _, _, r => by
    obtain ⟨h1, h2, h3⟩ := h
    refine KT.mergeT t ?_
    show KT H (putK _ _ _) (storedH _ _ _ _)
    rw [← h1]
    exact r.put _ h2 h3
def hapT (kvs more : List TKey) : Bool := !kvs.isEmpty || ((List.range 7).any fun p => more.all (smallK p))
section
variable {X : Cx} {pins : List (Addr × Obj)} {σ : L2.St} {H : Hp} {s : Shared} {E : Value → Shared → Prop} {a b : Addr}
theorem d_updT {kvs more : List (TKey × V)} {Q : Value → Shared → Prop} (hu : X.A.units + 1 < cLine) (I : Inv X pins σ H s) (ea : H a = some (.dT kvs)) (eb : H b = some (.dT more)) (ne : a ≠ b) (hap : hapT (kvs.map (·.1)) (more.map (·.1)) = true) (hz : kvs.length + more.length ≤ sizeLine)
    (h : ∀ s', Inv X pins σ (upd H a (.dT (mergeT kvs more))) s' → Q .none s') : wpAny (model X.prog X.w) X.A (call (.builtin "dict.update") [.ref a, .ref b]) Q E s := by
  obtain ⟨za, ha, xs, ra, da⟩ := dt_of I.hok ea
  obtain ⟨zb, hb, ys, rb, db⟩ := dt_of I.hok eb
  have kb : more.map (·.1) = ys.map (·.1) := by
    clear zb eb hap hz h db
    induction rb with
    | nil => rfl
    | cons p _ ih => rw [List.map_cons, List.map_cons, ih, p.1]
  have la : kvs.length = xs.length := Paired.length ra
  have lb : more.length = ys.length := Paired.length rb
  have nd : (ys.map (·.1)).Nodup := by
    obtain ⟨_, _, _, _, _, _, _, _, n⟩ := db
    exact n
  refine call_update_dictH (knd := tupleKind (mixKind X.prog X.w)) (tupleKind_room_in1 hu) ne hb da db ?_ (by rw [← la, ← lb]; exact hz) fun h' da' _ same => h _ ?_
  · unfold hapT at hap
    rw [Bool.or_eq_true] at hap
    rcases hap with z | z
    · left
      intro e
      rw [e] at ra
      cases ra
      exact absurd z (by decide)
    · right
      refine ⟨fun x hx => ?_, ?_⟩
      · have : (tupleKind (mixKind X.prog X.w)).is s.heap x.1 x.2.1 := by
          obtain ⟨_, _, _, _, _, _, _, q, _⟩ := db
          exact q x hx
        exact IsTupleKey.typeIs this
      · obtain ⟨p, hp, q⟩ := List.any_eq_true.mp z
        have n2 := nodup_hash (P := X.prog) (w := X.w) (List.mem_range.mp hp) nd fun k hk => List.all_eq_true.mp q k (by rw [kb]; exact hk)
        rw [List.map_map] at n2
        exact n2
  · obtain ⟨q, es, ep, hq, p1, p2, p3, _, p5⟩ := da'
    have zm : (mergeT kvs more).length ≤ sizeLine := Nat.le_trans (mergeT_len more kvs) hz
    have J := d_write (t' := s.toks) I (ob := .dT (mergeT kvs more)) (by rw [ea]; exact True.intro) same ⟨q, hq⟩ ⟨zm, ha, _, (KT.mergeT rb ra).keeps fun c ys ec => ?_, q, es, ep, hq, p1, p2, p3, p5⟩
    · exact J
    · rw [upd_ne (ne_of ec ea (fun z => nomatch z))]
      exact ec
/-- o.update(e), o and e unlike dicts whose keys are tuples -/
def tDUpdT (td te : TE) : TE := fun σ H Q => td σ H fun x H1 => ∃ a, x = .ref a ∧ IsD H1 a ∧ te σ H1 fun y H2 => ∃ (b : Addr) (kvs more : List (TKey × V)), y = .ref b ∧ H2 a = some (.dT kvs) ∧ H2 b = some (.dT more) ∧ a ≠ b ∧ hapT (kvs.map (·.1)) (more.map (·.1)) = true ∧ kvs.length + more.length ≤ sizeLine ∧ Q .non (upd H2 a (.dT (mergeT kvs more)))
theorem pe_dupdT {o e : Expr} {apos cpos : Pos} {td te : TE} (hu : X.A.units + 1 < cLine) (ho : PE X o td) (he : PE X e te) (m : M1 X o "update" apos e cpos) : PE X (.Call (.Attribute o "update" apos) [e] [] cpos) (tDUpdT td te) := by
  refine ⟨fun pins s σ H Q I h => ?_⟩
  refine wpAny_Call_method m.base m.few m.line PySem.F.plainAttrs_dict PySem.F.slot_dict_update PySem.F.type_dict_update (thn (ho.run pins s σ H _ I h) fun u s1 ⟨x, H1, I1, rx, a, ex, d, q1⟩ => ?_)
  subst ex
  obtain rfl : u = Value.ref a := rx
  obtain ⟨t1, t2, _⟩ := isD_at I1 d
  refine ⟨t1, t2, ?_⟩
  rw [m.trees]
  refine Calls.callWith_builtin rfl (Calls.evalArgs_plain (Calls.spliced_cons (thn (he.run pins s1 σ H1 _ I1 q1) fun iv s2 ⟨y, H2, I2, ry, b, kvs, more, ey, ea, eb, ne, hap, hz, q2⟩ => Calls.spliced_nil ?_)))
  subst ey
  obtain rfl : iv = Value.ref b := ry
  exact d_updT hu I2 ea eb ne hap hz fun s3 I3 => ⟨.non, _, I3, rfl, q2⟩
end
end Rn

set_option Elab.async false
set_option linter.all false
set_option maxRecDepth 100000
set_option maxHeartbeats 4000000
namespace Rn
open PySem PyProof.Rows L2

/-! ### a dict with tuple keys that is being made at D -/
structure DicAt (G : Gb) (w0 : Wd) (ρ0 : List Addr) (H0 : Hp) (D : Addr) (w : Wd) (ρ : List Addr) (h : CH) (H : Hp) (acc : List (TKey × CV)) : Prop where
  e : Ext w0 ρ0 H0 w ρ H
  R : Rep G w ρ h H
  dM : D ∈ w.M
  dn : D ∉ ρ
  v : ∃ us : List (TKey × V), H D = some (.dT us) ∧ us.map (·.1) = acc.map (·.1) ∧ RelCs G w ρ H (acc.map (·.2)) (us.map (·.2))
section
variable {G : Gb} {w0 w w' : Wd} {ρ0 ρ ρ' : List Addr} {H0 H H' : Hp} {h0 h h' : CH} {D : Addr} {acc : List (TKey × CV)}
theorem DicAt.start (R : Rep G w0 ρ0 h0 H0) (hD : H0 D = none) : DicAt G w0 ρ0 H0 D ⟨D :: w0.M, w0.O, w0.F⟩ ρ0 h0 (upd H0 D (.dT [])) [] := by
  have z := Ext.newM w0 ρ0 (.dT []) hD
  have eD : Ext w0 ρ0 H0 ⟨D :: w0.M, w0.O, w0.F⟩ ρ0 (upd H0 D (.dT [])) := ⟨z.mM, z.mO, z.mF, z.new, ⟨[], by simp, by simp⟩, z.keep, z.there, z.tup, z.frz⟩
  refine ⟨eD, ?_, List.mem_cons_self, fun y => R.notM hD (R.sub D y), [], upd_same, rfl, RelCs.nil⟩
  have z := R.fresh (.dT []) hD
  refine ⟨z.nd, fun a ha => List.mem_cons_of_mem _ (z.sub a ha), z.len, fun a ha => ?_, fun n a o h1 h2 => ?_, fun r hr => ?_, fun r hr y => ?_, z.wnf, z.fh, z.tab, z.lco, z.ow, R.pn.ext eD R.sub R.mh⟩
  · rcases List.mem_cons.mp ha with y | y
    · subst y; exact ⟨_, upd_same, trivial⟩
    · exact z.mh a y
  · refine (R.obj n a o h1 h2).ext eD R.sub fun u hu => ?_
    rw [upd_ne (ne_of_none hu hD)]; exact hu
  · obtain ⟨ks, k1, k2⟩ := R.web r hr
    refine ⟨ks, k1.ext eD R.sub R.mh ?_, fun kv hk => (k2 kv hk).ext eD R.sub⟩
    obtain ⟨_, _, _, _, _, q⟩ := k1
    rw [upd_ne (ne_of_none q hD)]; exact q
  · rcases List.mem_cons.mp y with y | y
    · obtain ⟨ks, ⟨_, _, _, _, _, q⟩, _⟩ := R.web r hr
      rw [y, hD] at q; cases q
    · exact R.wne r hr y
theorem DicAt.step (A : DicAt G w0 ρ0 H0 D w ρ h H acc) (e : Ext w ρ H w' ρ' H') (R : Rep G w' ρ' h' H') : DicAt G w0 ρ0 H0 D w' ρ' h' H' acc := by
  obtain ⟨us, v1, v2, v3⟩ := A.v
  refine ⟨A.e.trans e, R, e.mM D A.dM, fun z => ?_, us, e.keep D _ v1 A.dn trivial, v2, v3.up e A.R⟩
  obtain ⟨q, p1, p2⟩ := e.pre
  rw [p1] at z
  rcases List.mem_append.mp z with z | z
  · exact A.dn z
  · have := p2 D z; rw [v1] at this; cases this
theorem DicAt.push (A : DicAt G w0 ρ0 H0 D w ρ h H acc) (hD : H0 D = none) {k : TKey} {y : CV} {u : V} (r : RelC G w ρ H y u) (hb : acc.length < big + 1) :
    ∃ us : List (TKey × V), H D = some (.dT us) ∧ us.length < sizeLine ∧ DicAt G w0 ρ0 H0 D w ρ h (upd H D (.dT (putK us k u))) (putC acc k y) := by
  obtain ⟨us, v1, v2, v3⟩ := A.v
  obtain ⟨q1, q2⟩ := rel_writeM (G := G) (r := ρ) (o := .dT (putK us k u)) A.dM v1 trivial
  obtain ⟨p1, p2⟩ := putC_rel (k := k) v2 v3 r
  have hl : us.length = acc.length := by
    have z := congrArg List.length v2
    rwa [List.length_map, List.length_map] at z
  exact ⟨us, v1, Nat.lt_of_lt_of_le (show us.length < big + 1 by rw [hl]; exact hb) (by decide), A.e.mutNew hD, A.R.writeM A.dM A.dn v1 trivial trivial, A.dM, A.dn, _, upd_same, p1, q2 _ _ p2⟩
theorem DicAt.fin {wS : Wd} {ρS : List Addr} {HS : Hp} {hS : CH} {Q : VK} (A : DicAt G w0 ρ0 H0 D w ρ h H acc) (hD : H0 D = none) (RS : Rep G wS ρS hS HS) (e0 : Ext wS ρS HS w0 ρ0 H0) (g : PostV G wS ρS HS Q (.dit (acc.map (·.1)) (acc.map (·.2))) h) : Q (.ref D) H := by
  obtain ⟨us, v1, v2, v3⟩ := A.v
  have e2 := (e0.trans A.e).out (e0.isNone hD) RS.mh
  refine g _ _ _ _ e2 (A.R.out A.dn) ?_
  unfold RelC
  exact ⟨D, us, rfl, out_not, v1, v2, RelCs.less out_sub (fun _ z => z) (fun _ z => z) v3⟩
end
/-! ### {k: v for .. in ..} -/
def dcL (t : CTg) (tt : CTt) (ek ev : CE) : List (TKey × CV) → List CV → Lc → CH → Out (List (TKey × CV))
  | acc, [], _, h => .ok acc h
  | acc, x :: xs, l, h => (t x l h).bind fun l1 h1 => (tt l1 h1).bind fun b h2 => match b with
    | false => dcL t tt ek ev acc xs l h2
    | true => (ek l1 h2).bind fun y h3 => (ev l1 h3).bind fun z h4 => match tkOf y with
      | some k => if acc.length < big then dcL t tt ek ev (putC acc k z) xs l h4 else .stuck
      | none => .stuck
def cDcT0 (vs : List Nat) (ci : CI) (t : CTg) (tt : CTt) (ek ev : CE) : CE := fun l h => (ci l h).bind fun src h1 => match src with
  | .vals xs => (dcL t tt ek ev [] xs (wipeL l vs) h1).bind fun d h2 => .ok (.dit (d.map (·.1)) (d.map (·.2))) h2
  | _ => .stuck
def cDcT (vs : List Nat) (ci : CI) (t : CTg) (tt : CTt) (ek ev : CE) : CE := fun l h => (cDcT0 vs ci t tt ek ev l h).noExc
section
variable {X : Cx} {G : Gb} {E : XO}
theorem rd_dcT {own : List Nat} {ci : CI} {t : CTg} {tt : CTt} {ek ev : CE} : ∀ σ H Q, rd G Noth (cDcT0 own ci t tt ek ev) σ H Q → tDcT (rdI G Noth ci) (rdW G Noth own t) (rdt G Noth tt) (rd G Noth ek) (rd G Noth ev) own σ H Q := fun σ H Q ⟨w, ρ, l, h, R, L, g⟩ => by
  refine ⟨w, ρ, l, h, R, L, (Out.good_bind.mp g).mono (fun src h0 g0 w0 ρ0 H0 J e0 R0 okS D hD => ?_) fun _ _ _ q => q⟩
  cases src with
  | obj n => exact g0.elim
  | vals xs =>
  have ok : ItOk G w0 ρ0 H0 xs J := okS
  replace g0 : ((dcL t tt ek ev [] xs (wipeL l own) h0).bind fun d h2 => .ok (.dit (d.map (·.1)) (d.map (·.2))) h2).Good (PostV G w ρ H Q) (PostX G w ρ H Noth) := g0
  obtain ⟨Tr, eTr⟩ : ∃ Tr : Nat → Hp → Prop, Tr = fun i H' => i ≤ xs.length ∧ ∃ w1 ρ1 h1 acc, DicAt G w0 ρ0 H0 D w1 ρ1 h1 H' acc ∧
    ((dcL t tt ek ev acc (xs.drop i) (wipeL l own) h1).bind fun d h2 => Out.ok (CV.dit (d.map (·.1)) (d.map (·.2))) h2).Good (PostV G w ρ H Q) (fun _ _ _ => False) := ⟨_, rfl⟩
  refine ⟨fun i m H' => m = xs.length - i ∧ Tr i H', ⟨_, rfl, by rw [eTr]; exact ⟨Nat.zero_le _, _, _, _, [], DicAt.start R0 hD, g0⟩⟩, ?_⟩
  rintro i m H1 ⟨rfl, tr⟩
  rw [eTr] at tr
  obtain ⟨hi, w1, ρ1, h1, acc, A1, g1⟩ := tr
  obtain ⟨k1, k2⟩ := ok w1 ρ1 h1 H1 (ExtW.of A1.e R0.sub) A1.R i
  by_cases hlt : i < xs.length
  case neg =>
    have hi' : i = xs.length := by omega
    subst hi'
    rw [List.drop_length, dcL] at g1
    exact .inl ⟨k2 rfl, A1.fin hD R e0 (show PostV G w ρ H Q (.dit (acc.map (·.1)) (acc.map (·.2))) h1 from g1)⟩
  have hx : xs[i]? = some xs[i] := by simp [hlt]
  obtain ⟨a1, a2⟩ := k1 _ hx
  rw [List.drop_eq_getElem_cons hlt] at g1
  refine .inr ⟨a1, Tr (i + 1), fun H' q => ⟨_, by omega, rfl, q⟩, fun v H' y => ?_⟩
  obtain ⟨b1, b2, b3⟩ := a2 v H' y
  rw [dcL] at g1
  simp only [Out.bind_assoc] at g1
  have A1' := A1.step b2 b3
  refine ⟨w1, ρ1, wipeL l own, h1, xs[i], b3, (L.wipe own).up (e0.trans A1'.e) R, b1, (Out.good_bind.mp g1).mono (fun l2 h2 g2 w2 ρ2 H2 σ2 e2 R2 L2 hw => ?_) fun _ _ _ q => q.elim⟩
  refine ⟨hw.trans (wipe_wipe fun _ z => z), ?_⟩
  have A2 := A1'.step e2 R2
  refine rdt_then R2 L2 (g2.mono (fun _ _ q => q) fun _ _ _ q => q.elim) fun w3 ρ3 h3 H3 b e3 R3 L3 g3 => ?_
  have A3 := A2.step e3 R3
  cases b with
  | false =>
    rw [if_neg Bool.false_ne_true, eTr]
    exact ⟨hlt, w3, ρ3, h3, acc, A3, g3.mono (fun _ _ q => q) fun _ _ _ q => q.elim⟩
  | true =>
    rw [if_pos rfl]
    simp only [Out.bind_assoc] at g3
    refine rd_then R3 L3 g3 fun w4 ρ4 h4 H4 y u e4 R4 L4 r4 g4 => ?_
    refine rd_then R4 L4 (g4.mono (fun _ _ q => q) fun _ _ _ q => q) fun w5 ρ5 h5 H5 z u2 e5 R5 L5 r5 g5 => ?_
    have A5 := (A3.step e4 R4).step e5 R5
    cases ek : tkOf y with
    | none => rw [ek] at g5; exact g5.elim
    | some k =>
      rw [ek] at g5
      simp only at g5
      split at g5
      case isFalse => exact g5.elim
      case isTrue hbig =>
      obtain ⟨b, hb, hb2⟩ := tk_ok (r4.up e5 R4) ek
      obtain ⟨us, p1, p2, p3⟩ := A5.push hD (k := k) r5 (by omega)
      refine ⟨us, k, b, hb, hb2, p1, p2, ?_⟩
      rw [eTr]
      exact ⟨hlt, w5, ρ5, h5, _, p3, g5.mono (fun _ _ q => q) fun _ _ _ q => q.elim⟩
theorem xe_dcT {kx vx tg iter : Expr} {ifs : List Expr} {scope : Scope} {own : List (Str × Nat)} {pos : Pos} {ci : CI} {t : CTg} {tt : CTt} {ek ev : CE} (hc : X.calm = true) (hu : X.A.units + 1 < cLine) (hN : X.N.Nodup) (hi : XI X G Noth tg iter ci) (ok : BlkOk X.N X.env.scope scope own)
    (hg : ∀ (s : Shared) (H : Hp) (C : Addr) (cl : List (Str × Addr)) (fp : List Addr), XGw (X.blk s H scope (compEnvC scope cl C X.env) fp) G Noth (own.map (·.2)) tg t) (ht : ∀ (s : Shared) (H : Hp) (C : Addr) (cl : List (Str × Addr)) (fp : List Addr), XTs (X.blk s H scope (compEnvC scope cl C X.env) fp) G Noth ifs tt)
    (hk : ∀ (s : Shared) (H : Hp) (C : Addr) (cl : List (Str × Addr)) (fp : List Addr), XE (X.blk s H scope (compEnvC scope cl C X.env) fp) G Noth kx ek)
    (he : ∀ (s : Shared) (H : Hp) (C : Addr) (cl : List (Str × Addr)) (fp : List Addr), XE (X.blk s H scope (compEnvC scope cl C X.env) fp) G Noth vx ev) (hs : ∀ x, foldedSetIterable iter X.env x = pure x := by intro _; rfl) :
    XE X G E (.DictComp kx vx [⟨tg, iter, ifs, 0⟩] scope pos) (cDcT (own.map (·.2)) ci t tt ek ev) := pe_imp (pe_dcT hc hu hN hi ok hg ht hk he hs) fun σ H Q ⟨w, ρ, l, h, R, L, g⟩ => rd_dcT σ H Q ⟨w, ρ, l, h, R, L, Out.good_noExc g⟩
theorem dc_swaps {kx vx : Expr} {gs : List Comprehension} {scope : Scope} {pos py : Pos} {y : Str} {ln : Nat} {env : Env} (hk : env.scope.kind = .function) (hy : env.scope.names.lookup y = some .local) (hl : (py.line == pos.line) = true)
    (ha : (scope.names.any fun (n, k) => n == y && (k == .local || k == .cell)) = false) : swapsWith (.DictComp kx vx gs scope pos) (some (.Name y py)) ln env = pure true := by
  have k1 : env.kindOf y = some .local := hy
  have k2 : env.blockKind = .function := by unfold Env.blockKind; rw [hk]; rfl
  unfold swapsWith
  simp only [k2, k1, ha, Expr.pos, hl]
  rfl
theorem xs_setDcT {i : Nat} {y : Str} {py spos : Pos} {kx vx tg iter : Expr} {ifs : List Expr} {scope : Scope} {own : List (Str × Nat)} {pos : Pos} {ci : CI} {t : CTg} {tt : CTt} {ek ev : CE} (hc : X.calm = true) (hu : X.A.units + 1 < cLine) (hN : X.N.Nodup) (hy : X.N[i]? = some y) (hyl : X.env.scope.names.lookup y = some .local)
    (hsw : swapsWith (.DictComp kx vx [⟨tg, iter, ifs, 0⟩] scope pos) (some (.Name y py)) spos.line X.env = pure true) (hi : XI X G Noth tg iter ci) (ok : BlkOk X.N X.env.scope scope own)
    (hg : ∀ (s : Shared) (H : Hp) (C : Addr) (cl : List (Str × Addr)) (fp : List Addr), XGw (X.blk s H scope (compEnvC scope cl C X.env) fp) G Noth (own.map (·.2)) tg t) (ht : ∀ (s : Shared) (H : Hp) (C : Addr) (cl : List (Str × Addr)) (fp : List Addr), XTs (X.blk s H scope (compEnvC scope cl C X.env) fp) G Noth ifs tt)
    (hk : ∀ (s : Shared) (H : Hp) (C : Addr) (cl : List (Str × Addr)) (fp : List Addr), XE (X.blk s H scope (compEnvC scope cl C X.env) fp) G Noth kx ek)
    (he : ∀ (s : Shared) (H : Hp) (C : Addr) (cl : List (Str × Addr)) (fp : List Addr), XE (X.blk s H scope (compEnvC scope cl C X.env) fp) G Noth vx ev) (hs : ∀ x, foldedSetIterable iter X.env x = pure x := by intro _; rfl) :
    XS X G E (.Assign [.Name y py] (.DictComp kx vx [⟨tg, iter, ifs, 0⟩] scope pos) spos) (sAsg (cDcT (own.map (·.2)) ci t tt ek ev) (tgName i)) := ps_imp (ps_setDcT hc hu hN hy hyl hsw hi ok hg ht hk he hs) fun D σ H ⟨w, ρ, l, h, R, L, g⟩ => by
  have z : rd G E (cDcT (own.map (·.2)) ci t tt ek ev) σ H (fun x K1 => gName i x σ K1 D.nx) :=
    rd_then R L g fun w1 ρ1 h1 H1 x v e1 R1 L1 r1 g1 => (show PostF G w ρ H D (.nx (l.set i (some x))) h1 from g1) w1 ρ1 H1 e1 R1 _ (L1.set i r1)
  obtain ⟨w, ρ, l, h, R, L, g⟩ := z
  exact rd_dcT σ H _ ⟨w, ρ, l, h, R, L, Out.good_noExc g⟩

/-! ### d.update(e), e a dict that is never changed -/
def mergeC (kvs more : List (TKey × CV)) : List (TKey × CV) := more.foldl (fun acc kv => putC acc kv.1 kv.2) kvs
theorem mergeC_rel {w : Wd} {ρ : List Addr} {H : Hp} : ∀ {more : List (TKey × CV)} {ms : List (TKey × V)}, ms.map (·.1) = more.map (·.1) → RelCs G w ρ H (more.map (·.2)) (ms.map (·.2)) →
    ∀ {kvs : List (TKey × CV)} {us : List (TKey × V)}, us.map (·.1) = kvs.map (·.1) → RelCs G w ρ H (kvs.map (·.2)) (us.map (·.2)) → (mergeT us ms).map (·.1) = (mergeC kvs more).map (·.1) ∧ RelCs G w ρ H ((mergeC kvs more).map (·.2)) ((mergeT us ms).map (·.2))
  | [], [], _, _, _, _, e, r => ⟨e, r⟩
  | [], _ :: _, h, _, _, _, _, _ => by cases h
  | _ :: _, [], h, _, _, _, _, _ => by cases h
  | p :: more, q :: ms, h, hr, kvs, us, e, r => by
    rw [List.map_cons, List.map_cons] at h
    injection h with h1 h2
    rw [List.map_cons, List.map_cons] at hr
    unfold RelCs at hr
    obtain ⟨v, vs, e1, r1, r2⟩ := hr
    injection e1 with e2 e3
    rw [← e2] at r1
    rw [← e3] at r2
    obtain ⟨p1, p2⟩ := putC_rel (k := p.1) e r r1
    rw [← h1] at p1 p2
    have z := mergeC_rel h2 r2 p1 p2
    show (mergeT (putK us q.1 q.2) ms).map (·.1) = (mergeC (putC kvs p.1 p.2) more).map (·.1) ∧ RelCs G w ρ H ((mergeC (putC kvs p.1 p.2) more).map (·.2)) ((mergeT (putK us q.1 q.2) ms).map (·.2))
    rw [← h1]
    exact z
def cUpd (o e : CE) : CE := fun l h => (o l h).bind fun x h1 => match x with
  | .ref n => match h1[n]? with
    | some (.dt _) => (e l h1).bind fun y h2 => match h2[n]?, y with
      | some (.dt kvs), .dit ks xs => if ks.length = xs.length ∧ hapT (kvs.map (·.1)) ks = true ∧ kvs.length + ks.length ≤ big ∧ noRefs xs = true then .ok .non (h2.set n (.dt (mergeC kvs (ks.zip xs)))) else .stuck
      | _, _ => .stuck
    | _ => .stuck
  | _ => .stuck
theorem xe_upd {o e : Expr} {co ce : CE} {apos cpos : Pos} (hu : X.A.units + 1 < cLine) (ho : XE X G E o co) (he : XE X G E e ce) (m : M1 X o "update" apos e cpos) : XE X G E (.Call (.Attribute o "update" apos) [e] [] cpos) (cUpd co ce) := pe_imp (pe_dupdT hu ho he m) fun σ H Q ⟨w, ρ, l, h, R, L, g⟩ =>
  rd_then R L g fun w1 ρ1 h1 H1 x v e1 R1 L1 r1 g1 => by
    split at g1
    case h_2 => exact g1.elim
    case h_1 n =>
    split at g1
    case h_2 => exact g1.elim
    case h_1 kv0 q0 =>
    have r1' := r1
    unfold RelC at r1'
    obtain ⟨a, k1, k2⟩ := r1'
    obtain ⟨u0, j1, j2, j3⟩ := R1.obj n a _ k1 q0
    refine ⟨a, k2, .inr ⟨_, .inl j3⟩, rd_then R1 L1 g1 fun w2 ρ2 h2 H2 y u e2 R2 L2 r2 g2 => ?_⟩
    split at g2
    case h_2 => exact g2.elim
    case h_1 kvs ks xs q2 =>
    split at g2
    case isFalse => exact g2.elim
    case isTrue hh =>
    obtain ⟨hl, hap, hz, nr⟩ := hh
    have r1'' := r1.up e2 R1
    unfold RelC at r1''
    obtain ⟨a', k3, k4⟩ := r1''
    rw [k2] at k4
    cases k4
    obtain ⟨us, i1, i2, i3⟩ := R2.obj n a _ k3 q2
    unfold RelC at r2
    obtain ⟨b, ms, m1, m2, m3, m4, m5⟩ := r2
    have aM : a ∈ w2.M := R2.sub a (List.mem_of_getElem? k3)
    have ez1 : (ks.zip xs).map (·.1) = ks := by rw [List.map_fst_zip]; omega
    have ez2 : (ks.zip xs).map (·.2) = xs := by rw [List.map_snd_zip]; omega
    have lu : us.length = kvs.length := by
      have z := congrArg List.length i1
      rwa [List.length_map, List.length_map] at z
    have lm : ms.length = ks.length := by rw [← m4, List.length_map]
    refine ⟨b, us, ms, m1, i3, m3, fun z => m2 (z ▸ aM), by rw [i1, m4]; exact hap, by rw [lu, lm]; exact big_le hz, ?_⟩
    obtain ⟨p1, p2⟩ := mergeC_rel (G := G) (w := w2) (ρ := []) (H := H2) (more := ks.zip xs) (ms := ms) (by rw [m4, ez1]) (by rw [ez2]; exact RelCs.free [] nr m5) i1 i2
    have e3 : Ext w2 ρ2 H2 w2 ρ2 (upd H2 a (.dT (mergeT us ms))) := Ext.write w2 (List.mem_of_getElem? k3) i3 trivial
    obtain ⟨R3, _⟩ := R2.write (o := .dT (mergeT us ms)) (co := .dt (mergeC kvs (ks.zip xs))) k3 trivial ⟨_, p1, RelCs.ext e3 R2.sub ⟨[], rfl⟩ p2, upd_same⟩
    exact (show PostV G w ρ H Q .non _ from g2) w2 ρ2 _ _ ((e1.trans e2).trans e3) R3 cr_non
end
/-! ### str(i) -/
def fStrI : Fn := fun cs h => match cs with
  | [.int i] => if 0 ≤ i ∧ i < 1000000 then .ok (.str (toString i)) h else .stuck
  | _ => .stuck
theorem b_strI {X : Cx} {G : Gb} {E : XO} : CallR X (.type "str") (rdF G E fStrI) := CallR.imp call_str_int fun xs H Q ⟨w, ρ, h, cs, R, r, g⟩ => by
  unfold fStrI at g
  split at g
  · rename_i i
    split at g
    · rename_i hi
      obtain ⟨u, k1, k2⟩ := one_of r
      rw [rc_int k2] at k1
      refine ⟨_, k1, ?_, okV R g (cr_str _)⟩
      have h2 : i.natAbs < 2 ^ 20 := by
        have : (2 : Nat) ^ 20 = 1048576 := by decide
        omega
      by_cases z : i.natAbs = 0
      · rw [z]; decide
      · have := (Nat.log2_lt z).mpr h2
        omega
    · exact g.elim
  · exact g.elim
theorem fInt_ok (i : Int) (h : CH) : fInt [.int i] h = .ok (.int i) h := rfl
end Rn

set_option Elab.async false
set_option linter.all false
set_option maxRecDepth 100000
set_option maxHeartbeats 4000000
namespace Rn
open PySem PyProof.Rows L2
/-! ### a list and another one, to be changed later; a list so many times -/
def fAddN : F2 := fun x y h => match lstOf h x, lstOf h y with
  | some a, some b => if a.length + b.length ≤ big ∧ noRefs (a ++ b) = true then .ok (.ref h.length) (h ++ [.lst (a ++ b)]) else .stuck
  | _, _ => .stuck
def fMulR : F2 := fun x y h => match lstOf h x, y with
  | some a, .int k => if 0 ≤ k ∧ k < 1000 ∧ a.length ≤ 1000 then .ok (.lst (List.replicate k.toNat a).flatten) h else .stuck
  | _, _ => fMulI x y h
section
variable {X : Cx} {G : Gb} {E : XO}
theorem o_addN : OpR X (binaryOp .Add) (rd2 G E fAddN) := OpR.imp op_cat fun x y H Q ⟨w, ρ, h, cx, cy, R, rx, ry, g⟩ => by
  unfold fAddN at g
  split at g
  case h_2 => exact g.elim
  case h_1 a b ea eb =>
  split at g
  case isFalse => exact g.elim
  case isTrue hb =>
  obtain ⟨p, vs, k1, k2, k3⟩ := lstOf_ok R rx ea
  obtain ⟨q, us, j1, j2, j3⟩ := lstOf_ok R ry eb
  exact ⟨p, q, vs, us, k1, j1, k2, j2, by rw [← k3.length, ← j3.length]; exact big_le hb.1, fun t ht => PostV.newM (Q := Q) hb.2 (show PostV G w ρ H Q (.ref h.length) (h ++ [.lst (a ++ b)]) from g) R (k3.append j3) ht⟩
theorem rep_rels {w : Wd} {ρ : List Addr} {H : Hp} {a : List CV} {vs : List V} (r : RelCs G w ρ H a vs) : ∀ k : Nat, RelCs G w ρ H (List.replicate k a).flatten (List.replicate k vs).flatten
  | 0 => RelCs.nil
  | k + 1 => by
    rw [List.replicate_succ, List.replicate_succ, List.flatten_cons, List.flatten_cons]
    exact r.append (rep_rels r k)
theorem o_mulR : OpR X (binaryOp .Mult) (rd2 G E fMulR) := OpR.imp (op_rep.or (op_mulW.or op_mul)) fun x y H Q ⟨w, ρ, h, cx, cy, R, rx, ry, g⟩ => by
  unfold fMulR at g
  split at g
  · rename_i a k ea
    split at g
    · rename_i hb
      obtain ⟨p, vs, k1, k2, k3⟩ := lstOf_ok R rx ea
      refine .inl ⟨p, k, vs, k1, rc_int ry, k2, by omega, by omega, ?_, fun t ht => PostV.newL (Q := Q) (show PostV G w ρ H Q (.lst (List.replicate k.toNat a).flatten) h from g) R (rep_rels k3 _) ht⟩
      rw [← k3.length, sizeLine_eq]
      have h1 : a.length * k.toNat ≤ 1000 * 1000 := Nat.mul_le_mul hb.2.2 (by omega)
      omega
    · exact g.elim
  · unfold fMulI fIc at g
    split at g
    · rename_i i j hx
      split at g
      · rename_i hd
        simp only [i64, Bool.or_eq_true, Bool.and_eq_true, decide_eq_true_eq] at hd
        rcases hd with hd | hd
        · exact .inr (.inl ⟨i, j, rc_int rx, rc_int ry, hd, okV R g (cr_int _)⟩)
        · exact .inr (.inr ⟨i, j, rc_int rx, rc_int ry, hd, okV R g (cr_int _)⟩)
      · exact g.elim
    · exact g.elim
end
end Rn

set_option Elab.async false
set_option linter.all false
set_option maxRecDepth 100000
set_option maxHeartbeats 4000000
namespace Rn
open PySem PySem.Spec PyProof.Rows L2 LamX

/-- what a law's promise is, at the heap behind the top -/
def LawAtG (l : PySem.W.OpenLaw) (w : World) (K : PySem.W.Frag) (k n : Nat) (x : Str) (mg : Str → Option Value) (fa : Addr) (h : Heap) : Prop :=
  ∃ (fd : FuncData) (cs : List (Addr × Addr)) (sp : Sp), (∀ p ∈ cs, h.get? p.2 = some { cls := .none, data := .fields #[] }) ∧ (∀ p ∈ cs, K.lookup p.2 = none) ∧ (∀ p ∈ cs, PySem.W.CodeHd h p.1 p.2) ∧ (∀ (s : Shared) (u : Value), BindsTo s fd ⟨[u], []⟩ [(x, u)]) ∧
    (∀ (H : Hp) (a : Addr) (ns : List Int), ns.length ≤ n → (∀ z ∈ ns, Builtin.Int.intBits z ≤ 1048576) → (∀ p ∈ cs, H p.2 = some (.tbl #[])) → ScrAt K H a ns → sp [.ref a] H (fun v _ => v = .bl true) fun _ _ _ => False) ∧
    ∀ base : Heap, K.In base → base.Ns mainGlobals mg → (∀ p ∈ cs, TabB base mg p.1 p.2) → FnG l.prog w K mg base (L2.CX l.prog w) k fa fd [x] sp
/-- the state at the law's call: the script (if nobody knows it yet) and the empty tables are what is tracked -/
structure Start (K : PySem.W.Frag) (h : Heap) (T : List Addr) (a : Addr) (vs : List Value) (ns : List Int) (H : Hp) : Prop where
  tabs : ∀ b ∈ T, H b = some (.tbl #[])
  scr : ScrAt K H a ns
  only : ∀ b u, H b = some u → (b ∈ T ∧ u = .tbl #[]) ∨ (b = a ∧ K.lookup a = none ∧ u = .frz { cls := .type "list", data := .seq vs.toArray } (.lst (ns.map V.int)))
theorem start_of {K : PySem.W.Frag} {h : Heap} {T : List Addr} {a : Addr} {vs : List Value} {ns : List Int} (KX : K.In h) (ha : h.get? a = some { cls := .type "list", data := .seq vs.toArray }) (hi : IntsAre vs ns) (hl : ns.length ≤ sizeLine) (aT : a ∉ T) : ∃ H, Start K h T a vs ns H := by
  have rv := vals_ints hi
  cases hk : K.lookup a with
  | none =>
    refine ⟨fun b => if b ∈ T then some (.tbl #[]) else if b = a then some (.frz { cls := .type "list", data := .seq vs.toArray } (.lst (ns.map V.int))) else none, fun b hb => if_pos hb, .inl ⟨_, (if_neg aT).trans (if_pos rfl)⟩, fun b u e => ?_⟩
    by_cases h1 : b ∈ T
    · left
      have z := (if_pos h1).symm.trans e
      cases z
      exact ⟨h1, rfl⟩
    · by_cases h2 : b = a
      · right
        have z := ((if_neg h1).trans (if_pos h2)).symm.trans e
        cases z
        exact ⟨h2, hk, rfl⟩
      · exact absurd (((if_neg h1).trans (if_neg h2)).symm.trans e) (by simp)
  | some o =>
    have e := KX a o hk
    rw [ha] at e
    cases e
    refine ⟨fun b => if b ∈ T then some (.tbl #[]) else none, fun b hb => if_pos hb, .inr ⟨_, vs.toArray, _, hk, rfl, rfl, rfl, by rw [List.size_toArray, hi.length]; exact hl, by simpa using rv⟩, fun b u e => ?_⟩
    by_cases h1 : b ∈ T
    · left
      have z := (if_pos h1).symm.trans e
      cases z
      exact ⟨h1, rfl⟩
    · exact absurd ((if_neg h1).symm.trans e) (by simp)
theorem law_callG {P : Program} {w : World} {K : PySem.W.Frag} {mg mb : Str → Option Value} {k : Nat} {fa a : Addr} {cs : List (Addr × Addr)} {fd : FuncData} {x : Str} {sp : Sp} {s₁ : Shared} {vs : List Value} {ns : List Int}
    (KX : K.In s₁.heap) (globs : s₁.heap.Ns mainGlobals mg) (blts : s₁.heap.Ns builtinsNs mb) (bltx : ∀ x : Str, x ≠ "__name__" → mb x = bootBuiltins x) (nolim : s₁.heap.NoLimit) (nogen : s₁.gens = #[])
    (hT : ∀ p ∈ cs, s₁.heap.get? p.2 = some { cls := .none, data := .fields #[] }) (nT : ∀ p ∈ cs, K.lookup p.2 = none) (heads : ∀ p ∈ cs, PySem.W.CodeHd s₁.heap p.1 p.2)
    (bmain : ∃ (bm : Addr) (ob : Obj), mg "__builtins__" = some (.ref bm) ∧ bm ≠ builtinsNs ∧ s₁.heap.get? bm = some ob ∧ ob.cls = .type "module" ∧ ob.dict = some builtinsNs ∧ ob.data = .plain)
    (ha : s₁.heap.get? a = some { cls := .type "list", data := .seq vs.toArray }) (hi : IntsAre vs ns) (hl : ns.length ≤ sizeLine) (room : Room k callerA)
    (F : ∀ base : Heap, K.In base → base.Ns mainGlobals mg → (∀ p ∈ cs, TabB base mg p.1 p.2) → FnG P w K mg base (L2.CX P w) k fa fd [x] sp) (hbind : ∀ (s : Shared) (u : Value), BindsTo s fd ⟨[u], []⟩ [(x, u)])
    (hsp : ∀ H : Hp, (∀ p ∈ cs, H p.2 = some (.tbl #[])) → ScrAt K H a ns → sp [.ref a] H (fun v _ => v = .bl true) fun _ _ _ => False) :
    codeAny (model P w) callerA (.call (.ref fa) ⟨[.ref a], []⟩) (fun r s' => r = .ok (.ret (.bool true)) ∧ OldK s₁.heap s'.heap ∧ s'.os = s₁.os ∧ AllBare s'.gens) s₁ := by
  have tabAt : ∀ b ∈ cs.map (·.2), s₁.heap.get? b = some { cls := .none, data := .fields #[] } := fun b hb => by
    obtain ⟨p, hp, e⟩ := List.mem_map.mp hb
    exact e ▸ hT p hp
  have inT : ∀ p ∈ cs, p.2 ∈ cs.map (·.2) := fun p hp => List.mem_map_of_mem hp
  have aT : a ∉ cs.map (·.2) := fun z => by
    have q := (tabAt a z).symm.trans ha
    cases q
  obtain ⟨H, S⟩ := start_of KX ha hi hl aT
  -- nothing else is tracked: an object of another kind is free
  have free : ∀ {b : Addr} {o : Obj}, s₁.heap.get? b = some o → o.data ≠ .fields #[] → (∀ us n, o.data ≠ .seq us n) → H b = none := fun {b o} e n1 n2 => by
    cases q : H b with
    | none => rfl
    | some u =>
      rcases S.only b u q with ⟨h1, _⟩ | ⟨h1, _, _⟩
      · have z := tabAt b h1
        rw [e] at z
        cases z
        exact (n1 rfl).elim
      · rw [h1, ha] at e
        cases e
        exact (n2 _ _ rfl).elim
  have freeK : ∀ {b : Addr} {o : Obj}, K.lookup b = some o → H b = none := fun {b o} e => by
    cases q : H b with
    | none => rfl
    | some u =>
      rcases S.only b u q with ⟨h1, _⟩ | ⟨h1, h2, _⟩
      · obtain ⟨p, hp, ep⟩ := List.mem_map.mp h1
        rw [← ep, nT p hp] at e
        cases e
      · rw [h1, h2] at e
        cases e
  have inB : ∀ {b : Addr} {o : Obj}, s₁.heap.get? b = some o → H b = none → (hidT s₁.heap H).get? b = some o := fun e n => hidT_get e n
  have nsB : ∀ {b : Addr} {m : Str → Option Value}, s₁.heap.Ns b m → (hidT s₁.heap H).Ns b m := fun {b m} z => by
    obtain ⟨o, es, ep, e, d, r⟩ := z
    exact ⟨o, es, ep, inB e (free e (fun q => by rw [d] at q; cases q) fun us n q => by rw [d] at q; cases q), d, r⟩
  have KB : K.In (hidT s₁.heap H) := fun b o e => inB (KX b o e) (freeK e)
  have md : L2.Mod K mg (hidT s₁.heap H) := ⟨KB, nsB globs, ⟨mb, nsB blts, bltx⟩, nolim.elim fun mc z => ⟨mc, nsB z.1, z.2⟩⟩
  have tb : ∀ p ∈ cs, TabB (hidT s₁.heap H) mg p.1 p.2 := fun p hp => by
    have hTp := hT p hp
    obtain ⟨bm, ob, b1, b2, b3, b4, b5, b6⟩ := bmain
    obtain ⟨og, eg, epg, hg1, hg2, hg3⟩ := globs
    refine ⟨?_, ⟨bm, ob, b1, b2, fun q => ?_, fun q => ?_, inB b3 (free b3 (fun q => by rw [b6] at q; cases q) fun us n q => by rw [b6] at q; cases q), b4, b5, b6⟩, fun q => ?_⟩
    · obtain ⟨o, us, file, tf, flags, tg, inF, text, tt, e1, r1, r2, r3, rest⟩ := heads p hp
      refine ⟨o, us, file, tf, flags, tg, inF, text, tt, inB e1 (free e1 (fun q => ?_) fun us n q => by rw [r2] at q; cases q), r1, r2, r3, rest⟩
      rw [r2] at q
      cases q
      simp at r3
    · rw [q, hg1] at b3
      cases b3
      rw [hg2] at b6
      cases b6
    · rw [q, hTp] at b3
      cases b3
      cases b6
    · rw [q, hTp] at hg1
      cases hg1
      cases hg2
  have okH : HOk P w H s₁.heap := fun b u e => by
    rcases S.only b u e with ⟨h1, h2⟩ | ⟨h1, _, h2⟩
    · subst h2
      exact tabAt b h1
    · subst h1 h2
      exact ⟨ha, by rw [List.length_map]; exact hl, vs, _, vals_ints hi, ha⟩
  have env : Env0 P w K mg (hidT s₁.heap H) callerA [] s₁ H := ⟨rfl, md, fun b o e => of_hidT e, Nat.le_of_eq (hidT_size _ _), trivial, (fun b hb => nomatch (show b ∈ ([] : List Addr) from hb)), okH, .of_eq nogen⟩
  have hH : ∀ p ∈ cs, H p.2 = some (.tbl #[]) := fun p hp => S.tabs _ (inT p hp)
  refine codeAny_mono ((F _ KB (nsB globs) tb).go callerA [] s₁ H ⟨[.ref a], []⟩ [.ref a] [.ref a] _ _ rfl room env (hbind s₁ (.ref a)) (.cons rfl .nil) (hsp H hH S.scr)) fun r s' fin => ?_
  cases r with
  | error e =>
    obtain ⟨_, _, _, _, _, _, _, _, _, _, _, _, z⟩ := fin
    exact z.elim
  | ok fl => cases fl with
    | next => exact fin.elim
    | brk => exact fin.elim
    | cont => exact fin.elim
    | ret u =>
      obtain ⟨v, H', sameOs, bare, un, okH', ru, ev⟩ := fin
      have ev : v = .bl true := ev
      subst ev
      have eu : u = Value.bool true := ru
      subst eu
      have stay : ∀ b o, b ∉ cs.map (·.2) → s₁.heap.get? b = some o → s'.heap.get? b = some o := fun b o nb e => by
        cases q : H b with
        | none => exact un.keep b o e q (by intro z; cases z) (by intro z; cases z)
        | some u =>
          rcases S.only b u q with ⟨h1, _⟩ | ⟨h1, _, h2⟩
          · exact (nb h1).elim
          · subst h2
            have q2 := un.frzs b _ _ q
            obtain ⟨e1, _⟩ := okH b _ q
            obtain ⟨e2, _⟩ := okH' b _ q2
            rw [e] at e1
            cases e1
            exact e2
      have grown : ∀ p ∈ cs, ∃ more : Array Value, s'.heap.get? p.2 = some { cls := .none, data := .fields more } := fun p hp => by
        obtain ⟨more, z⟩ := un.tbls p.2 #[] (hH p hp)
        exact ⟨_, okH' p.2 _ z⟩
      refine ⟨rfl, ⟨fun b o e => ?_, fun b o e => ?_⟩, sameOs, bare⟩
      · by_cases hb : b ∈ cs.map (·.2)
        · right
          left
          obtain ⟨p, hp, ep⟩ := List.mem_map.mp hb
          subst ep
          obtain ⟨more, hm⟩ := grown p hp
          rw [hT p hp] at e
          cases e
          exact ⟨((heads p hp).tab (hT p hp)).isCodeTable, rfl, #[], more, rfl, by rw [Array.empty_append]; exact hm⟩
        · exact .inl (stay b o hb e)
      · by_cases hb : b ∈ cs.map (·.2)
        · obtain ⟨p, hp, ep⟩ := List.mem_map.mp hb
          subst ep
          obtain ⟨more, hm⟩ := grown p hp
          exact ⟨_, hm⟩
        · exact ⟨o, stay b o hb e⟩
/-- the table of the def nm, as the head knows it: empty -/
def TabFact (K : PySem.W.Frag) (mg : Str → Option Value) (nm : Str) (h : Heap) : Prop := ∀ (fa c P : Addr) (o : Obj) (fd : FuncData) (e : Value) (dd : Option Addr) (us : Array Value) (sl : Array (Option Value)), mg nm = some (.ref fa) → K.lookup fa = some o → o.data = .func fd → fd.code = .ref c →
  K.lookup c = some ⟨e, dd, .fields us, sl⟩ → us[11]? = some (.ref P) → h.get? P = some { cls := .none, data := .fields #[] } ∧ PySem.W.CodeHd h c P
theorem walkG {l : PySem.W.OpenLaw} {n k : Nat} {q : Program} {loose : List Str} {XP : (Str → Option Value) → Heap → Prop} {YP : World → Heap → Prop} {d : DefRec} {K : Params → PySem.W.Frag} {x : Str} (hn : l.most = some n) (hn2 : n ≤ sizeLine) (hdf : d.params.defaults = []) (hr : Room k callerA)
    (hY : ∀ (w : World) (h : Heap), YP w h → (K w.params).In h)
    (F : ∀ (w : World) (mg : Str → Option Value) (fa : Addr) (h : Heap), YP w h → (K w.params).In h → h.Ns mainGlobals mg → mg d.name = some (.ref fa) → (∀ nm : Str, ((recsOf q).any fun e => e.name == nm) = true → TabFact (K w.params) mg nm h) → LawAtG l w (K w.params) k n x mg fa h) :
    PySem.W.WalkO q loose XP YP l.row.toRowW d [] (fun f vs => PySem.call f vs) := by
  refine Att.attach_callB hn hdf fun w s₀ s₁ mg mb fa o pm cd doc a vs ns G Y ho hd hcd hmg hobj hints hlen hbits hg => ?_
  have KX := hY w _ Y
  have tf : ∀ nm : Str, ((recsOf q).any fun e => e.name == nm) = true → TabFact (K w.params) mg nm s₁.heap := fun nm hnm fa' c P o' fd e dd us sl m1 k1 k2 k3 k4 k5 => by
    obtain ⟨dr, mem, nmEq⟩ := List.any_eq_true.mp hnm
    have nmEq := beq_iff_eq.mp nmEq
    obtain ⟨a2, o2, fd2, c2, P2, q1, q2, q3, q4, q5, q6⟩ := G.T.tab dr mem
    rw [nmEq, m1] at q1
    cases q1
    have q7 := KX _ _ k1
    rw [q7] at q2
    cases q2
    rw [k2] at q3
    cases q3
    rw [k3] at q4
    cases q4
    have hd2 := PySem.W.CodeHd.of q5 q6
    obtain ⟨⟨oc, vc, z1, z2, z3, z4⟩, z5⟩ := q6
    have q8 := KX _ _ k4
    rw [q8] at z1
    cases z1
    cases z3
    rw [k5] at z4
    cases z4
    exact ⟨z5, hd2⟩
  obtain ⟨fd, cs, sp, h1, h2, h3, h4, h5, h6⟩ := F w mg fa _ Y KX G.T.g hmg tf
  exact law_callG KX G.T.g G.T.b G.T.builtins G.T.nolimit hg h1 h2 h3 G.T.bmain hobj hints (Nat.le_trans hlen hn2) hr h6 h4 fun H q1 q2 => h5 H a ns hlen hbits q1 q2
end Rn

set_option Elab.async false
set_option linter.all false
set_option maxRecDepth 100000
set_option maxHeartbeats 4000000
namespace Rn
open PySem PyProof.Rows L2 LamX NdefX

/-! ### defs that let no exception out -/
def spN (G : Gb) (n : Nat) (F : Fn) : Sp := fun vs H Q _ => vs.length = n ∧ rdF G none F vs H Q
/-- a def of the module, as it stands behind the top -/
structure Df (K : PySem.W.Frag) (mg : Str → Option Value) (x : Str) (st : Stmt) (ps : List Str) where
  f : Addr
  fd : FuncData
  F : Fun K x x st f fd
  m : mg x = some (.ref f)
  b : L2.Binds K fd ps []
theorem _root_.L2.Room.u0 {k : Nat} {A : Around} (r : Room k A) : A.units < cLine := by have := r.un; omega
theorem _root_.L2.Room.u1 {k : Nat} {A : Around} (r : Room k A) : A.units + 1 < cLine := by have := r.un; omega
theorem _root_.L2.Room.u64 {k : Nat} {A : Around} (r : Room k A) : A.units + 64 < cLine := by have := r.un; omega
theorem _root_.L2.Room.u65 {k : Nat} {A : Around} (r : Room k A) : A.units + 65 < cLine := by have := r.un; omega
section
variable {P : Program} {W : World} {K : PySem.W.Frag} {mg : Str → Option Value} {base : Heap} {G : Gb}
theorem fn_runN {x qual : Str} {st : Stmt} {f : Addr} {fd : FuncData} {N ps : List Str} {k n m : Nat} {c : CS} (F : Fun K x qual st f fd) (S : FnScope N ps (defScope st)) (hn : ps.length = n) (hm : N.length = m)
    (hb : ∀ (cdv : Value) (A : Around) (outer : List Env) (s : Shared) (H : Hp) (E : XK), fd.code = cdv → A.guards = some [] → Room k (A.deeper (envOfC qual (defScope st) s.heap.objs.size f cdv)) → XSs (cxOf (L2.CX P W) P W K mg base N qual (defScope st) f cdv A outer s H E) G none (defBody st) c) :
    FnG P W K mg base (L2.CX P W) (k + 1) f fd ps (spN G n (cFun n m c)) := by
  subst hn hm
  have hcode : ∀ cdv (A : Around) (outer : List Env) (s : Shared) (H : Hp) (vs : List V) (Q : VK) (E : XK), fd.code = cdv → A.guards = some [] → Room k (A.deeper (envOfC qual (defScope st) s.heap.objs.size f cdv)) → spN G ps.length (cFun ps.length N.length c) vs H Q E →
      ∃ t, PSs (cxOf (L2.CX P W) P W K mg base N qual (defScope st) f cdv A outer s H E) (defBody st) t ∧ t { nx := fun _ H' => Q .non H', rt := Q } (L2.start N vs) H := fun cdv A outer s H vs Q E hcd gd hr hsp => by
    refine ⟨_, hb cdv A outer s H E hcd gd hr, ?_⟩
    obtain ⟨hl, w, ρ, h, cs, R, r, g⟩ := hsp
    unfold cFun at g
    split at g
    · rename_i hn
      refine ⟨w, ρ, _, h, R, LocR.start N r, ?_⟩
      rw [hn]
      refine (Out.good_bind.mp g).mono (fun fl h1 g1 w' ρ' H' e R' => ?_) fun _ _ _ q => q
      cases fl with
      | nx l => exact fun σ' L' => (show PostV G w ρ H Q .non h1 from g1) w' ρ' H' _ e R' cr_non
      | rt v => exact fun u ru => (show PostV G w ρ H Q v h1 from g1) w' ρ' H' u e R' ru
      | bk l => exact g1.elim
      | ct l => exact g1.elim
    · exact g.elim
  exact fnG_of F S (fun vs H Q E h => h.1) fun cdv A outer s H vs Q E hcd gd hr hsp => hcode cdv A outer s H vs Q E hcd gd hr hsp
end
section
variable {X : Cx} {G : Gb} {k n : Nat} {ps : List Str} {F F' : Fn} {x : Str} {st : Stmt} {p pos : Pos} {e : Expr} {es : List Expr} {cs : CEs}
theorem rd_id {F : Fn} : ∀ xs H Q, rdF G none F xs H Q → rdF G none F xs H Q := fun _ _ _ h => h
theorem rd_pureN {f : Fn} : ∀ xs H Q, rdF G none (pureF f) xs H Q → rdF G none f xs H Q := rd_pure
theorem rd_callN (hw : ∀ xs H Q, rdF G none F' xs H Q → rdF G none F xs H Q) : ∀ σ H Q, rd G none (cF (cCall n F') cs) σ H Q → tCall (spN G n F) [] E0 (rds G none cs) σ H Q := fun σ H Q ⟨w, ρ, l, h, R, L, g⟩ => by
  refine rds_then R L g fun w1 ρ1 h1 H1 xs vs e1 R1 L1 r1 g1 => ?_
  unfold cCall at g1
  split at g1
  · rename_i hl
    exact ⟨by rw [List.append_nil, ← r1.length]; exact hl, hw _ _ _ ⟨w1, ρ1, h1, _, R1, by rw [List.append_nil]; exact r1, g1.mono (fun _ _ q => q.at e1) fun _ _ _ q => q⟩⟩
  · exact g1.elim
/-- f(..), f a def of the module -/
theorem xe_own (D : Df X.K X.mg x st ps) (Fo : FnG X.prog X.w X.K X.mg X.base (L2.CX X.prog X.w) k D.f D.fd ps (spN G n F)) (gd : X.A.guards = some []) (hr : Room k X.A) (hw : ∀ xs H Q, rdF G none F' xs H Q → rdF G none F xs H Q) (ha : XA X G none (e :: es) cs) (hg : Gl X x := by rfl)
    (hdb : (x == ("__debug__" : Str)) = false := by decide) (he : starEach (e :: es) X.env = (false, eval e X.env) :: starEach es X.env := by rfl) (hpl : (backTo pos (starEach es X.env)).any (·.1) = false := by rfl) :
    XE X G none (.Call (.Name x p) (e :: es) [] pos) (cF (cCall n F') cs) := by
  refine pe_imp (t := tCall (spN G n F) [] E0 (rds G none cs)) ⟨fun pins s σ H Q I h => ?_⟩ (rd_callN hw)
  refine wpAny_Call_Name_kw (ld_glob I hg D.m (PySem.W.callWith_K (h₀ := X.base) I.ok.mod.kin D.F.kp (thn (ha.run pos pins s σ H _ I h) fun us s1 hh => ?_) he hpl) hdb)
  obtain ⟨vs, H1, I1, r, q⟩ := hh
  rw [List.append_nil] at q
  have bn := D.b s1 us I1.kIn (by rw [List.append_nil, ← r.length]; exact Fo.len _ _ _ _ q)
  rw [List.append_nil] at bn
  exact ⟨I1.kIn, call_fnG Fo gd hr passL I1 bn r q⟩
variable {kws : List Keyword} {ks : List Str} {np nk : Nat} {pm : List Nat} {ck : CEs}
theorem Fun.kp {K : PySem.W.Frag} {x qual : Str} {st : Stmt} {f : Addr} {fd : FuncData} {ps ks : List Str} {np : Nat} {pm : List Nat} (F : Fun K x qual st f fd)
    (h : ∀ (kV doc pm' : Value) (an : Option Addr) (cdv ct : Value) (us ws : List Value), us.length = np → ws.length = ks.length → bindArgs (PySem.W.fnOf x qual (defArgs st) (defBody st) (defScope st) .none kV doc pm' an cdv ct) ⟨us, ks.zip ws⟩ = pure (ps.zip (permV pm (us ++ ws)))) : KP K fd ps ks np pm := by
  obtain ⟨oc, od, kV, doc, pm', an, cdv, ct, osl, rfl, lk, hcd⟩ := F.ex
  exact fun s us ws _ h1 h2 => BindsTo.of_eq (h kV doc pm' an cdv ct us ws h1 h2)
/-- f(k = v, ..) -/
theorem xe_ownK0 (D : Df X.K X.mg x st ps) (Fo : FnG X.prog X.w X.K X.mg X.base (L2.CX X.prog X.w) k D.f D.fd ps (spN G n F)) (gd : X.A.guards = some []) (hr : Room k X.A) (hb : KP X.K D.fd ps ks 0 pm) (hw : ∀ xs H Q, rdF G none F' xs H Q → rdF G none F xs H Q) (hkw : XKw X G none kws ck) (hnk : ks.length = nk) (hg : Gl X x := by rfl)
    (hall : (backToKw pos (keywordEach kws X.env)).all (·.1.isSome) = true := by rfl) (hks : (backToKw pos (keywordEach kws X.env)).filterMap (·.1) = ks := by rfl)
    (hdb : (x == ("__debug__" : Str)) = false := by decide) (hpl : ((backTo pos (starEach [] X.env)).any (·.1) || (backToKw pos (keywordEach kws X.env)).any (·.1.isNone)) = false := by rfl) :
    XE X G none (.Call (.Name x p) [] kws pos) (cKey 0 nk pm n F' cNil ck) := by
  refine ⟨fun pins s σ H Q I h => ?_⟩
  obtain ⟨w, ρ, l, h0, R, L, g0⟩ := h
  have g : ((ck l h0).bind fun ys h2 => if ([] : List CV).length = 0 ∧ ys.length = nk then cCall n F' (permV pm ([] ++ ys)) h2 else .stuck).Good (PostV G w ρ H Q) (PostX G w ρ H none) := g0
  refine wpAny_Call_Name_kw (ld_glob I hg D.m (PySem.W.callWith_KW0 (h₀ := X.base) I.ok.mod.kin D.F.kp hall (thn (hkw.go pos pins s σ H _ I (rds_then R L g fun w2 ρ2 h2 H2 ys zs e2 R2 L2 r2 g2 => (⟨w2, ρ2, h2, ys, e2, R2, r2, g2⟩ : ∃ w2 ρ2 h2 ys, Ext w ρ H w2 ρ2 H2 ∧ Rep G w2 ρ2 h2 H2 ∧ RelCs G w2 ρ2 H2 ys zs ∧ (if ([] : List CV).length = 0 ∧ ys.length = nk then cCall n F' (permV pm ([] ++ ys)) h2 else .stuck).Good (PostV G w ρ H Q) (PostX G w2 ρ2 H2 none)))) fun ws s2 hh => ?_) hpl) hdb)
  obtain ⟨zs, H2, I2, rz, w2, ρ2, h2, ys, e2, R2, r2, g2⟩ := hh
  split at g2
  case isFalse => exact g2.elim
  case isTrue hl =>
  unfold cCall at g2
  split at g2
  case isFalse => exact g2.elim
  case isTrue hn =>
  have r3 : RelCs G w2 ρ2 H2 (permV pm ([] ++ ys)) (permV pm ([] ++ zs)) := perm_rels (RelCs.nil.append r2) pm
  refine ⟨I2.kIn, ?_⟩
  rw [hks]
  exact call_fnG Fo gd hr passL I2 (hb s2 [] ws I2.kIn rfl (by rw [← rz.length, ← r2.length, hnk]; exact hl.2)) (perm_vals (Vals.append .nil rz) pm) ⟨by rw [← r3.length]; exact hn, hw _ _ _ ⟨w2, ρ2, h2, _, R2, r3, g2.mono (fun _ _ q => q.at e2) fun _ _ _ q => q⟩⟩
/-- -e -/
def fNeg : F1 := fun x h => match x with
  | .int i => .ok (.int (-i)) h
  | _ => .stuck
theorem UnR.imp {X : Cx} {f : Value → Sem Value} {r r' : V → Hp → VK → Prop} (h : UnR X f r) (i : ∀ x H Q, r' x H Q → r x H Q) : UnR X f r' := fun pins s σ H x v Q I rx q => h pins s σ H x v Q I rx (i _ _ _ q)
theorem u_neg {X : Cx} {G : Gb} {E : XO} : UnR X (unaryOp .USub) (rd1 G E fNeg) := UnR.imp un_neg fun x H Q ⟨w, ρ, h, cx, R, r, g⟩ => by
  unfold fNeg at g
  split at g
  · rename_i i
    exact ⟨i, rc_int r, okV R g (cr_int _)⟩
  · exact g.elim
end
theorem bt_len : bootBuiltins "len" = some (.builtin "len") := by decide +kernel
theorem bt_min : bootBuiltins "min" = some (.builtin "min") := by decide +kernel
theorem bt_max : bootBuiltins "max" = some (.builtin "max") := by decide +kernel
theorem bt_abs : bootBuiltins "abs" = some (.builtin "abs") := by decide +kernel
theorem bt_divmod : bootBuiltins "divmod" = some (.builtin "divmod") := by decide +kernel
theorem bt_sum : bootBuiltins "sum" = some (.builtin "sum") := by decide +kernel
theorem bt_all : bootBuiltins "all" = some (.builtin "all") := by decide +kernel
theorem bt_any : bootBuiltins "any" = some (.builtin "any") := by decide +kernel
theorem bt_sorted : bootBuiltins "sorted" = some (.builtin "sorted") := by decide +kernel
theorem bt_repr : bootBuiltins "repr" = some (.builtin "repr") := by decide +kernel
theorem bt_isinstance : bootBuiltins "isinstance" = some (.builtin "isinstance") := by decide +kernel
theorem bt_tuple : bootBuiltins "tuple" = some (.type "tuple") := by decide +kernel
theorem bt_list : bootBuiltins "list" = some (.type "list") := by decide +kernel
theorem bt_int : bootBuiltins "int" = some (.type "int") := by decide +kernel
theorem bt_bool : bootBuiltins "bool" = some (.type "bool") := by decide +kernel
theorem bt_str : bootBuiltins "str" = some (.type "str") := by decide +kernel
section
variable {X : Cx} {G : Gb} {E : XO} {o e : Expr} {es : List Expr} {co : CE} {cs : CEs} {apos cpos : Pos}
theorem xe_append (ho : XE X G E o co) (ha : XA X G E [e] cs) (hbase : attributeBase o "append" X.env (eval o X.env) = eval o X.env := by rfl)
    (hfew : ((backTo cpos (starEach [e] X.env)).all (fun x => !x.1) && (backToKw cpos (keywordEach [] X.env)).all (fun x => x.1.isSome) && decide ([e].length + ([] : List Keyword).length + (if ([] : List Keyword).isEmpty then 0 else 1) < 30)) = true := by rfl)
    (hline : (apos.endLine == cpos.line) = true := by rfl) (hs : starEach [e] X.env = (false, eval e X.env) :: starEach [] X.env := by rfl) (hplain : (backTo cpos (starEach [] X.env)).any (·.1) = false := by rfl) :
    XE X G E (.Call (.Attribute o "append" apos) [e] [] cpos) (cLM mAppend co cs) := xe_lm F.plainAttrs_list F.slot_list_append F.type_list_append m_append ho ha hbase hfew hline hs hplain
theorem xe_extend (ho : XE X G E o co) (ha : XA X G E [e] cs) (hbase : attributeBase o "extend" X.env (eval o X.env) = eval o X.env := by rfl)
    (hfew : ((backTo cpos (starEach [e] X.env)).all (fun x => !x.1) && (backToKw cpos (keywordEach [] X.env)).all (fun x => x.1.isSome) && decide ([e].length + ([] : List Keyword).length + (if ([] : List Keyword).isEmpty then 0 else 1) < 30)) = true := by rfl)
    (hline : (apos.endLine == cpos.line) = true := by rfl) (hs : starEach [e] X.env = (false, eval e X.env) :: starEach [] X.env := by rfl) (hplain : (backTo cpos (starEach [] X.env)).any (·.1) = false := by rfl) :
    XE X G E (.Call (.Attribute o "extend" apos) [e] [] cpos) (cLM mExtend co cs) := xe_lm F.plainAttrs_list F.slot_list_extend F.type_list_extend m_extend ho ha hbase hfew hline hs hplain
theorem xe_pop (ho : XE X G E o co) (hbase : attributeBase o "pop" X.env (eval o X.env) = eval o X.env := by rfl) (hline : (apos.endLine == cpos.line) = true := by rfl) :
    XE X G E (.Call (.Attribute o "pop" apos) [] [] cpos) (cLM mPop co cNil) := xe_lm0 F.plainAttrs_list F.slot_list_pop F.type_list_pop m_pop ho hbase hline
end
/-! ### what is known of the class of webs at a context's ground -/
structure Gz (K : PySem.W.Frag) (mg : Str → Option Value) (G : Gb) (M : Str → Int → List CV → Option CV) (ts : List Ty) (fi : Addr) : Prop where
  mem : G.memo = M
  eK : K = G.K
  m : mg "Web" = some (.ref G.cw)
  W : WebF K G.cw ts
  M : Mk K G.cw fi
theorem Gz.wl {K : PySem.W.Frag} {mg : Str → Option Value} {G : Gb} {M : Str → Int → List CV → Option CV} {ts : List Ty} {fi : Addr} (Z : Gz K mg G M ts fi) (a : Addr) (cs : List (Addr × Str)) : Gz K mg (G.wl a cs) M ts fi := { mem := Z.mem, eK := Z.eK, m := Z.m, W := Z.W, M := Z.M }
/-- the table of a def whose lambda is handed on -/
structure Lz (mg : Str → Option Value) (base : Heap) (G : Gb) (fd : FuncData) (q : Str) (c P : Addr) : Prop where
  tb : TabB base mg c P
  code : fd.code = .ref c
  tabs : G.tabs = [(P, q)]
end Rn

set_option Elab.async false
set_option linter.all false
set_option maxRecDepth 100000
set_option maxHeartbeats 4000000
namespace Rn
open PySem L2

/-! ### what terms compute -/
theorem bind_ok {α β : Type} (a : α) (h : CH) (f : α → CH → Out β) : (Out.ok a h).bind f = f a h := rfl
theorem lst_bag {n : Nat} {h : CH} {i j k : Int} (e : h[n]? = some (bag3 i j k)) : lstOf h (.ref n) = some [.int i, .int j, .int k] := by
  unfold lstOf
  simp only
  rw [e]
  rfl
theorem ixS_bag {n : Nat} {h : CH} {i j k : Int} (e : h[n]? = some (bag3 i j k)) (m : Int) : fIx (.ref n) (.int m) h = fIxS (.ref n) (.int m) h := by
  unfold fIx
  simp only
  rw [e]
  rfl
theorem ixS_at {n : Nat} {h : CH} {xs : List CV} (e : lstOf h (.ref n) = some xs) (m : Int) {x : CV} (q : atI xs m = some x) : fIxS (.ref n) (.int m) h = .ok x h := by
  unfold fIxS
  simp only
  have z : seqOf h (.ref n) = some xs := e
  rw [z]
  simp only
  rw [q]
theorem ix_bag {n : Nat} {h : CH} {i j k : Int} (e : h[n]? = some (bag3 i j k)) : fIx (.ref n) (.int 0) h = .ok (.int i) h ∧ fIx (.ref n) (.int 1) h = .ok (.int j) h ∧ fIx (.ref n) (.int 2) h = .ok (.int k) h := by
  refine ⟨?_, ?_, ?_⟩
  all_goals
    rw [ixS_bag e]
    exact ixS_at (lst_bag e) _ rfl
theorem sub_bag {n : Nat} {h : CH} {i j k : Int} {l : Lc} {eo ei : CE} {m : Int} (e : h[n]? = some (bag3 i j k)) (c : Int) (ho : eo l h = .ok (.ref n) h) (hi : ei l h = .ok (.int m) h) :
    (m = 0 → tgSub eo ei (.int c) l h = .ok l (h.set n (bag3 c j k))) ∧ (m = 1 → tgSub eo ei (.int c) l h = .ok l (h.set n (bag3 i c k))) ∧ (m = 2 → tgSub eo ei (.int c) l h = .ok l (h.set n (bag3 i j c))) := by
  refine ⟨fun z => ?_, fun z => ?_, fun z => ?_⟩
  all_goals
    subst z
    unfold tgSub
    rw [ho]
    simp only [bind_ok]
    rw [hi]
    simp only [bind_ok]
    rw [lst_bag e]
    rfl
theorem set_at {n : Nat} {h : CH} {x y : CO} (e : h[n]? = some x) : (h.set n y)[n]? = some y := by
  rw [List.getElem?_set_self (List.getElem?_eq_some_iff.mp e).1]
theorem fI_ok (f : Int → Int → Int) (i j : Int) (h : CH) : fI f (.int i) (.int j) h = .ok (.int (f i j)) h := rfl
theorem fAdd_ok (i j : Int) (h : CH) : fAdd (.int i) (.int j) h = .ok (.int (i + j)) h := rfl
theorem fSub_ok (i j : Int) (h : CH) : fSub (.int i) (.int j) h = .ok (.int (i - j)) h := rfl
theorem fMod_ok {i j : Int} {h : CH} (hj : 0 < j) : fMod (.int i) (.int j) h = .ok (.int (i % j)) h := by
  unfold fMod fIc
  simp only
  rw [if_pos (decide_eq_true hj)]
theorem fDiv_ok {i j : Int} {h : CH} (hj : 0 < j) (h2 : j < 1073741824) : fDiv (.int i) (.int j) h = .ok (.int (i / j)) h := by
  unfold fDiv fIc
  simp only
  rw [if_pos (by rw [decide_eq_true hj, decide_eq_true h2]; rfl)]
theorem fMul_ok {i j : Int} {h : CH} (hj : -(2 ^ 64) < j ∧ j < 2 ^ 64) : fMulI (.int i) (.int j) h = .ok (.int (i * j)) h := by
  unfold fMulI fIc
  simp only
  rw [if_pos (by simp only [i64, Bool.or_eq_true, Bool.and_eq_true, decide_eq_true_eq]; exact .inr (.inr hj))]
theorem fMul_ok' {i j : Int} {h : CH} (hj : -(2 ^ 64) < i ∧ i < 2 ^ 64) : fMulI (.int i) (.int j) h = .ok (.int (i * j)) h := by
  unfold fMulI fIc
  simp only
  rw [if_pos (by simp only [i64, Bool.or_eq_true, Bool.and_eq_true, decide_eq_true_eq]; exact .inr (.inl hj))]
theorem fGt_ok (i j : Int) (h : CH) : fGt (.int i) (.int j) h = .ok (.bl (decide (j < i))) h := rfl
theorem fGe_ok (i j : Int) (h : CH) : fGe (.int i) (.int j) h = .ok (.bl (decide (j ≤ i))) h := rfl
theorem fLe_ok (i j : Int) (h : CH) : fLe (.int i) (.int j) h = .ok (.bl (decide (i ≤ j))) h := rfl
theorem fLt_ok (i j : Int) (h : CH) : fLt (.int i) (.int j) h = .ok (.bl (decide (i < j))) h := rfl
theorem fDivmod_ok {i j : Int} {h : CH} (hj : 0 < j) (h2 : j < 1073741824) : fDivmod [.int i, .int j] h = .ok (.tup [.int (i / j), .int (i % j)]) h := by
  unfold fDivmod
  simp only
  rw [if_pos ⟨hj, h2⟩]
theorem mod_fit (i : Int) {j : Int} (hj : 0 < j) : ∃ d : Nat, d < j.toNat ∧ i % j = (d : Int) := by
  have h1 := Int.emod_nonneg i (Int.ne_of_gt hj)
  have h2 := Int.emod_lt_of_pos i hj
  exact ⟨(i % j).toNat, by omega, by omega⟩
def cutI (xs : List Int) (lo hi : Option Int) : List Int := (xs.drop (HT.sIx xs.length 0 lo)).take (HT.sIx xs.length xs.length hi - HT.sIx xs.length 0 lo)
theorem cutC_map (ns : List Int) (lo hi : Option Int) : cutC (ns.map CV.int) lo hi = (cutI ns lo hi).map CV.int := by
  unfold cutC cutI
  rw [List.length_map, ← List.map_drop, ← List.map_take]
theorem fSum_ints {h : CH} {xs : List CV} (ns : List Int) (e : xs = ns.map CV.int) : fSum [.lst xs] h = .ok (.int ns.sum) h := by
  subst e
  unfold fSum onL
  simp only [lstOf, intsOf_map]
/-! ### comprehensions and loops over known values -/
theorem compL_ok {α : Type} {t : CTg} {tt : CTt} {el : CE} (φ : α → CV) (b : α → Bool) (y : α → CV) (l : Lc) (h : CH) : ∀ as : List α, (∀ a ∈ as, ∃ l1, t (φ a) l h = .ok l1 h ∧ tt l1 h = .ok (b a) h ∧ (b a = true → el l1 h = .ok (y a) h)) → compL t tt el (as.map φ) l h = .ok ((as.filter b).map y) h
  | [], _ => rfl
  | a :: as, H => by
    obtain ⟨l1, h1, h2, h3⟩ := H a List.mem_cons_self
    have ih := compL_ok φ b y l h as fun x hx => H x (List.mem_cons_of_mem _ hx)
    rw [List.map_cons, compL, h1]
    simp only [bind_ok]
    rw [h2]
    simp only [bind_ok]
    cases hb : b a with
    | false =>
      simp only
      rw [ih, List.filter_cons, if_neg (by rw [hb]; exact Bool.false_ne_true)]
    | true =>
      simp only
      rw [h3 hb]
      simp only [bind_ok]
      rw [ih, List.filter_cons, if_pos hb]
      rfl
theorem comp_ok {α : Type} {vs : List Nat} {ci : CI} {t : CTg} {tt : CTt} {el : CE} (φ : α → CV) (b : α → Bool) (y : α → CV) {l : Lc} {h : CH} (as : List α) (hi : ci l h = .ok (.vals (as.map φ)) h) (hn : as.length ≤ big)
    (H : ∀ a ∈ as, ∃ l1, t (φ a) (wipeL l vs) h = .ok l1 h ∧ tt l1 h = .ok (b a) h ∧ (b a = true → el l1 h = .ok (y a) h)) : cComp vs ci t tt el l h = .ok (.lst ((as.filter b).map y)) h := by
  unfold cComp cComp0
  rw [hi]
  simp only [bind_ok]
  rw [if_pos (by rw [List.length_map]; exact hn), compL_ok φ b y (wipeL l vs) h as H]
  rfl
theorem loopV_inv {α : Type} {t : CTg} {body : CS} (φ : α → CV) (R : List α → Lc → CH → Prop) : ∀ (as pre : List α) (l : Lc) (h : CH), R pre l h →
    (∀ (pre : List α) (a : α) (l : Lc) (h : CH), a ∈ as → R pre l h → ∃ l1 l2 h2, t (φ a) l h = .ok l1 h ∧ body l1 h = .ok (.nx l2) h2 ∧ R (pre ++ [a]) l2 h2) → ∃ l' h', loopV t body (as.map φ) l h = .ok (.nx l') h' ∧ R (pre ++ as) l' h'
  | [], pre, l, h, r, _ => ⟨l, h, rfl, by rw [List.append_nil]; exact r⟩
  | a :: as, pre, l, h, r, H => by
    obtain ⟨l1, l2, h2, e1, e2, r2⟩ := H pre a l h List.mem_cons_self r
    obtain ⟨l', h', e3, r3⟩ := loopV_inv φ R as (pre ++ [a]) l2 h2 r2 fun p x l h hx => H p x l h (List.mem_cons_of_mem _ hx)
    refine ⟨l', h', ?_, by rw [List.append_assoc, List.singleton_append] at r3; exact r3⟩
    rw [List.map_cons, loopV, e1]
    simp only [bind_ok]
    rw [e2]
    simp only [bind_ok]
    exact e3
/-- a loop whose turns may draw, or return -/
theorem loopV_good {α : Type} {t : CTg} {body : CS} {Q : Fl → CH → Prop} {E : Nat → Option CV → CH → Prop} (φ : α → CV) (R : Lc → CH → Prop) : ∀ (as : List α) (l : Lc) (h : CH), R l h → (∀ l h, R l h → Q (.nx l) h) →
    (∀ (a : α) (l : Lc) (h : CH), a ∈ as → R l h → ∃ l1, t (φ a) l h = .ok l1 h ∧ (body l1 h).Good (fun f h2 => match f with | .nx l2 => R l2 h2 | .ct l2 => R l2 h2 | .bk l2 => Q (.nx l2) h2 | .rt c => Q (.rt c) h2) E) → (loopV t body (as.map φ) l h).Good Q E
  | [], l, h, r, hQ, _ => hQ l h r
  | a :: as, l, h, r, hQ, H => by
    obtain ⟨l1, e1, g⟩ := H a l h List.mem_cons_self r
    rw [List.map_cons, loopV, e1]
    simp only [bind_ok]
    refine Out.good_bind.mpr (g.mono (fun f h2 q => ?_) fun _ _ _ q => q)
    cases f with
    | nx l2 => exact loopV_good φ R as l2 h2 q hQ fun x l h hx => H x l h (List.mem_cons_of_mem _ hx)
    | ct l2 => exact loopV_good φ R as l2 h2 q hQ fun x l h hx => H x l h (List.mem_cons_of_mem _ hx)
    | bk l2 => exact q
    | rt c => exact q
def rngI (lo : Int) (n : Nat) : List Int := (List.range n).map fun (i : Nat) => lo + (i : Int)
theorem rng_map (lo : Int) (n : Nat) : rng lo n = (rngI lo n).map CV.int := by
  unfold rng rngI
  rw [List.map_map]
  rfl
theorem mem_rngI {lo x : Int} {n : Nat} : x ∈ rngI lo n ↔ lo ≤ x ∧ x < lo + (n : Int) := by
  unfold rngI
  rw [List.mem_map]
  constructor
  · rintro ⟨i, hi, e⟩
    have := List.mem_range.mp hi
    omega
  · rintro ⟨h1, h2⟩
    exact ⟨(x - lo).toNat, List.mem_range.mpr (by omega), by omega⟩
theorem rngI_len (lo : Int) (n : Nat) : (rngI lo n).length = n := by simp [rngI]
theorem rngI_sorted (lo : Int) (n : Nat) : (rngI lo n).Pairwise (· < ·) := by
  unfold rngI
  rw [List.pairwise_map]
  exact List.pairwise_lt_range.imp fun h => by omega
theorem noRefs_ints (ns : List Int) : noRefs (ns.map CV.int) = true := by
  induction ns with
  | nil => rfl
  | cons n r ih => rw [List.map_cons]; unfold noRefs; rw [ih]; rfl
theorem atI_ints {ns : List Int} {i : Int} {x : Int} (h0 : 0 ≤ i) (h : ns[i.toNat]? = some x) : atI (ns.map CV.int) i = some (.int x) := by
  have hl := (List.getElem?_eq_some_iff.mp h).1
  unfold atI ixN
  rw [List.length_map]
  rw [if_pos h0, if_pos (by omega)]
  show (ns.map CV.int)[i.toNat]? = _
  rw [List.getElem?_map, h]
  rfl
/-! ### drawing -/
theorem bind_ask {α β : Type} (n : Nat) (g : Nat → Out α) (f : α → CH → Out β) : (Out.ask n g).bind f = .ask n fun d => (g d).bind f := rfl
theorem good_ask {α : Type} {Q : α → CH → Prop} {E : Nat → Option CV → CH → Prop} {n : Nat} {g : Nat → Out α} (H : ∀ d, d < n → (g d).Good Q E) : (Out.ask n g).Good Q E := H
theorem good_ok {α : Type} {Q : α → CH → Prop} {E : Nat → Option CV → CH → Prop} {a : α} {h : CH} (H : Q a h) : (Out.ok a h).Good Q E := H
theorem take_ask {n : Nat} {h : CH} {m : Int} (e : h[n]? = some .bag) (h1 : 0 < m) (h2 : m < 1073741824) : takeF [.ref n, .int m] h = .ask m.toNat fun d => .ok (.int d) h := by
  unfold takeF
  simp only
  rw [e]
  simp only
  rw [if_pos (okM_iff.mpr ⟨h1, h2⟩)]
abbrev NoX : Nat → Option CV → CH → Prop := fun _ _ _ => False
theorem good_noExc' {α : Type} {Q : α → CH → Prop} {E : Nat → Option CV → CH → Prop} : ∀ {o : Out α}, o.Good Q NoX → o.noExc.Good Q E
  | .ok _ _, g => g
  | .exc _ _ _, g => g.elim
  | .ask n f, g => fun d hd => good_noExc' (g d hd)
  | .stuck, g => g.elim
theorem compL_good {α : Type} {t : CTg} {tt : CTt} {el : CE} (φ : α → CV) (y : α → CV) (l : Lc) (h : CH) : ∀ as : List α, (∀ a ∈ as, ∃ l1, t (φ a) l h = .ok l1 h ∧ (tt l1 h).Good (fun _ h' => h' = h) NoX ∧ el l1 h = .ok (y a) h) →
    (compL t tt el (as.map φ) l h).Good (fun ys h' => h' = h ∧ ∃ sub : List α, sub.Sublist as ∧ ys = sub.map y) NoX
  | [], _ => ⟨rfl, [], List.Sublist.slnil, rfl⟩
  | a :: as, H => by
    obtain ⟨l1, h1, h2, h3⟩ := H a List.mem_cons_self
    have ih := compL_good φ y l h as fun x hx => H x (List.mem_cons_of_mem _ hx)
    rw [List.map_cons, compL, h1]
    simp only [bind_ok]
    refine Out.good_bind.mpr (h2.mono (fun b h' e => ?_) fun _ _ _ q => q)
    subst e
    cases b with
    | false => exact ih.mono (fun ys h' q => ⟨q.1, q.2.elim fun sub z => ⟨sub, z.1.cons a, z.2⟩⟩) fun _ _ _ q => q
    | true =>
      simp only
      rw [h3]
      simp only [bind_ok]
      refine Out.good_bind.mpr (ih.mono (fun ys h'' q => ?_) fun _ _ _ q => q)
      obtain ⟨q1, sub, q2, q3⟩ := q
      exact ⟨q1, a :: sub, q2.cons₂ a, by rw [q3]; rfl⟩
theorem comp_good {α : Type} {vs : List Nat} {ci : CI} {t : CTg} {tt : CTt} {el : CE} (φ : α → CV) (y : α → CV) {l : Lc} {h : CH} (as : List α) (hi : ci l h = .ok (.vals (as.map φ)) h) (hn : as.length ≤ big)
    (H : ∀ a ∈ as, ∃ l1, t (φ a) (wipeL l vs) h = .ok l1 h ∧ (tt l1 h).Good (fun _ h' => h' = h) NoX ∧ el l1 h = .ok (y a) h) {E : Nat → Option CV → CH → Prop} :
    (cComp vs ci t tt el l h).Good (fun c h' => h' = h ∧ ∃ sub : List α, sub.Sublist as ∧ c = .lst (sub.map y)) E := by
  unfold cComp cComp0
  rw [hi]
  simp only [bind_ok]
  rw [if_pos (by rw [List.length_map]; exact hn)]
  refine good_noExc' (Out.good_bind.mpr ((compL_good φ y (wipeL l vs) h as H).mono (fun ys h' q => ?_) fun _ _ _ q => q))
  obtain ⟨q1, sub, q2, q3⟩ := q
  exact ⟨q1, sub, q2, by rw [q3]⟩
/-- a loop whose turns may draw, or return; what stands behind a prefix -/
theorem loopV_goodP {α : Type} {t : CTg} {body : CS} {Q : Fl → CH → Prop} {E : Nat → Option CV → CH → Prop} (φ : α → CV) (R : List α → Lc → CH → Prop) (all : List α) (hQ : ∀ l h, R all l h → Q (.nx l) h)
    (H : ∀ (pre : List α) (a : α) (post : List α) (l : Lc) (h : CH), all = pre ++ a :: post → R pre l h → ∃ l1, t (φ a) l h = .ok l1 h ∧ (body l1 h).Good (fun f h2 => match f with | .nx l2 => R (pre ++ [a]) l2 h2 | .ct l2 => R (pre ++ [a]) l2 h2 | .bk l2 => Q (.nx l2) h2 | .rt c => Q (.rt c) h2) E) :
    ∀ (as pre : List α) (l : Lc) (h : CH), all = pre ++ as → R pre l h → (loopV t body (as.map φ) l h).Good Q E
  | [], pre, l, h, e, r => hQ l h (by rw [e, List.append_nil]; exact r)
  | a :: as, pre, l, h, e, r => by
    obtain ⟨l1, e1, g⟩ := H pre a as l h e r
    rw [List.map_cons, loopV, e1]
    simp only [bind_ok]
    refine Out.good_bind.mpr (g.mono (fun f h2 q => ?_) fun _ _ _ q => q)
    have e' : all = (pre ++ [a]) ++ as := by rw [e, List.append_assoc]; rfl
    cases f with
    | nx l2 => exact loopV_goodP φ R all hQ H as (pre ++ [a]) l2 h2 e' q
    | ct l2 => exact loopV_goodP φ R all hQ H as (pre ++ [a]) l2 h2 e' q
    | bk l2 => exact q
    | rt c => exact q
end Rn

set_option Elab.async false
set_option linter.all false
set_option maxRecDepth 100000
set_option maxHeartbeats 4000000
namespace Rn
open PySem L2

/-! ### ints, tuples of ints, pairs of ints as data -/
def tupI (ns : List Int) : CV := .tup (ns.map CV.int)
def lstI (ns : List Int) : CV := .lst (ns.map CV.int)
def pairC (p : Int × Int) : CV := .tup [.int p.1, .int p.2]
def pairD (p : Int × Int) : PyData := .tuple [.int p.1, .int p.2]
theorem toDs_ints : ∀ ns : List Int, toDs (ns.map CV.int) = some (ns.map PyData.int)
  | [] => by simp [toDs]
  | n :: ns => by
    rw [List.map_cons, List.map_cons]
    unfold toDs
    rw [toDs_ints ns]
    simp [toD]
theorem toDs_map {α : Type} {f : α → CV} {g : α → PyData} (h : ∀ a, toD (f a) = some (g a)) : ∀ xs : List α, toDs (xs.map f) = some (xs.map g)
  | [] => by simp [toDs]
  | x :: xs => by
    rw [List.map_cons, List.map_cons]
    unfold toDs
    rw [toDs_map h xs, h]
theorem toD_int (i : Int) : toD (.int i) = some (.int i) := by unfold toD; rfl
theorem toD_tupI (ns : List Int) : toD (tupI ns) = some (.tuple (ns.map PyData.int)) := by
  unfold tupI toD
  rw [toDs_ints]
  rfl
theorem toD_lstI (ns : List Int) : toD (lstI ns) = some (.list (ns.map PyData.int)) := by
  unfold lstI toD
  rw [toDs_ints]
  rfl
theorem toD_pairC (p : Int × Int) : toD (pairC p) = some (pairD p) := by
  unfold pairC toD
  simp [toDs, toD, pairD]
theorem canLay_ints : ∀ ns : List Int, PyData.canLayAll0 (ns.map PyData.int) = true
  | [] => by simp [PyData.canLayAll0]
  | n :: ns => by simp [PyData.canLayAll0, PyData.canLay0, canLay_ints ns]
theorem depth_ints : ∀ ns : List Int, PyData.depthAll (ns.map PyData.int) = 0
  | [] => by simp [PyData.depthAll]
  | n :: ns => by simp [PyData.depthAll, PyData.depth, depth_ints ns]
theorem canLay_all {α : Type} {g : α → PyData} (h : ∀ a, (g a).canLay0 = true) : ∀ xs : List α, PyData.canLayAll0 (xs.map g) = true
  | [] => by simp [PyData.canLayAll0]
  | x :: xs => by simp [PyData.canLayAll0, h, canLay_all h xs]
theorem depth_all {α : Type} {g : α → PyData} {k : Nat} (h : ∀ a, (g a).depth ≤ k) : ∀ xs : List α, PyData.depthAll (xs.map g) ≤ k
  | [] => by simp [PyData.depthAll]
  | x :: xs => by
    have := h x
    have := depth_all h xs
    simp only [List.map_cons, PyData.depthAll]
    omega
theorem shaped_int (i : Int) : SeqAt.shaped (.int i) = true := by simp [SeqAt.shaped, PyData.canLay0, PyData.depth]
theorem shaped_ints (ns : List Int) : SeqAt.shaped (.tuple (ns.map PyData.int)) = true ∧ SeqAt.shaped (.list (ns.map PyData.int)) = true := by
  constructor <;> simp [SeqAt.shaped, PyData.canLay0, PyData.depth, canLay_ints, depth_ints]
theorem shaped_pair (p : Int × Int) : SeqAt.shaped (pairD p) = true := by simp [SeqAt.shaped, pairD, PyData.canLay0, PyData.canLayAll0, PyData.depth, PyData.depthAll]
theorem canLay_pair (p : Int × Int) : (pairD p).canLay0 = true := by simp [pairD, PyData.canLay0, PyData.canLayAll0]
theorem depth_pair (p : Int × Int) : (pairD p).depth ≤ 1 := by simp [pairD, PyData.depth, PyData.depthAll]
theorem shaped_pairs (E : List (Int × Int)) : SeqAt.shaped (.tuple (E.map pairD)) = true ∧ SeqAt.shaped (.list (E.map pairD)) = true := by
  have h1 := canLay_all canLay_pair E
  have h2 := depth_all depth_pair E
  constructor <;> (simp [SeqAt.shaped, PyData.canLay0, PyData.depth, h1]; omega)
theorem eqv_ints : ∀ ns ms : List Int, PyData.eqvAll (ns.map PyData.int) (ms.map PyData.int) = decide (ns = ms)
  | [], [] => by simp [PyData.eqvAll]
  | [], m :: ms => by simp [PyData.eqvAll]
  | n :: ns, [] => by simp [PyData.eqvAll]
  | n :: ns, m :: ms => by
    simp only [List.map_cons, PyData.eqvAll, PyData.eqv, eqv_ints ns ms]
    by_cases h : n = m <;> by_cases h2 : ns = ms <;> simp [h, h2]
theorem eqv_pair (p q : Int × Int) : PyData.eqv (pairD p) (pairD q) = decide (p = q) := by
  obtain ⟨a, b⟩ := p
  obtain ⟨c, d⟩ := q
  simp only [pairD, PyData.eqv, PyData.eqvAll]
  by_cases h : a = c <;> by_cases h2 : b = d <;> simp [h, h2]
theorem fEq_int (i j : Int) (h : CH) : fEq (.int i) (.int j) h = .ok (.bl (decide (i = j))) h := by
  unfold fEq fEqG
  simp only [toDh, toD, shaped_int, and_self, if_true, PyData.eqv]
  by_cases e : i = j <;> simp [e]
theorem fNe_int (i j : Int) (h : CH) : fNe (.int i) (.int j) h = .ok (.bl (!decide (i = j))) h := by
  unfold fNe fEqG
  simp only [toDh, toD, shaped_int, and_self, if_true, PyData.eqv]
  by_cases e : i = j <;> simp [e]
theorem toDh_of {x : CV} (h : CH) (n : ∀ k, x ≠ .ref k) : toDh h x = toD x := by
  cases x <;> first | rfl | exact absurd rfl (n _)
theorem fEq_tup (ns ms : List Int) (h : CH) : fEq (tupI ns) (tupI ms) h = .ok (.bl (decide (ns = ms))) h := by
  unfold fEq fEqG
  rw [toDh_of h (fun k z => by cases z), toDh_of h (fun k z => by cases z), toD_tupI, toD_tupI]
  simp only [(shaped_ints _).1, and_self, if_true, PyData.eqv, eqv_ints]
  rfl
theorem any_ints (x : Int) : ∀ ns : List Int, ((ns.map PyData.int).any fun z => PyData.eqv z (.int x)) = decide (x ∈ ns)
  | [] => by simp
  | n :: ns => by
    rw [List.map_cons, List.any_cons, any_ints x ns]
    simp only [PyData.eqv, List.mem_cons]
    by_cases e : n = x
    · simp [e]
    · have e2 : ¬ x = n := fun z => e z.symm
      simp [e, e2]
theorem any_pairs (x : Int × Int) : ∀ ns : List (Int × Int), ((ns.map pairD).any fun z => PyData.eqv z (pairD x)) = decide (x ∈ ns)
  | [] => by simp
  | n :: ns => by
    rw [List.map_cons, List.any_cons, any_pairs x ns, eqv_pair]
    simp only [List.mem_cons]
    by_cases e : n = x
    · simp [e]
    · have e2 : ¬ x = n := fun z => e z.symm
      simp [e, e2]
/-- a sequence of ints: a tuple, a list, a tracked list -/
def SeqI (h : CH) (y : CV) (ns : List Int) : Prop := y = tupI ns ∨ y = lstI ns ∨ ∃ n, y = .ref n ∧ h[n]? = some (.lst (ns.map CV.int))
theorem seqI_toD {h : CH} {y : CV} {ns : List Int} (s : SeqI h y ns) : toDh h y = some (.tuple (ns.map PyData.int)) ∨ toDh h y = some (.list (ns.map PyData.int)) := by
  rcases s with e | e | ⟨n, e, q⟩
  · left
    rw [e, toDh_of h (fun k z => by cases z), toD_tupI]
  · right
    rw [e, toDh_of h (fun k z => by cases z), toD_lstI]
  · right
    subst e
    unfold toDh
    simp only
    rw [q]
    exact toD_lstI ns
theorem fIn_int {h : CH} {y : CV} {ns : List Int} (x : Int) (s : SeqI h y ns) : fIn (.int x) y h = .ok (.bl (decide (x ∈ ns))) h ∧ fNotIn (.int x) y h = .ok (.bl (!decide (x ∈ ns))) h := by
  unfold fIn fNotIn fInG
  rw [toD_int]
  rcases seqI_toD s with e | e
  · rw [e]
    simp only [shaped_int, (shaped_ints ns).1, and_self, if_true, any_ints]
    constructor <;> first | rfl | trivial
  · rw [e]
    simp only [shaped_int, (shaped_ints ns).2, and_self, if_true, any_ints]
    constructor <;> first | rfl | trivial
theorem fIn_pair {h : CH} (x : Int × Int) (E : List (Int × Int)) : fIn (pairC x) (.tup (E.map pairC)) h = .ok (.bl (decide (x ∈ E))) h := by
  unfold fIn fInG
  rw [toD_pairC, toDh_of h (fun k z => by cases z)]
  have e : toD (.tup (E.map pairC)) = some (.tuple (E.map pairD)) := by
    unfold toD
    rw [toDs_map toD_pairC]
    rfl
  rw [e]
  simp only [shaped_pair, (shaped_pairs E).1, and_self, if_true, any_pairs]
  rfl
/-- an item -/
theorem seqI_seq {h : CH} {y : CV} {ns : List Int} (s : SeqI h y ns) : seqOf h y = some (ns.map CV.int) := by
  rcases s with e | e | ⟨n, e, q⟩
  · rw [e]; rfl
  · rw [e]; rfl
  · rw [e]
    show lstOf h (.ref n) = _
    unfold lstOf
    simp only
    rw [q]
theorem fIx_int {h : CH} {y : CV} {ns : List Int} {i x : Int} (s : SeqI h y ns) (h0 : 0 ≤ i) (e : ns[i.toNat]? = some x) : fIx y (.int i) h = .ok (.int x) h := by
  have q := seqI_seq s
  have a := atI_ints h0 e
  have core : fIxS y (.int i) h = .ok (.int x) h := by
    unfold fIxS
    rcases s with e | e | ⟨n, e, _⟩
    all_goals
      subst e
      simp only [tupI, lstI] at q ⊢
      rw [q]
      simp only
      rw [a]
  rcases s with e | e | ⟨n, e, q2⟩
  · subst e; exact core
  · subst e; exact core
  · subst e
    unfold fIx
    simp only
    rw [q2]
    exact core
theorem fLen_int {h : CH} {y : CV} {ns : List Int} (s : SeqI h y ns) : fLen [y] h = .ok (.int (ns.length : Nat)) h := by
  have q := seqI_seq s
  unfold fLen
  rcases s with e | e | ⟨n, e, _⟩
  all_goals
    subst e
    simp only [tupI, lstI] at q ⊢
    rw [q]
    simp only [List.length_map]
theorem fTuple_int {h : CH} {y : CV} {ns : List Int} (s : SeqI h y ns) : fTuple [y] h = .ok (tupI ns) h := by
  unfold fTuple
  simp only
  rw [seqI_seq s]
  rfl
theorem lstOf_I {h : CH} {y : CV} {ns : List Int} (s : y = lstI ns ∨ ∃ n, y = .ref n ∧ h[n]? = some (.lst (ns.map CV.int))) : lstOf h y = some (ns.map CV.int) := by
  rcases s with e | ⟨n, e, q⟩
  · rw [e]; rfl
  · rw [e]; unfold lstOf; simp only; rw [q]
theorem fSorted_int {h : CH} {y : CV} {ns : List Int} (s : y = lstI ns ∨ ∃ n, y = .ref n ∧ h[n]? = some (.lst (ns.map CV.int))) (hl : ns.length < 64) : fSorted [y] h = .ok (lstI (isort ns)) h := by
  unfold fSorted onL
  simp only
  rw [lstOf_I s]
  simp only [ints64, intsOf_map, if_pos hl]
  rfl
theorem fAll_bls {h : CH} (bs : List Bool) : fAll [.lst (bs.map CV.bl)] h = .ok (.bl (bs.all id)) h := by
  have e : blsOf (bs.map CV.bl) = some bs := by
    induction bs with
    | nil => rfl
    | cons b r ih => rw [List.map_cons]; unfold blsOf; rw [ih]; rfl
  unfold fAll onL
  simp only [lstOf]
  rw [e]
/-- a dict by text keys -/
theorem fIx_dic {h : CH} (ks : List Key) (vs : List CV) (x : Str) {c : CV} (e : valC ks vs (.inr x) = some c) : fIx (.dic ks vs) (.str x) h = .ok c h := by
  unfold fIx fIxD
  simp only [keyOf]
  rw [e]
/-- append to a tracked list -/
theorem append_ok {n : Nat} {h : CH} {xs : List CV} {y : CV} (e : h[n]? = some (.lst xs)) (hl : xs.length < big) (ny : noRef y = true) : mAppend (.ref n) [y] h = .ok .non (h.set n (.lst (xs ++ [y]))) := by
  unfold mAppend
  have q : lstOf h (.ref n) = some xs := by unfold lstOf; simp only; rw [e]
  simp only
  rw [q]
  simp only
  rw [if_pos ⟨hl, ny⟩]
end Rn

set_option Elab.async false
set_option linter.all false
set_option maxRecDepth 100000
set_option maxHeartbeats 4000000
namespace Rn
open PySem L2
/-! ### loops over lists that stand still -/
theorem loopV_invP {α : Type} {t : CTg} {body : CS} (φ : α → CV) (R : List α → Lc → CH → Prop) (all : List α)
    (H : ∀ (pre : List α) (a : α) (post : List α) (l : Lc) (h : CH), all = pre ++ a :: post → R pre l h → ∃ l1 l2 h2, t (φ a) l h = .ok l1 h ∧ body l1 h = .ok (.nx l2) h2 ∧ R (pre ++ [a]) l2 h2) :
    ∀ (as pre : List α) (l : Lc) (h : CH), all = pre ++ as → R pre l h → ∃ l' h', loopV t body (as.map φ) l h = .ok (.nx l') h' ∧ R all l' h'
  | [], pre, l, h, e, r => ⟨l, h, rfl, by rw [e, List.append_nil]; exact r⟩
  | a :: as, pre, l, h, e, r => by
    obtain ⟨l1, l2, h2, e1, e2, r2⟩ := H pre a as l h e r
    obtain ⟨l', h', e3, r3⟩ := loopV_invP φ R all H as (pre ++ [a]) l2 h2 (by rw [e, List.append_assoc]; rfl) r2
    refine ⟨l', h', ?_, r3⟩
    rw [List.map_cons, loopV, e1]
    simp only [bind_ok]
    rw [e2]
    simp only [bind_ok]
    exact e3
theorem lstOf_at {n : Nat} {h : CH} {xs : List CV} (e : h[n]? = some (.lst xs)) : lstOf h (.ref n) = some xs := by unfold lstOf; simp only; rw [e]
theorem loopR_invP {α : Type} {n : Nat} {t : CTg} {body : CS} (φ : α → CV) (R : List α → Lc → CH → Prop) (all : List α) (hb : ∀ pre l h, R pre l h → h[n]? = some (.lst (all.map φ)))
    (H : ∀ (pre : List α) (a : α) (post : List α) (l : Lc) (h : CH), all = pre ++ a :: post → R pre l h → ∃ l1 l2 h2, t (φ a) l h = .ok l1 h ∧ body l1 h = .ok (.nx l2) h2 ∧ R (pre ++ [a]) l2 h2) :
    ∀ (as pre : List α) (k : Nat) (l : Lc) (h : CH), all = pre ++ as → as.length < k → R pre l h → ∃ l' h', loopR n t body k pre.length l h = .ok (.nx l') h' ∧ R all l' h'
  | [], pre, k + 1, l, h, e, hk, r => by
    rw [List.append_nil] at e
    refine ⟨l, h, ?_, by rw [e]; exact r⟩
    rw [loopR, lstOf_at (hb _ _ _ r)]
    have z : (all.map φ)[pre.length]? = none := by rw [e]; simp
    simp only [z]
  | a :: as, pre, k + 1, l, h, e, hk, r => by
    obtain ⟨l1, l2, h2, e1, e2, r2⟩ := H pre a as l h e r
    obtain ⟨l', h', e3, r3⟩ := loopR_invP φ R all hb H as (pre ++ [a]) k l2 h2 (by rw [e, List.append_assoc]; rfl) (by simp only [List.length_cons] at hk; omega) r2
    refine ⟨l', h', ?_, r3⟩
    rw [loopR, lstOf_at (hb _ _ _ r)]
    have z : (all.map φ)[pre.length]? = some (φ a) := by rw [e]; simp
    simp only [z]
    rw [e1]
    simp only [bind_ok]
    rw [e2]
    simp only [bind_ok]
    rw [List.length_append] at e3
    exact e3
/-- a loop over a list that no turn changes, a value or a tracked one -/
theorem sFor_inv {α : Type} {ce : CE} {t : CTg} {body : CS} {l : Lc} {h : CH} {y : CV} (φ : α → CV) (R : List α → Lc → CH → Prop) (all : List α) (he : ce l h = .ok y h) (hn : all.length < big)
    (hy : y = .lst (all.map φ) ∨ y = .tup (all.map φ) ∨ ∃ n, y = .ref n ∧ ∀ pre l h, R pre l h → h[n]? = some (.lst (all.map φ)))
    (H : ∀ (pre : List α) (a : α) (post : List α) (l : Lc) (h : CH), all = pre ++ a :: post → R pre l h → ∃ l1 l2 h2, t (φ a) l h = .ok l1 h ∧ body l1 h = .ok (.nx l2) h2 ∧ R (pre ++ [a]) l2 h2)
    (r : R [] l h) : ∃ l' h', sFor (Rn.iSeq ce) t body l h = .ok (.nx l') h' ∧ R all l' h' := by
  unfold sFor Rn.iSeq
  rw [he]
  simp only [bind_ok]
  rcases hy with e | e | ⟨n, e, hb⟩
  · subst e
    exact loopV_invP φ R all H all [] l h rfl r
  · subst e
    exact loopV_invP φ R all H all [] l h rfl r
  · subst e
    have q : srcV (.ref n) h = .ok (.obj n) h := by
      unfold srcV
      simp only
      rw [lstOf_at (hb _ _ _ r)]
    rw [q]
    simp only [bind_ok]
    generalize big = B at hn ⊢
    have z := loopR_invP φ R all hb H all [] B l h rfl hn r
    rw [List.length_nil] at z
    exact z
theorem sFor_invV {α : Type} {ci : CI} {t : CTg} {body : CS} {l : Lc} {h : CH} (φ : α → CV) (R : List α → Lc → CH → Prop) (all : List α) (he : ci l h = .ok (.vals (all.map φ)) h)
    (H : ∀ (pre : List α) (a : α) (post : List α) (l : Lc) (h : CH), all = pre ++ a :: post → R pre l h → ∃ l1 l2 h2, t (φ a) l h = .ok l1 h ∧ body l1 h = .ok (.nx l2) h2 ∧ R (pre ++ [a]) l2 h2)
    (r : R [] l h) : ∃ l' h', sFor ci t body l h = .ok (.nx l') h' ∧ R all l' h' := by
  unfold sFor
  rw [he]
  exact loopV_invP φ R all H all [] l h rfl r
theorem extend_ok {n : Nat} {h : CH} {xs ys : List CV} (e : h[n]? = some (.lst xs)) (hl : xs.length + ys.length ≤ big) (ny : noRefs ys = true) : mExtend (.ref n) [.lst ys] h = .ok .non (h.set n (.lst (xs ++ ys))) := by
  unfold mExtend
  have q2 : lstOf h (.lst ys) = some ys := rfl
  simp only
  rw [lstOf_at e, q2]
  simp only
  rw [if_pos ⟨hl, ny⟩]
theorem noRefs_map {α : Type} {f : α → CV} (H : ∀ a, noRef (f a) = true) : ∀ xs : List α, noRefs (xs.map f) = true
  | [] => rfl
  | x :: xs => by rw [List.map_cons]; unfold noRefs; rw [H, noRefs_map H xs]; rfl
theorem noRef_tupI (ns : List Int) : noRef (tupI ns) = true := by unfold tupI noRef; exact noRefs_ints ns
theorem fAdd_tup (a b : List Int) (h : CH) (hl : a.length + b.length ≤ big) : fAdd (tupI a) (tupI b) h = .ok (tupI (a ++ b)) h := by
  unfold fAdd tupI
  simp only
  rw [if_pos (by rw [List.length_map, List.length_map]; exact hl), List.map_append]
theorem set_last {h : CH} {x y : CO} : (h ++ [x]).set h.length y = h ++ [y] := by simp
theorem at_last {h : CH} {x : CO} : (h ++ [x])[h.length]? = some x := by simp
theorem seq_nx {a b : CS} {l l1 : Lc} {h h1 : CH} (e : a l h = .ok (.nx l1) h1) : sSeq a b l h = b l1 h1 := by
  unfold sSeq
  rw [e]
  rfl
end Rn

set_option Elab.async false
set_option linter.all false
set_option maxRecDepth 100000
set_option maxHeartbeats 4000000
namespace Rn
open PySem L2
/-- a wish, so told that nobody runs the term to see what is asked -/
structure Gd {α : Type} (o : Out α) (Q : α → CH → Prop) (E : Nat → Option CV → CH → Prop) : Prop where
  out : o.Good Q E
section
variable {α β : Type} {E : Nat → Option CV → CH → Prop}
theorem Gd.bind {Q : β → CH → Prop} {f : α → CH → Out β} {o : Out α} (h : Gd o (fun a h => Gd (f a h) Q E) E) : Gd (o.bind f) Q E := ⟨Out.good_bind.mpr (h.out.mono (fun _ _ q => q.out) fun _ _ _ q => q)⟩
theorem Gd.mono {Q Q' : α → CH → Prop} {o : Out α} (g : Gd o Q E) (hQ : ∀ a h, Q a h → Q' a h) : Gd o Q' E := ⟨g.out.mono hQ fun _ _ _ q => q⟩
theorem Gd.ok {Q : α → CH → Prop} {a : α} {h : CH} (q : Q a h) : Gd (.ok a h) Q E := ⟨q⟩
theorem Gd.eq {Q : α → CH → Prop} {o : Out α} {a : α} {h : CH} (e : o = .ok a h) (q : Q a h) : Gd o Q E := by rw [e]; exact ⟨q⟩
theorem Gd.ask {Q : α → CH → Prop} {n : Nat} {g : Nat → Out α} (H : ∀ d, d < n → Gd (g d) Q E) : Gd (.ask n g) Q E := ⟨fun d hd => (H d hd).out⟩
theorem Gd.bindOk {Q : β → CH → Prop} {f : α → CH → Out β} {o : Out α} {a : α} {h : CH} (e : o = .ok a h) (g : Gd (f a h) Q E) : Gd (o.bind f) Q E := by rw [e]; exact g
end
section
variable {E : Nat → Option CV → CH → Prop} {Q : Fl → CH → Prop} {a b : CS} {l : Lc} {h : CH}
theorem Gd.seq (g : Gd (a l h) (fun f h1 => ∃ l1, f = .nx l1 ∧ Gd (b l1 h1) Q E) E) : Gd (sSeq a b l h) Q E := by
  unfold sSeq
  refine Gd.bind (g.mono fun f h1 q => ?_)
  obtain ⟨l1, e, q⟩ := q
  subst e
  exact q
theorem Gd.seqOk {l1 : Lc} {h1 : CH} (e : a l h = .ok (.nx l1) h1) (g : Gd (b l1 h1) Q E) : Gd (sSeq a b l h) Q E := Gd.seq (Gd.eq e ⟨l1, rfl, g⟩)
theorem Gd.asg {ce : CE} {i : Nat} (g : Gd (ce l h) (fun v h1 => Q (.nx (l.set i (some v))) h1) E) : Gd (sAsg ce (tgName i) l h) Q E := by
  unfold sAsg
  exact Gd.bind (g.mono fun v h1 q => ⟨q⟩)
theorem sFor_vals {ci : CI} {t : CTg} {body : CS} {l : Lc} {h h1 : CH} {xs : List CV} (e : ci l h = .ok (.vals xs) h1) : sFor ci t body l h = loopV t body xs l h1 := by
  unfold sFor
  rw [e]
  rfl
theorem Gd.loop {α : Type} {t : CTg} {body : CS} (φ : α → CV) (R : Lc → CH → Prop) (as : List α) (r : R l h) (hQ : ∀ l h, R l h → Q (.nx l) h)
    (H : ∀ (a : α) (l : Lc) (h : CH), a ∈ as → R l h → ∃ l1, t (φ a) l h = .ok l1 h ∧ Gd (body l1 h) (fun f h2 => match f with | .nx l2 => R l2 h2 | .ct l2 => R l2 h2 | .bk l2 => Q (.nx l2) h2 | .rt c => Q (.rt c) h2) E) : Gd (loopV t body (as.map φ) l h) Q E :=
  ⟨loopV_good φ R as l h r hQ fun a l h ha r => let ⟨l1, e, g⟩ := H a l h ha r; ⟨l1, e, g.out⟩⟩
theorem Gd.for {α : Type} {ci : CI} {t : CTg} {body : CS} {h1 : CH} (φ : α → CV) (R : Lc → CH → Prop) {as : List α} (e : ci l h = .ok (.vals (as.map φ)) h1) (r : R l h1) (hQ : ∀ l h, R l h → Q (.nx l) h)
    (H : ∀ (a : α) (l : Lc) (h : CH), a ∈ as → R l h → ∃ l1, t (φ a) l h = .ok l1 h ∧ Gd (body l1 h) (fun f h2 => match f with | .nx l2 => R l2 h2 | .ct l2 => R l2 h2 | .bk l2 => Q (.nx l2) h2 | .rt c => Q (.rt c) h2) E) : Gd (sFor ci t body l h) Q E := by
  rw [sFor_vals e]
  exact Gd.loop φ R as r hQ H
theorem Gd.ifOk {tt : CTt} {c : Bool} {h1 : CH} (e : tt l h = .ok c h1) (g : Gd ((if c = true then a else b) l h1) Q E) : Gd (sIf tt a b l h) Q E := by
  unfold sIf
  rw [e]
  cases c <;> exact g
/-- a call of a def, its body's end -/
theorem Gd.fn {n m : Nat} {c : CS} {cs : List CV} {Q : CV → CH → Prop} {l : Lc} (hn : cs.length = n) (hl : cs.map some ++ List.replicate (m - n) none = l)
    (g : Gd (c l h) (fun f h1 => match f with | .rt v => Q v h1 | .nx _ => Q .non h1 | _ => False) E) : Gd (cFun n m c cs h) Q E := by
  unfold cFun
  rw [if_pos hn, hl]
  refine Gd.bind (g.mono fun f h1 q => ?_)
  cases f with
  | rt v => exact ⟨q⟩
  | nx l => exact ⟨q⟩
  | bk l => exact q.elim
  | ct l => exact q.elim
end
end Rn

set_option Elab.async false
set_option linter.all false
set_option maxRecDepth 100000
set_option maxHeartbeats 4000000
namespace Rn
open PySem L2
/-! ### what is shown of small data -/
mutual
def smD : PyData → Bool
  | .none | .bool _ => true
  | .int i => decide (0 ≤ i) && decide (i < 256)
  | .list xs | .tuple xs => smDs xs
  | _ => false
def smDs : List PyData → Bool
  | [] => true
  | x :: xs => smD x && smDs xs
end
def intFacts (x : Int) : Bool := (PyData.int x).leavesShort 13 && (PyData.int x).showable && PyData.strOk (PyData.int x).shown
theorem int_facts : ∀ i : Nat, i < 256 → intFacts (i : Int) = true := by decide +kernel
theorem sh_app {a b : Str} (ha : PyData.strOk a = true) (hb : PyData.strOk b = true) : PyData.strOk (a ++ b) = true := by
  unfold PyData.strOk at ha hb ⊢
  show (a.cps ++ b.cps).all _ = true
  rw [Array.all_append, ha, hb]
  rfl
theorem sh_from : ∀ (ts : List Str) (k : Nat) (acc : Str), PyData.strOk acc = true → (∀ t ∈ ts, PyData.strOk t = true) → PyData.strOk (textFrom k acc ts) = true
  | [], k, acc, h, _ => h
  | t :: ts, k, acc, h, ht => by
    unfold textFrom
    refine sh_from ts (k + 1) _ (sh_app (sh_app h ?_) (ht t List.mem_cons_self)) fun z hz => ht z (List.mem_cons_of_mem _ hz)
    split <;> decide +kernel
theorem sh_join : ∀ ts : List Str, (∀ t ∈ ts, PyData.strOk t = true) → PyData.strOk (Str.join ", " ts) = true
  | [], _ => by decide +kernel
  | [x], h => h x List.mem_cons_self
  | x :: y :: r, h => by
    show PyData.strOk (x ++ (", " : Str) ++ Str.join ", " (y :: r)) = true
    exact sh_app (sh_app (h x List.mem_cons_self) (by decide +kernel)) (sh_join (y :: r) fun z hz => h z (List.mem_cons_of_mem _ hz))
mutual
theorem sm_facts : ∀ d : PyData, smD d = true → d.leavesShort 13 = true ∧ d.showable = true ∧ d.hasDict = false ∧ PyData.strOk d.shown = true
  | .none, _ => by refine ⟨rfl, rfl, rfl, ?_⟩; decide +kernel
  | .bool b, _ => by refine ⟨rfl, rfl, rfl, ?_⟩; cases b <;> decide +kernel
  | .int i, h => by
    unfold smD at h
    rw [Bool.and_eq_true, decide_eq_true_eq, decide_eq_true_eq] at h
    have e : i = ((i.toNat : Nat) : Int) := by omega
    have f := int_facts i.toNat (by omega)
    rw [← e] at f
    unfold intFacts at f
    rw [Bool.and_eq_true, Bool.and_eq_true] at f
    exact ⟨f.1.1, f.1.2, rfl, f.2⟩
  | .str _, h => by unfold smD at h; cases h
  | .list xs, h => by
    unfold smD at h
    obtain ⟨h1, h2, h3, h4⟩ := sms_facts xs h
    refine ⟨by unfold PyData.leavesShort; exact h1, by unfold PyData.showable; exact h2, by unfold PyData.hasDict; exact h3, ?_⟩
    unfold PyData.shown listText
    exact sh_app (sh_from _ 0 "[" (by decide +kernel) h4) (by decide +kernel)
  | .tuple xs, h => by
    unfold smD at h
    obtain ⟨h1, h2, h3, h4⟩ := sms_facts xs h
    refine ⟨by unfold PyData.leavesShort; exact h1, by unfold PyData.showable; exact h2, by unfold PyData.hasDict; exact h3, ?_⟩
    unfold PyData.shown tupleText
    refine sh_app (sh_app (by decide +kernel) (sh_join _ h4)) ?_
    split <;> decide +kernel
  | .dict _, h => by unfold smD at h; cases h
theorem sms_facts : ∀ ds : List PyData, smDs ds = true → PyData.leavesShortAll 13 ds = true ∧ PyData.showableAll ds = true ∧ PyData.hasDictAll ds = false ∧ ∀ t ∈ PyData.shownAll ds, PyData.strOk t = true
  | [], _ => ⟨rfl, rfl, rfl, fun t ht => by unfold PyData.shownAll at ht; cases ht⟩
  | d :: ds, h => by
    unfold smDs at h
    rw [Bool.and_eq_true] at h
    obtain ⟨a1, a2, a3, a4⟩ := sm_facts d h.1
    obtain ⟨b1, b2, b3, b4⟩ := sms_facts ds h.2
    refine ⟨?_, ?_, ?_, fun t ht => ?_⟩
    · unfold PyData.leavesShortAll; rw [a1, b1]; rfl
    · unfold PyData.showableAll; rw [a2, b2]; rfl
    · unfold PyData.hasDictAll; rw [a3, b3]; rfl
    · unfold PyData.shownAll at ht
      rcases List.mem_cons.mp ht with e | e
      · rw [e]; exact a4
      · exact b4 t e
end
theorem repr_sm {d : PyData} (s : smD d = true) (q : isSeq d = true) (w : d.weight ≤ 2 ^ 20) (dp : d.depth ≤ 40) {x : CV} {h : CH} (e : toDh h x = some d) : fRepr [x] h = .ok (.str d.shown) h := by
  obtain ⟨a1, a2, a3, _⟩ := sm_facts d s
  have o : okShow d = true := by
    unfold okShow
    rw [a1, a2, a3, decide_eq_true w, decide_eq_true dp]
    rfl
  unfold fRepr
  simp only
  rw [e]
  simp only
  rw [if_pos ⟨q, o⟩]
theorem ne_text {s : Str} (ok : PyData.strOk s = true) (h : CH) : fNe (.str s) (.str s) h = .ok (.bl false) h := by
  unfold fNe fEqG
  have t : toDh h (.str s) = some (.str s) := by
    rw [toDh_of h (fun k z => by cases z)]
    unfold toD
    rfl
  rw [t]
  have sh : SeqAt.shaped (.str s) = true := by simp [SeqAt.shaped, PyData.canLay0, PyData.depth, ok]
  have ev : PyData.eqv (.str s) (.str s) = true := by simp [PyData.eqv]
  simp only [sh, ev, and_self, if_true]
  rfl
theorem ne_sm {d : PyData} (s : smD d = true) (h : CH) : fNe (.str d.shown) (.str d.shown) h = .ok (.bl false) h := ne_text (sm_facts d s).2.2.2 h
end Rn

set_option Elab.async false
set_option linter.all false
set_option maxRecDepth 100000
set_option maxHeartbeats 1000000
namespace Rn
/-! ### all that is come to, with how many steps, as it comes -/
section
variable {α : Type} [DecidableEq α] (N : α → List α)
def valF (F : List (α × Int)) (x : α) : Option Int := (F.find? fun y => decide (y.1 = x)).map (·.2)
def addV (v : Int) (F : List (α × Int)) (x : α) : List (α × Int) := if x ∈ F.map (·.1) then F else F ++ [(x, v)]
def stepF (F : List (α × Int)) (y : α × Int) : List (α × Int) := (N y.1).foldl (addV (y.2 + 1)) F
def runF : Nat → Nat → List (α × Int) → List (α × Int)
  | 0, _, F => F
  | k + 1, t, F => match F[t]? with
    | some y => runF k (t + 1) (stepF N F y)
    | none => F
theorem addV_pre (v : Int) (F : List (α × Int)) (x : α) : ∃ e, addV v F x = F ++ e := by
  unfold addV
  split
  · exact ⟨[], by simp⟩
  · exact ⟨_, rfl⟩
theorem foldV_pre (v : Int) : ∀ (xs : List α) (F : List (α × Int)), ∃ e, xs.foldl (addV v) F = F ++ e
  | [], F => ⟨[], by simp⟩
  | x :: xs, F => by
    obtain ⟨e1, h1⟩ := addV_pre v F x
    obtain ⟨e2, h2⟩ := foldV_pre v xs (addV v F x)
    exact ⟨e1 ++ e2, by rw [List.foldl_cons, h2, h1, List.append_assoc]⟩
theorem stepF_pre (F : List (α × Int)) (y : α × Int) : ∃ e, stepF N F y = F ++ e := foldV_pre _ _ _
theorem stepF_get {F : List (α × Int)} {y z : α × Int} {i : Nat} (h : F[i]? = some z) : (stepF N F y)[i]? = some z := by
  obtain ⟨e, q⟩ := stepF_pre N F y
  rw [q, List.getElem?_append_left (List.getElem?_eq_some_iff.mp h).1]
  exact h
theorem runF_none {k t : Nat} {F : List (α × Int)} (h : F[t]? = none) : runF N k t F = F := by
  cases k with
  | zero => rfl
  | succ k => unfold runF; rw [h]
theorem runF_last : ∀ (k t : Nat) (F : List (α × Int)), runF N (k + 1) t F = match (runF N k t F)[t + k]? with
    | some y => stepF N (runF N k t F) y
    | none => runF N k t F
  | 0, t, F => by
    unfold runF
    rw [Nat.add_zero]
    unfold runF
    rfl
  | k + 1, t, F => by
    cases h : F[t]? with
    | none =>
      rw [runF_none N h, runF_none N h]
      have : F[t + (k + 1)]? = none := List.getElem?_eq_none (by
        have := List.getElem?_eq_none_iff.mp h
        omega)
      rw [this]
    | some y =>
      have e1 : runF N (k + 1 + 1) t F = runF N (k + 1) (t + 1) (stepF N F y) := by
        rw [runF, h]
      have e2 : runF N (k + 1) t F = runF N k (t + 1) (stepF N F y) := by
        rw [runF, h]
      rw [e1, e2, runF_last k (t + 1) (stepF N F y)]
      have e3 : t + 1 + k = t + (k + 1) := by omega
      rw [e3]
theorem runF_stop {k : Nat} {F : List (α × Int)} (h : (runF N k 0 F)[k]? = none) : ∀ m, runF N (k + m) 0 F = runF N k 0 F
  | 0 => rfl
  | m + 1 => by
    have ih := runF_stop h m
    have e := runF_last N (k + m) 0 F
    rw [ih] at e
    have : (runF N k 0 F)[0 + (k + m)]? = none := List.getElem?_eq_none (by
      have := List.getElem?_eq_none_iff.mp h
      omega)
    rw [this] at e
    exact e
theorem mem_valF {F : List (α × Int)} (nd : (F.map (·.1)).Nodup) {y : α × Int} (h : y ∈ F) : valF F y.1 = some y.2 := by
  induction F with
  | nil => cases h
  | cons z F ih =>
    rw [List.map_cons, List.nodup_cons] at nd
    unfold valF
    rw [List.find?_cons]
    by_cases e : z.1 = y.1
    · rw [decide_eq_true e]
      rcases List.mem_cons.mp h with q | q
      · rw [q]; rfl
      · exact (nd.1 (by rw [e]; exact List.mem_map.mpr ⟨y, q, rfl⟩)).elim
    · rw [decide_eq_false e]
      rcases List.mem_cons.mp h with q | q
      · exact (e (by rw [q])).elim
      · exact ih nd.2 q
theorem valF_mem {F : List (α × Int)} {x : α} {v : Int} (h : valF F x = some v) : (x, v) ∈ F := by
  unfold valF at h
  obtain ⟨y, h1, h2⟩ := Option.map_eq_some_iff.mp h
  have e := of_decide_eq_true (p := y.1 = x) (List.find?_some (p := fun (y : α × Int) => decide (y.1 = x)) h1)
  have m := List.mem_of_find?_eq_some h1
  rw [← h2, ← e]
  exact m
theorem valF_none {F : List (α × Int)} {x : α} (h : x ∉ F.map (·.1)) : valF F x = none := by
  cases q : valF F x with
  | none => rfl
  | some v => exact (h (List.mem_map.mpr ⟨_, valF_mem q, rfl⟩)).elim
/-- what stands when the first t have been gone on from -/
structure BInv (s : α) (t : Nat) (F : List (α × Int)) : Prop where
  nd : (F.map (·.1)).Nodup
  src : F[0]? = some (s, 0)
  mono : ∀ (i j : Nat) (a b : α × Int), i ≤ j → F[i]? = some a → F[j]? = some b → a.2 ≤ b.2
  cap : ∀ (a b : α × Int), F[t]? = some a → b ∈ F → b.2 ≤ a.2 + 1
  par : ∀ (i : Nat) (y : α × Int), F[i]? = some y → 0 < i → ∃ z ∈ F, y.1 ∈ N z.1 ∧ y.2 = z.2 + 1
  don : ∀ (j : Nat) (z : α × Int), j < t → F[j]? = some z → ∀ x ∈ N z.1, ∃ w ∈ F, w.1 = x ∧ w.2 ≤ z.2 + 1
theorem BInv.start (s : α) : BInv N s 0 [(s, 0)] := by
  refine ⟨by simp, rfl, fun i j a b hij h1 h2 => ?_, fun a b h1 h2 => ?_, fun i y h1 h2 => ?_, fun j z h => absurd h (by omega)⟩
  · have := (List.getElem?_eq_some_iff.mp h1).1
    have := (List.getElem?_eq_some_iff.mp h2).1
    simp at *
    have e1 : i = 0 := by omega
    have e2 : j = 0 := by omega
    subst e1 e2
    simp at h1 h2
    rw [← h1, ← h2]
    omega
  · simp at h1 h2
    rw [← h1, h2]
    omega
  · have := (List.getElem?_eq_some_iff.mp h1).1
    simp at this
    omega
/-- within a turn -/
structure BMid (s : α) (t : Nat) (y : α × Int) (pre : List α) (F : List (α × Int)) : Prop where
  nd : (F.map (·.1)).Nodup
  src : F[0]? = some (s, 0)
  mono : ∀ (i j : Nat) (a b : α × Int), i ≤ j → F[i]? = some a → F[j]? = some b → a.2 ≤ b.2
  at_ : F[t]? = some y
  cap : ∀ b ∈ F, b.2 ≤ y.2 + 1
  par : ∀ (i : Nat) (y : α × Int), F[i]? = some y → 0 < i → ∃ z ∈ F, y.1 ∈ N z.1 ∧ y.2 = z.2 + 1
  don : ∀ (j : Nat) (z : α × Int), j < t → F[j]? = some z → ∀ x ∈ N z.1, ∃ w ∈ F, w.1 = x ∧ w.2 ≤ z.2 + 1
  now : ∀ x ∈ pre, ∃ w ∈ F, w.1 = x ∧ w.2 ≤ y.2 + 1
theorem BMid.step {s : α} {t : Nat} {y : α × Int} {pre : List α} {F : List (α × Int)} (M : BMid N s t y pre F) {x : α} (hx : x ∈ N y.1) : BMid N s t y (pre ++ [x]) (addV (y.2 + 1) F x) := by
  unfold addV
  by_cases c : x ∈ F.map (·.1)
  · rw [if_pos c]
    refine ⟨M.nd, M.src, M.mono, M.at_, M.cap, M.par, M.don, fun u hu => ?_⟩
    rcases List.mem_append.mp hu with h | h
    · exact M.now u h
    · rw [List.mem_singleton.mp h]
      obtain ⟨w, h1, h2⟩ := List.mem_map.mp c
      exact ⟨w, h1, h2, M.cap w h1⟩
  · rw [if_neg c]
    have old : ∀ {i : Nat} {z : α × Int}, F[i]? = some z → (F ++ [(x, y.2 + 1)])[i]? = some z := fun {i z} h => by
      rw [List.getElem?_append_left (List.getElem?_eq_some_iff.mp h).1]; exact h
    have split : ∀ {i : Nat} {z : α × Int}, (F ++ [(x, y.2 + 1)])[i]? = some z → F[i]? = some z ∨ (i = F.length ∧ z = (x, y.2 + 1)) := fun {i z} h => by
      by_cases hi : i < F.length
      · rw [List.getElem?_append_left hi] at h
        exact .inl h
      · have l := (List.getElem?_eq_some_iff.mp h).1
        rw [List.length_append, List.length_singleton] at l
        have e : i = F.length := by omega
        subst e
        rw [List.getElem?_append_right (Nat.le_refl _)] at h
        simp at h
        exact .inr ⟨rfl, h.symm⟩
    have inF : ∀ {w : α × Int}, w ∈ F → w ∈ F ++ [(x, y.2 + 1)] := fun h => List.mem_append.mpr (.inl h)
    refine ⟨?_, old M.src, fun i j a b hij h1 h2 => ?_, old M.at_, fun b hb => ?_, fun i u h1 h2 => ?_, fun j z hj h1 u hu => ?_, fun u hu => ?_⟩
    · rw [List.map_append, List.nodup_append]
      refine ⟨M.nd, by simp, fun a ha b hb => ?_⟩
      simp at hb
      rw [hb]
      intro e
      exact c (by rw [← e]; exact ha)
    · rcases split h1 with h1 | ⟨e1, e2⟩
      · rcases split h2 with h2 | ⟨e3, e4⟩
        · exact M.mono i j a b hij h1 h2
        · rw [e4]
          exact M.cap a (List.mem_of_getElem? h1)
      · rcases split h2 with h2 | ⟨e3, e4⟩
        · have := (List.getElem?_eq_some_iff.mp h2).1
          omega
        · rw [e2, e4]
          omega
    · rcases List.mem_append.mp hb with h | h
      · exact M.cap b h
      · rw [List.mem_singleton.mp h]
        show y.2 + 1 ≤ y.2 + 1
        omega
    · rcases split h1 with h1 | ⟨e1, e2⟩
      · obtain ⟨z, k1, k2⟩ := M.par i u h1 h2
        exact ⟨z, inF k1, k2⟩
      · rw [e2]
        exact ⟨y, inF (List.mem_of_getElem? M.at_), hx, rfl⟩
    · rcases split h1 with h1 | ⟨e1, _⟩
      · obtain ⟨w, k1, k2⟩ := M.don j z hj h1 u hu
        exact ⟨w, inF k1, k2⟩
      · have := (List.getElem?_eq_some_iff.mp M.at_).1
        omega
    · rcases List.mem_append.mp hu with h | h
      · obtain ⟨w, k1, k2⟩ := M.now u h
        exact ⟨w, inF k1, k2⟩
      · rw [List.mem_singleton.mp h]
        exact ⟨(x, y.2 + 1), by simp, rfl, by show y.2 + 1 ≤ y.2 + 1; omega⟩
theorem BMid.fold {s : α} {t : Nat} {y : α × Int} : ∀ (xs pre : List α) (F : List (α × Int)), BMid N s t y pre F → (∀ x ∈ xs, x ∈ N y.1) → BMid N s t y (pre ++ xs) (xs.foldl (addV (y.2 + 1)) F)
  | [], pre, F, M, _ => by rw [List.append_nil]; exact M
  | x :: xs, pre, F, M, h => by
    have z := BMid.fold xs (pre ++ [x]) _ (M.step N (h x List.mem_cons_self)) fun u hu => h u (List.mem_cons_of_mem _ hu)
    rw [List.append_assoc, List.singleton_append] at z
    exact z
theorem BInv.step {s : α} {t : Nat} {F : List (α × Int)} (I : BInv N s t F) {y : α × Int} (h : F[t]? = some y) : BInv N s (t + 1) (stepF N F y) := by
  have M0 : BMid N s t y [] F := ⟨I.nd, I.src, I.mono, h, fun b hb => I.cap y b h hb, I.par, I.don, fun x hx => by cases hx⟩
  have M := BMid.fold N (N y.1) [] F M0 fun x hx => hx
  refine ⟨M.nd, M.src, M.mono, fun a b h1 h2 => ?_, M.par, fun j z hj h1 x hx => ?_⟩
  · have a1 := M.mono t (t + 1) y a (by omega) M.at_ h1
    have a2 := M.cap b h2
    omega
  · by_cases e : j < t
    · exact M.don j z e h1 x hx
    · have e2 : j = t := by omega
      subst e2
      have z1 := M.at_
      have h1' : ((N y.1).foldl (addV (y.2 + 1)) F)[j]? = some z := h1
      rw [z1] at h1'
      cases h1'
      exact M.now x (by simpa using hx)
theorem runF_inv (s : α) : ∀ k, ∃ t, BInv N s t (runF N k 0 [(s, 0)]) ∧ (t = k ∨ (runF N k 0 [(s, 0)])[t]? = none) ∧ t ≤ k
  | 0 => ⟨0, BInv.start N s, .inl rfl, Nat.le_refl _⟩
  | k + 1 => by
    obtain ⟨t, I, h, hk⟩ := runF_inv s k
    have e := runF_last N k 0 [(s, 0)]
    rw [Nat.zero_add] at e
    cases q : (runF N k 0 [(s, 0)])[k]? with
    | none =>
      rw [q] at e
      refine ⟨t, by rw [e]; exact I, .inr ?_, by omega⟩
      rw [e]
      rcases h with h | h
      · rw [h]; exact q
      · exact h
    | some y =>
      rw [q] at e
      have et : t = k := by
        rcases h with h | h
        · exact h
        · have := List.getElem?_eq_none_iff.mp h
          have := (List.getElem?_eq_some_iff.mp q).1
          omega
      subst et
      exact ⟨t + 1, by rw [e]; exact I.step N q, .inl rfl, Nat.le_refl _⟩
/-- what holds of each one holds of all that are come to -/
theorem stepF_all {P : α → Prop} (hP : ∀ x, P x → ∀ u ∈ N x, P u) {F : List (α × Int)} {y : α × Int} (h : ∀ z ∈ F, P z.1) (hy : P y.1) : ∀ z ∈ stepF N F y, P z.1 := by
  have go : ∀ (xs : List α) (F : List (α × Int)), (∀ z ∈ F, P z.1) → (∀ x ∈ xs, P x) → ∀ z ∈ xs.foldl (addV (y.2 + 1)) F, P z.1 := by
    intro xs
    induction xs with
    | nil => intro F h _; exact h
    | cons x xs ih =>
      intro F h hx
      rw [List.foldl_cons]
      refine ih _ (fun z hz => ?_) fun u hu => hx u (List.mem_cons_of_mem _ hu)
      unfold addV at hz
      split at hz
      · exact h z hz
      · rcases List.mem_append.mp hz with q | q
        · exact h z q
        · rw [List.mem_singleton.mp q]; exact hx x List.mem_cons_self
  exact go _ F h fun x hx => hP _ hy x hx
theorem runF_all {P : α → Prop} (hP : ∀ x, P x → ∀ u ∈ N x, P u) : ∀ (k t : Nat) (F : List (α × Int)), (∀ z ∈ F, P z.1) → ∀ z ∈ runF N k t F, P z.1
  | 0, t, F, h => h
  | k + 1, t, F, h => by
    unfold runF
    cases q : F[t]? with
    | none => exact h
    | some y => exact runF_all hP k (t + 1) _ (stepF_all N hP h (h y (List.mem_of_getElem? q)))
/-- all that is come to -/
structure BEnd (s : α) (R : List (α × Int)) : Prop where
  nd : (R.map (·.1)).Nodup
  src : R[0]? = some (s, 0)
  mono : ∀ (i j : Nat) (a b : α × Int), i ≤ j → R[i]? = some a → R[j]? = some b → a.2 ≤ b.2
  par : ∀ y ∈ R, y.1 ≠ s → ∃ z ∈ R, y.1 ∈ N z.1 ∧ y.2 = z.2 + 1
  clo : ∀ z ∈ R, ∀ x ∈ N z.1, ∃ w ∈ R, w.1 = x ∧ w.2 ≤ z.2 + 1
  pos : ∀ y ∈ R, 0 ≤ y.2 ∧ (y.2 = 0 → y.1 = s)
theorem BInv.done {s : α} {t : Nat} {F : List (α × Int)} (I : BInv N s t F) (h : F[t]? = none) : BEnd N s F := by
  have lt := List.getElem?_eq_none_iff.mp h
  have pos0 : ∀ y ∈ F, 0 ≤ y.2 := fun y hy => by
    obtain ⟨i, hi⟩ := List.mem_iff_getElem?.mp hy
    exact I.mono 0 i _ _ (Nat.zero_le _) I.src hi
  refine ⟨I.nd, I.src, I.mono, fun y hy hne => ?_, fun z hz x hx => ?_, fun y hy => ⟨pos0 y hy, fun e => ?_⟩⟩
  · obtain ⟨i, hi⟩ := List.mem_iff_getElem?.mp hy
    refine I.par i y hi ?_
    rcases Nat.eq_zero_or_pos i with e | e
    · subst e
      rw [I.src] at hi
      cases hi
      exact (hne rfl).elim
    · exact e
  · obtain ⟨i, hi⟩ := List.mem_iff_getElem?.mp hz
    have := (List.getElem?_eq_some_iff.mp hi).1
    exact I.don i z (by omega) hi x hx
  · obtain ⟨i, hi⟩ := List.mem_iff_getElem?.mp hy
    rcases Nat.eq_zero_or_pos i with q | q
    · subst q
      rw [I.src] at hi
      cases hi
      rfl
    · obtain ⟨z, k1, _, k3⟩ := I.par i y hi q
      have := pos0 z k1
      omega
theorem runF_end {s : α} {P : α → Prop} {B : Nat} (hP : ∀ x, P x → ∀ u ∈ N x, P u) (hs : P s) (hB : ∀ l : List α, l.Nodup → (∀ x ∈ l, P x) → l.length ≤ B) {k : Nat} (hk : B ≤ k) :
    BEnd N s (runF N k 0 [(s, 0)]) ∧ (runF N k 0 [(s, 0)])[k]? = none := by
  obtain ⟨t, I, h, ht⟩ := runF_inv N s k
  have all := runF_all N hP k 0 [(s, 0)] fun z hz => by rw [List.mem_singleton.mp hz]; exact hs
  have len := hB _ I.nd fun x hx => by
    obtain ⟨z, h1, h2⟩ := List.mem_map.mp hx
    rw [← h2]
    exact all z h1
  rw [List.length_map] at len
  have nk : (runF N k 0 [(s, 0)])[k]? = none := List.getElem?_eq_none (by omega)
  refine ⟨I.done N ?_, nk⟩
  rcases h with h | h
  · rw [h]; exact nk
  · exact h
/-! ### back, the first way -/
theorem BEnd.val {s : α} {R : List (α × Int)} (b : BEnd N s R) {y : α × Int} (h : y ∈ R) : valF R y.1 = some y.2 := mem_valF b.nd h
theorem BEnd.le {s : α} {R : List (α × Int)} (b : BEnd N s R) : ∀ (i : Nat) (y : α × Int), R[i]? = some y → y.2 ≤ (i : Int) := fun i => by
  induction i using Nat.strongRecOn with
  | _ i ih =>
    intro y hy
    by_cases e : y.1 = s
    · have h0 := b.val N (List.mem_of_getElem? b.src)
      have h1 := b.val N (List.mem_of_getElem? hy)
      rw [e] at h1
      rw [h1] at h0
      have z : y.2 = 0 := Option.some.inj h0
      omega
    · obtain ⟨z, k1, k2, k3⟩ := b.par y (List.mem_of_getElem? hy) e
      obtain ⟨j, hj⟩ := List.mem_iff_getElem?.mp k1
      have lt : j < i := by
        apply Classical.byContradiction
        intro c
        have := b.mono i j y z (by omega) hy hj
        omega
      have := ih j lt z hj
      omega
variable (sym : ∀ x u, u ∈ N x → x ∈ N u)
include sym in
theorem BEnd.near {s : α} {R : List (α × Int)} (b : BEnd N s R) {x : α} {v : Int} (hx : (x, v) ∈ R) {u : α} (hu : u ∈ N x) : ∃ w, valF R u = some w ∧ v - 1 ≤ w ∧ w ≤ v + 1 := by
  obtain ⟨w, h1, h2, h3⟩ := b.clo _ hx u hu
  have e := b.val N h1
  rw [h2] at e
  refine ⟨w.2, e, ?_, h3⟩
  obtain ⟨w', k1, k2, k3⟩ := b.clo _ h1 x (by rw [h2]; exact sym x u hu)
  have e1 := b.val N k1
  have e2 := b.val N hx
  rw [k2] at e1
  rw [e1] at e2
  have e3 : w'.2 = v := Option.some.inj e2
  rw [e3] at k3
  have k4 : v ≤ w.2 + 1 := k3
  omega
include sym in
theorem BEnd.back {s : α} {R : List (α × Int)} (b : BEnd N s R) {x : α} {v : Int} (hx : (x, v) ∈ R) (ne : x ≠ s) : ∃ u ∈ N x, valF R u = some (v - 1) := by
  obtain ⟨z, h1, h2, h3⟩ := b.par _ hx ne
  refine ⟨z.1, sym _ _ h2, ?_⟩
  rw [b.val N h1]
  have h3' : v = z.2 + 1 := h3
  rw [h3']
  congr 1
  omega
end
end Rn

set_option Elab.async false
set_option linter.all false
set_option maxRecDepth 100000
set_option maxHeartbeats 4000000
namespace Rn
open PySem L2
/-! ### calls and comprehensions that may ask -/
theorem Gd.pureF {F : Fn} {cs : List CV} {h : CH} {Q : CV → CH → Prop} (n : noRefs cs = true) (g : Gd (F cs []) (fun v h' => ∃ v', deref h' v = some v' ∧ Q v' h) NoX) : Gd (Rn.pureF F cs h) Q NoX := by
  unfold Rn.pureF
  rw [if_pos n]
  refine ⟨?_⟩
  have core : ∀ o : Out CV, o.Good (fun v h' => ∃ v', deref h' v = some v' ∧ Q v' h) NoX → (o.pure h).Good Q NoX := fun o => by
    induction o with
    | ok v h' =>
      rintro ⟨v', e, q⟩
      unfold Out.pure
      rw [e]
      exact q
    | exc k v h' => exact fun z => z.elim
    | ask n f ih => exact fun z d hd => ih d (z d hd)
    | stuck => exact fun z => z
  exact core _ g.out
theorem Gd.cF {F : Fn} {a : CEs} {l : Lc} {h : CH} {Q : CV → CH → Prop} {xs : List CV} {h1 : CH} {E} (e : a l h = .ok xs h1) (g : Gd (F xs h1) Q E) : Gd (Rn.cF F a l h) Q E := by
  unfold Rn.cF
  exact Gd.bindOk e g
theorem Gd.call {F : Fn} {n : Nat} {xs : List CV} {h : CH} {Q : CV → CH → Prop} {E} (e : xs.length = n) (g : Gd (F xs h) Q E) : Gd (Rn.cCall n F xs h) Q E := by
  unfold Rn.cCall
  rw [if_pos e]
  exact g
theorem Gd.memo {M : Str → Int → List CV → Option CV} {i : Nat} {kf : Lc → Option Str} {cB : CS} {cv : CE} {l : Lc} {x : Str} {p : Int} {t : List CV} {c : CV} {Q : Fl → CH → Prop} (hk : kf l = some x) (hl : l[i]? = some (some (.web p t))) (hm : M x p t = some c) (hd : dataC c = true) (hQ : Q (.rt c) [])
    (hB : Gd (cB l []) (fun f h1 => ∃ l1, f = .nx l1 ∧ kf l1 = some x ∧ l1[i]? = some (some (.web p t)) ∧ Gd (cv l1 h1) (fun v h2 => deref h2 v = some c) NoX) NoX) : Gd (sMemo M i kf cB cv l []) Q NoX := by
  unfold sMemo
  rw [hk, hl]
  refine Gd.ask fun d _ => ?_
  match d with
  | 0 =>
    simp only
    rw [hm]
    exact Gd.ok hQ
  | d + 1 =>
    refine Gd.bind (hB.mono fun f h1 q => ?_)
    obtain ⟨l1, ef, k1, w1, g⟩ := q
    subst ef
    refine Gd.bind (g.mono fun v h2 q => ?_)
    rw [k1, w1, q]
    simp only
    rw [hm]
    simp only
    rw [if_pos (cvEq_self hd)]
    exact Gd.ok hQ
theorem compL2_ok {α β : Type} {t : CTg} {tt : CTt} {vs1 : List Nat} {ci1 : CI} {t1 : CTg} {tt1 : CTt} {el : CE} (φ : α → CV) (ψ : β → CV) (ys : α → List β) (b : α → β → Bool) (z : α → β → CV) (m : Nat) (l : Lc) (h : CH) :
    ∀ (as : List α) (acc : List CV), (∀ a ∈ as, (ys a).length ≤ m ∧ ∃ l1, t (φ a) l h = .ok l1 h ∧ tt l1 h = .ok true h ∧ ci1 l1 h = .ok (.vals ((ys a).map ψ)) h ∧ ∀ c ∈ ys a, ∃ l2, t1 (ψ c) (wipeL l1 vs1) h = .ok l2 h ∧ tt1 l2 h = .ok (b a c) h ∧ (b a c = true → el l2 h = .ok (z a c) h)) →
    acc.length + m * as.length ≤ Rn.big → compL2 t tt vs1 ci1 t1 tt1 el acc (as.map φ) l h = .ok (acc ++ as.flatMap fun a => ((ys a).filter (b a)).map (z a)) h
  | [], acc, _, _ => by rw [List.map_nil, compL2, List.flatMap_nil, List.append_nil]
  | a :: as, acc, H, hb => by
    obtain ⟨lm, l1, e1, e2, e3, e4⟩ := H a List.mem_cons_self
    rw [List.length_cons, Nat.mul_succ] at hb
    rw [List.map_cons, compL2, e1]
    simp only [bind_ok]
    rw [e2]
    simp only [bind_ok]
    rw [e3]
    simp only [bind_ok]
    rw [if_pos (by rw [List.length_map]; omega), compL_ok ψ (b a) (z a) (wipeL l1 vs1) h (ys a) e4]
    simp only [bind_ok]
    have fl := List.length_filter_le (b a) (ys a)
    rw [compL2_ok φ ψ ys b z m l h as _ (fun x hx => H x (List.mem_cons_of_mem _ hx)) (by rw [List.length_append, List.length_map]; omega), List.flatMap_cons, List.append_assoc]
theorem comp2_ok {α β : Type} {vs : List Nat} {ci : CI} {t : CTg} {tt : CTt} {vs1 : List Nat} {ci1 : CI} {t1 : CTg} {tt1 : CTt} {el : CE} (φ : α → CV) (ψ : β → CV) (ys : α → List β) (b : α → β → Bool) (z : α → β → CV) (m : Nat) {l : Lc} {h : CH} (as : List α) (hi : ci l h = .ok (.vals (as.map φ)) h) (hb : m * as.length ≤ Rn.big)
    (H : ∀ a ∈ as, (ys a).length ≤ m ∧ ∃ l1, t (φ a) (wipeL l vs) h = .ok l1 h ∧ tt l1 h = .ok true h ∧ ci1 l1 h = .ok (.vals ((ys a).map ψ)) h ∧ ∀ c ∈ ys a, ∃ l2, t1 (ψ c) (wipeL l1 vs1) h = .ok l2 h ∧ tt1 l2 h = .ok (b a c) h ∧ (b a c = true → el l2 h = .ok (z a c) h)) :
    cComp2 vs ci t tt vs1 ci1 t1 tt1 el l h = .ok (.lst (as.flatMap fun a => ((ys a).filter (b a)).map (z a))) h := by
  unfold cComp2 cComp20
  rw [hi]
  simp only [bind_ok]
  rw [compL2_ok φ ψ ys b z m (wipeL l vs) h as [] H (by rw [List.length_nil, Nat.zero_add]; exact hb)]
  rfl
theorem fAny_bls {h : CH} (bs : List Bool) : fAny [.lst (bs.map CV.bl)] h = .ok (.bl (bs.any id)) h := by
  have e : blsOf (bs.map CV.bl) = some bs := by
    induction bs with
    | nil => rfl
    | cons b r ih => rw [List.map_cons]; unfold blsOf; rw [ih]; rfl
  unfold fAny onL
  simp only [lstOf]
  rw [e]
theorem dataCs_ints (ns : List Int) : dataCs (ns.map CV.int) = true := by
  induction ns with
  | nil => rfl
  | cons n r ih => exact ih
theorem dataC_tupI (ns : List Int) : dataC (tupI ns) = true := dataCs_ints ns
theorem dataCs_map {α : Type} {f : α → CV} (H : ∀ a, dataC (f a) = true) : ∀ xs : List α, dataCs (xs.map f) = true
  | [] => rfl
  | x :: xs => by
    show (dataC (f x) && dataCs (xs.map f)) = true
    rw [H, dataCs_map H xs]
    rfl
end Rn

set_option Elab.async false
set_option linter.all false
set_option maxRecDepth 100000
set_option maxHeartbeats 4000000
namespace Rn
open PySem PySem.Spec PyProof.Rows L2 LamX NdefX

/-! ### what may be exchanged in the ground -/
structure GSame (G G2 : Gb) : Prop where
  k : G.K = G2.K
  g : G.ga = G2.ga
  c : G.cw = G2.cw
  m : G.memo = G2.memo
  t : G.tabs = G2.tabs
  o : G.own = G2.own
  x : G.exf = G2.exf
theorem GSame.symm {G G2 : Gb} (S : GSame G G2) : GSame G2 G := ⟨S.k.symm, S.g.symm, S.c.symm, S.m.symm, S.t.symm, S.o.symm, S.x.symm⟩
section
variable {G G2 : Gb} {w w' : Wd} {ρ ρ' : List Addr} {H H' : Hp} {h h' : CH}
theorem Rep.to (S : GSame G G2) (R : Rep G w ρ h H) (hl : ∀ p ∈ G2.lcs, H p.1 = some (CodeO p.1 p.2)) (hp : PinOk G2 w H) : Rep G2 w [] [] H :=
  ⟨List.nodup_nil, by simp, rfl, R.mh, fun n a o h1 => by simp at h1, fun r hr => WebOk.lamc S.k S.g S.c S.m (R.web r hr), R.wne, R.wnf, R.fh, by rw [← S.t]; exact R.tab, hl, ⟨R.ow.1, fun a p t e => R.ow.2 a p t (S.o.trans e)⟩, hp⟩
theorem Rep.backTo (S : GSame G G2) (R : Rep G w ρ h H) (e : Ext w [] H w' ρ' H') (R' : Rep G2 w' ρ' h' H') : Rep G w' ρ h H' := by
  refine ⟨R.nd, fun a ha => e.mM a (R.sub a ha), R.len, R'.mh, fun n a o h1 h2 => ?_, fun r hr => WebOk.lamc S.k.symm S.g.symm S.c.symm S.m.symm (R'.web r hr), R'.wne, R'.wnf, R'.fh, by rw [S.t]; exact R'.tab, fun p hp => e.keep _ _ (R.lco p hp) (by simp) trivial, ⟨R'.ow.1, fun a p t z => R'.ow.2 a p t (S.o.symm.trans z)⟩, R.pn.ext e (by simp) R.mh⟩
  have ha : a ∈ ρ := List.mem_of_getElem? h1
  refine (R.obj n a o h1 h2).ext e (by simp) fun u hu => ?_
  obtain ⟨u', q1, q2⟩ := R.mh a (R.sub a ha)
  rw [hu] at q1; cases q1
  exact e.keep a u hu (by simp) (by cases u <;> first | exact True.intro | exact .inl (R.sub a ha) | exact q2.elim)
theorem RelC.to (S : GSame G G2) {c : CV} {v : V} (n : noRef c = true) (r : RelC G w ρ H c v) : RelC G2 w ρ' H c v := RelC.lamc S.k S.g ρ' n r
end

/-! ### an own error is raised -/
def sRaise (k : Nat) (ce : CE) : CS := fun l h => (ce l h).bind fun c h1 => if noRef c = true then .exc k (some c) h1 else .stuck
/-- an own error's __init__ keeps what it got -/
def spEx (f : Str) (C : Addr) : Sp := fun vs H Q _ => ∃ (a : Addr) (y : V), vs = [.ref a, y] ∧ H a = some (exo a C none) ∧ ∀ dx, H dx = none → dx ≠ a → Q .non (upd (upd H dx (exd dx [(f, y)])) a (exo a C (some dx)))
/-- what is known of an own error's class -/
structure ExF (K : PySem.W.Frag) (mg : Str → Option Value) (x f : Str) (C fI : Addr) (fd : FuncData) : Prop where
  T : OexC K C
  iC : PySem.W.findIn K (.ref C) "__init__" = some (some (.ref fI))
  tI : PySem.W.typeIn K (.ref fI) = some (.type "function")
  no : PySem.W.findIn K (.ref C) f = some none
  m : mg x = some (.ref C)
  b : L2.Binds K fd ["self", f] []
section
variable {P : Program} {W : World} {K : PySem.W.Frag} {mg : Str → Option Value} {base : Heap}
theorem fnEx {qual f : Str} {st : Stmt} {C fI : Addr} {fd : FuncData} {p1 p2 p3 p4 : Pos} (F : Fun K "__init__" qual st fI fd) (S : FnScope ["self", f] ["self", f] (defScope st)) (T : OexC K C) (no : PySem.W.findIn K (.ref C) f = some none)
    (hb : defBody st = [.Assign [.Attribute (.Name "self" p1) f p2] (.Name f p3) p4]) (v0 : Vis (defScope st) "self") (v1 : Vis (defScope st) f) (hd : (f == ("__debug__" : Str)) = false) (hcd : (f == ("__classdict__" : Str)) = false)
    (hs : ∀ e : Env, swapsWith (.Name f p3) (some (.Attribute (.Name "self" p1) f p2)) p4.line e = pure false) : FnOk P W K mg base (L2.CX P W) 1 fI fd ["self", f] (spEx f C) := by
  refine F.okX (N := ["self", f]) (k := 0) S (fun vs H Q E h => by obtain ⟨a, y, e, _⟩ := h; rw [e]; rfl) fun cdv A outer s H vs Q E hr h => ?_
  obtain ⟨a, y, ev, ha, q⟩ := h
  subst ev
  rw [hb]
  refine ⟨_, pss_one (ps_ost (f := f) (pe_var (i := 0) (x := "self") rfl v0 (by decide) (by decide)) (pe_var (i := 1) (x := f) rfl v1 hd hcd) (hs _)), ?_⟩
  exact ⟨y, rfl, .ref a, rfl, a, C, rfl, T, no, .inl ⟨ha, fun dx n ne => q dx n ne⟩⟩
end
section
variable {X : Cx} {G : Gb} {E : XK} {e : Expr} {ce : CE} {x f : Str} {p pos pos' : Pos}
theorem xs_raise {k j : Nat} {C fI : Addr} {fd : FuncData} (hc : X.calm = true) (le : Lets X (some E)) (F : ExF X.K X.mg x f C fI fd) (Fo : FnOk X.prog X.w X.K X.mg X.base (L2.CX X.prog X.w) j fI fd ["self", f] (spEx f C)) (hr : Room (j + 1) X.A) (hga : G.ga k = C) (hxf : G.exf k = f) (hg : Gl X x) (he : XE X G (some E) e ce)
    (hdb : (x == ("__debug__" : Str)) = false := by decide) (hse : starEach [e] X.env = (false, eval e X.env) :: starEach [] X.env := by rfl) (hpl : (backTo pos (starEach [] X.env)).any (·.1) = false := by rfl) : XS X G (some E) (.Raise (some (.Call (.Name x p) [e] [] pos)) none pos') (sRaise k ce) := by
  refine ps_imp (ps_raise (W := fun cls d _ H => E cls d H) hc le (pmk_oex (ds := []) (dvs := []) F.T F.iC F.tI Fo hr F.b .nil passL hg F.m (pa_cons he pa_nil hse) hdb hse hpl)) fun D σ H ⟨w, ρ, l, h, R, L, g⟩ => ?_
  refine rd_then R L g fun w1 ρ1 h1 H1 c v e1 R1 L1 r1 g1 => ?_
  refine ⟨by simp, fun a na => ⟨a, v, rfl, upd_same, fun dx nd ne => ⟨rfl, dx, [(f, v)], upd_same, ?_, ?_, ?_⟩⟩⟩
  · rw [upd_ne ne, upd_same]
  · rw [upd_ne ne] at nd; exact nd
  · rw [upd_ne ne] at nd
    split at g1
    · rename_i nr
      have eh : upd (del (upd (upd (upd H1 a (exo a C none)) dx (exd dx [(f, v)])) a (exo a C (some dx))) a) dx (.xd [(f, v)]) = upd H1 dx (.xd [(f, v)]) := by
        funext b
        by_cases hb : b = dx
        · rw [hb, upd_same, upd_same]
        · rw [upd_ne hb, upd_ne hb]
          by_cases hb2 : b = a
          · rw [hb2, del_same, na]
          · rw [del_ne hb2, upd_ne hb2, upd_ne hb, upd_ne hb2]
      rw [eh]
      have g2 := (show PostX G w1 ρ1 H1 (some E) k (some c) h1 from g1) w1 ρ1 (upd H1 dx (.xd [(f, v)])) (some dx) (Ext.fresh w1 ρ1 _ nd) (R1.fresh _ nd) ⟨dx, v, rfl, by rw [hxf]; exact upd_same, RelC.free [] nr (RelC.up (Ext.fresh w1 ρ1 _ nd) R1 r1)⟩
      rw [hga] at g2
      exact g2
    · exact g1.elim
end

/-! ### try: .. except .. as e: .. -/
def Out.catch (f : Nat → Option CV → CH → Out Fl) : Out Fl → Out Fl
  | .ok a h => .ok a h
  | .exc k v h => f k v h
  | .ask n g => .ask n fun d => (g d).catch f
  | .stuck => .stuck
theorem Out.good_catch {f : Nat → Option CV → CH → Out Fl} {Q : Fl → CH → Prop} {E : Nat → Option CV → CH → Prop} : ∀ {o : Out Fl}, (o.catch f).Good Q E → o.Good Q (fun k v h => (f k v h).Good Q E)
  | .ok _ _, g => g
  | .exc _ _ _, g => g
  | .ask _ _, g => fun d hd => Out.good_catch (g d hd)
  | .stuck, g => g
/-- what an except suite gives back -/
def Out.backFl (h : CH) : Out Fl → Out Fl
  | .ok f _ => match f with
    | .rt v => if noRef v = true then .ok (.rt v) h else .stuck
    | _ => .stuck
  | .exc _ _ _ => .stuck
  | .ask n g => .ask n fun d => (g d).backFl h
  | .stuck => .stuck
def exL (n i : Nat) : Lc := (List.replicate n none).set i (some .lam)
def okX : Option CV → Bool
  | some c => noRef c
  | none => true
def hdl (n i nk : Nat) (cs : Nat → Option CV → CS) : Nat → Option CV → CH → Out Fl := fun k v h' => if k < nk ∧ okX v = true then (cs k v (exL n i) []).backFl h' else .stuck
def sTry (n i nk : Nat) (cb : CS) (cs : Nat → Option CV → CS) : CS := fun l h => (cb l h).catch (hdl n i nk cs)
def Gb.ex (G : Gb) (a : Addr) (p : Option (Addr × Str × CV)) : Gb := { G with lam := a, lcs := [], pin := p }
def pinOf (G : Gb) (d : Option Addr) (k : Nat) (v : Option CV) : Option (Addr × Str × CV) := match d, v with
  | some dd, some c => some (dd, G.exf k, c)
  | _, _ => none
def DOk (d : Option Addr) (v : Option CV) : Prop := (v = none ∧ d = none) ∨ ∃ c dd, v = some c ∧ d = some dd
theorem gs_ex (G : Gb) (a : Addr) (p : Option (Addr × Str × CV)) : GSame G (G.ex a p) := ⟨rfl, rfl, rfl, rfl, rfl, rfl, rfl⟩
section
variable {X : Cx} {G : Gb} {w w' : Wd} {ρ ρ' : List Addr} {H H' : Hp} {h h' : CH} {l : Lc} {σ : L2.St}
theorem Out.good_backFl {G2 : Gb} {D D' : Ends} (S : GSame G G2) (R' : Rep G w' ρ' h' H') (e : Ext w ρ H w' ρ' H') (hD : D'.rt = D.rt) : ∀ {o : Out Fl}, (o.backFl h').Good (PostF G w ρ H D) (PostX G w ρ H none) → o.Good (PostF G2 w' [] H' D') (PostX G2 w' [] H' none)
  | .ok f h2, g => by
    unfold Out.backFl at g
    cases f <;> try exact g.elim
    rename_i v
    simp only at g
    split at g
    · rename_i nr
      exact fun w2 ρ2 H2 e2 R2 u r => by
        rw [hD]
        exact (show PostF G w ρ H D (.rt v) h' from g) w2 ρ' H2 (e.trans (Ext.wide e2)) (Rep.backTo S R' e2 R2) u (RelC.to S.symm nr r)
    · exact g.elim
  | .exc _ _ _, g => g.elim
  | .ask _ _, g => fun d hd => Out.good_backFl S R' e hD (g d hd)
  | .stuck, g => g
theorem xs_try {x n : Str} {c : Addr} {i nl nk : Nat} {body suite : List Stmt} {b₀ : Stmt} {np pos pos' : Pos} {cb : CS} {cs : Nat → Option CV → CS}
    (hs : X.stack = X.env :: X.outer) (hf : X.env.frame = some X.env.locals) (hN : X.N.Nodup) (hi : X.N[i]? = some n) (hn : X.N.length = nl) (hln : X.env.kindOf n = some .local) (hc : Names X x (.ref c))
    (hx : ∀ k, k < nk → PySem.W.exmOne X.K (.ref (G.ga k)) (.ref c) = some true)
    (hb : ∀ (pn : List (Addr × Obj)) (xe : Value → Shared → Prop) (E : XK), Lets (X.tr pn xe) (some E) → XSs (X.tr pn xe) G (some E) body cb)
    (hsu : ∀ (k : Nat) (v : Option CV) (a : Addr) (oe : Obj) (d : Option Addr) (pn : List (Addr × Obj)), k < nk → Zc (.ref (G.ga k)) d oe → (∃ vs, oe.data = .fields vs) → DOk d v → XSs (X.suite a ((a, oe) :: pn)) (G.ex a (pinOf G d k v)) none (b₀ :: suite) (cs k v)) :
    XS X G none (.Try body [.ExceptHandler (some (.Name x np)) (some n) (b₀ :: suite) pos'] [] [] pos) (sTry nl i nk cb cs) := by
  refine ps_imp (ps_try_as (c := .ref c) (Wout := fun _ _ _ _ => False) (tb := fun W D σ H => ∃ Ech : XK, (∀ cls d σ' H', Ech cls d H' → W cls d σ' H') ∧ rdS G (some Ech) cb D σ H)
    (ts := fun a cls d D σ H => ∃ k v, k < nk ∧ cls = .ref (G.ga k) ∧ DOk d v ∧ (σ.length = nl → rdS (G.ex a (pinOf G d k v)) none (cs k v) D σ H)) hs hf hN hi hln hc L2.takes0
    (fun W pn xe tk _ => ⟨fun pins s σ H D I q => ?_⟩) (fun a oe cls d pn hz hfl => ⟨fun pins s σ H D I q => ?_⟩)) fun D σ H q => ?_
  · obtain ⟨Ech, hW, r⟩ := q
    exact (hb pn xe Ech (tk.imp fun c d σ H z => hW c d σ H z)).run pins s σ H D I r
  · obtain ⟨k, v, hk, ec, dv, r⟩ := q
    subst ec
    exact (hsu k v a oe d pn hk hz hfl dv).run pins s σ H D I (r (I.len.trans hn))
  · obtain ⟨w, ρ, l, h, R, L, g⟩ := q
    refine ⟨fun cls d H' => ∃ k v h' w' ρ', cls = .ref (G.ga k) ∧ Ext w ρ H w' ρ' H' ∧ Rep G w' ρ' h' H' ∧ ExcR G w' H' k v d ∧ (hdl nl i nk cs k v h').Good (PostF G w ρ H D) (PostX G w ρ H none), fun cls d σ' H' q => ?_, w, ρ, l, h, R, L,
      (Out.good_catch g).mono (fun _ _ q => q) fun k v h' q w' ρ' H' d e R' x => ⟨k, v, h', w', ρ', rfl, e, R', x, q⟩⟩
    obtain ⟨k, v, h', w', ρ', ec, e, R', xr, g'⟩ := q
    unfold hdl at g'
    split at g'
    case isFalse => exact g'.elim
    case isTrue hk =>
    obtain ⟨hk, ox⟩ := hk
    have dv : DOk d v := by
      cases v with
      | none => exact .inl ⟨rfl, xr⟩
      | some c => obtain ⟨a, x, e1, _⟩ := xr; exact .inr ⟨c, a, rfl, e1⟩
    refine ⟨true, by rw [ec]; exact hx k hk, fun _ a na => ⟨k, v, hk, ec, dv, fun hl => ?_⟩, fun z => by cases z⟩
    refine ⟨w', [], exL nl i, [], Rep.to (gs_ex G a _) R' (fun p hp => by cases hp) ⟨fun dd f c z => ?_, fun p hp => ⟨(R'.pn.2 p hp).1, RelC.to (gs_ex G a _) (R'.pn.2 p hp).1 (R'.pn.2 p hp).2⟩⟩, ⟨by rw [hl]; simp [exL], fun j c hj => ?_⟩, Out.good_backFl (D := D) (gs_ex G a _) R' e (by rfl) g'⟩
    · cases v with
      | none => cases d <;> cases z
      | some c0 =>
        obtain ⟨a', x', e1, e2, e3⟩ := xr
        subst e1
        cases z
        exact ⟨x', e2, ox, RelC.to (gs_ex G a _) ox e3⟩
    · have len : i < σ'.length ∨ ¬ i < σ'.length := Nat.lt_or_ge i σ'.length |>.imp id Nat.not_lt.mpr
      rw [List.length_set] at hl
      unfold exL at hj
      by_cases hij : j = i
      · subst hij
        by_cases hjn : j < nl
        · rw [List.getElem?_set_self (by rw [List.length_replicate]; exact hjn)] at hj
          cases hj
          exact ⟨.ref a, List.getElem?_set_self (by rw [hl]; exact hjn), by unfold RelC; rfl⟩
        · rw [List.getElem?_eq_none (by rw [List.length_set, List.length_replicate]; omega)] at hj
          cases hj
      · rw [List.getElem?_set_ne (Ne.symm hij), List.getElem?_replicate] at hj
        split at hj <;> cases hj
end

/-! ### the caught error: what it is, what it keeps -/
def cIsX (i : Nat) (b : Bool) : CE := fun l h => match l[i]? with
  | some (some .lam) => .ok (.bl b) h
  | _ => .stuck
def cGivX (i : Nat) (v : Option CV) : CE := fun l h => match l[i]?, v with
  | some (some .lam), some c => .ok c h
  | _, _ => .stuck
section
variable {X : Cx} {G : Gb} {a C : Addr} {oe : Obj} {d : Option Addr} {pn : List (Addr × Obj)}
def DPin (G : Gb) (d : Option Addr) : Prop := d = none ∨ ∃ dd f c, d = some dd ∧ G.pin = some (dd, f, c)
theorem DOk.pin {k : Nat} {v : Option CV} (q : DOk d v) : DPin (G.ex a (pinOf G d k v)) d := by
  rcases q with ⟨_, e⟩ | ⟨c, dd, e1, e2⟩
  · exact .inl e
  · subst e1 e2
    exact .inr ⟨dd, G.exf k, c, rfl, rfl⟩
def rIsX (K : PySem.W.Frag) (a C : Addr) (d : Option Addr) (u : Value) : List V → Hp → VK → Prop := fun xs H Q => ∃ (vc : V) (b : Bool), xs = [.ref a, vc] ∧ ClsV vc u ∧ (d = none ∨ ∃ dd fs, d = some dd ∧ H dd = some (.xd fs)) ∧ PySem.W.kitOne K (.ref C) u = some b ∧ Q (.bl b) H
theorem call_isX {u : Value} (F : L2.ExcC X.K C) (hz : Zc (.ref C) d oe) (hf : ∃ vs, oe.data = .fields vs) : CallR (X.suite a ((a, oe) :: pn)) (.builtin "isinstance") (rIsX X.K a C d u) := by
  intro pins s σ H xs us Q I r h
  obtain ⟨vc, b, rfl, kc, dd, kb, q⟩ := h
  cases r with
  | cons rx rr =>
    cases rr with
    | cons rt rr =>
      cases rr
      cases rx
      obtain ⟨hget, _⟩ := I.pin (a, oe) (List.mem_append.mpr (.inl List.mem_cons_self))
      obtain ⟨vs, hv⟩ := hf
      obtain ⟨od, J⟩ : ∃ od, PySem.W.InstAt s.heap a oe C od := by
        obtain ⟨oc, odd, oda, osl⟩ := oe
        obtain ⟨z1, z2⟩ := hz
        dsimp only at z1 z2 hv
        subst z1 z2 hv
        rcases dd with e | ⟨dd, fs, e, hd⟩
        · subst e
          exact ⟨none, hget, rfl, rfl, trivial⟩
        · subst e
          obtain ⟨mA, hns, _⟩ := (show ObjOk X.prog X.w H s.heap dd (.xd fs) from I.hok dd _ hd)
          obtain ⟨o2, ho, _⟩ := lookIn_ns hns
          exact ⟨some o2, hget, rfl, rfl, ho⟩
      have e2 := kc.eq rt
      subst e2
      exact PySem.W.kia_one (PySem.W.kitx_exc (by obtain ⟨cd, hc, _⟩ := PySem.W.any_some F.hd; rw [hc]; rfl) F.hg F.hk F.hs F.ha F.hn F.ht F.hm) I.kIn J kb (fun z => nomatch z) fun tk => ⟨.bl b, H, I.tok tk, rfl, q⟩
theorem xe_isX {i : Nat} {b : Bool} {n : Str} {vc : V} {u : Value} {ec : Expr} {p pe pos : Pos} (F : L2.ExcC X.K C) (hz : Zc (.ref C) d oe) (hf : ∃ vs, oe.data = .fields vs) (hla : G.lam = a) (dv : DPin G d) (hg : Gl (X.suite a ((a, oe) :: pn)) "isinstance") (hm : X.mg "isinstance" = none)
    (hN : X.N[i]? = some n) (hv : Vis X.env.scope n) (hc : PE (X.suite a ((a, oe) :: pn)) ec (tC vc)) (kc : ClsV vc u) (hk : PySem.W.kitOne X.K (.ref C) u = some b) (hd : (n == ("__debug__" : Str)) = false := by decide) (hcd : (n == ("__classdict__" : Str)) = false := by decide)
    (hb : bootBuiltins "isinstance" = some (.builtin "isinstance") := by first | rfl | decide +kernel)
    (he : starEach [.Name n pe, ec] X.env = (false, eval (.Name n pe) X.env) :: starEach [ec] X.env := by rfl) (he2 : starEach [ec] X.env = (false, eval ec X.env) :: starEach [] X.env := by rfl) (hpl : (backTo pos (starEach [ec] X.env)).any (·.1) = false := by rfl) :
    XE (X.suite a ((a, oe) :: pn)) G none (.Call (.Name "isinstance" p) [.Name n pe, ec] [] pos) (cIsX i b) :=
  pe_imp (pe_callB (call_isX (u := u) F hz hf) hg hm hb (pa_cons (pe_var (X := X.suite a ((a, oe) :: pn)) (i := i) hN hv hd hcd) (pa_cons hc pa_nil he2) he) (by decide) (by decide) he hpl) fun σ H Q ⟨w, ρ, l, h, R, L, g⟩ => by
    unfold cIsX at g
    split at g
    case h_2 => exact g.elim
    case h_1 q =>
    obtain ⟨v, h1, h2⟩ := L.2 i _ q
    have ev : v = .ref a := by unfold RelC at h2; rw [hla] at h2; exact h2
    subst ev
    refine ⟨.ref a, h1, vc, b, rfl, kc, ?_, hk, okV R g (cr_bl b)⟩
    rcases dv with e | ⟨dd, f, c, e1, e2⟩
    · exact .inl e
    · obtain ⟨x, q1, _⟩ := R.pn.1 dd f c e2
      exact .inr ⟨dd, _, e1, q1⟩
theorem xe_givX {i k : Nat} {v : Option CV} {n f : Str} {pe pos : Pos} (T : XfC X.K C) (hno : PySem.W.findIn X.K (.ref C) f = some none) (hz : Zc (.ref C) d oe) (hf : ∃ vs, oe.data = .fields vs) (hla : G.lam = a) (dv : DOk d v) (hpin : ∀ dd c, d = some dd → v = some c → G.pin = some (dd, f, c))
    (hN : X.N[i]? = some n) (hv : Vis X.env.scope n) (hd : (n == ("__debug__" : Str)) = false := by decide) (hcd : (n == ("__classdict__" : Str)) = false := by decide)
    (hb : attributeBase (.Name n pe) f X.env (eval (.Name n pe) X.env) = eval (.Name n pe) X.env := by rfl) :
    XE (X.suite a ((a, oe) :: pn)) G none (.Attribute (.Name n pe) f pos) (cGivX i v) :=
  pe_imp (pe_xf T hno hz hf (pe_var (X := X.suite a ((a, oe) :: pn)) (i := i) hN hv hd hcd) hb) fun σ H Q ⟨w, ρ, l, h, R, L, g⟩ => by
    unfold cGivX at g
    split at g
    case h_2 => exact g.elim
    case h_1 c q ev =>
    obtain ⟨v', h1, h2⟩ := L.2 i _ q
    have ev' : v' = .ref a := by unfold RelC at h2; rw [hla] at h2; exact h2
    subst ev'
    rcases dv with ⟨z, _⟩ | ⟨c', dd, e1, e2⟩
    · cases z
    · cases e1
      obtain ⟨x, q1, _, q3⟩ := R.pn.1 dd f c (hpin dd c e2 rfl)
      exact ⟨.ref a, h1, rfl, rfl, dd, [(f, x)], x, e2, q1, by simp [List.lookup], okV R g q3.any⟩
end

/-! ### x(lambda: ..), the lambda called within a try -/
/-- what is captured -/
def capL (js : List Nat) (l : Lc) : Lc := (List.range l.length).map fun i => match l[i]? with
  | some (some c) => if js.contains i && noRef c then some c else none
  | _ => none
def cAct (i : Nat) (φ : CH → Out CV) : CE := fun l h => match l[i]? with
  | some (some .lam) => φ h
  | _ => .stuck
def cTold (ng : Nat) (js : List Nat) (cb : CE) (cg : (CH → Out CV) → CS) : CE := fun l h => (cFun 1 ng (cg fun h' => cb (capL js l) h') [.lam] []).pureL h
def Gb.wc (G : Gb) (a : Addr) (cs : List (Addr × Str)) (ps : List (V × CV)) : Gb := { G with lam := a, lcs := cs, caps := ps }
theorem gs_wc (G : Gb) (a : Addr) (cs : List (Addr × Str)) (ps : List (V × CV)) : GSame G (G.wc a cs ps) := ⟨rfl, rfl, rfl, rfl, rfl, rfl, rfl⟩
section
variable {G : Gb} {w w' : Wd} {ρ ρ' : List Addr} {H H' : Hp} {h h' : CH}
theorem Out.good_pureC {Q : VK} {G2 : Gb} {E : XO} (S : GSame G G2) (R : Rep G w ρ h H) : ∀ {o : Out CV}, (o.pureL h).Good (PostV G w ρ H Q) (PostX G w ρ H E) → o.Good (PostV G2 w [] H Q) (PostX G2 w [] H none)
  | .ok v h', g => fun w' ρ' H' x e R' r => by
    unfold Out.pureL at g
    split at g
    · rename_i nr
      exact (show PostV G w ρ H Q v h from g) w' ρ H' x (Ext.wide e) (Rep.backTo S R e R') (RelC.to S.symm nr r)
    · exact g.elim
  | .exc _ _ _, g => g.elim
  | .ask n f, g => fun d hd => Out.good_pureC S R (g d hd)
  | .stuck, g => g.elim
end
section
variable {X : Cx} {pins : List (Addr × Obj)} {σ : L2.St} {H : Hp} {s : Shared}
/-- a(), in the def that got the lambda as a, within a try; what is known of the guards goes on -/
theorem pe_actX {Ng : List Str} {qg : Str} {sg : Scope} {g f cc : Addr} {cdg pm ctv : Value} {params : Arguments} {body : Expr} {sc : Scope} {k i : Nat} {a : Str} {pn : List (Addr × Obj)} {xe : Value → Shared → Prop} {E : XK} {tb : TE} {p1 p2 : Pos}
    (J0 : Inv X pins σ H s) (S : LamS X.env.scope sc) (at_f : s.heap.get? f = some (PySem.W.kla_obj "<lambda>" (X.env.qual ++ "<lambda>") params body sc (cloFrom X.env.cells sc.names []) pm cc ctv)) (nf : H f = none) (of : f ∉ frs X.stack)
    (bind0 : bindArgs (PySem.W.kla_fn "<lambda>" (X.env.qual ++ "<lambda>") params body sc (cloFrom X.env.cells sc.names []) pm (.ref cc) ctv) ⟨[], []⟩ = pure [])
    (le : Lets ((cxOf (L2.CX X.prog X.w) X.prog X.w X.K X.mg X.base Ng qg sg g cdg X.A X.stack s H E0).tr pn xe) (some E)) (room : Room (k + 1) (X.A.deeper (envOfC qg sg s.heap.objs.size g cdg)))
    (inner : ∀ (A : Around) (outer : List Env) (s : Shared) (H : Hp), A.guards = X.A.guards → Room k (A.deeper (lamEnv X sc s.heap.objs.size f cc)) → PE (lamCx X A outer s H E sc f cc) body tb)
    (hN : Ng[i]? = some a) (hv : Vis sg a) (hd : (a == ("__debug__" : Str)) = false := by decide) (hcd : (a == ("__classdict__" : Str)) = false := by decide) :
    PE ((cxOf (L2.CX X.prog X.w) X.prog X.w X.K X.mg X.base Ng qg sg g cdg X.A X.stack s H E0).tr pn xe) (.Call (.Name a p1) [] [] p2)
      (fun σY HY Q => σY[i]? = some (some (.ref f)) ∧ HY cc = some (CodeO cc (X.env.qual ++ "<lambda>")) ∧ tb σ HY Q) := by
  constructor
  intro pinsY sY σY HY Q JY want
  obtain ⟨at_i, at_c, goes⟩ := want
  refine wpAny_Call_Name_kw (thn ((pe_var (pos := p1) (i := i) hN hv hd hcd).run pinsY sY σY HY (fun v K1 => v = .ref f ∧ K1 = HY) JY ⟨.ref f, at_i, rfl, rfl⟩) fun u t1 got => ?_)
  obtain ⟨v, K1, J1, r1, ev, eK⟩ := got
  subst ev
  rw [eK] at J1
  obtain rfl : u = Value.ref f := r1
  have there : t1.heap.get? f = some (PySem.W.kla_obj "<lambda>" (X.env.qual ++ "<lambda>") params body sc (cloFrom X.env.cells sc.names []) pm cc ctv) :=
    J1.base.keep f _ at_f nf of (fun z => nomatch (show f ∈ ([] : List Addr) from z))
  refine PySem.W.callWith_F0 ⟨_, _, _, _, there⟩ ?_
  have un0 : Un (frs X.stack) [] H HY s.heap t1.heap := J1.base
  obtain ⟨⟨oc, vs, t, at_oc, oc_d, oc_v⟩, _, _⟩ := J1.hok cc _ at_c
  have run : codeAny (model X.prog X.w) (X.A.deeper (envOfC qg sg s.heap.objs.size g cdg)) (.call (.ref f) ⟨[], []⟩) (CR (L2.CX X.prog X.w) (envOfC qg sg s.heap.objs.size g cdg :: X.stack) X.prog X.w HY t1 Q E) t1 := by
    refine PySem.W.kla_callFunE room.depth there rfl S.co S.gen rfl ⟨cc, oc, vs, t, rfl, at_oc, oc_d, oc_v⟩ ?_
    rw [bind0]
    refine wpAny_pure (wpAny_newFunctionEnv (fun y hy => (S.own y hy).2) (fun y hy => absurd hy (by simp)) (fun hp1 ns1 sb1 => ⟨J1.nolimit.fresh _ sb1, ?_⟩) S.kind)
    show codeAny _ _ (.expr body (lamEnv X sc t1.heap.objs.size f cc)) _ _
    have kept : ∀ b o, t1.heap.get? b = some o → hp1.get? b = some o := fun b o z => sb1.extBut b o (Nat.ne_of_lt (Heap.lt_size z)) (Heap.get?_push_of_some _ z)
    have J2 : Inv (lamCx X (X.A.deeper (envOfC qg sg s.heap.objs.size g cdg)) (envOfC qg sg s.heap.objs.size g cdg :: X.stack) t1 HY E sc f cc) [] σ HY { t1 with heap := hp1, toks := t1.toks + ([] : List (Str × Value)).length } :=
      lam_start2 J0 S J1.env0 room.hd un0 ns1 kept
    refine PySem.W.kla_codeExpr (wpAny_mono ((inner (X.A.deeper (envOfC qg sg s.heap.objs.size g cdg)) (envOfC qg sg s.heap.objs.size g cdg :: X.stack) t1 HY rfl (room.deeper _)).run [] _ _ HY Q J2 goes) (fun v t2 hq => ?_) fun e t2 hq => hq)
    obtain ⟨v', K2, J3, rv, q⟩ := hq
    exact ⟨v', K2, J3.os, J3.bare, J3.base, J3.hok, rv, q⟩
  have px : Passes (L2.CX X.prog X.w) ((cxOf (L2.CX X.prog X.w) X.prog X.w X.K X.mg X.base Ng qg sg g cdg X.A X.stack s H E0).tr pn xe) E := le.pass
  refine wpAny_call (codeAny_mono run fun r t2 hq => ?_)
  cases r with
  | error e => exact px pinsY σY HY t1 e t2 J1 hq
  | ok fl => cases fl with
    | ret u => exact J1.after hq
    | next => exact hq.elim
    | brk => exact hq.elim
    | cont => exact hq.elim
end
section
variable {X : Cx} {G : Gb} {EE : XO}
/-- the promise of the def that gets the lambda, told of one call -/
def HolderX (X : Cx) (G : Gb) (k : Nat) (a : Str) (Ng : List Str) (x : Str) (stg : Stmt) (g : Addr) (cg : (CH → Out CV) → CS) : Prop :=
  ∀ (cdv : Value) (s : Shared) (H : Hp) (f : Addr) (cs : List (Addr × Str)) (ps : List (V × CV)) (φ : CH → Out CV), X.A.guards = some [] → Room (k + 1) (X.A.deeper (envOfC x (defScope stg) s.heap.objs.size g cdv)) →
    (∀ (pn : List (Addr × Obj)) (xe : Value → Shared → Prop) (E : XK) (p1 p2 : Pos), Lets ((cxOf (L2.CX X.prog X.w) X.prog X.w X.K X.mg X.base Ng x (defScope stg) g cdv X.A X.stack s H E0).tr pn xe) (some E) →
      XE ((cxOf (L2.CX X.prog X.w) X.prog X.w X.K X.mg X.base Ng x (defScope stg) g cdv X.A X.stack s H E0).tr pn xe) (G.wc f cs ps) (some E) (.Call (.Name a p1) [] [] p2) (cAct 0 φ)) →
    XSs (cxOf (L2.CX X.prog X.w) X.prog X.w X.K X.mg X.base Ng x (defScope stg) g cdv X.A X.stack s H E0) (G.wc f cs ps) none (defBody stg) (cg φ)
theorem xe_told {x a : Str} {g c P : Addr} {k ng : Nat} {stg : Stmt} {fdg : FuncData} {Ng : List Str} {js : List Nat} {params : Arguments} {body : Expr} {scope : Scope} {cb : CE} {cg : (CH → Out CV) → CS} {p lpos pos : Pos}
    (gd : X.A.guards = some []) (hr : Room (k + 2) X.A) (hg : Gl X x) (hm : X.mg x = some (.ref g)) (F : Fun X.K x x stg g fdg) (hb : L2.Binds X.K fdg [a] []) (Sg : FnScope Ng [a] (defScope stg)) (hng : Ng.length = ng) (hNg : Ng[0]? = some a) (hva : Vis (defScope stg) a)
    (S : LamS X.env.scope scope) (TB : TabB X.base X.mg c P) (hcode : X.env.code = .ref c) (hmT : (P, X.env.qual ++ "<lambda>") ∈ G.tabs) (hu : ∀ p ∈ G.tabs, p.1 = P → p.2 = X.env.qual ++ "<lambda>") (hdef : defaultsOf params X.env = ([], []))
    (hbind : ∀ (q : Str) (cl : List (Str × Addr)) (pm cv ctv : Value), bindArgs (PySem.W.kla_fn "<lambda>" q params body scope cl pm cv ctv) ⟨[], []⟩ = pure [])
    (hG : HolderX X G k a Ng x stg g cg)
    (hbody : ∀ (A : Around) (outer : List Env) (s : Shared) (H : Hp) (E : XK) (f c' : Addr) (ps : List (V × CV)), A.guards = some [] → Room k (A.deeper (lamEnv X scope s.heap.objs.size f c')) → Lets (lamCx X A outer s H E scope f c') (some E) →
      XE (lamCx X A outer s H E scope f c') (G.wc f [(c', X.env.qual ++ "<lambda>")] ps) (some E) body cb)
    (hdb : (x == ("__debug__" : Str)) = false := by decide) (hd : (a == ("__debug__" : Str)) = false := by decide) (hcd : (a == ("__classdict__" : Str)) = false := by decide) :
    XE X G EE (.Call (.Name x p) [.Lambda params body scope lpos] [] pos) (cTold ng js cb cg) := by
  constructor
  intro pins s σ H Q I want
  obtain ⟨w, ρ, l, h, R, L, gg⟩ := want
  refine wpAny_Call_Name_kw (ld_glob I hg hm ?_ hdb)
  refine PySem.W.callWith_K (h₀ := X.base) I.ok.mod.kin F.kp ?_ (by rfl) (by rfl)
  show wpAny _ _ (spliced ((false, eval (.Lambda params body scope lpos) X.env) :: backTo pos (starEach [] X.env))) _ _ s
  refine Calls.spliced_cons (lam_makeP I TB hcode hmT hu R.tab hdef (S.has I.ok) fun f c' pm ctv H2 s2 I2 eN gone T2 hf hfn hfo hco => ?_)
  refine Calls.spliced_nil ⟨I2.kIn, ?_⟩
  obtain ⟨R2, e2⟩ := R.extN eN gone T2
  have L2' : LocR G w ρ H2 l σ := L.up e2 R
  obtain ⟨ps, eps⟩ : ∃ ps : List (V × CV), ps = (List.range l.length).filterMap fun i => match (capL js l)[i]?, σ[i]? with
    | some (some cv), some (some v) => some (v, cv)
    | _, _ => none := ⟨_, rfl⟩
  have cap : ∀ (i : Nat) (cv : CV), (capL js l)[i]? = some (some cv) → i < l.length ∧ noRef cv = true ∧ l[i]? = some (some cv) := fun i cv hi => by
    unfold capL at hi
    rw [List.getElem?_map] at hi
    by_cases hl : i < l.length
    · rw [List.getElem?_range hl] at hi
      simp only [Option.map_some, Option.some.injEq] at hi
      split at hi
      · rename_i c0 q0
        split at hi
        · rename_i hb
          cases hi
          rw [Bool.and_eq_true] at hb
          exact ⟨hl, hb.2, q0⟩
        · cases hi
      · cases hi
    · rw [List.getElem?_eq_none (by rw [List.length_range]; omega)] at hi
      cases hi
  have psOk : ∀ q ∈ ps, noRef q.2 = true ∧ RelC G w [] H2 q.2 q.1 := fun q hq => by
    rw [eps] at hq
    obtain ⟨i, _, e⟩ := List.mem_filterMap.mp hq
    split at e
    · rename_i cv v h1 h2
      cases e
      obtain ⟨_, nr, hl⟩ := cap i _ h1
      obtain ⟨v', k1, k2⟩ := L2'.2 i _ hl
      rw [h2] at k1
      cases k1
      exact ⟨nr, RelC.free [] nr k2⟩
    · cases e
  have S1 := gs_wc G f [(c', X.env.qual ++ "<lambda>")] ps
  have Rw : Rep (G.wc f [(c', X.env.qual ++ "<lambda>")] ps) w [] [] H2 := Rep.to S1 R2 (fun q hq => by
    have z := List.mem_singleton.mp hq
    subst z
    exact hco) ⟨fun dd f' c0 z => (let ⟨x', z1, z2, z3⟩ := R2.pn.1 dd f' c0 z; ⟨x', z1, z2, RelC.to S1 z2 z3⟩), fun q hq => ⟨(psOk q hq).1, RelC.to S1 (psOk q hq).1 (psOk q hq).2⟩⟩
  obtain ⟨oc, od, kV, doc, pmg, an, cdv, ct, osl, eF, lk, hcd2⟩ := F.ex
  subst eF
  have rc : codeAny (model X.prog X.w) X.A (.call (.ref g) ⟨[.ref f], []⟩) (CR (L2.CX X.prog X.w) X.stack X.prog X.w H2 s2 Q E0) s2 := by
    refine run_ofS (N := Ng) (ps := [a]) (us := [.ref f]) (vs := [.ref f]) lk hcd2 Sg hr I2.env0 (by
      have q := hb s2 [.ref f] I2.kIn rfl
      exact q) (.cons rfl .nil) rfl fun hr' => ?_
    refine ⟨_, hG cdv s2 H2 f [(c', X.env.qual ++ "<lambda>")] ps (fun h' => cb (capL js l) h') gd hr' fun pn xe E p1 p2 le => ?_, ?_⟩
    · refine pe_imp (pe_actX (i := 0) (k := k) I2 S hf hfn hfo (hbind _ _ _ _ _) le hr' (fun A outer s H gA hrA => hbody A outer s H E f c' ps (gA.trans gd) hrA (takes_of rfl rfl rfl rfl)) hNg hva hd hcd) fun σZ HZ QZ q => ?_
      obtain ⟨wZ, ρZ, lZ, hZ, RZ, LZ, gZ⟩ := q
      unfold cAct at gZ
      split at gZ
      case h_2 => exact gZ.elim
      case h_1 at1 =>
      obtain ⟨vz, z1, z2⟩ := LZ.2 0 _ at1
      have z3 : vz = .ref f := by unfold RelC at z2; exact z2
      subst z3
      refine ⟨z1, RZ.lco _ (List.mem_singleton_self _), wZ, ρZ, capL js l, hZ, RZ, ⟨?_, fun i cv hi => ?_⟩, gZ⟩
      · unfold capL
        rw [List.length_map, List.length_range]
        exact L.1
      · obtain ⟨hl, nr, q0⟩ := cap i cv hi
        obtain ⟨v', k1, k2⟩ := L2'.2 i _ q0
        refine ⟨v', k1, ?_⟩
        have m : (v', cv) ∈ ps := by
          rw [eps]
          exact List.mem_filterMap.mpr ⟨i, List.mem_range.mpr hl, by rw [hi, k1]⟩
        exact (RZ.pn.2 (v', cv) m).2.any
    · have r2 : RelCs (G.wc f [(c', X.env.qual ++ "<lambda>")] ps) w [] H2 [.lam] [.ref f] := RelCs.cons (by unfold RelC; rfl) RelCs.nil
      have g2 := Out.good_pureC (E := EE) S1 R2 (gg.mono (fun _ _ q => q.at e2) fun _ _ _ q => q.at e2)
      refine ⟨w, [], _, [], Rw, LocR.start Ng r2, ?_⟩
      unfold cFun at g2
      split at g2
      · rw [hng]
        refine (Out.good_bind.mp g2).mono (fun fl h1 g3 w' ρ' H' e R' => ?_) fun _ _ _ q => q
        cases fl with
        | nx l => exact fun σ' L' => (show PostV (G.wc f [(c', X.env.qual ++ "<lambda>")] ps) w [] H2 Q .non h1 from g3) w' ρ' H' _ e R' cr_non
        | rt v => exact fun u ru => (show PostV (G.wc f [(c', X.env.qual ++ "<lambda>")] ps) w [] H2 Q v h1 from g3) w' ρ' H' u e R' ru
        | bk l => exact g3.elim
        | ct l => exact g3.elim
      · exact g2.elim
  refine wpAny_call (codeAny_mono rc fun r s' hq => ?_)
  cases r with
  | error e => exact (cx0_no _ _ _ _ _ hq).elim
  | ok fl => cases fl with
    | ret u => exact I2.after hq
    | next => exact hq.elim
    | brk => exact hq.elim
    | cont => exact hq.elim
end
end Rn

set_option Elab.async false
set_option linter.all false
set_option maxRecDepth 100000
set_option maxHeartbeats 4000000
namespace Rn
open PySem PySem.Spec PyProof.Rows L2 LamX NdefX
/-! ### defs that may let an exception out -/
section
variable {P : Program} {W : World} {K : PySem.W.Frag} {mg : Str → Option Value} {base : Heap} {G : Gb}
theorem fn_runX {x qual : Str} {st : Stmt} {f : Addr} {fd : FuncData} {N ps : List Str} {k n m : Nat} {c : CS} (F : Fun K x qual st f fd) (S : FnScope N ps (defScope st)) (hn : ps.length = n) (hm : N.length = m)
    (hb : ∀ (cdv : Value) (A : Around) (outer : List Env) (s : Shared) (H : Hp) (E : XK), fd.code = cdv → A.guards = some [] → Room k (A.deeper (envOfC qual (defScope st) s.heap.objs.size f cdv)) →
      Lets (cxOf (L2.CX P W) P W K mg base N qual (defScope st) f cdv A outer s H E) (some E) → XSs (cxOf (L2.CX P W) P W K mg base N qual (defScope st) f cdv A outer s H E) G (some E) (defBody st) c) :
    FnG P W K mg base (L2.CX P W) (k + 1) f fd ps (spF G n (cFun n m c)) := by
  subst hn hm
  refine fnG_of F S (fun vs H Q E h => h.1) fun cdv A outer s H vs Q E hcd gd hr hsp => ⟨_, hb cdv A outer s H E hcd gd hr (takes_of rfl rfl rfl rfl), ?_⟩
  obtain ⟨hl, w, ρ, h, cs, R, r, g⟩ := hsp
  unfold cFun at g
  split at g
  case isFalse => exact g.elim
  case isTrue hn =>
  refine ⟨w, ρ, _, h, R, LocR.start N r, ?_⟩
  rw [hn]
  refine (Out.good_bind.mp g).mono (fun fl h1 g1 w' ρ' H' e R' => ?_) fun _ _ _ q => q
  cases fl with
  | nx l => exact fun σ' L' => (show PostV G w ρ H Q .non h1 from g1) w' ρ' H' _ e R' cr_non
  | rt v => exact fun u ru => (show PostV G w ρ H Q v h1 from g1) w' ρ' H' u e R' ru
  | bk l => exact g1.elim
  | ct l => exact g1.elim
end
theorem rd_idX {G : Gb} {E : XO} {F : Fn} : ∀ xs H Q, rdF G E F xs H Q → rdF G E F xs H Q := fun _ _ _ h => h
section
variable {X : Cx} {G : Gb} {E : XO} {k n : Nat} {ps : List Str} {F F' : Fn} {x : Str} {st : Stmt} {p pos : Pos} {e : Expr} {es : List Expr} {cs : CEs}
/-- f(..), f a def of the module that may let an exception out -/
theorem xe_ownX (D : Df X.K X.mg x st ps) (Fo : FnG X.prog X.w X.K X.mg X.base (L2.CX X.prog X.w) k D.f D.fd ps (spF G n F)) (gd : X.A.guards = some []) (hr : Room k X.A) (le : Lets X E) (hw : ∀ xs H Q, rdF G E F' xs H Q → rdF G E F xs H Q) (ha : XA X G E (e :: es) cs) (hg : Gl X x := by rfl)
    (hdb : (x == ("__debug__" : Str)) = false := by decide) (he : starEach (e :: es) X.env = (false, eval e X.env) :: starEach es X.env := by rfl) (hpl : (backTo pos (starEach es X.env)).any (·.1) = false := by rfl) :
    XE X G E (.Call (.Name x p) (e :: es) [] pos) (cF (cCall n F') cs) := xe_call Fo gd hr hg D.m D.F.kp D.b le hw ha hdb he hpl
variable {kws : List Keyword} {ks : List Str} {nk : Nat} {pm : List Nat} {ck : CEs}
/-- f(k = v, ..) -/
theorem xe_ownKX (D : Df X.K X.mg x st ps) (Fo : FnG X.prog X.w X.K X.mg X.base (L2.CX X.prog X.w) k D.f D.fd ps (spF G n F)) (gd : X.A.guards = some []) (hr : Room k X.A) (le : Lets X E) (hb : KP X.K D.fd ps ks 0 pm) (hw : ∀ xs H Q, rdF G E F' xs H Q → rdF G E F xs H Q) (hkw : XKw X G E kws ck) (hnk : ks.length = nk) (hg : Gl X x := by rfl)
    (hall : (backToKw pos (keywordEach kws X.env)).all (·.1.isSome) = true := by rfl) (hks : (backToKw pos (keywordEach kws X.env)).filterMap (·.1) = ks := by rfl)
    (hdb : (x == ("__debug__" : Str)) = false := by decide) (hpl : ((backTo pos (starEach [] X.env)).any (·.1) || (backToKw pos (keywordEach kws X.env)).any (·.1.isNone)) = false := by rfl) :
    XE X G E (.Call (.Name x p) [] kws pos) (cKey 0 nk pm n F' cNil ck) := by
  refine xe_callK0 Fo gd hr hg D.m D.F.kp hb le hw hkw hnk ?_ ?_ ?_ ?_ <;> assumption
end
theorem bt_ValueError : bootBuiltins "ValueError" = some (.type "ValueError") := by decide +kernel
/-- an expression that is never come to -/
def cNev : CE := fun _ _ => .stuck
theorem xe_nev {X : Cx} {G : Gb} {E : XO} {e : Expr} : XE X G E e cNev := ⟨fun pins s σ H Q I ⟨w, ρ, l, h, R, L, g⟩ => g.elim⟩
theorem Gz.wc {K : PySem.W.Frag} {mg : Str → Option Value} {G : Gb} {M : Str → Int → List CV → Option CV} {ts : List Ty} {fi : Addr} (Z : Gz K mg G M ts fi) (a : Addr) (cs : List (Addr × Str)) (ps : List (V × CV)) : Gz K mg (G.wc a cs ps) M ts fi := { mem := Z.mem, eK := Z.eK, m := Z.m, W := Z.W, M := Z.M }
theorem Gz.ex {K : PySem.W.Frag} {mg : Str → Option Value} {G : Gb} {M : Str → Int → List CV → Option CV} {ts : List Ty} {fi : Addr} (Z : Gz K mg G M ts fi) (a : Addr) (p : Option (Addr × Str × CV)) : Gz K mg (G.ex a p) M ts fi := { mem := Z.mem, eK := Z.eK, m := Z.m, W := Z.W, M := Z.M }
/-- the table of a def that makes lambdas, one of several -/
structure Lx (mg : Str → Option Value) (base : Heap) (G : Gb) (fd : FuncData) (q : Str) (c P : Addr) : Prop where
  tb : TabB base mg c P
  code : fd.code = .ref c
  mem : (P, q) ∈ G.tabs
  un : ∀ p ∈ G.tabs, p.1 = P → p.2 = q
theorem Lx.to {mg : Str → Option Value} {base : Heap} {G G2 : Gb} {fd : FuncData} {q : Str} {c P : Addr} (L : Lx mg base G fd q c P) (e : G.tabs = G2.tabs) : Lx mg base G2 fd q c P := ⟨L.tb, L.code, e ▸ L.mem, e ▸ L.un⟩
end Rn

set_option Elab.async false
set_option linter.all false
set_option maxRecDepth 100000
set_option maxHeartbeats 4000000
namespace CpCmb
open PySem PySem.Spec
open Sem (wp)
theorem mro_cmb : mroOf (.type "itertools.combinations") = pure [.type "itertools.combinations", .type "object"] := by rw [mroOf_type]; kernel_rfl
theorem lookup_cmb_new : typeLookup (.type "itertools.combinations") "__new__" = pure (some (.builtin "itertools.combinations.__new__")) := by rw [typeLookup_type, builtinLookup_eq_fast]; kernel_rfl
theorem slot_cmb_init : Slot "itertools.combinations" "__init__" "object.__init__" :=
  .of (owner := "object") (n := "__init__") (by rw [typeLookup_type, builtinLookup_eq_fast]; kernel_rfl) (by decide +kernel) (by decide +kernel) (by decide +kernel)
    (by first | exact .inl (by decide +kernel) | exact .inr (by decide +kernel)) (by rw [isSubtype_type]; kernel_rfl)
theorem sub_cmb : isSubtype (.type "itertools.combinations") (.type "itertools.combinations") = pure true := by rw [isSubtype_type]; kernel_rfl
theorem called_cmb : TypeCalled "itertools.combinations" "itertools.combinations.__new__" "object.__init__" :=
  ⟨by decide +kernel, by decide +kernel, ⟨_, _, mro_cmb⟩, madeBy_type mro_cmb lookup_cmb_new (by decide +kernel), by decide +kernel, sub_cmb, slot_cmb_init⟩
theorem typeCall_cmb_2 (a b : Value) : checkTypeCall "itertools.combinations" ⟨[a, b], []⟩ = pure () := by kernel_rfl
theorem newCall_cmb_2 (a b : Value) : checkBuiltinCall "itertools.combinations.__new__" ⟨[.type "itertools.combinations", a, b], []⟩ = pure () := by kernel_rfl
theorem entry_cmb_new : entryFor table "itertools.combinations.__new__" = some Builtin.«itertools.combinations.__new__» := entryFor_of_tree (by kernel_rfl)
theorem slot_cmb_iter : Slot "itertools.combinations" "__iter__" "itertools.combinations.__iter__" :=
  .of (owner := "itertools.combinations") (n := "__iter__") (by rw [typeLookup_type, builtinLookup_eq_fast]; kernel_rfl) (by decide +kernel) (by decide +kernel) (by decide +kernel)
    (by first | exact .inl (by decide +kernel) | exact .inr (by decide +kernel)) sub_cmb
theorem slot_cmb_next : Slot "itertools.combinations" "__next__" "itertools.combinations.__next__" :=
  .of (owner := "itertools.combinations") (n := "__next__") (by rw [typeLookup_type, builtinLookup_eq_fast]; kernel_rfl) (by decide +kernel) (by decide +kernel) (by decide +kernel)
    (by first | exact .inl (by decide +kernel) | exact .inr (by decide +kernel)) sub_cmb
theorem entry_cmb_iter : entryFor table "itertools.combinations.__iter__" = some Builtin.«dict_keyiterator.__iter__» :=
  entryFor_alias (id' := "dict_keyiterator.__iter__") (by kernel_rfl) (by first | rfl | decide +kernel | (unfold String.splitOn; simp +decide [String.splitOnAux])) (by decide +kernel) (by kernel_rfl)
theorem entry_cmb_next : entryFor table "itertools.combinations.__next__" = some Builtin.«itertools.combinations.__next__» := entryFor_of_tree (by kernel_rfl)
theorem owner_cmb : Manifest.owners.lookup (String.ofList ['s', 'n', 'o', 'i', 't', 'a', 'n', 'i', 'b', 'm', 'o', 'c', '.', 's', 'l', 'o', 'o', 't', 'r', 'e', 't', 'i'].reverse) = some Manifest.sig_itertools_combinations := by kernel_rfl
theorem args_cmb_iter (a : Value) : argsOk "itertools.combinations.__iter__" ⟨[a], []⟩ := by
  unfold argsOk; rw [signature?_of (id := "itertools.combinations.__iter__") (n := ['_', '_', 'r', 'e', 't', 'i', '_', '_']) (o := ['s', 'n', 'o', 'i', 't', 'a', 'n', 'i', 'b', 'm', 'o', 'c', '.', 's', 'l', 'o', 'o', 't', 'r', 'e', 't', 'i']) (by kernel_rfl) owner_cmb]; kernel_rfl
theorem args_cmb_next (a : Value) : argsOk "itertools.combinations.__next__" ⟨[a], []⟩ := by
  unfold argsOk; rw [signature?_of (id := "itertools.combinations.__next__") (n := ['_', '_', 't', 'x', 'e', 'n', '_', '_']) (o := ['s', 'n', 'o', 'i', 't', 'a', 'n', 'i', 'b', 'm', 'o', 'c', '.', 's', 'l', 'o', 'o', 't', 'r', 'e', 't', 'i']) (by kernel_rfl) owner_cmb]; kernel_rfl
theorem noDict_cmb : typeHasDict (.type "itertools.combinations") = false := by decide +kernel

end CpCmb

set_option Elab.async false
set_option linter.all false
set_option maxRecDepth 100000
set_option maxHeartbeats 4000000
namespace CpCmb
open PySem PySem.Spec
open Sem (wp)
/-- all ways to choose so many of a list, in its order -/
def cmb {α : Type} : Nat → List α → List (List α)
  | 0, _ => [[]]
  | _ + 1, [] => []
  | r + 1, x :: xs => (cmb r xs).map (x :: ·) ++ cmb (r + 1) xs
theorem cmb_map {α β : Type} (f : α → β) : ∀ (r : Nat) (xs : List α), cmb r (xs.map f) = (cmb r xs).map (·.map f)
  | 0, _ => by unfold cmb; rfl
  | _ + 1, [] => by unfold cmb; rfl
  | r + 1, x :: xs => by
    rw [List.map_cons]
    unfold cmb
    rw [cmb_map f r xs, cmb_map f (r + 1) xs, List.map_append, List.map_map, List.map_map]
    rfl
def fieldsC (p : Addr) (st : Int) (last : Value) (is : List Nat) : Array Value := ([.ref p, rawInt st, last] ++ is.map fun (i : Nat) => rawInt i).toArray
abbrev IsCmb (h : Heap) (it p : Addr) (st : Int) (last : Value) (is : List Nat) : Prop := h.get? it = some { cls := .type "itertools.combinations", dict := none, data := .fields (fieldsC p st last is), slots := #[] }
theorem meets_cmb_new (a : Addr) {T : String} {o : Obj} {items : Array Value} {n : Nat} (hT : T = "list" ∨ T = "tuple") (hc : o.cls = .type T) (hd : o.data = .seq items n) (r : Nat) (t : Tok) (h1 : r ≤ 8) (h2 : items.size ≤ 8) :
    Meets (Builtin.«itertools.combinations.__new__» ⟨[.type "itertools.combinations", .ref a, .int (r : Nat) t], []⟩)
      (fun _ R s => s.heap.get? a = some o ∧ ∀ h' : Heap, (∀ b o, s.heap.get? b = some o → h'.get? b = some o) →
        R (.ok (.ret (.ref (h'.push { cls := .type "tuple", data := .seq items }).objs.size))) { s with heap := (h'.push { cls := .type "tuple", data := .seq items }).push { cls := .type "itertools.combinations", data := .fields (fieldsC h'.objs.size (if r > items.size then 2 else 0) .none (List.range r)) } }) :=
  .of_wp fun prog w A R s h => by
    obtain ⟨hp, g, dd, tk, os⟩ := s
    obtain ⟨ho, h⟩ := h
    have hsub := sub_cmb
    have hdd := noDict_cmb
    unfold Builtin.«itertools.combinations.__new__»
    show wpAny _ _ _ _ _ _
    repeat (first
      | wp_step
      | simp only [List.head?_cons, Option.some_or, List.getElem?_cons_succ, List.getElem?_cons_zero, List.length_cons, List.length_nil, List.forIn_nil])
    rw [show ("itertools." ++ "combinations" : String) = "itertools.combinations" from rfl]
    repeat (first
      | wp_step
      | simp only [List.head?_cons, Option.some_or, List.getElem?_cons_succ, List.getElem?_cons_zero, List.length_cons, List.length_nil, List.forIn_nil])
    have c1 : ¬ ((decide ((r : Int) < -2 ^ 63) || decide ((r : Int) ≥ 2 ^ 63)) = true) := by rw [Bool.or_eq_true, decide_eq_true_eq, decide_eq_true_eq]; omega
    rw [if_neg c1]
    refine wpAny_pure ?_
    refine wpAny_bind (wpAny_collect_seq a hT ho hc hd (fun h' kp => ?_) (Nat.le_trans h2 (by decide)))
    have c2 : ¬ (Builtin.Itertools.itTooMany ((r : Nat) : Int) = true) := by
      unfold Builtin.Itertools.itTooMany
      rw [decide_eq_true_eq]; omega
    have c3 : ¬ (((r : Nat) : Int) < 0) := by omega
    rw [if_neg c3, if_neg c2]
    refine wpAny_bind (wpAny_newTuple ?_ (by rw [Array.length_toList]; exact Nat.le_trans h2 (by decide)))
    refine wpAny_pure ?_
    refine wpAny_bind ?_
    unfold Builtin.Itertools.itNewRecord
    rw [if_pos (show (!typeHasDict (Value.type "itertools.combinations")) = true by rw [hdd]; rfl)]
    refine wpAny_newObj_type ?_ ?_
    · refine wpAny_pure ?_
      refine ⟨_, rfl, ?_⟩
      exact h h' kp
    · show Array.size _ ≤ sizeLine + 2
      rw [List.size_toArray, List.length_append, List.length_map, List.length_range]
      show 3 + r ≤ _
      exact Nat.le_trans (Nat.add_le_add_left h1 3) (by decide)
section
variable {prog : Program} {w : World} {A : Around} {E : Value → Shared → Prop} {s : Shared}
theorem call_cmb {a : Addr} {T : String} {o : Obj} {items : Array Value} {n : Nat} {r : Nat} {t : Tok} {Q : Value → Shared → Prop} (hT : T = "list" ∨ T = "tuple") (hc : o.cls = .type T) (hd : o.data = .seq items n) (h1 : r ≤ 8) (h2 : items.size ≤ 8) (ho : s.heap.get? a = some o)
    (h : ∀ (h0 h' : Heap) (it p : Addr), (∀ b o, s.heap.get? b = some o → h0.get? b = some o) → h0.objs.size ≤ it → h0.objs.size ≤ p → p ≠ it → IsCmb h' it p (if r > items.size then 2 else 0) .none (List.range r) → h'.get? p = some { cls := .type "tuple", data := .seq items } → (∀ b o, h0.get? b = some o → h'.get? b = some o) → Q (.ref it) { s with heap := h' }) :
    wpAny (model prog w) A (call (.type "itertools.combinations") [.ref a, .int (r : Nat) t]) Q E s := by
  refine callType_new called_cmb (by decide +kernel) (typeCall_cmb_2 _ _) (newCall_cmb_2 _ _) (fun obj => F.args_object_init_3 obj _ _) entry_cmb_new (meets_cmb_new a hT hc hd r t h1 h2) ⟨ho, fun h' kp => ?_⟩
  have z1 := Heap.size_push h' ({ cls := .type "tuple", data := .seq items } : Obj)
  have q : ((h'.push ({ cls := .type "tuple", data := .seq items } : Obj)).push ({ cls := .type "itertools.combinations", data := .fields (fieldsC h'.objs.size (if r > items.size then 2 else 0) .none (List.range r)) } : Obj)).get? (h'.push ({ cls := .type "tuple", data := .seq items } : Obj)).objs.size = _ := Heap.get?_push_size _ rfl
  have a1 : h'.objs.size ≤ (h'.push ({ cls := .type "tuple", data := .seq items } : Obj)).objs.size := by rw [z1]; exact Nat.le_succ _
  have a2 : h'.objs.size ≠ (h'.push ({ cls := .type "tuple", data := .seq items } : Obj)).objs.size := by rw [z1]; exact (Nat.succ_ne_self _).symm
  exact ⟨⟨_, q, rfl⟩, h h' _ _ h'.objs.size kp a1 (Nat.le_refl _) a2 q (Heap.get?_push_of_some _ (Heap.get?_push_size _ rfl)) fun b ob e => Heap.get?_push_of_some _ (Heap.get?_push_of_some _ e)⟩
theorem iter_cmb {it p : Addr} {st : Int} {last : Value} {is : List Nat} {Q : Value → Shared → Prop} (hit : IsCmb s.heap it p st last is) (h : Q (.ref it) s) : wpAny (model prog w) A (pyIter (.ref it)) Q E s := by
  have hT : s.TypeIs (.ref it) "itertools.combinations" := ⟨_, hit, rfl⟩
  refine wpAny_pyIter_slot hT slot_cmb_iter (wpAny_call_entry slot_cmb_iter hT entry_cmb_iter ?_ (args_cmb_iter _))
  show wpAny _ _ (ret (.ref it)) _ _ s
  exact wpAny_pure ⟨_, rfl, "itertools.combinations", _, hT, slot_cmb_next.lookup, h⟩
end
end CpCmb

set_option Elab.async false
set_option linter.all false
set_option maxRecDepth 100000
set_option maxHeartbeats 4000000
namespace CpCmb
open PySem PySem.Spec
open Sem (wp)
section
variable {prog : Program} {w : World} {A : Around} {E : Value → Shared → Prop} {s : Shared}
theorem nums_of {p : Addr} {st : Int} {last : Value} {is : List Nat} (f : Value → Nat) (hf : ∀ i : Nat, f (rawInt i) = i) : ((fieldsC p st last is).toList.drop 3).map f = is := by
  unfold fieldsC
  rw [List.toList_toArray]
  show (is.map fun (i : Nat) => rawInt i).map f = is
  rw [List.map_map]
  conv => rhs; rw [← List.map_id is]
  exact List.map_congr_left fun i _ => hf i
theorem upd1 {h : Heap} {it p : Addr} {st st' : Int} {last : Value} {is : List Nat} (hit : IsCmb h it p st last is) : IsCmb (h.update it (Obj.mapFields fun x => x.setIfInBounds 1 (rawInt st'))) it p st' last is := Heap.get?_update_self _ hit rfl
theorem upd2 {h : Heap} {it p : Addr} {st : Int} {last last' : Value} {is : List Nat} (hit : IsCmb h it p st last is) : IsCmb (h.update it (Obj.mapFields fun x => x.setIfInBounds 2 last')) it p st last' is := Heap.get?_update_self _ hit rfl
def pickV (items : Array Value) (is : List Nat) : List Value := is.map fun i => items.getD i .none
/-- what is handed out -/
theorem hand_out {it p : Addr} {st : Int} {last : Value} {is0 is : List Nat} {items : Array Value} {n : Nat} {pool : Value} {Q : Fin → Shared → Prop} (hpl : pool = .ref p) (hit : IsCmb s.heap it p st last is0) (hp : s.heap.get? p = some { cls := .type "tuple", data := .seq items n }) (hl : is.length ≤ 8)
    (hQ : ∀ h' : Heap, IsCmb h' it p st (.ref s.heap.objs.size) is0 → h'.get? s.heap.objs.size = some { cls := .type "tuple", data := .seq (pickV items is).toArray } → (∀ b o, b ≠ it → s.heap.get? b = some o → h'.get? b = some o) → Q (.done (.ret (.ref s.heap.objs.size))) { s with heap := h' }) :
    wpAny (model prog w) A (do
      let result ← (do
        let items ← Builtin.Itertools.itPoolItems pool
        newTuple (is.map fun i => items.getD i .none))
      let before ← field (.ref it) 2
      setField (.ref it) 2 result
      letGo [before] [result]
      ret result) Q E s := by
  subst hpl
  refine wpAny_bind (wpAny_bind ?_)
  unfold Builtin.Itertools.itPoolItems
  refine wpAny_bind (wpAny_seqItems hp rfl (wpAny_pure ?_))
  refine wpAny_newTuple ?_ (by rw [List.length_map]; exact Nat.le_trans hl (by decide))
  have ne : it ≠ s.heap.objs.size := Nat.ne_of_lt (Heap.lt_size hit)
  have hit1 : IsCmb (s.heap.push { cls := .type "tuple", data := .seq (is.map fun i => items.getD i .none).toArray }) it p st last is0 := Heap.get?_push_of_some _ hit
  refine wpAny_bind (wpAny_field hit1 rfl (x := last) rfl ?_)
  refine wpAny_bind (wpAny_setField hit1 rfl (by show 2 < (fieldsC _ _ _ _).size; unfold fieldsC; rw [List.size_toArray, List.length_append]; exact Nat.lt_of_lt_of_le (by decide : 2 < 3) (Nat.le_add_right _ _)) ?_)
  refine wpAny_bind (wpAny_letGo (wpAny_pure ?_))
  refine hQ _ (upd2 hit1) ?_ fun b o hb e => ?_
  · refine (Heap.get?_update_other _ _ ne).trans ?_
    exact Heap.get?_push_size _ rfl
  · refine (Heap.get?_update_other _ _ (Ne.symm hb)).trans ?_
    exact Heap.get?_push_of_some _ e
/-- the first turn -/
theorem cmb_first {it p : Addr} {last : Value} {is : List Nat} {items : Array Value} {n : Nat} {Q : Option Value → Shared → Prop} (hit : IsCmb s.heap it p 0 last is) (hp : s.heap.get? p = some { cls := .type "tuple", data := .seq items n }) (hne : p ≠ it) (hl : is.length ≤ 8)
    (hQ : ∀ h' : Heap, IsCmb h' it p 1 (.ref s.heap.objs.size) is → h'.get? s.heap.objs.size = some { cls := .type "tuple", data := .seq (pickV items is).toArray } → (∀ b o, b ≠ it → s.heap.get? b = some o → h'.get? b = some o) → Q (some (.ref s.heap.objs.size)) { s with heap := h' }) :
    wpAny (model prog w) A (callSpecial? (.ref it) "__next__") Q E s := by
  have hT : s.TypeIs (.ref it) "itertools.combinations" := ⟨_, hit, rfl⟩
  refine wpAny_callSpecial?_slot (name := Str.ofString "__next__") hT slot_cmb_next (wpAny_call_entry slot_cmb_next hT entry_cmb_next ?_ (args_cmb_next _))
  show wpAny _ _ (field (.ref it) 0 >>= _) _ _ s
  refine wpAny_bind (wpAny_field hit rfl (x := .ref p) rfl ?_)
  unfold Builtin.Itertools.itNumbersFrom
  refine wpAny_bind (wpAny_bind (wpAny_load hit ?_))
  refine wpAny_pure ?_
  rw [nums_of _ (fun _ => rfl)]
  unfold Builtin.Itertools.itIntField
  refine wpAny_bind (wpAny_bind (wpAny_field hit rfl (x := .int 0 0) rfl (wpAny_pure ?_)))
  show wpAny _ _ (setField (.ref it) 1 (rawInt 1) >>= _) _ _ s
  refine wpAny_bind (wpAny_setField hit rfl (by show 1 < (fieldsC _ _ _ _).size; unfold fieldsC; rw [List.size_toArray, List.length_append]; exact Nat.lt_of_lt_of_le (by decide : 1 < 3) (Nat.le_add_right _ _)) ?_)
  refine hand_out (items := items) (n := n) rfl (upd1 hit) ((Heap.get?_update_other _ _ (Ne.symm hne)).trans hp) hl fun h' k1 k2 k3 => ?_
  have sz : (s.heap.update it (Obj.mapFields fun x => x.setIfInBounds 1 (rawInt 1))).objs.size = s.heap.objs.size := Heap.size_update ..
  dsimp only at k1 k2 k3 ⊢
  rw [sz] at k1 k2 ⊢
  exact ⟨_, rfl, hQ h' k1 k2 fun b o hb e => k3 b o hb ((Heap.get?_update_other _ _ (Ne.symm hb)).trans e)⟩
theorem upd3 {h : Heap} {it p : Addr} {st : Int} {last : Value} {is is' : List Nat} (hit : IsCmb h it p st last is) : IsCmb (h.update it (Obj.mapFields fun fs => fs.extract 0 3 ++ (is'.map fun (n : Nat) => rawInt n).toArray)) it p st last is' := by
  have q := Heap.get?_update_self (Obj.mapFields fun fs => fs.extract 0 3 ++ (is'.map fun (n : Nat) => rawInt n).toArray) hit rfl
  refine q.trans ?_
  have e : (fieldsC p st last is).extract 0 3 ++ (is'.map fun (n : Nat) => rawInt n).toArray = fieldsC p st last is' := by
    unfold fieldsC
    apply Array.ext'
    simp
  show some ({ cls := _, dict := none, data := .fields ((fieldsC p st last is).extract 0 3 ++ (is'.map fun (n : Nat) => rawInt n).toArray), slots := #[] } : Obj) = _
  rw [e]
theorem via {α : Type} {o o' : Option α} {x : α} (a : o = some x) (b : o = o') : o' = some x := b ▸ a
theorem viaN {α : Type} {o o' : Option α} (a : o = none) (b : o = o') : o' = none := b ▸ a
theorem cmb_len {α : Type} : ∀ {r : Nat} {xs ys : List α}, ys ∈ cmb r xs → ys.length = r
  | 0, xs, ys, h => by
    unfold cmb at h
    rw [List.mem_singleton.mp h]
    rfl
  | _ + 1, [], ys, h => by
    unfold cmb at h
    cases h
  | r + 1, x :: xs, ys, h => by
    unfold cmb at h
    rcases List.mem_append.mp h with h | h
    · obtain ⟨zs, h1, h2⟩ := List.mem_map.mp h
      rw [← h2, List.length_cons, cmb_len h1]
    · exact cmb_len h
theorem all_steps {f : Nat → List Nat → Option (List Nat)} (h : ((List.range 9).all fun n => (List.range 9).all fun r => (List.range (cmb r (List.range n)).length).all fun k => decide (f n ((cmb r (List.range n)).getD k []) = (cmb r (List.range n))[k + 1]?)) = true) {n r k : Nat} (hn : n ≤ 8) (hr : r ≤ 8) (hk : k < (cmb r (List.range n)).length) :
    f n ((cmb r (List.range n)).getD k []) = (cmb r (List.range n))[k + 1]? := by
  have a := List.all_eq_true.mp h n (List.mem_range.mpr (by omega))
  have b := List.all_eq_true.mp a r (List.mem_range.mpr (by omega))
  have c := List.all_eq_true.mp b k (List.mem_range.mpr hk)
  exact of_decide_eq_true c
/-- the end -/
theorem stop_ok {α : Type} {it : Addr} {s0 : Shared} {Q : α → Shared → Prop} (hh : A.handled = none) (b0 : Heap.ExtBut it s0.heap s.heap) (hs : s = { s0 with heap := s.heap }) (hQ : ∀ e h', CpRep.StopE e h' → Heap.ExtBut it s0.heap h' → E e { s0 with heap := h' }) : wpAny (model prog w) A (Builtin.Itertools.itStop : Sem α) Q E s := by
  unfold Builtin.Itertools.itStop
  show wpAny _ _ (newExc (.type "StopIteration") [] >>= _) _ _ _
  refine wpAny_bind ?_
  simp only [newExc, newTuple]
  refine wpAny_bind (wpAny_newObj_type ?_ (by size_fits))
  refine wpAny_bind (m := firstArgMember _ _) (wpAny_of_eq (a := Value.none) (by first | rfl | (simp only [firstArgMember]; rfl)) ?_)
  refine wpAny_newObj_type ?_ (by size_fits)
  simp only [raiseNew]
  refine wpAny_bind (wpAny_handled ?_)
  rw [hh]
  refine wpAny_bind (wpAny_pure (wpAny_throw ?_))
  rw [hs]
  exact hQ _ _ ⟨_, _, _, rfl, Heap.get?_push_size _ rfl, rfl, rfl, rfl⟩ ((b0.push _).push _)
/-- a turn that is not the first -/
theorem cmb_next {it p : Addr} {last : Value} {r k : Nat} {items : Array Value} {n : Nat} {Q : Option Value → Shared → Prop} (hh : A.handled = none) (hr : r ≤ 8) (hn : items.size ≤ 8) (hk : k < (cmb r (List.range items.size)).length) (hit : IsCmb s.heap it p 1 last ((cmb r (List.range items.size)).getD k [])) (hp : s.heap.get? p = some { cls := .type "tuple", data := .seq items n }) (hne : p ≠ it)
    (hQ : ∀ is', (cmb r (List.range items.size))[k + 1]? = some is' → ∀ h' : Heap, IsCmb h' it p 1 (.ref s.heap.objs.size) is' → h'.get? s.heap.objs.size = some { cls := .type "tuple", data := .seq (pickV items is').toArray } → (∀ b o, b ≠ it → s.heap.get? b = some o → h'.get? b = some o) → Q (some (.ref s.heap.objs.size)) { s with heap := h' })
    (hE : (cmb r (List.range items.size))[k + 1]? = none → ∀ e h', CpRep.StopE e h' → Heap.ExtBut it s.heap h' → E e { s with heap := h' }) :
    wpAny (model prog w) A (callSpecial? (.ref it) "__next__") Q E s := by
  have hT : s.TypeIs (.ref it) "itertools.combinations" := ⟨_, hit, rfl⟩
  refine wpAny_callSpecial?_slot (name := Str.ofString "__next__") hT slot_cmb_next (wpAny_call_entry slot_cmb_next hT entry_cmb_next ?_ (args_cmb_next _))
  show wpAny _ _ (field (.ref it) 0 >>= _) _ _ s
  refine wpAny_bind (wpAny_field hit rfl (x := .ref p) rfl ?_)
  unfold Builtin.Itertools.itNumbersFrom
  refine wpAny_bind (wpAny_bind (wpAny_load hit ?_))
  refine wpAny_pure ?_
  rw [nums_of _ (fun _ => rfl)]
  unfold Builtin.Itertools.itIntField
  refine wpAny_bind (wpAny_bind (wpAny_field hit rfl (x := .int 1 0) rfl (wpAny_pure ?_)))
  show wpAny _ _ (Builtin.Itertools.itPoolItems (.ref p) >>= _) _ _ s
  unfold Builtin.Itertools.itPoolItems
  refine wpAny_bind (wpAny_bind (wpAny_seqItems hp rfl (wpAny_pure ?_)))
  dsimp only
  split
  · rename_i is' heq
    have q := via heq (all_steps (by decide +kernel) hn hr hk)
    have hl : is'.length ≤ 8 := by
      have a : is' ∈ cmb r (List.range items.size) := List.mem_of_getElem? q
      rw [cmb_len a]
      exact hr
    refine wpAny_bind ?_
    unfold Builtin.Itertools.itSetNumbersFrom
    refine wpAny_updateFields hit rfl ?_ ?_
    · have hit3 := upd3 (is' := is') hit
      refine hand_out (items := items) (n := n) rfl hit3 ((Heap.get?_update_other _ _ (Ne.symm hne)).trans hp) hl fun h' k1 k2 k3 => ?_
      have sz : (s.heap.update it (Obj.mapFields fun fs => fs.extract 0 3 ++ (is'.map fun (n : Nat) => rawInt n).toArray)).objs.size = s.heap.objs.size := Heap.size_update ..
      dsimp only at k1 k2 k3 ⊢
      rw [sz] at k1 k2 ⊢
      exact ⟨_, rfl, hQ is' q h' k1 k2 fun b o hb e => k3 b o hb ((Heap.get?_update_other _ _ (Ne.symm hb)).trans e)⟩
    · have z : (fieldsC p 1 last ((cmb r (List.range items.size)).getD k [])).extract 0 3 ++ (is'.map fun (n : Nat) => rawInt n).toArray = fieldsC p 1 last is' := by
        unfold fieldsC
        apply Array.ext'
        simp
      show Array.size ((fieldsC p 1 last ((cmb r (List.range items.size)).getD k [])).extract 0 3 ++ (is'.map fun (n : Nat) => rawInt n).toArray) ≤ _
      rw [z]
      unfold fieldsC
      rw [List.size_toArray, List.length_append, List.length_map]
      exact Nat.le_trans (Nat.add_le_add_left hl 3) (by decide)
  · rename_i heq
    have q := viaN heq (all_steps (by decide +kernel) hn hr hk)
    refine wpAny_bind (wpAny_setField hit rfl (by show 1 < (fieldsC _ _ _ _).size; unfold fieldsC; rw [List.size_toArray, List.length_append]; exact Nat.lt_of_lt_of_le (by decide : 1 < 3) (Nat.le_add_right _ _)) ?_)
    exact stop_ok (s0 := s) hh (fun b o hb e => (Heap.get?_update_other _ _ (Ne.symm hb)).trans e) rfl (hE q)
/-- where there is nothing to choose -/
theorem cmb_none {it p : Addr} {last : Value} {is : List Nat} {Q : Option Value → Shared → Prop} (hh : A.handled = none) (hit : IsCmb s.heap it p 2 last is)
    (hE : ∀ e h', CpRep.StopE e h' → Heap.ExtBut it s.heap h' → E e { s with heap := h' }) : wpAny (model prog w) A (callSpecial? (.ref it) "__next__") Q E s := by
  have hT : s.TypeIs (.ref it) "itertools.combinations" := ⟨_, hit, rfl⟩
  refine wpAny_callSpecial?_slot (name := Str.ofString "__next__") hT slot_cmb_next (wpAny_call_entry slot_cmb_next hT entry_cmb_next ?_ (args_cmb_next _))
  show wpAny _ _ (field (.ref it) 0 >>= _) _ _ s
  refine wpAny_bind (wpAny_field hit rfl (x := .ref p) rfl ?_)
  unfold Builtin.Itertools.itNumbersFrom
  refine wpAny_bind (wpAny_bind (wpAny_load hit ?_))
  refine wpAny_pure ?_
  rw [nums_of _ (fun _ => rfl)]
  unfold Builtin.Itertools.itIntField
  refine wpAny_bind (wpAny_bind (wpAny_field hit rfl (x := .int 2 0) rfl (wpAny_pure ?_)))
  refine wpAny_bind (wpAny_rule ?_)
  exact stop_ok (s0 := s) hh (Heap.ExtBut.refl it s.heap) rfl hE
end
end CpCmb

set_option Elab.async false
set_option linter.all false
set_option maxRecDepth 100000
set_option maxHeartbeats 4000000
namespace Rn
open PySem PySem.Spec PyProof.Rows L2 LamX NdefX
open CpCmb
/-! ### itertools.combinations of a list, of a tuple -/
def Itc (vs : List V) (r : Nat) : It where
  go := fun i _ => i < (cmb r vs).length
  yld := fun i H v H' => ∃ T zs, v = .ref T ∧ H T = none ∧ H' = upd H T (.tup zs) ∧ (cmb r vs)[i]? = some zs
  stop := fun i _ => i = (cmb r vs).length
def pickL (vs : List V) (is : List Nat) : List V := is.map fun i => vs.getD i .non
theorem cmb_pick (r : Nat) (vs : List V) : cmb r vs = (cmb r (List.range vs.length)).map (pickL vs) := by
  have e : vs = (List.range vs.length).map fun i => vs.getD i .non := by
    apply List.ext_getElem
    · rw [List.length_map, List.length_range]
    · intro i h1 h2
      rw [List.getElem_map, List.getElem_range, List.getD_eq_getElem?_getD, List.getElem?_eq_getElem h1]
      rfl
  conv => lhs; rw [e]
  rw [cmb_map]
  rfl
theorem first_all : ((List.range 9).all fun n => (List.range 9).all fun r => decide (if r ≤ n then (cmb r (List.range n))[0]? = some (List.range r) else cmb r (List.range n) = [])) = true := by decide +kernel
theorem first_at {n r : Nat} (hn : n ≤ 8) (hr : r ≤ 8) : if r ≤ n then (cmb r (List.range n))[0]? = some (List.range r) else cmb r (List.range n) = [] := by
  have a := List.all_eq_true.mp first_all n (List.mem_range.mpr (by omega))
  have b := List.all_eq_true.mp a r (List.mem_range.mpr (by omega))
  exact of_decide_eq_true b
theorem vals_pick {vs : List V} {its : List Value} (rv : Vals vs its) : ∀ is : List Nat, Vals (pickL vs is) (pickV its.toArray is)
  | [] => .nil
  | i :: is => by
    refine .cons ?_ (vals_pick rv is)
    have e : its.toArray.getD i Value.none = its.getD i .none := by
      rw [List.getD_eq_getElem?_getD, Array.getD_eq_getD_getElem?]
      simp
    show RelV (vs.getD i .non) (its.toArray.getD i Value.none)
    rw [e, List.getD_eq_getElem?_getD, List.getD_eq_getElem?_getD]
    by_cases h : i < vs.length
    · obtain ⟨u, hu, ru⟩ := rv.get (List.getElem?_eq_getElem h)
      rw [List.getElem?_eq_getElem h, hu]
      exact ru
    · rw [List.getElem?_eq_none (by omega), List.getElem?_eq_none (by rw [← rv.length]; omega)]
      rfl
def CmbSt (its : List Value) (r : Nat) (it p : Addr) (i : Nat) (h : Heap) : Prop := h.get? p = some { cls := .type "tuple", data := .seq its.toArray } ∧ p ≠ it ∧
  ((i = 0 ∧ ((its.length < r ∧ IsCmb h it p 2 .none (List.range r)) ∨ (r ≤ its.length ∧ IsCmb h it p 0 .none (List.range r)))) ∨
    ∃ k last, i = k + 1 ∧ k < (cmb r (List.range its.length)).length ∧ IsCmb h it p 1 last ((cmb r (List.range its.length)).getD k []))
theorem CmbSt.is {its : List Value} {r : Nat} {it p : Addr} {i : Nat} {h : Heap} (st : CmbSt its r it p i h) : ∃ x last is, IsCmb h it p x last is := by
  obtain ⟨_, _, ⟨_, ⟨_, q⟩ | ⟨_, q⟩⟩ | ⟨k, last, _, _, q⟩⟩ := st
  · exact ⟨_, _, _, q⟩
  · exact ⟨_, _, _, q⟩
  · exact ⟨_, _, _, q⟩
theorem next_stop {prog : Program} {w : World} {A : Around} {E : Value → Shared → Prop} {s : Shared} {it : Addr} {Q : Option Value → Shared → Prop} (hQ : ∀ h', Heap.ExtBut it s.heap h' → Q none { s with heap := h' })
    (h : ∀ (E' : Value → Shared → Prop) (Q' : Option Value → Shared → Prop), (∀ e h', CpRep.StopE e h' → Heap.ExtBut it s.heap h' → E' e { s with heap := h' }) → wpAny (model prog w) A (callSpecial? (.ref it) "__next__") Q' E' s) : wpAny (model prog w) A (pyNext (.ref it)) Q E s := by
  unfold pyNext
  refine wpAny_bind (wpAny_attempt (h _ _ fun e h' he hx => ?_))
  obtain ⟨a, o, vs, rfl, ho, hc, _⟩ := he
  refine wpAny_bind (wpAny_isInstance (T := "StopIteration") (b := true) ⟨o, ho, hc⟩ isSubtype_stop ?_)
  exact wpAny_pure (hQ _ hx)
theorem turn_cmb {P : Program} {w : World} {K : PySem.W.Frag} {tg : Expr} {vs : List V} {its : List Value} {r : Nat} (it p : Addr) (rv : Vals vs its) (hr : r ≤ 8) (hn : its.length ≤ 8) : Turn P w K tg (Itc vs r) [it, p] it (CmbSt its r it p) where
  mem := List.mem_cons_self
  obj := fun i h st b hb => by
    rcases List.mem_cons.mp hb with z | z
    · subst z
      obtain ⟨x, last, is, q⟩ := st.is
      exact ⟨_, q, fun v z => nomatch z⟩
    · have z' := List.mem_singleton.mp z
      subst z'
      exact ⟨_, st.1, fun v z => nomatch z⟩
  keep := fun i h h' st k => by
    obtain ⟨h1, h2, h3⟩ := st
    have ki := k it (by simp)
    refine ⟨k p (by simp) _ h1, h2, ?_⟩
    rcases h3 with ⟨e, ⟨a, q⟩ | ⟨a, q⟩⟩ | ⟨kk, last, e, a, q⟩
    · exact .inl ⟨e, .inl ⟨a, ki _ q⟩⟩
    · exact .inl ⟨e, .inr ⟨a, ki _ q⟩⟩
    · exact .inr ⟨kk, last, e, a, ki _ q⟩
  item := by
    intro X hP hw hK hc i pins s σ H E I hf st hg
    subst hP hw hK
    obtain ⟨h1, h2, h3⟩ := st
    have hl : vs.length = its.length := rv.length
    have hsz : its.toArray.size = its.length := List.size_toArray
    have hg' : i < (cmb r vs).length := hg
    rw [cmb_pick, List.length_map, hl] at hg'
    have fin : ∀ (is' : List Nat) (T : Addr) (h' : Heap), T = s.heap.objs.size → (cmb r (List.range its.length))[i]? = some is' → IsCmb h' it p 1 (.ref T) is' → h'.get? T = some { cls := .type "tuple", data := .seq (pickV its.toArray is').toArray } → (∀ b o, b ≠ it → s.heap.get? b = some o → h'.get? b = some o) →
        ∃ u, some (Value.ref T) = some u ∧ wpAny (model X.prog X.w) X.A (letOwnedTupleGo tg (.ref it) u) (fun _ s2 => ∃ x H', Inv X pins σ H' s2 ∧ RelV x u ∧ (Itc vs r).yld i H x H' ∧ CmbSt its r it p (i + 1) s2.heap ∧ ∀ b ∈ [it, p], H' b = none) E { s with heap := h' } := by
      intro is' T h' eT q k1 k2 k3
      subst eT
      refine ⟨_, rfl, go_of k1 rfl rfl (by decide) ?_⟩
      have hlen : is'.length ≤ 8 := by
        rw [cmb_len (List.mem_of_getElem? q)]
        exact hr
      have okB : ObjOk X.prog X.w (upd H s.heap.objs.size (.tup (pickL vs is'))) h' s.heap.objs.size (.tup (pickL vs is')) :=
        ⟨by unfold pickL; rw [List.length_map]; exact Nat.le_trans hlen (by decide), pickV its.toArray is', vals_pick rv is', _, k2, rfl, _, rfl⟩
      have IB : Inv X pins σ (upd H s.heap.objs.size (.tup (pickL vs is'))) { s with heap := h', toks := s.toks } := I.turnedNew (ch := [it]) (fun b o nb e => k3 b o (fun z => nb (List.mem_singleton.mpr z)) e) (fun b hb => hf b (by rw [List.mem_singleton.mp hb]; exact List.mem_cons_self)) (Nat.le_refl _) okB
      refine ⟨.ref s.heap.objs.size, _, IB, rfl, ⟨_, pickL vs is', rfl, I.hok.fresh (Nat.le_refl _), rfl, ?_⟩, ⟨k3 p _ h2 h1, h2, .inr ⟨i, .ref s.heap.objs.size, rfl, hg', ?_⟩⟩, fun b hb => ?_⟩
      · rw [cmb_pick, List.getElem?_map, hl, q]
        rfl
      · rw [List.getD_eq_getElem?_getD, q]
        exact k1
      · have lb : b < s.heap.objs.size := by
          rcases List.mem_cons.mp hb with z | z
          · rw [z]
            rcases h3 with ⟨e, ⟨a, q⟩ | ⟨a, q⟩⟩ | ⟨kk, last, e, a, q⟩
            · exact Heap.lt_size q
            · exact Heap.lt_size q
            · exact Heap.lt_size q
          · rw [List.mem_singleton.mp z]; exact Heap.lt_size h1
        rw [upd_ne (Nat.ne_of_lt lb)]
        exact (hf b hb).1
    unfold pyNext
    rcases h3 with ⟨e, ⟨a, q⟩ | ⟨a, q⟩⟩ | ⟨kk, last, e, a, q⟩
    · have z := first_at hn hr
      rw [if_neg (by omega)] at z
      rw [z] at hg'
      cases hg'
    · have z := first_at hn hr
      rw [if_pos a] at z
      refine wpAny_bind (wpAny_attempt (cmb_first (items := its.toArray) q h1 h2 (by rw [List.length_range]; exact hr) fun h' k1 k2 k3 => wpAny_pure ?_))
      exact fin _ _ h' rfl (by rw [e]; exact z) k1 k2 k3
    · refine wpAny_bind (wpAny_attempt (cmb_next (items := its.toArray) (r := r) (k := kk) (show X.A.in1.handled = none from I.ok.hd hc) hr (by rw [hsz]; exact hn) (by rw [hsz]; exact a) (by rw [hsz]; exact q) h1 h2 (fun is' hq h' k1 k2 k3 => wpAny_pure ?_) fun hq => ?_))
      · rw [hsz] at hq
        exact fin is' _ h' rfl (by rw [e]; exact hq) k1 k2 k3
      · rw [hsz, ← e, List.getElem?_eq_getElem hg'] at hq
        cases hq
  done := by
    intro X hP hw hK hc i pins s σ H E I hf st hg
    subst hP hw hK
    obtain ⟨h1, h2, h3⟩ := st
    have hl : vs.length = its.length := rv.length
    have hsz : its.toArray.size = its.length := List.size_toArray
    have hg' : i = (cmb r vs).length := hg
    rw [cmb_pick, List.length_map, hl] at hg'
    obtain ⟨f0, f1, f2, f3, f4, f5⟩ := hf it (by simp)
    refine next_stop (it := it) (fun h' eb => ⟨rfl, I.turned (t' := s.toks) (fun b o hb q => eb b o hb q) f0 f1 f3 f4 f5⟩) fun E' Q' hE => ?_
    rcases h3 with ⟨e, ⟨a, q⟩ | ⟨a, q⟩⟩ | ⟨kk, last, e, a, q⟩
    · exact cmb_none (show X.A.handled = none from I.ok.hd hc) q hE
    · have z := first_at hn hr
      rw [if_pos a] at z
      rw [e] at hg'
      rw [List.getElem?_eq_none (by omega)] at z
      cases z
    · refine cmb_next (items := its.toArray) (r := r) (k := kk) (show X.A.handled = none from I.ok.hd hc) hr (by rw [hsz]; exact hn) (by rw [hsz]; exact a) (by rw [hsz]; exact q) h1 h2 (fun is' hq h' k1 k2 k3 => ?_) fun _ => hE
      rw [hsz, List.getElem?_eq_none (by omega)] at hq
      cases hq
  self := fun A i s Q E st h => by
    obtain ⟨x, last, is, q⟩ := st.is
    exact iter_cmb q h
theorem pi_cmbA {X : Cx} {e e2 tg : Expr} {ta : TA} {p pos : Pos} (hg : Gl X "combinations") (hm : X.mg "combinations" = some (.type "itertools.combinations")) (ha : PA X [e, e2] ta)
    (hs : starEach [e, e2] X.env = (false, eval e X.env) :: starEach [e2] X.env := by rfl) (hpl : (backTo pos (starEach [e2] X.env)).any (·.1) = false := by rfl) :
    PI X tg (.Call (.Name "combinations" p) [e, e2] [] pos) (fun σ H R => ta σ H fun us H1 => ∃ (a : Addr) (vs : List V) (r : Nat), us = [.ref a, .int (r : Nat)] ∧ r ≤ 8 ∧ vs.length ≤ 8 ∧ (SqL X.K H1 a vs ∨ SqT X.K H1 a vs) ∧ R (Itc vs r) H1) := by
  constructor
  intro pins s σ H R inv want
  refine Call_ (ld_glob inv hg hm (PyProof.Rows.callWith_type1 (thn (ha.run pos pins s σ H _ inv want) fun us sA hA => ?_) hs hpl))
  obtain ⟨vs0, HA, iA, r, a, vs, n, ex, hr, hn, alt, q⟩ := hA
  subst ex
  cases r with
  | cons r1 rr =>
  cases rr with
  | cons r2 rr =>
  cases rr
  cases r1
  obtain ⟨t, e2⟩ : ∃ t, _ = Value.int (n : Nat) t := r2
  subst e2
  obtain ⟨T, o, its, m, rv, hT, hc, hd, ho⟩ : ∃ (T : String) (o : Obj) (its : List Value) (m : Nat), Vals vs its ∧ (T = "list" ∨ T = "tuple") ∧ o.cls = .type T ∧ o.data = .seq its.toArray m ∧ sA.heap.get? a = some o := by
    rcases alt with h | h
    · obtain ⟨its, rv, isl, _⟩ := iA.list h
      obtain ⟨o, ho, hc, m, hd⟩ := isl.isList
      exact ⟨_, o, its, m, rv, .inl rfl, hc, hd, ho⟩
    · obtain ⟨its, rv, ist, _⟩ := iA.tuple h
      obtain ⟨o, ho, hc, m, hd⟩ := (show sA.heap.IsTuple a its.toArray from ist)
      exact ⟨_, o, its, m, rv, .inr rfl, hc, hd, ho⟩
  have hl : its.length ≤ 8 := by rw [← rv.length]; exact hn
  refine call_cmb hT hc hd hr (by rw [List.size_toArray]; exact hl) ho fun h0 h' it p kp a1 a2 ne c1 c2 k => iter_cmb c1 ?_
  have I0 : Inv X pins σ HA { sA with heap := h0 } := iA.kept (t' := sA.toks) kp
  have I1 : Inv X pins σ HA { sA with heap := h' } := I0.kept (t' := sA.toks) k
  have every : ∀ b ∈ ([it, p] : List Addr), FpOk X pins HA b := fun b hb => by
    rcases List.mem_cons.mp hb with z | z
    · rw [z]; exact I0.fpOk a1 (I0.hok.fresh a1)
    · rw [List.mem_singleton.mp z]; exact I0.fpOk a2 (I0.hok.fresh a2)
  refine ⟨it, [it, p], _, Itc vs n, HA, rfl, I1, turn_cmb it p rv hr hl, ⟨c2, ne, .inl ⟨rfl, ?_⟩⟩, every, q⟩
  rw [List.size_toArray] at c1
  by_cases hh : n ≤ its.length
  · rw [if_neg (by omega)] at c1
    exact .inr ⟨hh, c1⟩
  · rw [if_pos (by omega)] at c1
    exact .inl ⟨by omega, c1⟩
def iCmb (a : CEs) : CI := fun l h => (a l h).bind fun xs h1 => match xs with
  | [.lst ys, .int j] => if (decide (0 ≤ j) && (decide (j ≤ 8) && decide (ys.length ≤ 8))) = true then .ok (.vals ((cmb j.toNat ys).map CV.tup)) h1 else .stuck
  | [.tup ys, .int j] => if (decide (0 ≤ j) && (decide (j ≤ 8) && decide (ys.length ≤ 8))) = true then .ok (.vals ((cmb j.toNat ys).map CV.tup)) h1 else .stuck
  | _ => .stuck
theorem cmb_get {G : Gb} {w : Wd} {ρ : List Addr} {H : Hp} : ∀ (r : Nat) {xs : List CV} {vs : List V}, RelCs G w ρ H xs vs → (cmb r xs).length = (cmb r vs).length ∧ ∀ (i : Nat) (ys : List CV), (cmb r xs)[i]? = some ys → ∃ zs : List V, (cmb r vs)[i]? = some zs ∧ RelCs G w ρ H ys zs
  | 0, xs, vs, h => by
    unfold cmb
    refine ⟨rfl, fun i ys e => ?_⟩
    cases i with
    | zero => cases e; exact ⟨[], rfl, RelCs.nil⟩
    | succ i => cases e
  | r + 1, [], vs, h => by
    unfold RelCs at h
    subst h
    unfold cmb
    exact ⟨rfl, fun i ys e => by cases e⟩
  | r + 1, x :: xs, vs, h => by
    unfold RelCs at h
    obtain ⟨v, us, e, h1, h2⟩ := h
    subst e
    obtain ⟨a1, a2⟩ := cmb_get r h2
    obtain ⟨b1, b2⟩ := cmb_get (r + 1) h2
    rw [cmb, cmb]
    refine ⟨by rw [List.length_append, List.length_append, List.length_map, List.length_map, a1, b1], fun i ys e => ?_⟩
    by_cases hi : i < (cmb r xs).length
    · rw [List.getElem?_append_left (by rw [List.length_map]; exact hi), List.getElem?_map] at e
      rw [List.getElem?_append_left (by rw [List.length_map, ← a1]; exact hi), List.getElem?_map]
      cases q : (cmb r xs)[i]? with
      | none => rw [q] at e; cases e
      | some y2 =>
        rw [q] at e
        cases e
        obtain ⟨zs, k1, k2⟩ := a2 i y2 q
        rw [k1]
        exact ⟨v :: zs, rfl, RelCs.cons h1 k2⟩
    · rw [List.getElem?_append_right (by rw [List.length_map]; omega), List.length_map] at e
      rw [List.getElem?_append_right (by rw [List.length_map, ← a1]; omega), List.length_map, ← a1]
      exact b2 _ ys e
theorem it_cmbG {G : Gb} {w : Wd} {ρ : List Addr} {H : Hp} {xs : List CV} {vs : List V} {h : CH} {r : Nat} (R : Rep G w ρ h H) (rel : RelCs G w ρ H xs vs) : ItOk G w ρ H ((cmb r xs).map CV.tup) (Itc vs r) := fun w1 ρ1 hh H1 e R1 i => by
  obtain ⟨ln, at_i⟩ := cmb_get (G := G) (w := w1) (ρ := ρ1) (H := H1) r (RelCs.upW e rel)
  refine ⟨fun x hx => ?_, fun hi => ?_⟩
  · rw [List.getElem?_map] at hx
    cases q : (cmb r xs)[i]? with
    | none => rw [q] at hx; cases hx
    | some ys =>
      rw [q] at hx
      cases hx
      have hi : i < (cmb r vs).length := by rw [← ln]; exact (List.getElem?_eq_some_iff.mp q).1
      refine ⟨hi, fun x H' y => ?_⟩
      obtain ⟨T, zs, y1, y2, y3, y4⟩ := y
      subst y1 y3
      obtain ⟨zs', k1, k2⟩ := at_i i ys q
      rw [y4] at k1
      cases k1
      have ex := Ext.fresh w1 ρ1 (.tup zs) y2
      refine ⟨?_, ex, R1.fresh _ y2⟩
      unfold RelC
      exact ⟨T, zs, rfl, TupAt.of upd_same, RelCs.up ex R1 k2⟩
  · rw [List.length_map, ln] at hi
    exact hi
section
variable {X : Cx} {G : Gb} {E : XO} {e e2 tg : Expr} {cs : CEs} {p pos : Pos}
theorem xi_cmb (hK : X.K = G.K) (hg : Gl X "combinations") (hm : X.mg "combinations" = some (.type "itertools.combinations")) (ha : XA X G E [e, e2] cs) (hs : starEach [e, e2] X.env = (false, eval e X.env) :: starEach [e2] X.env := by rfl) (hpl : (backTo pos (starEach [e2] X.env)).any (·.1) = false := by rfl) :
    XI X G E tg (.Call (.Name "combinations" p) [e, e2] [] pos) (iCmb cs) := pi_imp (pi_cmbA hg hm ha hs hpl) fun σ H Q ⟨w, ρ, l, h, R, L, g⟩ => rds_then R L g fun w1 ρ1 h1 H1 xs v e1 R1 L1 r1 g1 => by
    split at g1
    · rename_i ys j
      split at g1
      case isFalse => exact g1.elim
      case isTrue c =>
      rw [Bool.and_eq_true, Bool.and_eq_true, decide_eq_true_eq, decide_eq_true_eq, decide_eq_true_eq] at c
      obtain ⟨u1, u2, k1, k2, k3⟩ := two_of r1
      obtain ⟨a, vs, q1, q2, q3, q4⟩ := rc_lst k2
      rw [q1, rc_int k3] at k1
      exact ⟨a, vs, j.toNat, by rw [k1, Int.toNat_of_nonneg c.1], by omega, by rw [← q4.length]; exact c.2.2, .inl (SqL.of q3), (show PostI G w ρ H Q _ h1 from g1) w1 ρ1 H1 _ e1 R1 (it_cmbG R1 q4)⟩
    · rename_i ys j
      split at g1
      case isFalse => exact g1.elim
      case isTrue c =>
      rw [Bool.and_eq_true, Bool.and_eq_true, decide_eq_true_eq, decide_eq_true_eq, decide_eq_true_eq] at c
      obtain ⟨u1, u2, k1, k2, k3⟩ := two_of r1
      obtain ⟨a, vs, q1, q3, q4⟩ := rc_tup k2
      rw [q1, rc_int k3] at k1
      exact ⟨a, vs, j.toNat, by rw [k1, Int.toNat_of_nonneg c.1], by omega, by rw [← q4.length]; exact c.2.2, .inr (hK ▸ q3), (show PostI G w ρ H Q _ h1 from g1) w1 ρ1 H1 _ e1 R1 (it_cmbG R1 q4)⟩
    · exact g1.elim
end
end Rn

set_option Elab.async false
set_option linter.all false
set_option maxRecDepth 100000
set_option maxHeartbeats 4000000
/-! ### dict(zip(a, b)) over iterators of any kind: the pair that was given out is still there -/
namespace CpZip
open PySem PySem.Spec
open Sem (wp)
section
variable {prog : Program} {w : World} {A : Around} {E : Value → Shared → Prop} {s : Shared} {z TI TO T i1 i2 : Addr} {fp1 fp2 : List Addr} {n1 n2 i : Nat} {P1 P2 : Nat → Value → Prop} {St1 St2 : Nat → Heap → Prop} {f : Bool} {oT : Obj}
theorem held_item {Q : Value → Shared → Prop} (S : ZipSep2 z TI TO i1 i2 fp1 fp2) (D1 : Draws prog w A i1 fp1 n1 P1 St1) (D2 : Draws prog w A i2 fp2 n2 P2 St2) (hz : IsZipHeld s.heap z TI TO T f) (hT : s.heap.get? T = some oT) (hTI : IsTupOf2 s.heap TI (.ref i1) (.ref i2))
    (st1 : St1 i s.heap) (st2 : St2 i s.heap) (l1 : i < n1) (l2 : i < n2)
    (hQ : ∀ x y h' tk, P1 i x → P2 i y → IsZipHeld h' z TI TO T true → St1 (i + 1) h' → St2 (i + 1) h' → IsTupOf2 h' s.heap.objs.size x y → (∀ c o, c ≠ z → c ≠ i1 → c ≠ i2 → s.heap.get? c = some o → h'.get? c = some o) → Q (.ref s.heap.objs.size) { s with heap := h', toks := tk }) :
    wpAny (model prog w) A (Builtin.«zip.__next__» ⟨[.ref z], []⟩) (fun fin s' => ∃ v, fin = .done (.ret v) ∧ Q v s') E s := by
  obtain ⟨hp, g, d, tk0, os⟩ := s
  show wpAny _ _ (field (.ref z) 2 >>= _) _ _ _
  refine wpAny_bind (wpAny_field hz rfl (x := .bool false) rfl ?_)
  show wpAny _ _ (field (.ref z) 3 >>= _) _ _ _
  refine wpAny_bind (wpAny_field hz rfl (x := .ref TI) rfl (wpAny_bind (wpAny_seqItems hTI rfl ?_)))
  show wpAny _ _ (Builtin.SmallTypes.ownedTupleIsFree (.ref z) >>= _) _ _ _
  refine wpAny_bind (wpAny_tupleHeld_zip hz hT fun a za sa => ?_)
  simp only [Bool.false_eq_true, if_false]
  refine wpAny_bind ?_
  rw [← Array.forIn_toList]
  simp only [List.forIn_cons, List.forIn_nil]
  refine wpAny_bind (wpAny_bind (wpAny_holding ?_))
  show wpAny _ _ (Builtin.SmallTypes.nextOf (.ref i1) >>= _) _ _ ⟨a, g, d, tk0, os⟩
  refine wpAny_bind (D1.item i _ _ _ l1 (D1.over st1 sa S.zf1) fun x b tk1 px s1 sb => wpAny_pure (wpAny_pure ?_))
  refine wpAny_bind (wpAny_bind (wpAny_holding ?_))
  show wpAny _ _ (Builtin.SmallTypes.nextOf (.ref i2) >>= _) _ _ ⟨b, g, d, tk1, os⟩
  refine wpAny_bind (D2.item i _ _ _ l2 (D2.over (D2.over st2 sa S.zf2) sb S.sep1_2) fun y c tk2 py s2 sc => wpAny_pure (wpAny_pure (wpAny_pure ?_)))
  show wpAny _ _ (newTuple [x, y] >>= _) _ _ _
  refine wpAny_bind (wpAny_newTuple (wpAny_pure ⟨_, rfl, ?_⟩))
  have sz : c.objs.size = hp.objs.size := by
    have e1 : c.objs.size = b.objs.size := sc.1
    have e2 : b.objs.size = a.objs.size := sb.1
    have e3 : a.objs.size = hp.objs.size := sa.1
    rw [e1, e2, e3]
  have kept : ∀ q o, q ≠ z → q ≠ i1 → q ≠ i2 → hp.get? q = some o → c.get? q = some o := fun q o q1 q2 q3 e => sc.extBut _ _ q3 (sb.extBut _ _ q2 (sa.extBut _ _ q1 e))
  have zc : IsZipHeld c z TI TO T true := sc.extBut _ _ S.zi2 (sb.extBut _ _ S.zi1 za)
  have up : ∀ q o, c.get? q = some o → (c.push { cls := .type "tuple", data := .seq [x, y].toArray }).get? q = some o := fun q o e => Heap.get?_push_of_some _ e
  have hp2 : (c.push { cls := .type "tuple", data := .seq [x, y].toArray }).get? c.objs.size = some { cls := .type "tuple", data := .seq #[x, y] } := Heap.get?_push_size _ rfl
  show Q (.ref c.objs.size) ⟨c.push { cls := .type "tuple", data := .seq [x, y].toArray }, g, d, tk2, os⟩
  rw [sz] at hp2 ⊢
  exact hQ x y _ tk2 px py (up _ _ zc) (D1.frame _ _ _ (D1.over s1 sc S.sep2_1) fun q _ o e => up q o e) (D2.frame _ _ _ s2 fun q _ o e => up q o e) hp2 fun q o q1 q2 q3 e => up _ _ (kept q o q1 q2 q3 e)
theorem held_end {Q : Fin → Shared → Prop} (S : ZipSep2 z TI TO i1 i2 fp1 fp2) (D1 : Draws prog w A i1 fp1 n1 P1 St1) (D2 : Draws prog w A i2 fp2 n2 P2 St2) (hz : IsZipHeld s.heap z TI TO T f) (hT : s.heap.get? T = some oT) (hTI : IsTupOf2 s.heap TI (.ref i1) (.ref i2))
    (st1 : St1 i s.heap) (st2 : St2 i s.heap) (l1 : i ≤ n1) (l2 : i ≤ n2) (hend : i = n1 ∨ i = n2)
    (hE : ∀ h' tk e, (∀ c o, c ≠ z → c ≠ i1 → c ≠ i2 → s.heap.get? c = some o → h'.get? c = some o) → (∃ o, h'.get? e = some o ∧ o.cls = .type "StopIteration") → E (.ref e) { s with heap := h', toks := tk }) :
    wpAny (model prog w) A (Builtin.«zip.__next__» ⟨[.ref z], []⟩) Q E s := by
  obtain ⟨hp, g, d, tk0, os⟩ := s
  show wpAny _ _ (field (.ref z) 2 >>= _) _ _ _
  refine wpAny_bind (wpAny_field hz rfl (x := .bool false) rfl ?_)
  show wpAny _ _ (field (.ref z) 3 >>= _) _ _ _
  refine wpAny_bind (wpAny_field hz rfl (x := .ref TI) rfl (wpAny_bind (wpAny_seqItems hTI rfl ?_)))
  show wpAny _ _ (Builtin.SmallTypes.ownedTupleIsFree (.ref z) >>= _) _ _ _
  refine wpAny_bind (wpAny_tupleHeld_zip hz hT fun a za sa => ?_)
  simp only [Bool.false_eq_true, if_false]
  refine wpAny_bind ?_
  rw [← Array.forIn_toList]
  simp only [List.forIn_cons, List.forIn_nil]
  refine wpAny_bind (wpAny_bind (wpAny_holding ?_))
  show wpAny _ _ (Builtin.SmallTypes.nextOf (.ref i1) >>= _) _ _ ⟨a, g, d, tk0, os⟩
  by_cases h1 : i < n1
  · refine wpAny_bind (D1.item i _ _ _ h1 (D1.over st1 sa S.zf1) fun x b tk1 px s1 sb => wpAny_pure (wpAny_pure ?_))
    refine wpAny_bind (wpAny_bind (wpAny_holding ?_))
    show wpAny _ _ (Builtin.SmallTypes.nextOf (.ref i2) >>= _) _ _ ⟨b, g, d, tk1, os⟩
    refine wpAny_bind (D2.done ⟨b, g, d, tk1, os⟩ _ _ (by rw [← show i = n2 by omega]; exact D2.over (D2.over st2 sa S.zf2) sb S.sep1_2) fun c e sc he => ?_)
    exact hE c tk1 e (fun q o q1 q2 q3 x => sc _ _ q3 (sb.extBut _ _ q2 (sa.extBut _ _ q1 x))) he
  · refine wpAny_bind (D1.done ⟨a, g, d, tk0, os⟩ _ _ (by rw [← show i = n1 by omega]; exact D1.over st1 sa S.zf1) fun b e sb he => ?_)
    exact hE b tk0 e (fun q o q1 q2 _ x => sb _ _ q2 (sa.extBut _ _ q1 x)) he
theorem next_held {Q : Option Value → Shared → Prop} (S : ZipSep2 z TI TO i1 i2 fp1 fp2) (D1 : Draws prog w A.in1 i1 fp1 n1 P1 St1) (D2 : Draws prog w A.in1 i2 fp2 n2 P2 St2) (hz : IsZipHeld s.heap z TI TO T f) (hT : s.heap.get? T = some oT) (hTI : IsTupOf2 s.heap TI (.ref i1) (.ref i2))
    (st1 : St1 i s.heap) (st2 : St2 i s.heap) (l1 : i < n1) (l2 : i < n2)
    (hQ : ∀ x y h' tk, P1 i x → P2 i y → IsZipHeld h' z TI TO T true → St1 (i + 1) h' → St2 (i + 1) h' → IsTupOf2 h' s.heap.objs.size x y → (∀ c o, c ≠ z → c ≠ i1 → c ≠ i2 → s.heap.get? c = some o → h'.get? c = some o) → Q (some (.ref s.heap.objs.size)) { s with heap := h', toks := tk }) :
    wpAny (model prog w) A (pyNext (.ref z)) Q E s := by
  have hTy : s.TypeIs (.ref z) "zip" := ⟨_, hz, rfl⟩
  unfold pyNext
  exact wpAny_bind (wpAny_attempt (wpAny_callSpecial?_slot (name := Str.ofString "__next__") hTy F.slot_zip_next
    (wpAny_call_entry F.slot_zip_next hTy F.entry_zip_next
      (held_item S D1 D2 hz hT hTI st1 st2 l1 l2 fun x y h' tk a1 a2 a3 a4 a5 a6 a7 => wpAny_pure (hQ x y h' tk a1 a2 a3 a4 a5 a6 a7)) (F.args_zip_next_1 _))))
theorem next_held_end {Q : Option Value → Shared → Prop} (S : ZipSep2 z TI TO i1 i2 fp1 fp2) (D1 : Draws prog w A.in1 i1 fp1 n1 P1 St1) (D2 : Draws prog w A.in1 i2 fp2 n2 P2 St2) (hz : IsZipHeld s.heap z TI TO T f) (hT : s.heap.get? T = some oT) (hTI : IsTupOf2 s.heap TI (.ref i1) (.ref i2))
    (st1 : St1 i s.heap) (st2 : St2 i s.heap) (l1 : i ≤ n1) (l2 : i ≤ n2) (hend : i = n1 ∨ i = n2)
    (hQ : ∀ h' tk, (∀ c o, c ≠ z → c ≠ i1 → c ≠ i2 → s.heap.get? c = some o → h'.get? c = some o) → Q none { s with heap := h', toks := tk }) : wpAny (model prog w) A (pyNext (.ref z)) Q E s := by
  have hTy : s.TypeIs (.ref z) "zip" := ⟨_, hz, rfl⟩
  unfold pyNext
  refine wpAny_bind (wpAny_attempt (wpAny_callSpecial?_slot (name := Str.ofString "__next__") hTy F.slot_zip_next
    (wpAny_call_entry F.slot_zip_next hTy F.entry_zip_next (held_end S D1 D2 hz hT hTI st1 st2 l1 l2 hend fun h' tk e hk he => ?_) (F.args_zip_next_1 _))))
  obtain ⟨o, ho, hc⟩ := he
  refine wpAny_bind (wpAny_isInstance (T := "StopIteration") (b := true) ⟨o, ho, hc⟩ isSubtype_stop ?_)
  exact wpAny_pure (hQ _ _ hk)
/-- what a zip over two iterators is while it is walked -/
def ZSt (z TI TO i1 i2 d : Addr) (fp1 fp2 : List Addr) (St1 St2 : Nat → Heap → Prop) (i : Nat) (h : Heap) : Prop := IsTupOf2 h TI (.ref i1) (.ref i2) ∧ St1 i h ∧ St2 i h ∧
  ((IsZip h z TI TO .none ∧ ∃ a b, IsTupOf2 h TO a b) ∨ ∃ T f oT, IsZipHeld h z TI TO T f ∧ h.get? T = some oT ∧ T ≠ z ∧ T ≠ i1 ∧ T ≠ i2 ∧ T ≠ d)
theorem zip_arg (S : ZipSep2 z TI TO i1 i2 fp1 fp2) (D1 : ∀ A : Around, A.handled = none → Draws prog w A i1 fp1 n1 P1 St1) (D2 : ∀ A : Around, A.handled = none → Draws prog w A i2 fp2 n2 P2 St2)
    (v1 : ∀ h, St1 0 h → ∀ b ∈ fp1, ∃ o, h.get? b = some o) (v2 : ∀ h, St2 0 h → ∀ b ∈ fp2, ∃ o, h.get? b = some o) :
    PairArg prog w "zip" z (z :: TI :: TO :: (fp1 ++ fp2)) [z, TO, i1, i2] (min n1 n2) (fun i k v => P1 i k ∧ P2 i v)
      (fun h => IsZip h z TI TO .none ∧ IsTupOf2 h TI (.ref i1) (.ref i2) ∧ (∃ a b, IsTupOf2 h TO a b) ∧ St1 0 h ∧ St2 0 h) where
  type := fun s ok => ⟨_, ok.1, rfl⟩
  notDict := by decide
  keep := fun h h' ok hk => by
    obtain ⟨hz, hTI, ⟨a, b, hTO⟩, s1, s2⟩ := ok
    exact ⟨hk _ _ hz, hk _ _ hTI, ⟨a, b, hk _ _ hTO⟩, (D1 {} rfl).frame _ _ _ s1 fun b _ o e => hk b o e, (D2 {} rfl).frame _ _ _ s2 fun b _ o e => hk b o e⟩
  there := fun h ok b hb => by
    obtain ⟨hz, hTI, ⟨a, c, hTO⟩, s1, s2⟩ := ok
    simp only [List.mem_cons, List.mem_append] at hb
    rcases hb with e | e | e | e | e
    · exact ⟨_, e ▸ hz⟩
    · exact ⟨_, e ▸ hTI⟩
    · exact ⟨_, e ▸ hTO⟩
    · exact v1 h s1 b e
    · exact v2 h s2 b e
  sub := fun b hb => by
    simp only [List.mem_cons, List.not_mem_nil, or_false] at hb
    simp only [List.mem_cons, List.mem_append]
    rcases hb with e | e | e | e
    · exact .inl e
    · exact .inr (.inr (.inl e))
    · exact .inr (.inr (.inr (.inl (e ▸ S.mem1))))
    · exact .inr (.inr (.inr (.inr (e ▸ S.mem2))))
  noKeys := fun A s Q E hA ok h => getAttrOr_miss_zip ok.1 rfl rfl rfl zip_no_keys (by decide +kernel) hA h
  iter := fun A s d Q E hA ok hd hdf h => by
    obtain ⟨hz, hTI, ⟨a, b, hTO⟩, s1, s2⟩ := ok
    simp only [List.mem_cons, List.mem_append, not_or] at hdf
    obtain ⟨dz, dTI, dTO, df1, df2⟩ := hdf
    have di1 : d ≠ i1 := fun e => df1 (e ▸ S.mem1)
    have di2 : d ≠ i2 := fun e => df2 (e ▸ S.mem2)
    refine wpAny_pyIter_zip hz (h z [z, TO, i1, i2] (ZSt z TI TO i1 i2 d fp1 fp2 St1 St2) s.heap s.toks ?_ ⟨hTI, s1, s2, .inl ⟨hz, a, b, hTO⟩⟩ (fun _ _ e => e) fun b hb => .inl hb)
    exact {
      off := fun hm => by
        simp only [List.mem_cons, List.not_mem_nil, or_false] at hm
        rcases hm with e | e | e | e
        · exact dz e
        · exact dTO e
        · exact di1 e
        · exact di2 e
      frame := fun i h1 h2 st hk => by
        obtain ⟨hTI, s1, s2, hz⟩ := st
        refine ⟨hk _ _ (Ne.symm dTI) hTI, (D1 {} rfl).frame _ _ _ s1 fun b hb o e => hk b o (fun q => df1 (q ▸ hb)) e, (D2 {} rfl).frame _ _ _ s2 fun b hb o e => hk b o (fun q => df2 (q ▸ hb)) e, ?_⟩
        rcases hz with ⟨hz, a, b, hTO⟩ | ⟨T, f, oT, hz, hT, r1, r2, r3, r4⟩
        · exact .inl ⟨hk _ _ (Ne.symm dz) hz, a, b, hk _ _ (Ne.symm dTO) hTO⟩
        · exact .inr ⟨T, f, oT, hk _ _ (Ne.symm dz) hz, hk _ _ r4 hT, r1, r2, r3, r4⟩
      item := fun i s0 Q0 E0 hi st hds hQ => by
        obtain ⟨hTI, s1, s2, hz⟩ := st
        have l1 : i < n1 := Nat.lt_of_lt_of_le hi (Nat.min_le_left ..)
        have l2 : i < n2 := Nat.lt_of_lt_of_le hi (Nat.min_le_right ..)
        have lt : ∀ {c o}, s0.heap.get? c = some o → s0.heap.objs.size ≠ c := fun e => Nat.ne_of_gt (Heap.lt_size e)
        have m1 : s0.heap.objs.size ≠ i1 := let ⟨_, e⟩ := (D1 {} rfl).live _ _ s1; lt e
        have m2 : s0.heap.objs.size ≠ i2 := let ⟨_, e⟩ := (D2 {} rfl).live _ _ s2; lt e
        rcases hz with ⟨hz, a, b, hTO⟩ | ⟨T, f, oT, hz, hT, r1, r2, r3, r4⟩
        · refine wpAny_pyNext_zipD2_item S (D1 A.in1 hA) (D2 A.in1 hA) hz hTI hTO s1 s2 l1 l2 fun x y h' tk px py a1 a2 a3 a4 a5 a6 hk => ?_
          exact hQ s0.heap.objs.size x y h' tk ⟨px, py⟩ (.inl ⟨_, a5, rfl, _, rfl⟩)
            ⟨hk _ _ S.TIz S.TITO S.TIi1 S.TIi2 hTI, a3, a4, .inr ⟨s0.heap.objs.size, false, _, a1, a5, lt hz, m1, m2, Nat.ne_of_gt hds⟩⟩
            fun c o hc e => hk c o (fun x => hc (by simp [x])) (fun x => hc (by simp [x])) (fun x => hc (by simp [x])) (fun x => hc (by simp [x])) e
        · refine next_held S (D1 A.in1 hA) (D2 A.in1 hA) hz hT hTI s1 s2 l1 l2 fun x y h' tk px py a1 a3 a4 a5 hk => ?_
          exact hQ s0.heap.objs.size x y h' tk ⟨px, py⟩ (.inl ⟨_, a5, rfl, _, rfl⟩)
            ⟨hk _ _ S.TIz S.TIi1 S.TIi2 hTI, a3, a4, .inr ⟨T, true, oT, a1, hk _ _ r1 r2 r3 hT, r1, r2, r3, r4⟩⟩
            fun c o hc e => hk c o (fun x => hc (by simp [x])) (fun x => hc (by simp [x])) (fun x => hc (by simp [x])) e
      done := fun s0 Q0 E0 st hQ => by
        obtain ⟨hTI, s1, s2, hz⟩ := st
        have l1 : min n1 n2 ≤ n1 := Nat.min_le_left ..
        have l2 : min n1 n2 ≤ n2 := Nat.min_le_right ..
        have hend : min n1 n2 = n1 ∨ min n1 n2 = n2 := by omega
        rcases hz with ⟨hz, a, b, hTO⟩ | ⟨T, f, oT, hz, hT, r1, r2, r3, r4⟩
        · exact wpAny_pyNext_zipD2_end S (D1 A.in1 hA) (D2 A.in1 hA) hz hTI hTO s1 s2 l1 l2 hend fun h' tk hk => hQ h' tk fun c o hc e => hk c o (fun x => hc (by simp [x])) (fun x => hc (by simp [x])) (fun x => hc (by simp [x])) (fun x => hc (by simp [x])) e
        · exact next_held_end S (D1 A.in1 hA) (D2 A.in1 hA) hz hT hTI s1 s2 l1 l2 hend fun h' tk hk => hQ h' tk fun c o hc e => hk c o (fun x => hc (by simp [x])) (fun x => hc (by simp [x])) (fun x => hc (by simp [x])) e }
end
end CpZip

set_option Elab.async false
set_option linter.all false
set_option maxRecDepth 100000
set_option maxHeartbeats 4000000
namespace Rn
open PySem PySem.Spec PyProof.Rows L2 LamX NdefX
/-! ### dicts with ints or texts as keys that change -/
def putD (kvs : List (Key × CV)) (k : Key) (c : CV) : List (Key × CV) :=
  if (kvs.any fun kv => decide (kv.1 = k)) = true then kvs.map (fun kv => if kv.1 = k then (kv.1, c) else kv) else kvs ++ [(k, c)]
def mergeD (kvs more : List (Key × CV)) : List (Key × CV) := more.foldl (fun acc kv => putD acc kv.1 kv.2) kvs
section
variable {G : Gb} {w : Wd} {ρ : List Addr} {H : Hp}
theorem putD_rel {kvs : List (Key × CV)} {us : List (Key × V)} {k : Key} {c : CV} {v : V} (e : us.map (·.1) = kvs.map (·.1)) (r : RelCs G w ρ H (kvs.map (·.2)) (us.map (·.2))) (rv : RelC G w ρ H c v) :
    (putK us k v).map (·.1) = (putD kvs k c).map (·.1) ∧ RelCs G w ρ H ((putD kvs k c).map (·.2)) ((putK us k v).map (·.2)) := by
  have ea : (us.any fun kv => decide (kv.1 = k)) = (kvs.any fun kv => decide (kv.1 = k)) := by
    have e1 : (us.map (·.1)).any (fun q => decide (q = k)) = us.any fun kv => decide (kv.1 = k) := by rw [List.any_map]; rfl
    have e2 : (kvs.map (·.1)).any (fun q => decide (q = k)) = kvs.any fun kv => decide (kv.1 = k) := by rw [List.any_map]; rfl
    rw [← e1, ← e2, e]
  unfold putK putD
  rw [ea]
  by_cases hany : (kvs.any fun kv => decide (kv.1 = k)) = true
  · rw [if_pos hany, if_pos hany]
    clear ea hany
    induction us generalizing kvs with
    | nil =>
      cases kvs with
      | nil => exact ⟨rfl, RelCs.nil⟩
      | cons p r => cases e
    | cons q us ih =>
      cases kvs with
      | nil => cases e
      | cons p kvs =>
        rw [List.map_cons, List.map_cons] at e r
        injection e with e1 e2
        unfold RelCs at r
        obtain ⟨v', us', q1, r1, r2⟩ := r
        injection q1 with q2 q3
        subst q2 q3
        obtain ⟨i1, i2⟩ := ih e2 r2
        rw [List.map_cons, List.map_cons, List.map_cons, List.map_cons]
        have e1' : q.1 = p.1 := e1
        by_cases ek : p.1 = k
        · rw [if_pos ek, if_pos (e1'.trans ek)]
          exact ⟨by rw [i1]; exact congrArg (· :: _) e1', RelCs.cons rv i2⟩
        · rw [if_neg ek, if_neg (fun z => ek (e1'.symm.trans z))]
          exact ⟨by rw [i1]; exact congrArg (· :: _) e1', RelCs.cons r1 i2⟩
  · rw [if_neg hany, if_neg hany, List.map_append, List.map_append, List.map_append, List.map_append, e]
    exact ⟨rfl, r.append (RelCs.cons rv RelCs.nil)⟩
theorem mergeD_rel : ∀ {more : List (Key × CV)} {mv : List (Key × V)} {kvs : List (Key × CV)} {us : List (Key × V)}, mv.map (·.1) = more.map (·.1) → RelCs G w ρ H (more.map (·.2)) (mv.map (·.2)) → us.map (·.1) = kvs.map (·.1) → RelCs G w ρ H (kvs.map (·.2)) (us.map (·.2)) →
    (mergeK us mv).map (·.1) = (mergeD kvs more).map (·.1) ∧ RelCs G w ρ H ((mergeD kvs more).map (·.2)) ((mergeK us mv).map (·.2))
  | [], mv, kvs, us, e, r, e2, r2 => by
    cases mv with
    | nil => exact ⟨e2, r2⟩
    | cons p q => cases e
  | m :: more, mv, kvs, us, e, r, e2, r2 => by
    cases mv with
    | nil => cases e
    | cons p mv =>
      rw [List.map_cons, List.map_cons] at e r
      injection e with e1 e3
      unfold RelCs at r
      obtain ⟨v', us', q1, r1, r3⟩ := r
      injection q1 with q2 q3
      subst q2 q3
      have e1' : p.1 = m.1 := e1
      obtain ⟨k1, k2⟩ := putD_rel (k := m.1) e2 r2 r1
      have z := mergeD_rel (more := more) (mv := mv) e3 r3 k1 k2
      show (mergeK (putK us p.1 p.2) mv).map (·.1) = (mergeD (putD kvs m.1 m.2) more).map (·.1) ∧ RelCs G w ρ H ((mergeD (putD kvs m.1 m.2) more).map (·.2)) ((mergeK (putK us p.1 p.2) mv).map (·.2))
      rw [e1']
      exact z
end
/-! ### dict(zip(a, b)) of two tuples -/
section
variable {X : Cx}
theorem zip_pairs {P : Program} {w : World} : ∀ {ks : List Key} {ys : List V} {its its2 : List Value}, Vals (ks.map kV) its → Vals ys its2 → ∃ prs : List (Key × Value), KV (ks.zip ys) prs ∧ prs.length = min its.length its2.length ∧
    ∀ (i : Nat) (key v : Value), its[i]? = some key ∧ its2[i]? = some v → ∃ k : Key, prs[i]? = some (k, v) ∧ (mixKind P w).is k key = true
  | [], ys, its, its2, r1, r2 => by
    rw [List.map_nil] at r1
    cases r1
    exact ⟨[], .nil, by simp, fun i key v h => by simp at h⟩
  | k :: ks, [], its, its2, r1, r2 => by
    cases r2
    exact ⟨[], .nil, by simp, fun i key v h => by simp at h⟩
  | k :: ks, y :: ys, its, its2, r1, r2 => by
    rw [List.map_cons] at r1
    cases r1 with
    | cons h1 t1 =>
    cases r2 with
    | cons h2 t2 =>
    obtain ⟨prs, a, b, c⟩ := zip_pairs (P := P) (w := w) t1 t2
    rename_i u us u2 us2
    refine ⟨(k, u2) :: prs, .cons ⟨rfl, h2⟩ a, by rw [List.length_cons, List.length_cons, List.length_cons, b]; omega, fun i key v h => ?_⟩
    cases i with
    | zero =>
      obtain ⟨e1, e2⟩ := h
      cases e1
      cases e2
      exact ⟨k, rfl, kV_is h1⟩
    | succ i => exact c i key v h
theorem pe_dictZip {e e2 : Expr} {ta : TA} {p p2 pos pos2 : Pos} (hcalm : X.calm = true) (hg : Gl X "dict") (hm : X.mg "dict" = none) (hg2 : Gl X "zip") (hm2 : X.mg "zip" = none) (ha : PA X [e, e2] ta)
    (hs : starEach [e, e2] X.env = (false, eval e X.env) :: starEach [e2] X.env := by rfl) (hpl : (backTo pos2 (starEach [e2] X.env)).any (·.1) = false := by rfl) :
    PE X (.Call (.Name "dict" p) [.Call (.Name "zip" p2) [e, e2] [] pos2] [] pos) (fun σ H Q => ta σ H fun vs H1 => ∃ (a b : Addr) (ks : List Key) (ys : List V), vs = [.ref a, .ref b] ∧ SqT X.K H1 a (ks.map kV) ∧ SqT X.K H1 b ys ∧
      ∀ d, H1 d = none → Q (.ref d) (upd H1 d (.dK (mergeK [] (ks.zip ys))))) := by
  refine ⟨fun pins s σ H Q I h => ?_⟩
  refine Call_ (ld_blt I hg hm PyProof.Rows.boot_dict (PyProof.Rows.callWith_type1 ?_ (by rfl) (by rfl)))
  show wpAny _ _ (spliced ((false, eval (.Call (.Name "zip" p2) [e, e2] [] pos2) X.env) :: backTo pos (starEach [] X.env))) _ _ s
  refine Calls.spliced_cons ?_
  refine Call_ (ld_blt I hg2 hm2 PyProof.Rows.boot_zip (PyProof.Rows.callWith_type1 (thn (ha.run pos2 pins s σ H _ I h) fun us s1 hA => ?_) hs hpl))
  obtain ⟨vs, H1, I1, r1, a, b, ks, ys, ex, hqx, hqy, q⟩ := hA
  subst ex
  obtain ⟨u1, u2, eu, ra, rb⟩ := vals2 r1
  subst eu
  cases ra
  cases rb
  obtain ⟨its, rv, t1, z1⟩ := I1.tuple hqx
  obtain ⟨its2, rv2, t2, z2⟩ := I1.tuple hqy
  obtain ⟨oa, hoa, hoa2⟩ := id (show s1.heap.IsTuple a its.toArray from t1)
  obtain ⟨ob, hob, hob2⟩ := id (show s1.heap.IsTuple b its2.toArray from t2)
  refine RZ.call_zipT (show s1.heap.IsTuple a its.toArray from t1) (show s1.heap.IsTuple b its2.toArray from t2) fun h' hz hTI hTO h1 h2 hsz hk => ?_
  refine Calls.spliced_nil ?_
  have la : a < s1.heap.objs.size := Heap.lt_size hoa
  have lb : b < s1.heap.objs.size := Heap.lt_size hob
  have S := zip_sep2 (N := s1.heap.objs.size) (fp1 := [a]) (fp2 := [b]) (fun x hx => by rw [List.mem_singleton.mp hx]; exact la) (fun x hx => by rw [List.mem_singleton.mp hx]; exact lb)
  have D1 : ∀ A : Around, A.handled = none → Draws X.prog X.w A s1.heap.objs.size [s1.heap.objs.size, a] its.toArray.size (fun i v => its.toArray[i]? = some v) (fun i h => h.IsTupleIter s1.heap.objs.size a i ∧ h.IsTuple a its.toArray) := fun A hh => Draws.tuple hh _ a (Nat.ne_of_lt la) its.toArray
  have D2 : ∀ A : Around, A.handled = none → Draws X.prog X.w A (s1.heap.objs.size + 1) [s1.heap.objs.size + 1, b] its2.toArray.size (fun i v => its2.toArray[i]? = some v) (fun i h => h.IsTupleIter (s1.heap.objs.size + 1) b i ∧ h.IsTuple b its2.toArray) := fun A hh => Draws.tuple hh _ b (Nat.ne_of_lt (Nat.lt_succ_of_lt lb)) its2.toArray
  have live : ∀ (it t : Addr) (items : Array Value) (h : Heap), (h.IsTupleIter it t 0 ∧ h.IsTuple t items) → ∀ x ∈ [it, t], ∃ o, h.get? x = some o := fun it t items h q x hx => by
    rcases List.mem_cons.mp hx with e | e
    · obtain ⟨o, ho, _⟩ := q.1; exact ⟨o, e ▸ ho⟩
    · obtain ⟨o, ho, _⟩ := q.2; exact ⟨o, (List.mem_singleton.mp e) ▸ ho⟩
  have P := CpZip.zip_arg S D1 D2 (live _ _ _) (live _ _ _)
  obtain ⟨prs, rel, hl, hpr⟩ := zip_pairs (P := X.prog) (w := X.w) rv rv2
  refine PySem.call_dict_pairs (knd := mixKind X.prog X.w) (kvs := prs) P (I.ok.hd hcalm) ⟨hz, hTI, ⟨_, _, hTO⟩, ⟨h1, ⟨oa, hk _ _ hoa, hoa2⟩⟩, ⟨h2, ⟨ob, hk _ _ hob, hob2⟩⟩⟩ ⟨by rw [hl, List.size_toArray, List.size_toArray], fun i key v hr => hpr i key v (by simpa using hr)⟩ ?_ fun h'' tk hd hkk => ?_
  · rw [List.size_toArray, List.size_toArray]
    exact Nat.le_trans (Nat.min_le_right _ _) (by rw [← rv2.length]; exact z2)
  · have le : s1.heap.objs.size ≤ h'.objs.size := by rw [hsz]; exact Nat.le_add_right _ _
    have hm0 : (h'.objs.size == sysModules) = false := beq_eq_false_iff_ne.mpr (Nat.ne_of_gt (Nat.lt_of_lt_of_le I1.big le))
    have hlen : (mergeK [] (ks.zip ys)).length ≤ sizeLine := by
      refine Nat.le_trans (length_mergeK _ []) ?_
      rw [List.length_nil, Nat.zero_add, List.length_zip]
      exact Nat.le_trans (Nat.min_le_right _ _) z2
    have k : ∀ c o, s1.heap.get? c = some o → h''.get? c = some o := fun c o e => hkk c o (fun hc => by
      have lc : c < s1.heap.objs.size := Heap.lt_size e
      simp only [List.mem_cons, List.not_mem_nil, or_false] at hc
      rcases hc with z | z | z | z
      · rw [z] at lc; exact Nat.not_lt_of_le (Nat.le_add_right _ _) lc
      · rw [z] at lc; exact Nat.not_lt_of_le (Nat.le_add_right _ _) lc
      · rw [z] at lc; exact Nat.lt_irrefl _ lc
      · rw [z] at lc; exact Nat.not_lt_of_le (Nat.le_add_right _ _) lc) (hk c o e)
    exact ⟨.ref h'.objs.size, upd H1 h'.objs.size (.dK (mergeK [] (ks.zip ys))), I1.laid (t' := tk) k le (show ObjOk X.prog X.w _ _ _ (.dK (mergeK [] (ks.zip ys))) from ⟨hlen, hm0, merged [] prs, KV.merge rel .nil, hd⟩), rfl, q _ (I1.hok.fresh le)⟩
end
def cDictZip (a : CEs) : CE := fun l h => (a l h).bind fun xs h1 => match xs with
  | [.tup xs, .tup ys] => match keysOfC xs with
    | some ks => if noRefs ys = true then .ok (.ref h1.length) (h1 ++ [.dk (mergeD [] (ks.zip ys))]) else .stuck
    | none => .stuck
  | _ => .stuck
theorem zip_rel {G : Gb} {w : Wd} {ρ : List Addr} {H : Hp} : ∀ (ks : List Key) {ys : List CV} {us : List V}, RelCs G w ρ H ys us → (ks.zip us).map (·.1) = (ks.zip ys).map (·.1) ∧ RelCs G w ρ H ((ks.zip ys).map (·.2)) ((ks.zip us).map (·.2))
  | [], ys, us, r => ⟨rfl, RelCs.nil⟩
  | k :: ks, [], us, r => by
    unfold RelCs at r
    subst r
    exact ⟨rfl, RelCs.nil⟩
  | k :: ks, y :: ys, us, r => by
    unfold RelCs at r
    obtain ⟨v, us', e, r1, r2⟩ := r
    subst e
    obtain ⟨a, b⟩ := zip_rel ks r2
    exact ⟨congrArg (k :: ·) a, RelCs.cons r1 b⟩
section
variable {X : Cx} {G : Gb} {E : XO} {e e2 o i : Expr} {cs : CEs} {eo ei : CE} {p p2 pos pos2 : Pos}
theorem xe_dictZip (hK : X.K = G.K) (hcalm : X.calm = true) (hg : Gl X "dict") (hm : X.mg "dict" = none) (hg2 : Gl X "zip") (hm2 : X.mg "zip" = none) (ha : XA X G E [e, e2] cs)
    (hs : starEach [e, e2] X.env = (false, eval e X.env) :: starEach [e2] X.env := by rfl) (hpl : (backTo pos2 (starEach [e2] X.env)).any (·.1) = false := by rfl) :
    XE X G E (.Call (.Name "dict" p) [.Call (.Name "zip" p2) [e, e2] [] pos2] [] pos) (cDictZip cs) := pe_imp (pe_dictZip hcalm hg hm hg2 hm2 ha hs hpl) fun σ H Q ⟨w, ρ, l, h, R, L, g⟩ => rds_then R L g fun w1 ρ1 h1 H1 xs v e1 R1 L1 r1 g1 => by
  split at g1
  case h_2 => exact g1.elim
  case h_1 ys zs =>
  split at g1
  case h_2 => exact g1.elim
  case h_1 ks ek =>
  split at g1
  case isFalse => exact g1.elim
  case isTrue nr =>
  obtain ⟨u1, u2, k1, k2, k3⟩ := two_of r1
  obtain ⟨a, vs, q1, q2, q3⟩ := rc_tup k2
  obtain ⟨b, us, p1, p2, p3⟩ := rc_tup k3
  rw [q1, p1] at k1
  have ev := keysOfC_rel q3 ek
  subst ev
  refine ⟨a, b, ks, us, k1, hK ▸ q2, hK ▸ p2, fun d hd => ?_⟩
  obtain ⟨z1, z2⟩ := zip_rel ks (RelCs.free [] nr p3)
  obtain ⟨m1, m2⟩ := mergeD_rel (kvs := []) (us := []) z1 z2 rfl RelCs.nil
  have ex := Ext.newM w1 ρ1 (.dK (mergeK [] (ks.zip us))) hd
  refine (show PostV G w ρ H Q (.ref h1.length) (h1 ++ [.dk (mergeD [] (ks.zip zs))]) from g1) _ _ _ _ (e1.trans ex) (R1.alloc hd trivial ⟨_, m1, ?_, upd_same⟩) (by unfold RelC; exact ⟨d, by rw [← R1.len, List.getElem?_append_right (Nat.le_refl _)]; simp, rfl⟩)
  exact RelCs.ext ex R1.sub ⟨[], rfl⟩ m2
def tgSubD (eo ei : CE) : CTg := fun c l h => (eo l h).bind fun o h1 => (ei l h1).bind fun i h2 => match o, keyOf i with
  | .ref n, some k => match h2[n]? with
    | some (.dk kvs) => if noRef c = true ∧ kvs.length < big then .ok l (h2.set n (.dk (putD kvs k c))) else .stuck
    | _ => .stuck
  | _, _ => .stuck
theorem xg_subD (hu : X.A.units + 1 < cLine) (ho : XE X G E o eo) (hi : XE X G E i ei) (ha : ∀ v, assign (.Subscript o i pos) X.env v = (do
      let ov ← holding [v] (eval o X.env)
      let iv ← holding [v, ov] (eval i X.env)
      standAt pos
      holding [v, ov, iv] (setItem ov iv v)
      release [v, ov, iv] []) := by intro _; rfl) : XG X G E (.Subscript o i pos) (tgSubD eo ei) := pg_imp (pg_sub ho hi (set_dict hu) ha) fun v σ H Q ⟨w, ρ, l, h, c, R, L, r, g⟩ => by
  refine rd_then R L g fun w1 ρ1 h1 H1 x u e1 R1 L1 r1 g1 => rd_then R1 L1 g1 fun w2 ρ2 h2 H2 y z e2 R2 L2 r2 g2 => ?_
  split at g2
  case h_2 => exact g2.elim
  case h_1 n k ek =>
  split at g2
  case h_2 => exact g2.elim
  case h_1 kvs q =>
  split at g2
  case isFalse => exact g2.elim
  case isTrue nr =>
  have rx := r1.up e2 R1
  unfold RelC at rx
  obtain ⟨a, k1, k2⟩ := rx
  obtain ⟨us, j1, j2, j3⟩ := R2.obj n a _ k1 q
  have ey := keyOf_rel r2 ek
  have hm : a ∈ ρ2 := List.mem_of_getElem? k1
  have hl : us.length < sizeLine := by
    have z := congrArg List.length j1
    rw [List.length_map, List.length_map] at z
    rw [z]
    exact Nat.lt_of_lt_of_le nr.2 (by decide)
  refine ⟨a, _, k2, by rw [ey]; exact DPut.k j3 hl, ?_⟩
  have e3 : Ext w2 ρ2 H2 w2 ρ2 (upd H2 a (.dK (putK us k v))) := Ext.write w2 hm j3 trivial
  obtain ⟨p1, p2⟩ := putD_rel (k := k) j1 j2 (RelC.free [] nr.1 (r.up (e1.trans e2) R))
  obtain ⟨R3, _⟩ := R2.write (o := .dK (putK us k v)) (co := .dk (putD kvs k c)) k1 trivial ⟨_, p1, RelCs.ext e3 R2.sub ⟨[], rfl⟩ p2, upd_same⟩
  exact (show PostL G w ρ H Q l _ from g2) w2 ρ2 _ σ ((e1.trans e2).trans e3) R3 (L2.up e3 R2)
end
/-! ### min, max of a tuple of ints -/
theorem _root_.L2.Room.u2 {k : Nat} {A : Around} (r : Room k A) : A.units + 2 < cLine := by have := r.un; omega
def minT (x : Int) (ns : List Int) : Int := ns.foldl (fun a y => if y < a then y else a) x
def maxT (x : Int) (ns : List Int) : Int := ns.foldl (fun a y => if a < y then y else a) x
def fMinS : Fn := fun cs h => match cs with
  | [.tup xs] => match intsOf xs with
    | some (x :: ns) => .ok (.int (minT x ns)) h
    | _ => .stuck
  | _ => fMinL cs h
def fMaxS : Fn := fun cs h => match cs with
  | [.tup xs] => match intsOf xs with
    | some (x :: ns) => .ok (.int (maxT x ns)) h
    | _ => .stuck
  | _ => fMaxL cs h
section
variable {X : Cx} {G : Gb} {E : XO}
open PySem.W in
theorem hold_ints {h : Heap} : ∀ {ns : List Int} {us : List Value}, Vals (ns.map V.int) us → HoldAll h us ns
  | [], us, r => by rw [List.map_nil] at r; cases r; exact HoldAll.nil
  | n :: ns, us, r => by
    rw [List.map_cons] at r
    cases r with
    | cons a b =>
      obtain ⟨t, e⟩ : ∃ t, _ = Value.int n t := a
      subst e
      exact HoldAll.cons (holds_int n t) (hold_ints b)
theorem minOf_eq (x : Int) (ns : List Int) : PySem.W.minOf x ns = minT x ns := by
  unfold PySem.W.minOf minT
  congr 1
  funext a y
  show (if decide (y < a) = true then y else a) = _
  by_cases z : y < a
  · rw [if_pos (decide_eq_true z), if_pos z]
  · rw [if_neg (by rw [decide_eq_true_eq]; exact z), if_neg z]
theorem maxOf_eq (x : Int) (ns : List Int) : PySem.W.maxOf x ns = maxT x ns := by
  unfold PySem.W.maxOf maxT
  congr 1
  funext a y
  show (if decide (a < y) = true then y else a) = _
  by_cases z : a < y
  · rw [if_pos (decide_eq_true z), if_pos z]
  · rw [if_neg (by rw [decide_eq_true_eq]; exact z), if_neg z]
theorem b_minS (hK : X.K = G.K) (hu : X.A.units + 2 < cLine) (hc : X.calm = true) : CallR X (.builtin "min") (rdF G E fMinS) := by
  intro pins s σ H xs us Q I rv q
  obtain ⟨w, ρ, h, cs, R, r, g⟩ := q
  unfold fMinS at g
  split at g
  · rename_i ys
    split at g
    case h_2 => exact g.elim
    case h_1 x ns ei =>
    obtain ⟨u, k1, k2⟩ := one_of r
    obtain ⟨a, vs, q1, q2, q3⟩ := rc_tup k2
    rw [q1] at k1
    subst k1
    have ev := intsOf_ok q3 ei
    subst ev
    rw [Vals.ref1 rv]
    obtain ⟨its, rv2, p, _⟩ := I.tuple (show SqT X.K H a ((x :: ns).map V.int) from hK ▸ q2)
    refine PySem.W.min_tuple_datum (x := x) (xs := ns) (I.ok.hd hc) (show s.heap.IsTuple a its.toArray from p) (by simpa using hold_ints (ns := x :: ns) rv2) (Nat.lt_of_le_of_lt (by show X.A.units + 1 + 0 ≤ _; omega) hu) fun i v h' tk hi hh kk => ?_
    obtain ⟨t, e⟩ := PySem.W.int_of_holds hh
    subst e
    exact ⟨.int (minT x ns), H, I.kept kk, ⟨t, by rw [minOf_eq]⟩, (okV R g (cr_int _))⟩
  · exact b_minL hc pins s σ H xs us Q I rv ⟨w, ρ, h, cs, R, r, g⟩
theorem b_maxS (hK : X.K = G.K) (hu : X.A.units + 2 < cLine) (hc : X.calm = true) : CallR X (.builtin "max") (rdF G E fMaxS) := by
  intro pins s σ H xs us Q I rv q
  obtain ⟨w, ρ, h, cs, R, r, g⟩ := q
  unfold fMaxS at g
  split at g
  · rename_i ys
    split at g
    case h_2 => exact g.elim
    case h_1 x ns ei =>
    obtain ⟨u, k1, k2⟩ := one_of r
    obtain ⟨a, vs, q1, q2, q3⟩ := rc_tup k2
    rw [q1] at k1
    subst k1
    have ev := intsOf_ok q3 ei
    subst ev
    rw [Vals.ref1 rv]
    obtain ⟨its, rv2, p, _⟩ := I.tuple (show SqT X.K H a ((x :: ns).map V.int) from hK ▸ q2)
    refine PySem.W.max_tuple_datum (x := x) (xs := ns) (I.ok.hd hc) (show s.heap.IsTuple a its.toArray from p) (by simpa using hold_ints (ns := x :: ns) rv2) (Nat.lt_of_le_of_lt (by show X.A.units + 1 + 0 ≤ _; omega) hu) fun i v h' tk hi hh kk => ?_
    obtain ⟨t, e⟩ := PySem.W.int_of_holds hh
    subst e
    exact ⟨.int (maxT x ns), H, I.kept kk, ⟨t, by rw [maxOf_eq]⟩, (okV R g (cr_int _))⟩
  · exact b_maxL hc pins s σ H xs us Q I rv ⟨w, ρ, h, cs, R, r, g⟩
end
end Rn
namespace Rn
open PySem PySem.Spec PyProof.Rows L2 LamX NdefX
theorem kit_self {K : PySem.W.Frag} {c : Value} : PySem.W.kitOne K c c = some true := by
  unfold PySem.W.kitOne
  rw [if_pos (beq_self_eq_true c)]
theorem kit_other {K : PySem.W.Frag} {A B : Addr} (s1 : PySem.W.subIn K (.ref A) (.ref A) = some true) (s2 : PySem.W.subIn K (.ref A) (.ref B) = some false) (ic : PySem.W.isClsIn K B = true) (tb : PySem.W.typeIn K (.ref B) = some (.type "type")) : PySem.W.kitOne K (.ref A) (.ref B) = some false := by
  have ne : ¬ ((Value.ref A == Value.ref B) = true) := fun z => by
    have e := beq_iff_eq.mp z
    rw [← e, s1] at s2
    cases s2
  have ic' : (PySem.W.clsIn K B).isSome = true := ic
  unfold PySem.W.kitOne
  rw [if_neg ne]
  show (if ((PySem.W.clsIn K B).isSome && PySem.W.typeIn K (.ref B) == some (.type "type")) = true then PySem.W.subIn K (.ref A) (.ref B) else none) = _
  have tb' : (PySem.W.typeIn K (.ref B) == some (.type "type")) = true := by rw [tb]; exact beq_self_eq_true _
  rw [ic', tb', if_pos (by rfl)]
  exact s2
theorem kit_noT {K : PySem.W.Frag} {T : String} {B : Addr} (ic : PySem.W.isClsIn K B = true) (tb : PySem.W.typeIn K (.ref B) = some (.type "type")) (s2 : PySem.W.subIn K (.type T) (.ref B) = some false) : PySem.W.kitOne K (.type T) (.ref B) = some false := by
  have ic' : (PySem.W.clsIn K B).isSome = true := ic
  unfold PySem.W.kitOne
  rw [if_neg (by simp)]
  show (if ((PySem.W.clsIn K B).isSome && PySem.W.typeIn K (.ref B) == some (.type "type")) = true then PySem.W.subIn K (.type T) (.ref B) else none) = _
  have tb' : (PySem.W.typeIn K (.ref B) == some (.type "type")) = true := by rw [tb]; exact beq_self_eq_true _
  rw [ic', tb', if_pos (by rfl)]
  exact s2
theorem kit_VE {K : PySem.W.Frag} {A : Addr} (s : PySem.W.subIn K (.ref A) (.type "ValueError") = some true) : PySem.W.kitOne K (.ref A) (.type "ValueError") = some true := by
  unfold PySem.W.kitOne
  rw [if_neg (by simp)]
  show (if PySem.W.kitMeta "ValueError" = true then PySem.W.subIn K (.ref A) (.type "ValueError") else none) = _
  rw [if_pos (by decide +kernel)]
  exact s
end Rn

namespace Rn
open PySem PySem.Spec PyProof.Rows L2 LamX NdefX
/-! ### x = {k: v for ..} that is changed later -/
def cDcTN0 (vs : List Nat) (ci : CI) (t : CTg) (tt : CTt) (ek ev : CE) : CE := fun l h => (ci l h).bind fun src h1 => match src with
  | .vals xs => (dcL t tt ek ev [] xs (wipeL l vs) h1).bind fun d h2 => if noRefs (d.map (·.2)) = true then .ok (.ref h2.length) (h2 ++ [.dt d]) else .stuck
  | _ => .stuck
def cDcTN (vs : List Nat) (ci : CI) (t : CTg) (tt : CTt) (ek ev : CE) : CE := fun l h => (cDcTN0 vs ci t tt ek ev l h).noExc
theorem Rep.track {G : Gb} {w : Wd} {ρ : List Addr} {h : CH} {H : Hp} (R : Rep G w ρ h H) {p : Addr} {co : CO} (hm : p ∈ w.M) (np : p ∉ ρ) (hc : CoOk G w H p co) : Rep G w (ρ ++ [p]) (h ++ [co]) H := by
  refine ⟨?_, fun a ha => ?_, by simp [R.len], R.mh, fun n a u h1 h2 => ?_, R.web, R.wne, R.wnf, R.fh, R.tab, R.lco, R.ow, R.pn⟩
  · rw [List.nodup_append]
    refine ⟨R.nd, by simp, fun a ha b hb => ?_⟩
    simp at hb; subst hb
    intro z; subst z; exact np ha
  · rcases List.mem_append.mp ha with z | z
    · exact R.sub a z
    · simp at z; subst z; exact hm
  · by_cases hn : n < ρ.length
    · rw [List.getElem?_append_left hn] at h1
      rw [List.getElem?_append_left (by rw [← R.len]; exact hn)] at h2
      exact R.obj n a u h1 h2
    · have hn' : n = ρ.length := by
        have := (List.getElem?_eq_some_iff.mp h1).1
        simp at this; omega
      subst hn'
      rw [List.getElem?_append_right (Nat.le_refl _)] at h1
      rw [R.len, List.getElem?_append_right (Nat.le_refl _)] at h2
      simp at h1 h2
      subst h1 h2
      exact hc
theorem DicAt.finN {G : Gb} {w0 w : Wd} {ρ0 ρ : List Addr} {H0 H : Hp} {h : CH} {D : Addr} {acc : List (TKey × CV)} {wS : Wd} {ρS : List Addr} {HS : Hp} {Q : VK} (A : DicAt G w0 ρ0 H0 D w ρ h H acc) (hD : H0 D = none) (e0 : Ext wS ρS HS w0 ρ0 H0) (nr : noRefs (acc.map (·.2)) = true) (g : PostV G wS ρS HS Q (.ref h.length) (h ++ [.dt acc])) : Q (.ref D) H := by
  obtain ⟨us, v1, v2, v3⟩ := A.v
  have e1 := e0.trans A.e
  have e2 : Ext wS ρS HS w (ρ ++ [D]) H := by
    refine ⟨e1.mM, e1.mO, e1.mF, e1.new, ?_, e1.keep, e1.there, e1.tup, e1.frz⟩
    obtain ⟨q, p1, p2⟩ := e1.pre
    refine ⟨q ++ [D], by rw [p1, List.append_assoc], fun a ha => ?_⟩
    rcases List.mem_append.mp ha with z | z
    · exact p2 a z
    · rw [List.mem_singleton.mp z]
      exact e0.isNone hD
  refine g _ _ _ _ e2 (A.R.track A.dM A.dn ⟨us, v2, RelCs.free [] nr v3, v1⟩) ?_
  unfold RelC
  exact ⟨D, by rw [← A.R.len, List.getElem?_append_right (Nat.le_refl _)]; simp, rfl⟩
section
variable {X : Cx} {G : Gb} {E : XO}
theorem rd_dcTN {own : List Nat} {ci : CI} {t : CTg} {tt : CTt} {ek ev : CE} : ∀ σ H Q, rd G Noth (cDcTN0 own ci t tt ek ev) σ H Q → tDcT (rdI G Noth ci) (rdW G Noth own t) (rdt G Noth tt) (rd G Noth ek) (rd G Noth ev) own σ H Q := fun σ H Q ⟨w, ρ, l, h, R, L, g⟩ => by
  refine ⟨w, ρ, l, h, R, L, (Out.good_bind.mp g).mono (fun src h0 g0 w0 ρ0 H0 J e0 R0 okS D hD => ?_) fun _ _ _ q => q⟩
  cases src with
  | obj n => exact g0.elim
  | vals xs =>
  have ok : ItOk G w0 ρ0 H0 xs J := okS
  replace g0 : ((dcL t tt ek ev [] xs (wipeL l own) h0).bind fun d h2 => if noRefs (d.map (·.2)) = true then .ok (.ref h2.length) (h2 ++ [.dt d]) else .stuck).Good (PostV G w ρ H Q) (PostX G w ρ H Noth) := g0
  obtain ⟨Tr, eTr⟩ : ∃ Tr : Nat → Hp → Prop, Tr = fun i H' => i ≤ xs.length ∧ ∃ w1 ρ1 h1 acc, DicAt G w0 ρ0 H0 D w1 ρ1 h1 H' acc ∧
    ((dcL t tt ek ev acc (xs.drop i) (wipeL l own) h1).bind fun d h2 => if noRefs (d.map (·.2)) = true then Out.ok (CV.ref h2.length) (h2 ++ [.dt d]) else .stuck).Good (PostV G w ρ H Q) (fun _ _ _ => False) := ⟨_, rfl⟩
  refine ⟨fun i m H' => m = xs.length - i ∧ Tr i H', ⟨_, rfl, by rw [eTr]; exact ⟨Nat.zero_le _, _, _, _, [], DicAt.start R0 hD, g0⟩⟩, ?_⟩
  rintro i m H1 ⟨rfl, tr⟩
  rw [eTr] at tr
  obtain ⟨hi, w1, ρ1, h1, acc, A1, g1⟩ := tr
  obtain ⟨k1, k2⟩ := ok w1 ρ1 h1 H1 (ExtW.of A1.e R0.sub) A1.R i
  by_cases hlt : i < xs.length
  case neg =>
    have hi' : i = xs.length := by omega
    subst hi'
    rw [List.drop_length, dcL] at g1
    have g1' : (if noRefs (acc.map (·.2)) = true then Out.ok (CV.ref h1.length) (h1 ++ [.dt acc]) else .stuck : Out CV).Good (PostV G w ρ H Q) (fun _ _ _ => False) := g1
    by_cases nr : noRefs (acc.map (·.2)) = true
    · rw [if_pos nr] at g1'
      exact .inl ⟨k2 rfl, A1.finN hD e0 nr (show PostV G w ρ H Q (.ref h1.length) (h1 ++ [.dt acc]) from g1')⟩
    · rw [if_neg nr] at g1'
      exact g1'.elim
  have hx : xs[i]? = some xs[i] := by simp [hlt]
  obtain ⟨a1, a2⟩ := k1 _ hx
  rw [List.drop_eq_getElem_cons hlt] at g1
  refine .inr ⟨a1, Tr (i + 1), fun H' q => ⟨_, by omega, rfl, q⟩, fun v H' y => ?_⟩
  obtain ⟨b1, b2, b3⟩ := a2 v H' y
  rw [dcL] at g1
  simp only [Out.bind_assoc] at g1
  have A1' := A1.step b2 b3
  refine ⟨w1, ρ1, wipeL l own, h1, xs[i], b3, (L.wipe own).up (e0.trans A1'.e) R, b1, (Out.good_bind.mp g1).mono (fun l2 h2 g2 w2 ρ2 H2 σ2 e2 R2 L2 hw => ?_) fun _ _ _ q => q.elim⟩
  refine ⟨hw.trans (wipe_wipe fun _ z => z), ?_⟩
  have A2 := A1'.step e2 R2
  refine rdt_then R2 L2 (g2.mono (fun _ _ q => q) fun _ _ _ q => q.elim) fun w3 ρ3 h3 H3 b e3 R3 L3 g3 => ?_
  have A3 := A2.step e3 R3
  cases b with
  | false =>
    rw [if_neg Bool.false_ne_true, eTr]
    exact ⟨hlt, w3, ρ3, h3, acc, A3, g3.mono (fun _ _ q => q) fun _ _ _ q => q.elim⟩
  | true =>
    rw [if_pos rfl]
    simp only [Out.bind_assoc] at g3
    refine rd_then R3 L3 g3 fun w4 ρ4 h4 H4 y u e4 R4 L4 r4 g4 => ?_
    refine rd_then R4 L4 (g4.mono (fun _ _ q => q) fun _ _ _ q => q) fun w5 ρ5 h5 H5 z u2 e5 R5 L5 r5 g5 => ?_
    have A5 := (A3.step e4 R4).step e5 R5
    cases ek : tkOf y with
    | none => rw [ek] at g5; exact g5.elim
    | some k =>
      rw [ek] at g5
      simp only at g5
      split at g5
      case isFalse => exact g5.elim
      case isTrue hbig =>
      obtain ⟨b, hb, hb2⟩ := tk_ok (r4.up e5 R4) ek
      obtain ⟨us, p1, p2, p3⟩ := A5.push hD (k := k) r5 (by omega)
      refine ⟨us, k, b, hb, hb2, p1, p2, ?_⟩
      rw [eTr]
      exact ⟨hlt, w5, ρ5, h5, _, p3, g5.mono (fun _ _ q => q) fun _ _ _ q => q.elim⟩
end
theorem xs_setDcTN {X : Cx} {G : Gb} {E : XO} {i : Nat} {y : Str} {py spos : Pos} {kx vx tg iter : Expr} {ifs : List Expr} {scope : Scope} {own : List (Str × Nat)} {pos : Pos} {ci : CI} {t : CTg} {tt : CTt} {ek ev : CE} (hc : X.calm = true) (hu : X.A.units + 1 < cLine) (hN : X.N.Nodup) (hy : X.N[i]? = some y) (hyl : X.env.scope.names.lookup y = some .local)
    (hsw : swapsWith (.DictComp kx vx [⟨tg, iter, ifs, 0⟩] scope pos) (some (.Name y py)) spos.line X.env = pure true) (hi : XI X G Noth tg iter ci) (ok : BlkOk X.N X.env.scope scope own)
    (hg : ∀ (s : Shared) (H : Hp) (C : Addr) (cl : List (Str × Addr)) (fp : List Addr), XGw (X.blk s H scope (compEnvC scope cl C X.env) fp) G Noth (own.map (·.2)) tg t) (ht : ∀ (s : Shared) (H : Hp) (C : Addr) (cl : List (Str × Addr)) (fp : List Addr), XTs (X.blk s H scope (compEnvC scope cl C X.env) fp) G Noth ifs tt)
    (hk : ∀ (s : Shared) (H : Hp) (C : Addr) (cl : List (Str × Addr)) (fp : List Addr), XE (X.blk s H scope (compEnvC scope cl C X.env) fp) G Noth kx ek)
    (he : ∀ (s : Shared) (H : Hp) (C : Addr) (cl : List (Str × Addr)) (fp : List Addr), XE (X.blk s H scope (compEnvC scope cl C X.env) fp) G Noth vx ev) (hs : ∀ x, foldedSetIterable iter X.env x = pure x := by intro _; rfl) :
    XS X G E (.Assign [.Name y py] (.DictComp kx vx [⟨tg, iter, ifs, 0⟩] scope pos) spos) (sAsg (cDcTN (own.map (·.2)) ci t tt ek ev) (tgName i)) := ps_imp (ps_setDcT hc hu hN hy hyl hsw hi ok hg ht hk he hs) fun D σ H ⟨w, ρ, l, h, R, L, g⟩ => by
  have z : rd G E (cDcTN (own.map (·.2)) ci t tt ek ev) σ H (fun x K1 => gName i x σ K1 D.nx) :=
    rd_then R L g fun w1 ρ1 h1 H1 x v e1 R1 L1 r1 g1 => (show PostF G w ρ H D (.nx (l.set i (some x))) h1 from g1) w1 ρ1 H1 e1 R1 _ (L1.set i r1)
  obtain ⟨w, ρ, l, h, R, L, g⟩ := z
  exact rd_dcTN σ H _ ⟨w, ρ, l, h, R, L, Out.good_noExc g⟩


end Rn

set_option Elab.async false
set_option linter.all false
set_option maxRecDepth 100000
set_option maxHeartbeats 4000000
namespace Rn
open PySem PySem.Spec PyProof.Rows L2 LamX NdefX
/-! ### l.count(x), l.index(x) of data -/
def rCountD (K : PySem.W.Frag) : V → List V → Hp → VK → Prop := fun x xs H Q => ∃ (a : Addr) (y : V) (d : PyData) (ds : List PyData), x = V.ref a ∧ xs = [y] ∧ Dp K H (V.ref a) (.list ds) ∧ Dp K H y d ∧
  SeqAt.shaped d = true ∧ PyData.plainAll ds = true ∧ d.plain = true ∧ Q (.int ((ds.countP fun z => PyData.eqv z d : Nat) : Int)) H
theorem mt_countD {X : Cx} (hu : X.A.units + 65 < cLine) : MtR X "list.count" (rCountD X.K) := by
  intro pins s σ H x xs v us Q I rx rxs h
  obtain ⟨a, y, d, ds, ex, exs, hl, hy, sd, p1, p2, q⟩ := h
  subst ex exs
  cases rx
  obtain ⟨u, eu, ry⟩ := vals1 rxs
  subst eu
  obtain ⟨bs, r1⟩ := Dp.reads I d y u hy ry
  cases hl with
  | lst hs ha =>
    obtain ⟨its, rv, pl, _⟩ := I.list hs
    obtain ⟨as, h4⟩ := Dp.readsAll I ds _ its ha rv
    exact SeqAt.count_list_data (vs := its.toArray) pl.isList (by simpa using h4) r1 p1 p2 (room_in_shaped sd hu) ⟨.int ((ds.countP fun z => PyData.eqv z d : Nat) : Int), H, I.tok _, ⟨_, rfl⟩, q⟩
def okD (ds : List PyData) (d : PyData) : Bool := SeqAt.shaped (.list ds) && (SeqAt.shaped d && (PyData.plainAll ds && d.plain))
def mCnt : CV → List CV → CH → Out CV := fun x ys h => match toDh h x, ys with
  | some (.list ds), [y] => match toD y with
    | some d => if okD ds d = true then .ok (.int ((ds.countP fun z => PyData.eqv z d : Nat) : Int)) h else .stuck
    | none => .stuck
  | _, _ => .stuck
def mIdx : CV → List CV → CH → Out CV := fun x ys h => match toDh h x, ys with
  | some (.list ds), [y] => match toD y with
    | some d => if okD ds d = true ∧ ds.findIdx (fun z => PyData.eqv z d) < ds.length then .ok (.int ((ds.findIdx fun z => PyData.eqv z d : Nat) : Int)) h else .stuck
    | none => .stuck
  | _, _ => .stuck
theorem okD_iff {ds : List PyData} {d : PyData} (h : okD ds d = true) : SeqAt.shaped (.list ds) = true ∧ SeqAt.shaped d = true ∧ PyData.plainAll ds = true ∧ d.plain = true := by
  unfold okD at h
  rw [Bool.and_eq_true, Bool.and_eq_true, Bool.and_eq_true] at h
  exact ⟨h.1, h.2.1, h.2.2.1, h.2.2.2⟩
theorem dp_ref {K : PySem.W.Frag} {H : Hp} {v : V} {ds : List PyData} (h : Dp K H v (.list ds)) : ∃ a, v = .ref a := by
  cases h
  exact ⟨_, rfl⟩
section
variable {X : Cx} {G : Gb} {E : XO} {o e : Expr} {es : List Expr} {co : CE} {cs : CEs} {name : Str} {apos cpos : Pos} {id : String} {m : CV → List CV → CH → Out CV}
theorem m_cnt (hK : X.K = G.K) (hu : X.A.units + 65 < cLine) : MtR X "list.count" (rdM G E mCnt) := by
  intro pins s σ H x xs v us Q I rx rxs h
  refine mt_countD hu pins s σ H x xs v us Q I rx rxs ?_
  obtain ⟨w, ρ, hh, cx, ys, R, r1, r2, g⟩ := h
  unfold mCnt at g
  split at g
  case h_2 => exact g.elim
  case h_1 ds y q =>
  split at g
  case h_2 => exact g.elim
  case h_1 d q2 =>
  split at g
  case isFalse => exact g.elim
  case isTrue k =>
  obtain ⟨k1, k2, k3, k4⟩ := okD_iff k
  have dp := toDh_ok R r1 q
  obtain ⟨a, ea⟩ := dp_ref dp
  subst ea
  obtain ⟨u, e1, e2⟩ := one_of r2
  exact ⟨a, u, d, ds, rfl, e1, hK ▸ dp, hK ▸ toD_ok e2 q2, k2, k3, k4, okV R g (cr_int _)⟩
theorem m_idx (hK : X.K = G.K) (hu : X.A.units + 65 < cLine) : MtR X "list.index" (rdM G E mIdx) := by
  intro pins s σ H x xs v us Q I rx rxs h
  refine mt_indexD hu pins s σ H x xs v us Q I rx rxs ?_
  obtain ⟨w, ρ, hh, cx, ys, R, r1, r2, g⟩ := h
  unfold mIdx at g
  split at g
  case h_2 => exact g.elim
  case h_1 ds y q =>
  split at g
  case h_2 => exact g.elim
  case h_1 d q2 =>
  split at g
  case isFalse => exact g.elim
  case isTrue k =>
  obtain ⟨k0, kj⟩ := k
  obtain ⟨k1, k2, k3, k4⟩ := okD_iff k0
  have dp := toDh_ok R r1 q
  obtain ⟨a, ea⟩ := dp_ref dp
  subst ea
  obtain ⟨u, e1, e2⟩ := one_of r2
  refine ⟨a, u, d, ds, ds.findIdx (fun z => PyData.eqv z d), ds[ds.findIdx (fun z => PyData.eqv z d)], rfl, e1, hK ▸ dp, hK ▸ toD_ok e2 q2, k1, k2, List.getElem?_eq_getElem kj, List.findIdx_getElem (w := kj), fun i z' hi hz => ?_, okV R g (cr_int _)⟩
  obtain ⟨hl, ez⟩ := List.getElem?_eq_some_iff.mp hz
  rw [← ez]
  exact List.not_of_lt_findIdx hi
def cLMx (m : CV → List CV → CH → Out CV) (o : CE) (a : CEs) : CE := fun l h => (o l h).bind fun x h1 => match lstOf h1 x with
  | some _ => (a l h1).bind fun ys h2 => m x ys h2
  | none => .stuck
theorem xe_lmx (pa : PlainAttrs "list") (slot : Slot "list" name id) (hty : typeOf (.builtin id) = pure (.type "method_descriptor")) (hm : MtR X id (rdM G E m)) (ho : XE X G E o co) (ha : XA X G E (e :: es) cs)
    (hbase : attributeBase o name X.env (eval o X.env) = eval o X.env := by rfl)
    (hfew : ((backTo cpos (starEach (e :: es) X.env)).all (fun x => !x.1) && (backToKw cpos (keywordEach [] X.env)).all (fun x => x.1.isSome) && decide ((e :: es).length + ([] : List Keyword).length + (if ([] : List Keyword).isEmpty then 0 else 1) < 30)) = true := by rfl)
    (hline : (apos.endLine == cpos.line) = true := by rfl) (hs : starEach (e :: es) X.env = (false, eval e X.env) :: starEach es X.env := by rfl) (hplain : (backTo cpos (starEach es X.env)).any (·.1) = false := by rfl) :
    XE X G E (.Call (.Attribute o name apos) (e :: es) [] cpos) (cLMx m co cs) := pe_imp (pe_bm pa slot hty hm ho ha hbase hfew hline hs hplain) fun σ H Q ⟨w, ρ, l, h, R, L, g⟩ =>
  rd_then R L g fun w1 ρ1 h1 H1 x v e1 R1 L1 r1 g1 => by
    split at g1
    case h_2 => exact g1.elim
    case h_1 xs q =>
    obtain ⟨a, vs, k1, k2, k3⟩ := lstOf_ok R1 r1 q
    exact ⟨by rw [k1]; exact .inl ⟨rfl, vs, SqL.of k2⟩, rds_then R1 L1 g1 fun w2 ρ2 h2 H2 ys us e2 R2 L2 r2 g2 => ⟨w2, ρ2, h2, _, ys, R2, r1.up e2 R1, r2, g2.mono (fun _ _ q => q.at (e1.trans e2)) fun _ _ _ q => q⟩⟩
theorem xe_count (hK : X.K = G.K) (hu : X.A.units + 65 < cLine) (ho : XE X G E o co) (ha : XA X G E [e] cs) (hbase : attributeBase o "count" X.env (eval o X.env) = eval o X.env := by rfl)
    (hfew : ((backTo cpos (starEach [e] X.env)).all (fun x => !x.1) && (backToKw cpos (keywordEach [] X.env)).all (fun x => x.1.isSome) && decide ([e].length + ([] : List Keyword).length + (if ([] : List Keyword).isEmpty then 0 else 1) < 30)) = true := by rfl)
    (hline : (apos.endLine == cpos.line) = true := by rfl) (hs : starEach [e] X.env = (false, eval e X.env) :: starEach [] X.env := by rfl) (hplain : (backTo cpos (starEach [] X.env)).any (·.1) = false := by rfl) :
    XE X G E (.Call (.Attribute o "count" apos) [e] [] cpos) (cLMx mCnt co cs) := xe_lmx F.plainAttrs_list F.slot_list_count F.type_list_count (m_cnt hK hu) ho ha hbase hfew hline hs hplain
theorem xe_index (hK : X.K = G.K) (hu : X.A.units + 65 < cLine) (ho : XE X G E o co) (ha : XA X G E [e] cs) (hbase : attributeBase o "index" X.env (eval o X.env) = eval o X.env := by rfl)
    (hfew : ((backTo cpos (starEach [e] X.env)).all (fun x => !x.1) && (backToKw cpos (keywordEach [] X.env)).all (fun x => x.1.isSome) && decide ([e].length + ([] : List Keyword).length + (if ([] : List Keyword).isEmpty then 0 else 1) < 30)) = true := by rfl)
    (hline : (apos.endLine == cpos.line) = true := by rfl) (hs : starEach [e] X.env = (false, eval e X.env) :: starEach [] X.env := by rfl) (hplain : (backTo cpos (starEach [] X.env)).any (·.1) = false := by rfl) :
    XE X G E (.Call (.Attribute o "index" apos) [e] [] cpos) (cLMx mIdx co cs) := xe_lmx F.plainAttrs_list F.slot_list_index F.type_list_index (m_idx hK hu) ho ha hbase hfew hline hs hplain
end

/-! ### a, b, .. = a list -/
def tgLst (n : Nat) (t : CTgs) : CTg := fun c l h => match lstOf h c with
  | some xs => if xs.length = n then t xs l h else .stuck
  | none => .stuck
section
variable {X : Cx} {G : Gb} {E : XO} {pos : Pos}
theorem xg_lst {es : List Expr} {k : Nat} {t : CTgs} {n : Nat} (hK : X.K = G.K) (hc : X.calm = true) (h : XGs X G E es t)
    (hn : (assignEach es X.env).length = n := by rfl) (hst : (assignEach es X.env).findIdx? (·.1) = none := by rfl) : XG X G E (.Tuple es k pos) (tgLst n t) := pg_imp (pg_lst hc h hn hst) fun v σ H Q ⟨w, ρ, l, h, c, R, L, r, g⟩ => by
  unfold tgLst at g
  split at g
  case h_2 => exact g.elim
  case h_1 xs q =>
  split at g
  case isFalse => exact g.elim
  case isTrue hl =>
  obtain ⟨a, vs, e1, e2, e3⟩ := lstOf_ok R r q
  exact ⟨a, vs, e1, SqL.of e2, by rw [← e3.length]; exact hl, w, ρ, l, h, xs, R, L, e3, g⟩
end
/-! ### repr of a list of lists that may be tracked -/
def toDhs (h : CH) : List CV → Option (List PyData)
  | [] => some []
  | x :: xs => match toDh h x, toDhs h xs with
    | some d, some ds => some (d :: ds)
    | _, _ => none
def toDh2 (h : CH) : CV → Option PyData
  | .lst xs => match toDhs h xs with
    | some ds => some (.list ds)
    | none => none
  | x => toDh h x
theorem toDhs_ok {G : Gb} {w : Wd} {ρ : List Addr} {H : Hp} {h : CH} (R : Rep G w ρ h H) : ∀ {xs : List CV} {ds : List PyData} {vs : List V}, RelCs G w ρ H xs vs → toDhs h xs = some ds → DpAll G.K H vs ds
  | [], _, _, r, e => by unfold toDhs at e; cases e; unfold RelCs at r; rw [r]; exact .nil
  | x :: xs, _, _, r, e => by
    unfold toDhs at e
    unfold RelCs at r
    obtain ⟨v, rs, h1, h2, h3⟩ := r
    split at e
    · rename_i d ds q1 q2
      cases e
      rw [h1]
      exact .cons (toDh_ok R h2 q1) (toDhs_ok R h3 q2)
    · cases e
theorem toDh2_ok {G : Gb} {w : Wd} {ρ : List Addr} {H : Hp} {h : CH} (R : Rep G w ρ h H) {x : CV} {d : PyData} {v : V} (r : RelC G w ρ H x v) (e : toDh2 h x = some d) : Dp G.K H v d := by
  unfold toDh2 at e
  split at e
  · rename_i xs
    split at e
    · rename_i ds q
      cases e
      obtain ⟨a, vs, k1, k2, k3, k4⟩ := rc_lst r
      rw [k1]
      exact .lst (SqL.of k3) (toDhs_ok R k4 q)
    · cases e
  · exact toDh_ok R r e
def fRepr2 : Fn := fun cs h => match cs with
  | [x] => match toDh2 h x with
    | some d => if isSeq d = true ∧ okShow d = true then .ok (.str d.shown) h else .stuck
    | none => .stuck
  | _ => .stuck
theorem b_repr2 {X : Cx} {G : Gb} {E : XO} (hK : X.K = G.K) (hgd : X.A.guards = some []) (hu : X.A.units + 64 < cLine) : CallR X (.builtin "repr") (rdF G E fRepr2) := by
  intro pins s σ H xs us Q I r h
  obtain ⟨w, ρ, hh, cs, R, rr, g⟩ := h
  unfold fRepr2 at g
  split at g
  case h_2 => exact g.elim
  case h_1 x =>
  split at g
  case h_2 => exact g.elim
  case h_1 d q =>
  split at g
  case isFalse => exact g.elim
  case isTrue hd =>
  obtain ⟨v, k1, k2⟩ := one_of rr
  subst k1
  obtain ⟨u, e1, ru⟩ := Vals.one r
  subst e1
  have dp : Dp X.K H v d := hK ▸ toDh2_ok R k2 q
  obtain ⟨as, rd⟩ := Dp.reads I _ _ _ dp ru
  obtain ⟨a, ea⟩ : ∃ a, u = .ref a := by
    cases dp <;> first | exact ⟨_, ru⟩ | exact absurd hd.1 Bool.false_ne_true
  subst ea
  have ok := hd.2
  simp only [okShow, Bool.and_eq_true, decide_eq_true_eq, Bool.not_eq_true'] at ok
  obtain ⟨⟨⟨⟨o1, o2⟩, o3⟩, o4⟩, o5⟩ := ok
  refine PySem.repr_of_reads' rd o3 (PyData.noDict_hsm o4) hgd (by omega) (fun _ _ e => e) (fun h' t tk hk => ?_) (PyData.shown_fits (B := 13) (by decide) (by decide) o1 o2)
  exact ⟨.str d.shown, H, I.kept hk, ⟨t, rfl⟩, okV R g (cr_str _)⟩
/-! ### a def as a value, called by a local name -/
def cCallV (i : Nat) (tb : Nat → Option (Nat × Fn)) (a : CEs) : CE := fun l h => match l[i]? with
  | some (some (.g kk)) => match tb kk with
    | some (n, F) => cF (cCall n F) a l h
    | none => .stuck
  | _ => .stuck
def cKeyV (i : Nat) (tb : Nat → Option (Nat × List Nat × Fn)) (nk : Nat) (a : CEs) : CE := fun l h => match l[i]? with
  | some (some (.g kk)) => match tb kk with
    | some (n, pm, F) => cKey 0 nk pm n F cNil a l h
    | none => .stuck
  | _ => .stuck
section
variable {X : Cx} {G : Gb} {E : XO} {k i : Nat} {x : Str} {p pos : Pos} {e : Expr} {es : List Expr} {cs : CEs}
def VF (X : Cx) (G : Gb) (E : XO) (k kk n : Nat) (F : Fn) : Prop := ∃ (fd : FuncData) (ps : List Str) (F0 : Fn), PySem.W.keepIn X.K (.ref (G.ga kk)) = true ∧ L2.Binds X.K fd ps [] ∧
  FnG X.prog X.w X.K X.mg X.base (L2.CX X.prog X.w) k (G.ga kk) fd ps (spF G n F0) ∧ ∀ xs H Q, rdF G E F xs H Q → rdF G E F0 xs H Q
def VFK (X : Cx) (G : Gb) (E : XO) (k kk n : Nat) (ks : List Str) (pm : List Nat) (F : Fn) : Prop := ∃ (fd : FuncData) (ps : List Str) (F0 : Fn), PySem.W.keepIn X.K (.ref (G.ga kk)) = true ∧ KP X.K fd ps ks 0 pm ∧
  FnG X.prog X.w X.K X.mg X.base (L2.CX X.prog X.w) k (G.ga kk) fd ps (spF G n F0) ∧ ∀ xs H Q, rdF G E F xs H Q → rdF G E F0 xs H Q
theorem xe_gv {kk : Nat} {a : Addr} (hg : Gl X x) (hm : X.mg x = some (.ref a)) (ha : G.ga kk = a) (hd : (x == ("__debug__" : Str)) = false := by decide) : XE X G E (.Name x p) (cK (.g kk)) :=
  xe_glob (v := .ref a) (u := .ref a) hg hm rfl (fun w ρ H => by unfold RelC; rw [ha]) hd
theorem xe_callV {tb : Nat → Option (Nat × Fn)} (hN : X.N[i]? = some x) (hv : Vis X.env.scope x) (gd : X.A.guards = some []) (hr : Room k X.A) (le : Lets X E) (hT : ∀ kk n F, tb kk = some (n, F) → VF X G E k kk n F) (ha : XA X G E (e :: es) cs)
    (hd : (x == ("__debug__" : Str)) = false := by decide) (hcd : (x == ("__classdict__" : Str)) = false := by decide) (he : starEach (e :: es) X.env = (false, eval e X.env) :: starEach es X.env := by rfl) (hpl : (backTo pos (starEach es X.env)).any (·.1) = false := by rfl) :
    XE X G E (.Call (.Name x p) (e :: es) [] pos) (cCallV i tb cs) := by
  refine ⟨fun pins s σ H Q I want => ?_⟩
  obtain ⟨w, ρ, l, h, R, L, g⟩ := want
  unfold cCallV at g
  split at g
  case h_2 => exact g.elim
  case h_1 kk at1 =>
  split at g
  case h_2 => exact g.elim
  case h_1 n F et =>
  obtain ⟨fd, ps, F0, hk, hb, Fo, hw⟩ := hT kk n F et
  obtain ⟨v, z1, z2⟩ := L.2 i _ at1
  have z3 : v = .ref (G.ga kk) := by unfold RelC at z2; exact z2
  subst z3
  have e2 : (fun cs => cCall n F (cs ++ [])) = cCall n F := by funext cs; rw [List.append_nil]
  have tc : tCall (spF G n F0) [] (eOf E) (rds G E cs) σ H Q := rd_call (dcs := []) hw (fun _ _ _ => RelCs.nil) σ H Q (by rw [e2]; exact ⟨w, ρ, l, h, R, L, g⟩)
  refine wpAny_Call_Name_kw (thn ((pe_var (pos := p) (i := i) hN hv hd hcd).run pins s σ H (fun v K1 => v = .ref (G.ga kk) ∧ K1 = H) I ⟨.ref (G.ga kk), z1, rfl, rfl⟩) fun u t1 got => ?_)
  obtain ⟨v, K1, J1, r1, ev, eK⟩ := got
  subst ev
  rw [eK] at J1
  obtain rfl : u = Value.ref (G.ga kk) := r1
  refine PySem.W.callWith_K (h₀ := X.base) J1.ok.mod.kin hk (thn (ha.run pos pins t1 σ H _ J1 tc) fun us s1 hh => ?_) he hpl
  obtain ⟨vs, H1, I1, r, q⟩ := hh
  have r2 := r.append (show Vals [] [] from .nil)
  rw [List.append_nil, List.append_nil] at r2
  rw [List.append_nil] at q
  refine ⟨I1.kIn, call_fnG Fo gd hr le.pass I1 (by have q2 := hb s1 us I1.kIn (by rw [List.append_nil, ← r2.length]; exact Fo.len _ _ _ _ q); rw [List.append_nil] at q2; exact q2) r2 q⟩
theorem xe_keyV {tb : Nat → Option (Nat × List Nat × Fn)} {kws : List Keyword} {ks : List Str} {nk : Nat} {ck : CEs} (hN : X.N[i]? = some x) (hv : Vis X.env.scope x) (gd : X.A.guards = some []) (hr : Room k X.A) (le : Lets X E) (hT : ∀ kk n pm F, tb kk = some (n, pm, F) → VFK X G E k kk n ks pm F) (hkw : XKw X G E kws ck) (hnk : ks.length = nk)
    (hall : (backToKw pos (keywordEach kws X.env)).all (·.1.isSome) = true := by rfl) (hks : (backToKw pos (keywordEach kws X.env)).filterMap (·.1) = ks := by rfl)
    (hd : (x == ("__debug__" : Str)) = false := by decide) (hcd : (x == ("__classdict__" : Str)) = false := by decide) (hpl : ((backTo pos (starEach [] X.env)).any (·.1) || (backToKw pos (keywordEach kws X.env)).any (·.1.isNone)) = false := by rfl) :
    XE X G E (.Call (.Name x p) [] kws pos) (cKeyV i tb nk ck) := by
  refine ⟨fun pins s σ H Q I want => ?_⟩
  obtain ⟨w, ρ, l, h0, R, L, g0⟩ := want
  unfold cKeyV at g0
  split at g0
  case h_2 => exact g0.elim
  case h_1 kk at1 =>
  split at g0
  case h_2 => exact g0.elim
  case h_1 n pm F et =>
  obtain ⟨fd, ps, F0, hk, hb, Fo, hw⟩ := hT kk n pm F et
  obtain ⟨v, z1, z2⟩ := L.2 i _ at1
  have z3 : v = .ref (G.ga kk) := by unfold RelC at z2; exact z2
  subst z3
  refine wpAny_Call_Name_kw (thn ((pe_var (pos := p) (i := i) hN hv hd hcd).run pins s σ H (fun v K1 => v = .ref (G.ga kk) ∧ K1 = H) I ⟨.ref (G.ga kk), z1, rfl, rfl⟩) fun u t1 got => ?_)
  obtain ⟨v, K1, J1, r1, ev, eK⟩ := got
  subst ev
  rw [eK] at J1
  obtain rfl : u = Value.ref (G.ga kk) := r1
  have g : ((ck l h0).bind fun ys h2 => if ([] : List CV).length = 0 ∧ ys.length = nk then cCall n F (permV pm ([] ++ ys)) h2 else .stuck).Good (PostV G w ρ H Q) (PostX G w ρ H E) := g0
  refine PySem.W.callWith_KW0 (h₀ := X.base) J1.ok.mod.kin hk hall (thn (hkw.go pos pins t1 σ H _ J1 (rds_then R L g fun w2 ρ2 h2 H2 ys zs e2 R2 L2 r2 g2 => (⟨w2, ρ2, h2, ys, e2, R2, r2, g2⟩ : ∃ w2 ρ2 h2 ys, Ext w ρ H w2 ρ2 H2 ∧ Rep G w2 ρ2 h2 H2 ∧ RelCs G w2 ρ2 H2 ys zs ∧ (if ([] : List CV).length = 0 ∧ ys.length = nk then cCall n F (permV pm ([] ++ ys)) h2 else .stuck).Good (PostV G w ρ H Q) (PostX G w2 ρ2 H2 E)))) fun ws s2 hh => ?_) hpl
  obtain ⟨zs, H2, I2, rz, w2, ρ2, h2, ys, e2, R2, r2, g2⟩ := hh
  split at g2
  case isFalse => exact g2.elim
  case isTrue hl =>
  unfold cCall at g2
  split at g2
  case isFalse => exact g2.elim
  case isTrue hn =>
  have r3 : RelCs G w2 ρ2 H2 (permV pm ([] ++ ys)) (permV pm ([] ++ zs)) := perm_rels (RelCs.nil.append r2) pm
  refine ⟨I2.kIn, ?_⟩
  rw [hks]
  exact call_fnG Fo gd hr le.pass I2 (hb s2 [] ws I2.kIn rfl (by rw [← rz.length, ← r2.length, hnk]; exact hl.2)) (perm_vals (Vals.append .nil rz) pm) ⟨by rw [← r3.length]; exact hn, rdF_e (hw _ _ _ ⟨w2, ρ2, h2, _, R2, r3, g2.mono (fun _ _ q => q.at e2) fun _ _ _ q => q⟩)⟩
end
end Rn

set_option Elab.async false
set_option linter.all false
set_option maxRecDepth 100000
set_option maxHeartbeats 4000000
/-! ### set(a list of ints), in the order in which sorted may ask it -/
namespace CpSet
open PySem PySem.Spec PyProof.Rows L2
section
variable {P : Program} {w : World} {A : Around} {E : Value → Shared → Prop} {s : Shared}
abbrev emptyO (w : World) : Obj := { cls := .type "set", dict := none, data := .set #[] 0 (.fresh 0 0 (!w.params.followText "set-order")) }
theorem ints_at {items : Array Value} {ns : List Int} (hit : IntsAre items.toList ns) (i : Nat) (v : Value) (hv : items[i]? = some v) : ∃ k t, ns[i]? = some k ∧ v = .int k t := by
  have len : items.size = ns.length := by
    have q := IntsAre.length hit
    rwa [Array.length_toList] at q
  have hi : i < ns.length := by rw [← len]; exact (Array.getElem?_eq_some_iff.mp hv).1
  obtain ⟨t, e⟩ := IntsAre.int_at hit i v (by rw [Array.getElem?_toList]; exact hv)
  exact ⟨ns[i], t, List.getElem?_eq_getElem hi, by rw [e, List.getD_eq_getElem?_getD, List.getElem?_eq_getElem hi]; rfl⟩
/-- the new set S is filled from the list l -/
theorem fill {S l I : Addr} {items : Array Value} {ns : List Int} {R : Result → Shared → Prop} (hh : A.in1.handled = none) (hit : IntsAre items.toList ns) (hb : ns.length + 1 < scanBound) (hI : s.heap.IsListIter I l 0) (hl : s.heap.IsList l items) (hS : s.heap.get? S = some (emptyO w)) (n1 : l ≠ I) (n2 : S ≠ I) (n3 : S ≠ l)
    (h : ∀ h' tk c, SetR w h' S (fun j => decide (j ∈ ns)) c → c ≤ ns.length → (∀ b o, b ≠ S → b ≠ I → s.heap.get? b = some o → h'.get? b = some o) → R (.ok (.ret .none)) { s with heap := h', toks := tk }) :
    codeAny (model P w) A (.builtin "set.update.loop" ⟨[.ref S, .ref I], []⟩) R s := by
  have len : items.size = ns.length := by
    have q := IntsAre.length hit
    rwa [Array.length_toList] at q
  refine set_update_ints ((Walks.list hh I l n1 items).toS) S (by simp [n2, n3]) ns len hb (ints_at hit) (items.size - 0) 0 s (by omega) (Nat.zero_le _) ⟨hI, hl⟩ ⟨0, Nat.le_refl 0, setR_new_at hS⟩ fun t c hm hc hR => ?_
  obtain ⟨h', g, d, tk, os⟩ := t
  have e1 : g = s.gens := hm.gens
  have e2 : d = s.drawn := hm.drawn
  have e3 : os = s.os := hm.os
  subst e1 e2 e3
  exact h h' tk c hR (by omega) fun b o b1 b2 e => hm.heap b o (by simp [b1, b2]) e
/-- set.__init__ of the new set -/
theorem init {S l : Addr} {items : Array Value} {ns : List Int} {n : Nat} {o : Obj} (hh : A.handled = none) (hit : IntsAre items.toList ns) (hb : ns.length + 1 < scanBound) (ho : s.heap.get? l = some o) (hc : o.cls = .type "list") (hd : o.data = .seq items n) (hS : s.heap.get? S = some (emptyO w)) (hz : s.heap.objs.size = S + 1)
    {R : Result → Shared → Prop} (h : ∀ h' tk c, SetR w h' S (fun j => decide (j ∈ ns)) c → c ≤ ns.length → (∀ b o, b ≠ S → s.heap.get? b = some o → h'.get? b = some o) → R (.ok (.ret .none)) { s with heap := h', toks := tk }) :
    wpAny (model P w) A.in1 (Builtin.«set.__init__» ⟨[.ref S, .ref l], []⟩) (fun fin s' => match fin with | .done f => R (.ok f) s' | .again c' => c'.quiet = true ∧ codeAny (model P w) A c' R s') (fun e s' => R (.error e) s') s := by
  obtain ⟨oc, od, odt, osl⟩ := o
  simp only at hc hd
  subst hc hd
  have hT : s.TypeIs (.ref S) "set" := ⟨_, hS, rfl⟩
  have k1 := F.sub_list_set
  have k2 := F.sub_list_frozenset
  have k3 : (Value.type "list" == Value.type "dict") = false := by decide
  have hl : s.heap.IsList l items := ⟨_, ho, rfl, n, rfl⟩
  have ne1 : S ≠ l := fun z => by
    rw [z, ho] at hS
    have q := congrArg Obj.cls (Option.some.inj hS)
    exact absurd q (by simp)
  have ltl : l < s.heap.objs.size := Heap.lt_size ho
  unfold Builtin.«set.__init__» noKeywords Builtin.Frozenset.updateFrom
  generalize hPI : pyIter = PI
  wp_walk
  subst hPI
  refine wpAny_pyIter_list hl (wpAny_bind (wpAny_runValue ?_))
  have b1 : l ≠ s.heap.objs.size := Nat.ne_of_lt ltl
  have b2 : S ≠ s.heap.objs.size := by rw [hz]; exact (Nat.succ_ne_self S).symm
  refine fill (l := l) (items := items) (ns := ns) (by simp [hh]) hit hb ⟨_, Heap.get?_push_size _ rfl, rfl, rfl⟩ (hl.push _) (Heap.get?_push_of_some _ hS) b1 b2 ne1 fun h' tk c q1 q2 q3 => ?_
  refine wpAny_pure (wpAny_pure ?_)
  exact h h' tk c q1 q2 fun b ob nb e => q3 b ob nb (Nat.ne_of_lt (Heap.lt_size e)) (Heap.get?_push_of_some _ e)
theorem call_set_lst {l : Addr} {items : Array Value} (ns : List Int) {n : Nat} {o : Obj} {Q : Value → Shared → Prop} (hh : A.handled = none) (ho : s.heap.get? l = some o) (hc : o.cls = .type "list") (hd : o.data = .seq items n) (hit : IntsAre items.toList ns) (hb : ns.length + 1 < scanBound)
    (h : ∀ (h' : Heap) (tk c : Nat), SetR w h' s.heap.objs.size (fun j => decide (j ∈ ns)) c → c ≤ ns.length → (∀ b o, s.heap.get? b = some o → h'.get? b = some o) → Q (.ref s.heap.objs.size) { s with heap := h', toks := tk }) :
    wpAny (model P w) A (call (.type "set") [.ref l]) Q E s := by
  have hS : (s.heap.push (emptyO w)).get? s.heap.objs.size = some (emptyO w) := Heap.get?_push_size _ rfl
  have hT : Shared.TypeIs { s with heap := s.heap.push (emptyO w) } (.ref s.heap.objs.size) "set" := ⟨_, hS, rfl⟩
  obtain ⟨c, tl, hmro⟩ := F.called_set.mro
  have k1 := F.called_set.made
  have k2 := F.called_set.sub
  have k3 := F.called_set.notType
  have k4 := F.called_set.canCreate
  have k5 := F.typeCall_set_1 (.ref l)
  have k6 := F.called_set.init.lookup
  have k7 := F.called_set.init.bind (.ref s.heap.objs.size)
  refine wpAny_call (codeAny_of_tree ?_)
  show wpAny _ _ (callAny (.type "set") _) _ _ _
  refine wpAny_pure ⟨Code.quiet_builtin _ (by decide +kernel), codeAny_builtin F.entry_type_call ?_⟩
  rw [Around.under_plain (weight_type_call_type "set" [.ref l] []) rfl]
  repeat (any_goals (first | assumption | wp_step))
  refine codeAny_mono (code_set_led1 (.ref l) (E := E) (Q₁ := fun obj t => obj = .ref s.heap.objs.size ∧ t = { s with heap := s.heap.push (emptyO w) }) ⟨rfl, rfl⟩) fun r t hr => ?_
  cases r with
  | error e => exact hr
  | ok fl =>
  cases fl with
  | next => exact hr.elim
  | brk => exact hr.elim
  | cont => exact hr.elim
  | ret obj =>
  obtain ⟨rfl, rfl⟩ := hr
  repeat (any_goals (first | assumption | wp_step))
  refine codeAny_mono (codeAny_call_builtin (R := wants (fun r t => r = .none ∧ Q (.ref s.heap.objs.size) t) E) F.called_set.init.plain F.entry_set_init (check_set_init_1 hT ?_)) fun r t hr => ?_
  · exact init (s := { s with heap := s.heap.push (emptyO w) }) (by simp [hh]) hit hb (Heap.get?_push_of_some _ ho) hc hd hS (Heap.size_push ..) fun h' tk c q1 q2 q3 => ⟨rfl, h h' tk c q1 q2 fun b ob e => q3 b ob (Nat.ne_of_lt (Heap.lt_size e)) (Heap.get?_push_of_some _ e)⟩
  · cases r with
    | error e => exact hr
    | ok fl =>
    cases fl with
    | next => exact hr.elim
    | brk => exact hr.elim
    | cont => exact hr.elim
    | ret v =>
    obtain ⟨rfl, hq⟩ := hr
    repeat (any_goals (first | assumption | wp_step))
end
end CpSet

set_option Elab.async false
set_option linter.all false
set_option maxRecDepth 100000
set_option maxHeartbeats 4000000
namespace Rn
open PySem PySem.Spec PyProof.Rows L2 LamX NdefX
theorem bt_set : bootBuiltins "set" = some (.type "set") := by decide +kernel
/-- strictly ascending, each once -/
def insU (x : Int) : List Int → List Int
  | [] => [x]
  | y :: ys => if x < y then x :: y :: ys else if x = y then y :: ys else y :: insU x ys
def sortU : List Int → List Int
  | [] => []
  | x :: xs => insU x (sortU xs)
theorem mem_insU {x k : Int} : ∀ {ys : List Int}, k ∈ insU x ys ↔ k = x ∨ k ∈ ys
  | [] => by unfold insU; simp
  | y :: ys => by
    unfold insU
    split
    · simp
    · split
      · rename_i h; subst h; simp
      · rw [List.mem_cons, mem_insU, List.mem_cons]
        constructor <;> (intro h; rcases h with h | h | h <;> simp [h])
theorem asc_insU {x : Int} : ∀ {ys : List Int}, ys.Pairwise (· < ·) → (insU x ys).Pairwise (· < ·)
  | [], _ => by unfold insU; simp
  | y :: ys, h => by
    obtain ⟨h1, h2⟩ := List.pairwise_cons.mp h
    unfold insU
    split
    · rename_i c
      refine List.pairwise_cons.mpr ⟨fun z hz => ?_, h⟩
      rcases List.mem_cons.mp hz with e | e
      · rw [e]; exact c
      · have := h1 z e; omega
    · split
      · exact h
      · refine List.pairwise_cons.mpr ⟨fun z hz => ?_, asc_insU h2⟩
        rcases mem_insU.mp hz with e | e
        · omega
        · exact h1 z e
theorem mem_sortU {k : Int} : ∀ {xs : List Int}, k ∈ sortU xs ↔ k ∈ xs
  | [] => by unfold sortU; simp
  | x :: xs => by unfold sortU; rw [mem_insU, mem_sortU, List.mem_cons]
theorem asc_sortU : ∀ xs : List Int, (sortU xs).Pairwise (· < ·)
  | [] => by unfold sortU; exact .nil
  | x :: xs => by unfold sortU; exact asc_insU (asc_sortU xs)
theorem asc_eq : ∀ {a b : List Int}, a.Pairwise (· < ·) → b.Pairwise (· < ·) → (∀ k, k ∈ a ↔ k ∈ b) → a = b
  | [], [], _, _, _ => rfl
  | [], y :: b, _, _, h => absurd ((h y).mpr List.mem_cons_self) (by simp)
  | x :: a, [], _, _, h => absurd ((h x).mp List.mem_cons_self) (by simp)
  | x :: a, y :: b, ha, hb, h => by
    obtain ⟨a1, a2⟩ := List.pairwise_cons.mp ha
    obtain ⟨b1, b2⟩ := List.pairwise_cons.mp hb
    have e : x = y := by
      rcases List.mem_cons.mp ((h x).mp List.mem_cons_self) with p | p
      · exact p
      · rcases List.mem_cons.mp ((h y).mpr List.mem_cons_self) with q | q
        · exact q.symm
        · have z1 := b1 x p; have z2 := a1 y q; omega
    subst e
    rw [asc_eq a2 b2 fun k => ?_]
    constructor
    · intro hk
      rcases List.mem_cons.mp ((h k).mp (List.mem_cons_of_mem _ hk)) with p | p
      · have := a1 k hk; omega
      · exact p
    · intro hk
      rcases List.mem_cons.mp ((h k).mpr (List.mem_cons_of_mem _ hk)) with p | p
      · have := b1 k hk; omega
      · exact p
section
variable {X : Cx}
def rSetL (K : PySem.W.Frag) (w : World) : List V → Hp → VK → Prop := fun xs H Q => ∃ (l : Addr) (ns : List Int), xs = [.ref l] ∧ (SqL K H l (ns.map V.int) ∨ SqT K H l (ns.map V.int)) ∧ ns.length < 4000 ∧ ∀ p c, c ≤ ns.length → c = (sortU ns).length → H p = none → Q (.ref p) (upd H p (SetO w p (fun j => decide (j ∈ ns)) c))
theorem setR_count {w : World} {h : Heap} {a : Addr} {ns : List Int} {c : Nat} (R : SetR w h a (fun j => decide (j ∈ ns)) c) : c = (sortU ns).length := by
  obtain ⟨o, es, ep, t, _, _, _, _, nd, mem, _, _, sz, _⟩ := R
  have nd2 : (sortU ns).Nodup := (asc_sortU ns).imp fun h e => by omega
  have pm : (es.toList.map L2.keyOf).Perm (sortU ns) := by
    refine (List.perm_ext_iff_of_nodup nd nd2).mpr fun k => ?_
    rw [mem_sortU, ← mem k, decide_eq_true_eq]
  have z := pm.length_eq
  rw [List.length_map, Array.length_toList] at z
  omega
theorem cr_setL (hc : X.calm = true) : CallR X (.type "set") (rSetL X.K X.w) := by
  intro pins s σ H xs us Q I r h
  obtain ⟨l, ns, rfl, hs, hb, q⟩ := h
  rw [Vals.ref1 r]
  rcases hs with hs | hs
  · obtain ⟨its, rv, pl, _⟩ := I.list hs
    obtain ⟨o, n, ho, oc, od, odt⟩ := pl
    refine CpSet.call_set_lst ns (I.ok.hd hc) ho oc odt (by simpa using rv.ints) (by unfold scanBound; omega) fun h' tk c hR hl hk => ?_
    exact ⟨.ref s.heap.objs.size, upd H s.heap.objs.size (SetO X.w s.heap.objs.size (fun j => decide (j ∈ ns)) c), I.laid (t' := tk) hk (Nat.le_refl _) (setO_new hR), rfl, q _ _ hl (setR_count hR) (I.hok.fresh (Nat.le_refl _))⟩
  obtain ⟨its, rv, pl, _⟩ := I.tuple hs
  refine call_set_tupI ns (I.ok.hd hc) (show s.heap.IsTuple l its.toArray from pl) (by simpa using rv.ints) (by unfold scanBound; omega) fun h' tk c hR hl hk => ?_
  exact ⟨.ref s.heap.objs.size, upd H s.heap.objs.size (SetO X.w s.heap.objs.size (fun j => decide (j ∈ ns)) c), I.laid (t' := tk) hk (Nat.le_refl _) (setO_new hR), rfl, q _ _ hl (setR_count hR) (I.hok.fresh (Nat.le_refl _))⟩
def rLenS (w : World) : List V → Hp → VK → Prop := fun xs H Q => ∃ (a : Addr) (S : Int → Bool) (n : Nat), xs = [.ref a] ∧ H a = some (SetO w a S n) ∧ n < 4000 ∧ Q (.int (n : Nat)) H
theorem cr_lenS : CallR X (.builtin "len") (rLenS X.w) := by
  intro pins s σ H xs us Q I r h
  obtain ⟨a, S, n, rfl, ha, hn, q⟩ := h
  rw [Vals.ref1 r]
  obtain ⟨o, es, ep, t, ho, hex, hd, _, _, _, _, hf, sz, _⟩ := setO_get I ha
  exact call_len_set ho hex hd hf (by omega) ⟨.int (n : Nat), H, I.tok _, ⟨_, by rw [sz]⟩, q⟩
end
def itemsC (h : CH) : CV → Option (List CV)
  | .tup xs => some xs
  | x => lstOf h x
theorem itemsC_ok {G : Gb} {w : Wd} {ρ : List Addr} {H : Hp} {h : CH} (R : Rep G w ρ h H) {x : CV} {v : V} {xs : List CV} (r : RelC G w ρ H x v) (e : itemsC h x = some xs) : ∃ a vs, v = .ref a ∧ (SqL G.K H a vs ∨ SqT G.K H a vs) ∧ RelCs G w ρ H xs vs := by
  unfold itemsC at e
  split at e
  · cases e
    obtain ⟨a, vs, k1, k2, k3⟩ := rc_tup r
    exact ⟨a, vs, k1, .inr k2, k3⟩
  · obtain ⟨a, vs, k1, k2, k3⟩ := lstOf_ok R r e
    exact ⟨a, vs, k1, .inl (SqL.of k2), k3⟩
def cSortSet (ce : CE) : CE := fun l h => (ce l h).bind fun x h1 => match itemsC h1 x with
  | some xs => match intsOf xs with
    | some ns => if ns.length < 64 then .ok (.lst ((sortU ns).map CV.int)) h1 else .stuck
    | none => .stuck
  | none => .stuck
def cLenSet (ce : CE) : CE := fun l h => (ce l h).bind fun x h1 => match itemsC h1 x with
  | some xs => match intsOf xs with
    | some ns => if ns.length < 4000 then .ok (.int (((sortU ns).length : Nat) : Int)) h1 else .stuck
    | none => .stuck
  | none => .stuck
section
variable {X : Cx} {G : Gb} {E : XO} {e : Expr} {ce : CE} {p p2 pos q : Pos}
theorem xe_sortedSet (hK : X.K = G.K) (hc : X.calm = true) (hg : Gl X "sorted") (hm : X.mg "sorted" = none) (hg2 : Gl X "set") (hm2 : X.mg "set" = none) (ha : XE X G E e ce) (hs : starEach [e] X.env = (false, eval e X.env) :: starEach [] X.env := by rfl) :
    XE X G E (.Call (.Name "sorted" p) [.Call (.Name "set" p2) [e] [] q] [] pos) (cSortSet ce) :=
  pe_imp (pe_callB (cr_sortedSet hc) hg hm bt_sorted (pa_cons (pe_callTy (cr_setL hc) hg2 hm2 bt_set (pa_cons ha pa_nil hs) (by decide) (by decide) hs (by rfl)) pa_nil)) fun σ H Q ⟨w, ρ, l, h, R, L, g⟩ => rd_then R L g fun w1 ρ1 h1 H1 x v e1 R1 L1 r1 g1 => by
    split at g1
    case h_2 => exact g1.elim
    case h_1 xs q1 =>
    split at g1
    case h_2 => exact g1.elim
    case h_1 ns q2 =>
    split at g1
    case isFalse => exact g1.elim
    case isTrue hl =>
    obtain ⟨a, vs, k1, k2, k3⟩ := itemsC_ok R1 r1 q1
    have ev := intsOf_ok k3 q2
    subst ev
    refine ⟨a, ns, by rw [k1], hK ▸ k2, by omega, fun p c hcl hce hp => ?_⟩
    refine ⟨p, _, c, rfl, upd_same, by omega, fun ns' p' o1 o2 o3 hp' => ?_⟩
    have en : ns' = sortU ns := asc_eq o1 (asc_sortU ns) fun k => by rw [o2 k, mem_sortU, decide_eq_true_eq]
    subst en
    have e2 := Ext.fresh w1 ρ1 (SetO X.w p (fun j => decide (j ∈ ns)) c) hp
    exact PostV.newL (Q := Q) ((show PostV G w ρ H Q (.lst ((sortU ns).map CV.int)) h1 from g1).at (e1.trans e2)) (R1.fresh _ hp) (relCs_ints _) hp'
theorem xe_lenSet (hK : X.K = G.K) (hc : X.calm = true) (hg : Gl X "len") (hm : X.mg "len" = none) (hg2 : Gl X "set") (hm2 : X.mg "set" = none) (ha : XE X G E e ce) (hs : starEach [e] X.env = (false, eval e X.env) :: starEach [] X.env := by rfl) :
    XE X G E (.Call (.Name "len" p) [.Call (.Name "set" p2) [e] [] q] [] pos) (cLenSet ce) :=
  pe_imp (pe_callB cr_lenS hg hm bt_len (pa_cons (pe_callTy (cr_setL hc) hg2 hm2 bt_set (pa_cons ha pa_nil hs) (by decide) (by decide) hs (by rfl)) pa_nil)) fun σ H Q ⟨w, ρ, l, h, R, L, g⟩ => rd_then R L g fun w1 ρ1 h1 H1 x v e1 R1 L1 r1 g1 => by
    split at g1
    case h_2 => exact g1.elim
    case h_1 xs q1 =>
    split at g1
    case h_2 => exact g1.elim
    case h_1 ns q2 =>
    split at g1
    case isFalse => exact g1.elim
    case isTrue hl =>
    obtain ⟨a, vs, k1, k2, k3⟩ := itemsC_ok R1 r1 q1
    have ev := intsOf_ok k3 q2
    subst ev
    refine ⟨a, ns, by rw [k1], hK ▸ k2, hl, fun p c hcl hce hp => ?_⟩
    subst hce
    refine ⟨p, _, _, rfl, upd_same, by omega, ?_⟩
    have e2 := Ext.fresh w1 ρ1 (SetO X.w p (fun j => decide (j ∈ ns)) (sortU ns).length) hp
    exact (show PostV G w ρ H Q (.int (((sortU ns).length : Nat) : Int)) h1 from g1) w1 ρ1 _ _ (e1.trans e2) (R1.fresh _ hp) (cr_int _)
end
end Rn

set_option Elab.async false
set_option linter.all false
set_option maxRecDepth 100000
set_option maxHeartbeats 4000000
namespace Rn
open PySem PySem.Spec PyProof.Rows L2 LamX NdefX
/-- a suite from which no error may come -/
def noX (c : CS) : CS := fun l h => (c l h).noExc
section
variable {P : Program} {W : World} {K : PySem.W.Frag} {mg : Str → Option Value} {base : Heap} {G : Gb}
theorem fn_runXN {x qual : Str} {st : Stmt} {f : Addr} {fd : FuncData} {N ps : List Str} {k n m : Nat} {c : CS} (F : Fun K x qual st f fd) (S : FnScope N ps (defScope st)) (hn : ps.length = n) (hm : N.length = m)
    (hb : ∀ (cdv : Value) (A : Around) (outer : List Env) (s : Shared) (H : Hp) (E : XK), fd.code = cdv → A.guards = some [] → Room k (A.deeper (envOfC qual (defScope st) s.heap.objs.size f cdv)) → XSs (cxOf (L2.CX P W) P W K mg base N qual (defScope st) f cdv A outer s H E) G none (defBody st) c) :
    FnG P W K mg base (L2.CX P W) (k + 1) f fd ps (spF G n (cFun n m (noX c))) := by
  subst hn hm
  refine fnG_of F S (fun vs H Q E h => h.1) fun cdv A outer s H vs Q E hcd gd hr hsp => ⟨_, hb cdv A outer s H E hcd gd hr, ?_⟩
  obtain ⟨hl, w, ρ, h, cs, R, r, g⟩ := hsp
  unfold cFun at g
  split at g
  case isFalse => exact g.elim
  case isTrue hn =>
  refine ⟨w, ρ, _, h, R, LocR.start N r, ?_⟩
  rw [hn]
  refine (Out.good_noExc (Out.good_bind.mp g)).mono (fun fl h1 g1 w' ρ' H' e R' => ?_) fun _ _ _ q => q
  cases fl with
  | nx l => exact fun σ' L' => (show PostV G w ρ H Q .non h1 from g1) w' ρ' H' _ e R' cr_non
  | rt v => exact fun u ru => (show PostV G w ρ H Q v h1 from g1) w' ρ' H' u e R' ru
  | bk l => exact g1.elim
  | ct l => exact g1.elim
end
end Rn

set_option Elab.async false
set_option linter.all false
set_option maxRecDepth 100000
set_option maxHeartbeats 4000000
namespace Rn
open PySem PySem.Spec PyProof.Rows L2 LamX NdefX
/-! ### a lambda with parameters that has captured any data -/
def capAt (l : Lc) (j : Nat) : Option CV := match l[j]? with
  | some (some c) => if noRef c = true then some c else none
  | _ => none
theorem capAt_some {l : Lc} {j : Nat} {c : CV} (h : capAt l j = some c) : l[j]? = some (some c) ∧ noRef c = true := by
  unfold capAt at h
  split at h
  · rename_i d q
    split at h
    · cases h; exact ⟨q, by assumption⟩
    · cases h
  · cases h
def lamFnX (np nl : Nat) (js : List Nat) (cb : CE) (l : Lc) : Fn := fun args h => if args.length = np then cb (args.map some ++ (js.map (capAt l) ++ List.replicate (nl - args.length - js.length) none)) h else .stuck
def cLamX (ng np nl : Nat) (js : List Nat) (cb : CE) (cg : Fn → CS) (ce : CE) : CE := fun l h => (ce l h).bind fun x h1 => if noRef x = true then (cFun 2 ng (cg (lamFnX np nl js cb l)) [x, .lam] []).pureL h1 else .stuck
section
variable {X : Cx} {G : Gb} {E : XO}
def HolderOkX (X : Cx) (G : Gb) (k : Nat) (q a : Str) (Ng : List Str) (x : Str) (stg : Stmt) (g : Addr) (cg : Fn → CS) : Prop :=
  ∀ (cdv : Value) (s : Shared) (H : Hp) (f c' : Addr) (cp : List (V × CV)) (φ : Fn), X.A.guards = some [] → Room (k + 1) (X.A.deeper (envOfC x (defScope stg) s.heap.objs.size g cdv)) →
    (∀ (e : Expr) (es : List Expr) (cs : CEs) (p1 p2 : Pos), XA (cxOf (L2.CX X.prog X.w) X.prog X.w X.K X.mg X.base Ng x (defScope stg) g cdv X.A X.stack s H E0) (G.wc f [(c', q)] cp) none (e :: es) cs →
      starEach (e :: es) (envOfC x (defScope stg) s.heap.objs.size g cdv) = (false, eval e (envOfC x (defScope stg) s.heap.objs.size g cdv)) :: starEach es (envOfC x (defScope stg) s.heap.objs.size g cdv) →
      (backTo p2 (starEach es (envOfC x (defScope stg) s.heap.objs.size g cdv))).any (·.1) = false →
      XE (cxOf (L2.CX X.prog X.w) X.prog X.w X.K X.mg X.base Ng x (defScope stg) g cdv X.A X.stack s H E0) (G.wc f [(c', q)] cp) none (.Call (.Name a p1) (e :: es) [] p2) (cFL 1 φ cs)) →
    XSs (cxOf (L2.CX X.prog X.w) X.prog X.w X.K X.mg X.base Ng x (defScope stg) g cdv X.A X.stack s H E0) (G.wc f [(c', q)] cp) none (defBody stg) (cg φ)
theorem loc_lamX {w' : Wd} {ρ' : List Addr} {H' : Hp} {G2 : Gb} {l : Lc} {σ : L2.St} {args : List CV} {vs : List V} {js : List Nat} {Nl : List Str} (hc : ∀ j ∈ js, ∀ c, capAt l j = some c → ∃ v, σ[j]? = some (some v) ∧ RelC G2 w' ρ' H' c v) (r : RelCs G2 w' ρ' H' args vs) :
    LocR G2 w' ρ' H' (args.map some ++ (js.map (capAt l) ++ List.replicate (Nl.length - args.length - js.length) none)) (startF Nl vs (js.map (slotAt σ))) := by
  unfold startF
  refine ⟨by simp [r.length], fun i c hi => ?_⟩
  have len := r.length
  by_cases h1 : i < args.length
  · rw [List.getElem?_append_left (by simpa using h1), List.getElem?_map] at hi
    cases q : args[i]? with
    | none => rw [q] at hi; cases hi
    | some d =>
      rw [q] at hi; cases hi
      obtain ⟨v, k1, k2⟩ := r.get q
      exact ⟨v, by rw [List.getElem?_append_left (by simpa [← len] using h1), List.getElem?_map, k1]; rfl, k2⟩
  · rw [List.getElem?_append_right (by simpa using h1), List.length_map] at hi
    by_cases h2 : i - args.length < js.length
    · rw [List.getElem?_append_left (by simpa using h2), List.getElem?_map] at hi
      cases q : js[i - args.length]? with
      | none => rw [q] at hi; cases hi
      | some j =>
        rw [q] at hi
        obtain ⟨v, k1, k2⟩ := hc j (List.mem_of_getElem? q) c (Option.some.inj hi)
        refine ⟨v, ?_, k2⟩
        have e3 : (vs.map some).length = args.length := by rw [List.length_map, len]
        rw [List.getElem?_append_right (by rw [e3]; omega), e3, List.getElem?_append_left (by rw [List.length_map]; exact h2), List.getElem?_map, q]
        show some (slotAt σ j) = some (some v)
        rw [slotAt_of k1]
    · rw [List.getElem?_append_right (by simpa using h2), List.getElem?_replicate] at hi
      split at hi <;> cases hi
theorem xe_lamcallX {x a : Str} {g c P : Addr} {k ng np nl : Nat} {stg : Stmt} {fdg : FuncData} {Ng Nl ps fr : List Str} {v0 : Str} {js : List Nat} {params : Arguments} {body : Expr} {scope : Scope} {cb ce : CE} {cg : Fn → CS} {p lpos pos : Pos} {e : Expr}
    (gd : X.A.guards = some []) (hr : Room (k + 2) X.A) (hg : Gl X x) (hm : X.mg x = some (.ref g)) (F : Fun X.K x x stg g fdg) (hb : L2.Binds X.K fdg [v0, a] []) (Sg : FnScope Ng [v0, a] (defScope stg)) (hng : Ng.length = ng) (hNg : Ng[1]? = some a) (hva : Vis (defScope stg) a)
    (S : NScope Nl ps fr scope) (hnp : ps.length = np) (hnl : Nl.length = nl) (hfree : ∀ y ∈ scope.names, y.2 = .free → X.env.scope.names.lookup y.1 = some .cell ∨ X.env.scope.names.lookup y.1 = some .free) (hfr : ∀ y ∈ fr, (y, NameKind.free) ∈ scope.names) (hjs : js.map (fun j => X.N[j]?) = fr.map some)
    (TB : TabB X.base X.mg c P) (hcode : X.env.code = .ref c) (hmT : (P, X.env.qual ++ "<lambda>") ∈ G.tabs) (hu : ∀ p ∈ G.tabs, p.1 = P → p.2 = X.env.qual ++ "<lambda>") (hdef : defaultsOf params X.env = ([], []))
    (hbind : ∀ (q : Str) (cl : List (Str × Addr)) (pm cv ctv : Value) (us : List Value), us.length = ps.length → bindArgs (PySem.W.kla_fn "<lambda>" q params body scope cl pm cv ctv) ⟨us, []⟩ = pure (ps.zip us))
    (hG : HolderOkX X G k (X.env.qual ++ "<lambda>") a Ng x stg g cg)
    (hbody : ∀ (A : Around) (outer : List Env) (s : Shared) (H : Hp) (f c' : Addr) (cp : List (V × CV)), A.guards = some [] → Room k (A.deeper (envF (lamF X params scope c') f s.heap.objs.size)) →
      XE (ncx (L2.CX X.prog X.w) X.prog X.w X.K X.mg X.base Nl (lamF X params scope c') f A outer s H E0) (G.wc f [(c', X.env.qual ++ "<lambda>")] cp) none body cb)
    (ha : XE X G E e ce) (hdb : (x == ("__debug__" : Str)) = false := by decide) (hd : (a == ("__debug__" : Str)) = false := by decide) (hcd : (a == ("__classdict__" : Str)) = false := by decide)
    (he : starEach [e, .Lambda params body scope lpos] X.env = [(false, eval e X.env), (false, eval (.Lambda params body scope lpos) X.env)] := by rfl) (hpl : (backTo pos (starEach [.Lambda params body scope lpos] X.env)).any (·.1) = false := by rfl)
    (hbk : backTo pos (starEach [e, .Lambda params body scope lpos] X.env) = [(false, eval e X.env), (false, eval (.Lambda params body scope lpos) X.env)] := by rfl) :
    XE X G E (.Call (.Name x p) [e, .Lambda params body scope lpos] [] pos) (cLamX ng np nl js cb cg ce) := by
  constructor
  intro pins s σ H Q I want
  obtain ⟨w, ρ, l, h, R, L, gg⟩ := want
  refine wpAny_Call_Name_kw (ld_glob I hg hm (PySem.W.callWith_K (h₀ := X.base) I.ok.mod.kin F.kp ?_ he hpl) hdb)
  rw [hbk]
  refine Calls.spliced_cons (thn (ha.run pins s σ H _ I (rd_then R L gg fun w1 ρ1 h1 H1 x v e1 R1 L1 r1 g1 => (⟨w1, ρ1, h1, x, e1, R1, L1, r1, g1⟩ : ∃ w1 ρ1 h1 x, Ext w ρ H w1 ρ1 H1 ∧ Rep G w1 ρ1 h1 H1 ∧ LocR G w1 ρ1 H1 l σ ∧ RelC G w1 ρ1 H1 x v ∧
    (if noRef x = true then (cFun 2 ng (cg (lamFnX np nl js cb l)) [x, .lam] []).pureL h1 else .stuck).Good (PostV G w ρ H Q) (PostX G w1 ρ1 H1 E)))) fun u s1 got => ?_)
  obtain ⟨v, H1, I1, rv, w1, ρ1, h1, x1, e1, R1, L1, r1, g1⟩ := got
  split at g1
  case isFalse => exact g1.elim
  case isTrue nr =>
  have hfree' : ∀ y ∈ scope.names, y.2 = .free → ∃ c, X.env.cells.lookup y.1 = some c := fun y hy e => (hfree y hy e).elim (fun z => I1.ok.has _ (.inl z)) fun z => I1.ok.has _ (.inr z)
  refine Calls.spliced_cons (lam_makeP I1 TB hcode hmT hu R1.tab hdef hfree' fun f c' pm ctv H2 s2 I2 eN gone T2 hf hfn hfo hco => ?_)
  refine Calls.spliced_nil ⟨I2.kIn, ?_⟩
  obtain ⟨R2, e2⟩ := R1.extN eN gone T2
  have L2' : LocR G w1 ρ1 H2 l σ := L1.up e2 R1
  obtain ⟨cp, ecp⟩ : ∃ cp : List (V × CV), cp = js.filterMap fun j => match capAt l j, σ[j]? with
    | some cv, some (some v) => some (v, cv)
    | _, _ => none := ⟨_, rfl⟩
  have cpOk : ∀ q ∈ cp, noRef q.2 = true ∧ RelC G w1 [] H2 q.2 q.1 := fun q hq => by
    rw [ecp] at hq
    obtain ⟨j, _, e⟩ := List.mem_filterMap.mp hq
    split at e
    · rename_i cv v h1 h2
      cases e
      obtain ⟨hl, nrc⟩ := capAt_some h1
      obtain ⟨v', k1, k2⟩ := L2'.2 j _ hl
      rw [h2] at k1
      cases k1
      exact ⟨nrc, RelC.free [] nrc k2⟩
    · cases e
  have S1 := gs_wc G f [(c', X.env.qual ++ "<lambda>")] cp
  have Rw : Rep (G.wc f [(c', X.env.qual ++ "<lambda>")] cp) w1 [] [] H2 := Rep.to S1 R2 (fun q hq => by
    have z := List.mem_singleton.mp hq
    subst z
    exact hco) ⟨fun dd f' c0 z => (let ⟨x', z1, z2, z3⟩ := R2.pn.1 dd f' c0 z; ⟨x', z1, z2, RelC.to S1 z2 z3⟩), fun q hq => ⟨(cpOk q hq).1, RelC.to S1 (cpOk q hq).1 (cpOk q hq).2⟩⟩
  have C : CellsAt (cloFrom X.env.cells scope.names []) fr (js.map (slotAt σ)) s2.heap H2 := cells_of I2 (Caps.made I2.ok hfree hfr hjs)
  obtain ⟨oc, od, kV, doc, pmg, an, cdv, ct, osl, eF, lk, hcd2⟩ := F.ex
  subst eF
  have rc : codeAny (model X.prog X.w) X.A (.call (.ref g) ⟨[u, .ref f], []⟩) (CR (L2.CX X.prog X.w) X.stack X.prog X.w H2 s2 Q E0) s2 := by
    refine run_ofS (N := Ng) (ps := [v0, a]) (us := [u, .ref f]) (vs := [v, .ref f]) lk hcd2 Sg hr I2.env0 (by
      have q := hb s2 [u, .ref f] I2.kIn rfl
      rw [List.append_nil] at q
      exact q) (.cons rv (.cons rfl .nil)) rfl fun hr' => ?_
    refine ⟨_, hG cdv s2 H2 f c' cp (lamFnX np nl js cb l) gd hr' fun e' es' cs' p1 p2 hA' he' hpl' => ?_, ?_⟩
    · refine pe_imp (pe_actP (ps := ps) (fr := fr) (Nl := Nl) (k := k) I2 S C hf hfn hfo (hbind _ _ _ _ _) hr' (fun A outer s H gA hrA => hbody A outer s H f c' cp (gA.trans gd) hrA) cx0_no hNg hva hA' hd hcd he' hpl') fun σZ HZ QZ q => ?_
      obtain ⟨wZ, ρZ, lZ, hZ, RZ, LZ, gZ⟩ := q
      unfold cFL at gZ
      split at gZ
      case h_2 => exact gZ.elim
      case h_1 at1 =>
      obtain ⟨vz, z1, z2⟩ := LZ.2 1 _ at1
      have z3 : vz = .ref f := by unfold RelC at z2; exact z2
      subst z3
      refine ⟨z1, rds_then RZ LZ gZ fun w5 ρ5 h5 H5 ys us5 e5 R5 L5 r5 g5 => ?_⟩
      unfold lamFnX at g5
      split at g5
      case isFalse => exact g5.elim
      case isTrue hl =>
      refine ⟨R5.lco _ (List.mem_singleton_self _), by rw [← r5.length, hl, hnp], w5, ρ5, _, h5, R5, ?_, g5.mono (fun _ _ q => q.at e5) fun _ _ _ q => q⟩
      rw [← hnl]
      refine loc_lamX (fun j hj cv hcv => ?_) r5
      obtain ⟨hlj, nrc⟩ := capAt_some hcv
      obtain ⟨v', k1, k2⟩ := L2'.2 j _ hlj
      have m : (v', cv) ∈ cp := by
        rw [ecp]
        exact List.mem_filterMap.mpr ⟨j, hj, by rw [hcv, k1]⟩
      exact ⟨v', k1, (R5.pn.2 (v', cv) m).2.any⟩
    · have r2 : RelCs (G.wc f [(c', X.env.qual ++ "<lambda>")] cp) w1 [] H2 [x1, .lam] [v, .ref f] := RelCs.cons (RelC.to S1 nr (RelC.free [] nr (r1.up e2 R1))) (RelCs.cons (by unfold RelC; rfl) RelCs.nil)
      have g2 := Out.good_pureC (E := E) S1 R2 (g1.mono (fun _ _ q => q.at (e1.trans e2)) fun _ _ _ q => q.at e2)
      refine ⟨w1, [], _, [], Rw, LocR.start Ng r2, ?_⟩
      unfold cFun at g2
      split at g2
      · rw [hng]
        refine (Out.good_bind.mp g2).mono (fun fl h1 g3 w' ρ' H' e R' => ?_) fun _ _ _ q => q
        cases fl with
        | nx l => exact fun σ' L' => (show PostV (G.wc f [(c', X.env.qual ++ "<lambda>")] cp) w1 [] H2 Q .non h1 from g3) w' ρ' H' _ e R' cr_non
        | rt v => exact fun u ru => (show PostV (G.wc f [(c', X.env.qual ++ "<lambda>")] cp) w1 [] H2 Q v h1 from g3) w' ρ' H' u e R' ru
        | bk l => exact g3.elim
        | ct l => exact g3.elim
      · exact g2.elim
  refine wpAny_call (codeAny_mono rc fun r s' hq => ?_)
  cases r with
  | error e => exact (cx0_no _ _ _ _ _ hq).elim
  | ok fl => cases fl with
    | ret u => exact I2.after hq
    | next => exact hq.elim
    | brk => exact hq.elim
    | cont => exact hq.elim
end
end Rn

set_option Elab.async false
set_option linter.all false
set_option maxRecDepth 100000
set_option maxHeartbeats 4000000
/-! ### tuple(range(n)) -/
namespace Rn
open PySem L2
def cTupRng (a : CE) : CE := fun l h => (a l h).bind fun x h1 => match x with
  | .int n => if 0 ≤ n ∧ n ≤ 16777216 then .ok (.tup ((List.range n.toNat).map fun (i : Nat) => CV.int (0 + (i : Int)))) h1 else .stuck
  | _ => .stuck
section
variable {X : Cx} {G : Gb} {E : XO} {p q pos pos2 : Pos} {a : Expr} {ca : CE}
theorem relCs_rg {w : Wd} {ρ : List Addr} {H : Hp} : ∀ is : List Nat, RelCs G w ρ H (is.map fun (i : Nat) => CV.int (0 + (i : Int))) (is.map fun (i : Nat) => V.int (0 + (i : Int)))
  | [] => RelCs.nil
  | i :: is => RelCs.cons (cr_int _) (relCs_rg is)
theorem xe_tuprng (hc : X.calm = true) (hgt : Gl X "tuple") (hmt : X.mg "tuple" = none) (hg : Gl X "range") (hm : X.mg "range" = none) (ha : XE X G E a ca)
    (na : starEach [a] X.env = (false, eval a X.env) :: starEach [] X.env := by rfl)
    (nb : starEach [.Call (.Name "range" q) [a] [] pos2] X.env = (false, eval (.Call (.Name "range" q) [a] [] pos2) X.env) :: starEach [] X.env := by rfl) :
    XE X G E (.Call (.Name "tuple" p) [.Call (.Name "range" q) [a] [] pos2] [] pos) (cTupRng ca) := pe_imp (pe_tupRg hc hgt hmt (prg_1 hg hm ha na) nb) fun σ H Q ⟨w, ρ, l, h, R, L, g⟩ =>
  rd_then R L g fun w1 ρ1 h1 H1 x v e1 R1 L1 r1 g1 => by
    split at g1
    case h_2 => exact g1.elim
    case h_1 n =>
    split at g1
    case isFalse => exact g1.elim
    case isTrue hn =>
    have z := rc_int r1
    refine ⟨n, z, RgOk.of_le (by omega) hn.2 (by omega) hn.1, fun q hq => ?_⟩
    have e : rgV 0 n = (List.range n.toNat).map fun (i : Nat) => V.int (0 + (i : Int)) := by
      unfold rgV
      rw [Int.sub_zero]
    rw [e]
    exact (PostV.newT (Q := Q) ((show PostV G w ρ H Q _ h1 from g1).at e1) R1 (relCs_rg _) hq)
end
end Rn

namespace K61
open PySem PyProof.Rows L2 LamX NdefX Rn
def top (i : Nat) : Stmt := PySem.Challenge.pw_hueways_k61_lists_refused.main.body.getD i (.Pass ⟨0, 0, 0, 0⟩)
abbrev s__law_bag : Stmt := top 61
abbrev s_is_whole : Stmt := top 8
abbrev s_is_between : Stmt := top 9
abbrev s_is_places : Stmt := top 16
abbrev s_first_wrong : Stmt := top 11
abbrev s_is_tuple_of : Stmt := top 10
abbrev s_is_tie : Stmt := top 17
abbrev s_wrong_tie : Stmt := top 18
abbrev s__law_take : Stmt := top 62
abbrev s__law_pull : Stmt := top 63
abbrev s__law_raised : Stmt := top 64
abbrev s_with_hue : Stmt := top 39
abbrev s_come_by : Stmt := top 40
abbrev s_are_tied : Stmt := top 25
abbrev s_places_of : Stmt := top 22
abbrev s_neighbours_of : Stmt := top 26
abbrev s_fitting_by : Stmt := top 38
abbrev s_are_joined_by : Stmt := top 41
abbrev s_is_list : Stmt := top 35
abbrev s_wrong_list : Stmt := top 36
abbrev s_check_lists : Stmt := top 37
abbrev s_check_web : Stmt := top 20
abbrev s_check_listed : Stmt := top 48
abbrev s_are_lists_joined : Stmt := top 52
abbrev s_may_follow : Stmt := top 31
abbrev s_colourings_by : Stmt := top 32
abbrev s_sketched_by : Stmt := top 45
abbrev s_best_look_by : Stmt := top 47
abbrev s_is_hues : Stmt := top 27
abbrev s_check_hues : Stmt := top 28
abbrev s_check_hued : Stmt := top 30
abbrev s_is_hue : Stmt := top 29
abbrev s_is_place : Stmt := top 23
abbrev s_is_note : Stmt := top 42
abbrev s_wrong_note : Stmt := top 43
abbrev s_check_sketch : Stmt := top 44
abbrev s_check_sketched : Stmt := top 49
abbrev s_best_look : Stmt := top 55
abbrev s_count_fitting : Stmt := top 51
abbrev s_parts_of : Stmt := top 21
abbrev s_certify_lists : Stmt := top 57
abbrev s_check_place : Stmt := top 24
abbrev s_may_by : Stmt := top 46
abbrev s_may_have : Stmt := top 54
abbrev s_certify_may : Stmt := top 59
abbrev s_count_sketch : Stmt := top 53
abbrev s_certify_sketch : Stmt := top 58
abbrev s_fitting : Stmt := top 50
abbrev s__law_right : Stmt := top 65
abbrev s_law : Stmt := top 66
abbrev s_init : Stmt := inClass (top 19) 0
def tsW : List Ty := [.non, .bl, .int, .str, .tup, .lst]
/-! ### what is kept -/
def takenI (E : List (Int × Int)) (k : Int) (cs : List Int) : List Int := (E.filter fun e => decide (e.2 = k)).map fun e => cs.getD e.1.toNat 0
def moreI (E : List (Int × Int)) (hues k : Int) (cs : List Int) : List (List Int) := ((rngI 0 hues.toNat).filter fun c => !decide (c ∈ takenI E k cs)).map fun c => cs ++ [c]
def colsN (E : List (Int × Int)) (hues : Int) : Nat → List (List Int)
  | 0 => [[]]
  | k + 1 => (colsN E hues k).flatMap (moreI E hues k)
def tieO : CV → Option (Int × Int)
  | .tup [.int a, .int b] => some (a, b)
  | _ => none
def tiesO (t : List CV) : List (Int × Int) := t.filterMap tieO
def wordCol (h : Int) : Str := ("colourings " : Str) ++ (toString h : Str)
def hueS : List Int := [1, 2, 3, 4]
def colV (p h : Int) (E : List (Int × Int)) : CV := .lst ((colsN E h p.toNat).map tupI)
theorem noRefs_rows (L : List (List Int)) : noRefs (L.map tupI) = true := by
  induction L with
  | nil => rfl
  | cons a L ih =>
    show (noRef (tupI a) && noRefs (L.map tupI)) = true
    rw [ih, Bool.and_true]
    show noRefs (a.map CV.int) = true
    induction a with
    | nil => rfl
    | cons i a ih2 => exact ih2
def memoK : Str → Int → List CV → Option CV := fun x p t => match hueS.find? fun h => decide (x = wordCol h) with
  | some h => some (colV p h (tiesO t))
  | none => none
def memoMs : List Str := hueS.map wordCol
theorem memo_ms : ∀ x p t c, memoK x p t = some c → x ∈ memoMs ∧ noRef c = true := fun x p t c h => by
  unfold memoK at h
  split at h
  · rename_i k q
    cases h
    have m := List.mem_of_find?_eq_some q
    have e := of_decide_eq_true (p := x = wordCol k) (by have z := List.find?_some q; exact z)
    exact ⟨by rw [e]; exact List.mem_map_of_mem m, by unfold colV noRef; exact noRefs_rows _⟩
  · cases h
def ifBody : Stmt → List Stmt
  | .If _ b _ _ => b
  | _ => []
def q_wrong_tie : Str := ("wrong_tie" ++ ".<locals>.") ++ "<lambda>"
def q_wrong_list : Str := ("wrong_list" ++ ".<locals>.") ++ "<lambda>"
def q_wrong_note : Str := ("wrong_note" ++ ".<locals>.") ++ "<lambda>"
def q__law_right : Str := ("_law_right" ++ ".<locals>.") ++ "<lambda>"
def tryBody : List Stmt → List Stmt
  | [.Try _ [.ExceptHandler _ _ b _] _ _ _] => b
  | _ => []
abbrev s_x_InvalidLists : Stmt := inClass (top 5) 0
abbrev s_x_NotAWeb : Stmt := inClass (top 3) 0
abbrev s_x_InvalidNumber : Stmt := inClass (top 2) 0
abbrev s_x_InvalidSketch : Stmt := inClass (top 6) 0
structure Tx (K : PySem.W.Frag) (mg : Str → Option Value) where
  _law_bag : Df K mg "_law_bag" s__law_bag ["script", "lap"]
  is_whole : Df K mg "is_whole" s_is_whole ["value"]
  is_between : Df K mg "is_between" s_is_between ["value", "least", "most"]
  is_places : Df K mg "is_places" s_is_places ["value"]
  first_wrong : Df K mg "first_wrong" s_first_wrong ["value", "is_right"]
  is_tuple_of : Df K mg "is_tuple_of" s_is_tuple_of ["value", "many"]
  is_tie : Df K mg "is_tie" s_is_tie ["places", "value"]
  wrong_tie : Df K mg "wrong_tie" s_wrong_tie ["places", "value"]
  _law_take : Df K mg "_law_take" s__law_take ["bag", "top"]
  _law_pull : Df K mg "_law_pull" s__law_pull ["bag", "some"]
  _law_raised : Df K mg "_law_raised" s__law_raised ["act"]
  with_hue : Df K mg "with_hue" s_with_hue ["colouring", "place", "hue"]
  come_by : Df K mg "come_by" s_come_by ["fitting", "lists", "first"]
  are_tied : Df K mg "are_tied" s_are_tied ["web", "one", "other"]
  places_of : Df K mg "places_of" s_places_of ["web"]
  neighbours_of : Df K mg "neighbours_of" s_neighbours_of ["web", "place"]
  fitting_by : Df K mg "fitting_by" s_fitting_by ["web", "lists"]
  are_joined_by : Df K mg "are_joined_by" s_are_joined_by ["web", "lists"]
  is_list : Df K mg "is_list" s_is_list ["value"]
  wrong_list : Df K mg "wrong_list" s_wrong_list ["value"]
  check_lists : Df K mg "check_lists" s_check_lists ["web", "value"]
  check_web : Df K mg "check_web" s_check_web ["value"]
  check_listed : Df K mg "check_listed" s_check_listed ["web", "lists"]
  are_lists_joined : Df K mg "are_lists_joined" s_are_lists_joined ["web", "lists"]
  may_follow : Df K mg "may_follow" s_may_follow ["web", "row", "hue"]
  colourings_by : Df K mg "colourings_by" s_colourings_by ["web", "hues"]
  sketched_by : Df K mg "sketched_by" s_sketched_by ["web", "hues", "sketch"]
  best_look_by : Df K mg "best_look_by" s_best_look_by ["web", "hues", "sketch"]
  is_hues : Df K mg "is_hues" s_is_hues ["value"]
  check_hues : Df K mg "check_hues" s_check_hues ["value"]
  check_hued : Df K mg "check_hued" s_check_hued ["web", "hues"]
  is_hue : Df K mg "is_hue" s_is_hue ["hues", "value"]
  is_place : Df K mg "is_place" s_is_place ["web", "value"]
  is_note : Df K mg "is_note" s_is_note ["web", "hues", "value", "ahead"]
  wrong_note : Df K mg "wrong_note" s_wrong_note ["web", "hues", "value"]
  check_sketch : Df K mg "check_sketch" s_check_sketch ["web", "hues", "value"]
  check_sketched : Df K mg "check_sketched" s_check_sketched ["web", "hues", "sketch"]
  best_look : Df K mg "best_look" s_best_look ["web", "hues", "sketch"]
  count_fitting : Df K mg "count_fitting" s_count_fitting ["web", "lists"]
  parts_of : Df K mg "parts_of" s_parts_of ["web"]
  certify_lists : Df K mg "certify_lists" s_certify_lists ["web", "lists"]
  check_place : Df K mg "check_place" s_check_place ["web", "value"]
  may_by : Df K mg "may_by" s_may_by ["web", "hues", "sketch", "place"]
  may_have : Df K mg "may_have" s_may_have ["web", "hues", "sketch", "place"]
  certify_may : Df K mg "certify_may" s_certify_may ["web", "hues", "sketch", "place"]
  count_sketch : Df K mg "count_sketch" s_count_sketch ["web", "hues", "sketch"]
  certify_sketch : Df K mg "certify_sketch" s_certify_sketch ["web", "hues", "sketch"]
  fitting : Df K mg "fitting" s_fitting ["web", "lists"]
  _law_right : Df K mg "_law_right" s__law_right ["bag"]
  law : Df K mg "law" s_law ["script"]
  k_COLOURINGS : Tok
  g_COLOURINGS : mg "COLOURINGS" = some (.str "colourings " k_COLOURINGS)
  k_MOST_HUE : Tok
  g_MOST_HUE : mg "MOST_HUE" = some (.int 3 k_MOST_HUE)
  k_MOST_HUES : Tok
  g_MOST_HUES : mg "MOST_HUES" = some (.int 4 k_MOST_HUES)
  k_MOST_PLACES : Tok
  g_MOST_PLACES : mg "MOST_PLACES" = some (.int 6 k_MOST_PLACES)
  n_ValueError : mg "ValueError" = none
  n_abs : mg "abs" = none
  n_all : mg "all" = none
  n_any : mg "any" = none
  n_bool : mg "bool" = none
  n_divmod : mg "divmod" = none
  n_enumerate : mg "enumerate" = none
  n_int : mg "int" = none
  n_isinstance : mg "isinstance" = none
  n_len : mg "len" = none
  n_list : mg "list" = none
  n_max : mg "max" = none
  n_min : mg "min" = none
  n_range : mg "range" = none
  n_repr : mg "repr" = none
  n_set : mg "set" = none
  n_sorted : mg "sorted" = none
  n_str : mg "str" = none
  n_tuple : mg "tuple" = none
  fi : Addr
  fdi : FuncData
  dvi : List V
  Fi : FunD K "__init__" "Web.__init__" (defArgs s_init) (defBody s_init) (defScope s_init) dvi [] fi fdi
  bi2 : L2.Binds K fdi ["self", "places", "ties"] []
  dsi : List Value
  bi1 : L2.Binds K fdi ["self", "places", "ties"] dsi
  vi1 : Vals dvi dsi
  ci1 : ∀ (G : Gb) w ρ H, G.K = K → RelCs G w ρ H [.tup []] dvi
  c_wrong_tie : Addr
  P_wrong_tie : Addr
  c_wrong_list : Addr
  P_wrong_list : Addr
  c_wrong_note : Addr
  P_wrong_note : Addr
  c__law_right : Addr
  P__law_right : Addr
  C_Hue : Addr
  m_Hue : mg "HueError" = some (.ref C_Hue)
  C_InvalidLists : Addr
  fI_InvalidLists : Addr
  fd_InvalidLists : FuncData
  xF_InvalidLists : ExF K mg "InvalidLists" "index" C_InvalidLists fI_InvalidLists fd_InvalidLists
  xO_InvalidLists : ∀ (P : Program) (W : World) (base : Heap), FnOk P W K mg base (L2.CX P W) 1 fI_InvalidLists fd_InvalidLists ["self", "index"] (spEx "index" C_InvalidLists)
  xE_InvalidLists : L2.ExcC K C_InvalidLists
  xA_InvalidLists : XfC K C_InvalidLists
  xH_InvalidLists : PySem.W.exmOne K (.ref C_InvalidLists) (.ref C_Hue) = some true
  C_NotAWeb : Addr
  fI_NotAWeb : Addr
  fd_NotAWeb : FuncData
  xF_NotAWeb : ExF K mg "NotAWeb" "given" C_NotAWeb fI_NotAWeb fd_NotAWeb
  xO_NotAWeb : ∀ (P : Program) (W : World) (base : Heap), FnOk P W K mg base (L2.CX P W) 1 fI_NotAWeb fd_NotAWeb ["self", "given"] (spEx "given" C_NotAWeb)
  xE_NotAWeb : L2.ExcC K C_NotAWeb
  xA_NotAWeb : XfC K C_NotAWeb
  xH_NotAWeb : PySem.W.exmOne K (.ref C_NotAWeb) (.ref C_Hue) = some true
  C_InvalidNumber : Addr
  fI_InvalidNumber : Addr
  fd_InvalidNumber : FuncData
  xF_InvalidNumber : ExF K mg "InvalidNumber" "given" C_InvalidNumber fI_InvalidNumber fd_InvalidNumber
  xO_InvalidNumber : ∀ (P : Program) (W : World) (base : Heap), FnOk P W K mg base (L2.CX P W) 1 fI_InvalidNumber fd_InvalidNumber ["self", "given"] (spEx "given" C_InvalidNumber)
  xE_InvalidNumber : L2.ExcC K C_InvalidNumber
  xA_InvalidNumber : XfC K C_InvalidNumber
  xH_InvalidNumber : PySem.W.exmOne K (.ref C_InvalidNumber) (.ref C_Hue) = some true
  C_InvalidSketch : Addr
  fI_InvalidSketch : Addr
  fd_InvalidSketch : FuncData
  xF_InvalidSketch : ExF K mg "InvalidSketch" "index" C_InvalidSketch fI_InvalidSketch fd_InvalidSketch
  xO_InvalidSketch : ∀ (P : Program) (W : World) (base : Heap), FnOk P W K mg base (L2.CX P W) 1 fI_InvalidSketch fd_InvalidSketch ["self", "index"] (spEx "index" C_InvalidSketch)
  xE_InvalidSketch : L2.ExcC K C_InvalidSketch
  xA_InvalidSketch : XfC K C_InvalidSketch
  xH_InvalidSketch : PySem.W.exmOne K (.ref C_InvalidSketch) (.ref C_Hue) = some true
  kit_InvalidLists_InvalidLists : PySem.W.kitOne K (.ref C_InvalidLists) (.ref C_InvalidLists) = some true
  kit_InvalidLists_InvalidNumber : PySem.W.kitOne K (.ref C_InvalidLists) (.ref C_InvalidNumber) = some false
  kit_InvalidLists_InvalidSketch : PySem.W.kitOne K (.ref C_InvalidLists) (.ref C_InvalidSketch) = some false
  kit_InvalidLists_NotAWeb : PySem.W.kitOne K (.ref C_InvalidLists) (.ref C_NotAWeb) = some false
  kitv_InvalidLists : PySem.W.kitOne K (.ref C_InvalidLists) (.type "ValueError") = some true
  kit_InvalidNumber_InvalidLists : PySem.W.kitOne K (.ref C_InvalidNumber) (.ref C_InvalidLists) = some false
  kit_InvalidNumber_InvalidNumber : PySem.W.kitOne K (.ref C_InvalidNumber) (.ref C_InvalidNumber) = some true
  kit_InvalidNumber_InvalidSketch : PySem.W.kitOne K (.ref C_InvalidNumber) (.ref C_InvalidSketch) = some false
  kit_InvalidNumber_NotAWeb : PySem.W.kitOne K (.ref C_InvalidNumber) (.ref C_NotAWeb) = some false
  kitv_InvalidNumber : PySem.W.kitOne K (.ref C_InvalidNumber) (.type "ValueError") = some true
  kit_InvalidSketch_InvalidLists : PySem.W.kitOne K (.ref C_InvalidSketch) (.ref C_InvalidLists) = some false
  kit_InvalidSketch_InvalidNumber : PySem.W.kitOne K (.ref C_InvalidSketch) (.ref C_InvalidNumber) = some false
  kit_InvalidSketch_InvalidSketch : PySem.W.kitOne K (.ref C_InvalidSketch) (.ref C_InvalidSketch) = some true
  kit_InvalidSketch_NotAWeb : PySem.W.kitOne K (.ref C_InvalidSketch) (.ref C_NotAWeb) = some false
  kitv_InvalidSketch : PySem.W.kitOne K (.ref C_InvalidSketch) (.type "ValueError") = some true
  kit_NotAWeb_InvalidLists : PySem.W.kitOne K (.ref C_NotAWeb) (.ref C_InvalidLists) = some false
  kit_NotAWeb_InvalidNumber : PySem.W.kitOne K (.ref C_NotAWeb) (.ref C_InvalidNumber) = some false
  kit_NotAWeb_InvalidSketch : PySem.W.kitOne K (.ref C_NotAWeb) (.ref C_InvalidSketch) = some false
  kit_NotAWeb_NotAWeb : PySem.W.kitOne K (.ref C_NotAWeb) (.ref C_NotAWeb) = some true
  kitv_NotAWeb : PySem.W.kitOne K (.ref C_NotAWeb) (.type "ValueError") = some true
structure Gx {K : PySem.W.Frag} {mg : Str → Option Value} (T : Tx K mg) (G : Gb) : Prop where
  g0 : G.ga 0 = T.C_InvalidLists
  f0 : G.exf 0 = "index"
  g1 : G.ga 1 = T.C_NotAWeb
  f1 : G.exf 1 = "given"
  g2 : G.ga 2 = T.C_InvalidNumber
  f2 : G.exf 2 = "given"
  g3 : G.ga 3 = T.C_InvalidSketch
  f3 : G.exf 3 = "index"
  v0 : G.ga 100 = T.certify_lists.f
  v1 : G.ga 101 = T.are_lists_joined.f
  v2 : G.ga 102 = T.count_fitting.f
  v3 : G.ga 103 = T.fitting.f
  v4 : G.ga 104 = T.certify_sketch.f
  v5 : G.ga 105 = T.best_look.f
  v6 : G.ga 106 = T.count_sketch.f
  v7 : G.ga 107 = T.certify_may.f
  v8 : G.ga 108 = T.may_have.f
theorem Gx.to {K : PySem.W.Frag} {mg : Str → Option Value} {T : Tx K mg} {G G2 : Gb} (Z : Gx T G) (h1 : G.ga = G2.ga) (h2 : G.exf = G2.exf) : Gx T G2 := ⟨by rw [← h1]; exact Z.g0, by rw [← h2]; exact Z.f0, by rw [← h1]; exact Z.g1, by rw [← h2]; exact Z.f1, by rw [← h1]; exact Z.g2, by rw [← h2]; exact Z.f2, by rw [← h1]; exact Z.g3, by rw [← h2]; exact Z.f3, by rw [← h1]; exact Z.v0, by rw [← h1]; exact Z.v1, by rw [← h1]; exact Z.v2, by rw [← h1]; exact Z.v3, by rw [← h1]; exact Z.v4, by rw [← h1]; exact Z.v5, by rw [← h1]; exact Z.v6, by rw [← h1]; exact Z.v7, by rw [← h1]; exact Z.v8⟩
structure Lzz {K : PySem.W.Frag} {mg : Str → Option Value} (T : Tx K mg) (base : Heap) (G : Gb) : Prop where
  l_wrong_tie : Rn.Lx mg base G T.wrong_tie.fd q_wrong_tie T.c_wrong_tie T.P_wrong_tie
  l_wrong_list : Rn.Lx mg base G T.wrong_list.fd q_wrong_list T.c_wrong_list T.P_wrong_list
  l_wrong_note : Rn.Lx mg base G T.wrong_note.fd q_wrong_note T.c_wrong_note T.P_wrong_note
  l__law_right : Rn.Lx mg base G T._law_right.fd q__law_right T.c__law_right T.P__law_right
theorem Lzz.to {K : PySem.W.Frag} {mg : Str → Option Value} {T : Tx K mg} {base : Heap} {G G2 : Gb} (Z : Lzz T base G) (h : G.tabs = G2.tabs) : Lzz T base G2 := ⟨Z.l_wrong_tie.to h, Z.l_wrong_list.to h, Z.l_wrong_note.to h, Z.l__law_right.to h⟩
section
variable {P : Program} {W : World} {K : PySem.W.Frag} {mg : Str → Option Value} {base : Heap} {G : Gb}
theorem S__law_bag : FnScope ["script", "lap", "stirred", "cell", "own"] ["script", "lap"] (defScope s__law_bag) := ⟨rfl, rfl, rfl, by decide +kernel, rfl, by decide +kernel, by decide +kernel⟩
def c__law_bag : CS := (sSeq (sAsg (c2 fAdd (cK (.int 52027)) (c2 fMulI (cK (.int 8009)) (cVar 1))) (tgName 2)) (sSeq (sFor (iSeq (cSl (cVar 0) oNo (oYes (cK (.int 16))))) (tgName 3) (sAsg (c2 fMod (cF fInt (cCons (c2 fAdd (c2 fAdd (c2 fMulI (cVar 2) (cK (.int 48271))) (c2 fMod (cF fInt (cCons (cVar 3) cNil)) (cK (.int 2147483629)))) (cK (.int 23))) cNil)) (cK (.int 2147483647))) (tgName 2))) (sSeq (sAsg (cIte (tVal (c2 fLt (cVar 1) (cF fLen (cCons (cVar 0) cNil)))) (cF fInt (cCons (c2 fIx (cVar 0) (cVar 1)) cNil)) (cK (.int 0))) (tgName 4)) (sSeq (sAsg (c2 fMod (cF fInt (cCons (c2 fAdd (c2 fAdd (c2 fMulI (cVar 2) (cK (.int 31))) (c2 fMulI (c2 fMod (cF fInt (cCons (cVar 4) cNil)) (cK (.int 2147483629))) (cK (.int 17)))) (cK (.int 3))) cNil)) (cK (.int 2147483647))) (tgName 2)) (sRet (cNew (cCons (cIte (tOrC (tVal (c2 fLt (cVar 4) (cK (.int 0)))) (tVal (c2 fGe (cVar 4) (c2 fPow (cK (.int 10)) (cK (.int 15)))))) (cF fAbs (cCons (cVar 4) cNil)) (cK (.int 0))) (cCons (cVar 2) (cCons (cK (.int 0)) cNil)))))))))
def F__law_bag : Fn := cFun 2 5 c__law_bag
theorem ok__law_bag (T : Tx K mg) (Z : Gz K mg G memoK tsW T.fi) (Zx : Gx T G) : FnG P W K mg base (L2.CX P W) 1 T._law_bag.f T._law_bag.fd ["script", "lap"] (spF G 2 F__law_bag) :=
  fn_runX T._law_bag.F S__law_bag rfl rfl fun cdv A outer s H E hcd gd hr le => (xss_cons (xs_set S__law_bag.nd rfl (by first | exact Or.inl rfl | exact Or.inr rfl) (xe_op (o_add Z.eK) xe_int (xe_op (o_mul) xe_int (xe_var 1)))) (xss_cons (xs_for PassesOwn.leaving rfl (xi_seq Z.eK (xe_slice Z.eK (xe_var 0) xo_no (xo_yes xe_int))) (xg_name S__law_bag.nd rfl (by first | exact Or.inl rfl | exact Or.inr rfl)) (xss_one (xs_set S__law_bag.nd rfl (by first | exact Or.inl rfl | exact Or.inr rfl) (xe_op (o_mod) (xe_Ty (b_int) (by rfl) T.n_int bt_int (xa_cons (xe_op (o_add Z.eK) (xe_op (o_add Z.eK) (xe_op (o_mul) (xe_var 2) xe_int) (xe_op (o_mod) (xe_Ty (b_int) (by rfl) T.n_int bt_int (xa_cons (xe_var 3) xa_nil)) xe_int)) xe_int) xa_nil)) xe_int)))) (xss_cons (xs_set S__law_bag.nd rfl (by first | exact Or.inl rfl | exact Or.inr rfl) (xe_ite (xt_cmp (o_lt Z.eK hr.u0) (xe_var 1) (xe_B (b_len Z.eK) (by rfl) T.n_len bt_len (xa_cons (xe_var 0) xa_nil))) (xe_Ty (b_int) (by rfl) T.n_int bt_int (xa_cons (xe_ix (o_ix Z.eK hr.u1) (xe_var 0) (xe_var 1)) xa_nil)) xe_int)) (xss_cons (xs_set S__law_bag.nd rfl (by first | exact Or.inl rfl | exact Or.inr rfl) (xe_op (o_mod) (xe_Ty (b_int) (by rfl) T.n_int bt_int (xa_cons (xe_op (o_add Z.eK) (xe_op (o_add Z.eK) (xe_op (o_mul) (xe_var 2) xe_int) (xe_op (o_mul) (xe_op (o_mod) (xe_Ty (b_int) (by rfl) T.n_int bt_int (xa_cons (xe_var 4) xa_nil)) xe_int) xe_int)) xe_int) xa_nil)) xe_int)) (xss_one (xs_ret (xe_new (xa_cons (xe_ite (xt_w (xw_or (xt_cmp (o_lt Z.eK hr.u0) (xe_var 4) xe_int) (xw_or1 (xt_cmp (o_ge) (xe_var 4) (xe_op (o_pow) xe_int xe_int))))) (xe_B (b_abs) (by rfl) T.n_abs bt_abs (xa_cons (xe_var 4) xa_nil)) xe_int) (xa_cons (xe_var 2) (xa_cons xe_int xa_nil))))))))))
end
theorem bag_loop (ns : List Int) (k : Int) : ∀ (xs : List Int) (st : Int) (e3 e4 : Option CV) (h : CH), 0 ≤ st → ∃ st' e3', 0 ≤ st' ∧
    loopV (tgName 3) (sAsg (c2 fMod (cF fInt (cCons (c2 fAdd (c2 fAdd (c2 fMulI (cVar 2) (cK (.int 48271))) (c2 fMod (cF fInt (cCons (cVar 3) cNil)) (cK (.int 2147483629)))) (cK (.int 23))) cNil)) (cK (.int 2147483647))) (tgName 2)) (xs.map CV.int) [some (.scr ns), some (.int k), some (.int st), e3, e4] h
      = .ok (.nx [some (.scr ns), some (.int k), some (.int st'), e3', e4]) h
  | [], st, e3, e4, h, hm => ⟨st, e3, hm, rfl⟩
  | x :: xs, st, e3, e4, h, hm => by
    have P0 : (0 : Int) < 2147483647 := by decide
    have P1 : (0 : Int) < 2147483629 := by decide
    obtain ⟨st', e3', h1, h2⟩ := bag_loop ns k xs ((st * 48271 + x % 2147483629 + 23) % 2147483647) (some (.int x)) e4 h (Int.emod_nonneg _ (by decide))
    refine ⟨st', e3', h1, ?_⟩
    rw [List.map_cons, loopV]
    simp only [tgName, bind_ok, sAsg, c2, cVar, cK, List.getElem?_cons_zero, List.getElem?_cons_succ, List.set_cons_succ, List.set_cons_zero, cF, cCons, cNil, fInt_ok, fMul_ok (j := 48271) (by decide), fMod_ok P0, fMod_ok P1, fAdd_ok]
    exact h2
theorem mk_ok : Makes3 F__law_bag := by
  intro h ns k hn hb hk hk2
  have P0 : (0 : Int) < 2147483647 := by decide
  have P1 : (0 : Int) < 2147483629 := by decide
  obtain ⟨st, e3, hst, hloop⟩ := bag_loop ns k (cutI ns none (some 16)) (52027 + 8009 * k) none none h (by omega)
  have hten : ∀ h, fPow (.int 10) (.int 15) h = .ok (.int (10 ^ 15)) h := fun h => rfl
  have ln : ∀ h, fLen [.scr ns] h = .ok (.int (ns.length : Nat)) h := fun h => by
    show (Out.ok (CV.int (((ns.map CV.int).length : Nat) : Int)) h : Out CV) = _
    rw [List.length_map]
  obtain ⟨own, hown⟩ : ∃ own : Int, ∀ (x2 x3 : Option CV) h, cIte (tVal (c2 fLt (cVar 1) (cF fLen (cCons (cVar 0) cNil)))) (cF fInt (cCons (c2 fIx (cVar 0) (cVar 1)) cNil)) (cK (.int 0)) [some (.scr ns), some (.int k), x2, x3, none] h = .ok (.int own) h := by
    by_cases c : k < (ns.length : Nat)
    · have hk' : k.toNat < ns.length := by omega
      have q : atI (ns.map CV.int) k = some (.int ns[k.toNat]) := atI_ints hk (by rw [List.getElem?_eq_getElem hk'])
      refine ⟨ns[k.toNat], fun x2 x3 h => ?_⟩
      have ix : ∀ h, fIx (.scr ns) (.int k) h = .ok (.int ns[k.toNat]) h := fun h => by
        unfold fIx fIxS
        simp only [seqOf]
        rw [q]
      simp only [cIte, tVal, c2, cVar, cF, cCons, cNil, List.getElem?_cons_zero, List.getElem?_cons_succ, bind_ok, ln, fLt_ok, bOf, decide_eq_true c, ix, fInt_ok]
    · refine ⟨0, fun x2 x3 h => ?_⟩
      simp only [cIte, tVal, c2, cVar, cK, cF, cCons, cNil, List.getElem?_cons_zero, List.getElem?_cons_succ, bind_ok, ln, fLt_ok, bOf, decide_eq_false c]
  refine ⟨if own < 0 ∨ 10 ^ 15 ≤ own then (if own < 0 then -own else own) else 0, (st * 31 + own % 2147483629 * 17 + 3) % 2147483647, 0, ?_, Int.emod_nonneg _ (by decide), Int.le_refl _, ?_⟩
  · split
    · split <;> omega
    · exact Int.le_refl _
  · unfold F__law_bag cFun
    simp only [List.length_cons, List.length_nil, if_true, List.map_cons, List.map_nil, List.replicate, Nat.reduceAdd, Nat.reduceSub, List.cons_append, List.nil_append]
    unfold c__law_bag
    simp only [sSeq, sPar, sAsg, sFor, iSeq, sRet, cNew, hown]
    simp only [cCons, cNil, cF, cSl, oYes, oNo, cVar, cK, c2, List.getElem?_cons_zero, List.getElem?_cons_succ, bind_ok, fAdd_ok, fSl, fMul_ok' (i := 8009) (by decide), List.set_cons_succ, List.set_cons_zero, tgName, srcV, cutC_map]
    simp only [hloop, bind_ok]
    simp only [hown, bind_ok, List.getElem?_cons_zero, List.getElem?_cons_succ, List.set_cons_succ, List.set_cons_zero, fInt_ok, fMul_ok (j := 31) (by decide), fMul_ok (j := 17) (by decide), fMod_ok P0, fMod_ok P1, fAdd_ok]
    by_cases h1 : own < 0
    · simp only [cIte, tOrC, tVal, c2, cVar, cK, List.getElem?_cons_zero, List.getElem?_cons_succ, bind_ok, fLt_ok, bOf, decide_eq_true h1, cF, cCons, cNil, fAbs, if_pos h1, if_pos (Or.inl h1)]
      rfl
    · by_cases h2 : (10 : Int) ^ 15 ≤ own
      · simp only [cIte, tOrC, tVal, c2, cVar, cK, List.getElem?_cons_zero, List.getElem?_cons_succ, bind_ok, fLt_ok, bOf, decide_eq_false h1, hten, fGe_ok, decide_eq_true h2, cF, cCons, cNil, fAbs, if_neg h1, if_pos (Or.inr h2)]
        rfl
      · have hno : ¬ (own < 0 ∨ 10 ^ 15 ≤ own) := fun z => z.elim h1 h2
        simp only [cIte, tOrC, tVal, c2, cVar, cK, List.getElem?_cons_zero, List.getElem?_cons_succ, bind_ok, fLt_ok, bOf, decide_eq_false h1, hten, fGe_ok, decide_eq_false h2, cF, cCons, cNil, if_neg hno]
        rfl

section
variable {P : Program} {W : World} {K : PySem.W.Frag} {mg : Str → Option Value} {base : Heap} {G : Gb}
theorem S_is_whole : FnScope ["value"] ["value"] (defScope s_is_whole) := ⟨rfl, rfl, rfl, by decide +kernel, rfl, by decide +kernel, by decide +kernel⟩
def c_is_whole : CS := (sRet (cAndV (c1 (isiB .int) (cVar 0)) (cNotV (c1 (isiB .bl) (cVar 0)))))
def F_is_whole : Fn := cFun 1 1 c_is_whole
theorem ok_is_whole (T : Tx K mg) (Z : Gz K mg G memoK tsW T.fi) (Zx : Gx T G) : FnG P W K mg base (L2.CX P W) 1 T.is_whole.f T.is_whole.fd ["value"] (spF G 1 F_is_whole) :=
  fn_runX T.is_whole.F S_is_whole rfl rfl fun cdv A outer s H E hcd gd hr le => (xss_one (xs_ret (xe_and (xe_isi (by rfl) T.n_isinstance (xe_var 0) (pe_bltn (v := .ty "int") (by rfl) T.n_int bt_int rfl) (.ty _) (isiB_ok Z.eK .int) bt_isinstance) (xe_and1 (xe_not (xe_isi (by rfl) T.n_isinstance (xe_var 0) (pe_bltn (v := .ty "bool") (by rfl) T.n_bool bt_bool rfl) (.ty _) (isiB_ok Z.eK .bl) bt_isinstance))))))
end
section
variable {P : Program} {W : World} {K : PySem.W.Frag} {mg : Str → Option Value} {base : Heap} {G : Gb}
theorem S_is_between : FnScope ["value", "least", "most"] ["value", "least", "most"] (defScope s_is_between) := ⟨rfl, rfl, rfl, by decide +kernel, rfl, by decide +kernel, by decide +kernel⟩
def c_is_between : CS := (sRet (cAndV (cF (cCall 1 (pureF F_is_whole)) (cCons (cVar 0) cNil)) (cChain fLe fLe (cVar 1) (cVar 0) (cVar 2))))
def F_is_between : Fn := cFun 3 3 c_is_between
theorem ok_is_between (T : Tx K mg) (Z : Gz K mg G memoK tsW T.fi) (Zx : Gx T G) : FnG P W K mg base (L2.CX P W) 2 T.is_between.f T.is_between.fd ["value", "least", "most"] (spF G 3 F_is_between) :=
  fn_runX T.is_between.F S_is_between rfl rfl fun cdv A outer s H E hcd gd hr le => (xss_one (xs_ret (xe_and (xe_ownX T.is_whole (ok_is_whole T Z Zx) gd (hr.mono (by decide)) (by first | exact le | exact True.intro) rd_pure (xa_cons (xe_var 0) xa_nil)) (xe_and1 (xe_chain (o_le) (o_le) (xe_var 1) (xe_var 0) (xe_var 2))))))
end
section
variable {P : Program} {W : World} {K : PySem.W.Frag} {mg : Str → Option Value} {base : Heap} {G : Gb}
theorem S_is_places : FnScope ["value"] ["value"] (defScope s_is_places) := ⟨rfl, rfl, rfl, by decide +kernel, rfl, by decide +kernel, by decide +kernel⟩
def c_is_places : CS := (sRet (cF (cCall 3 (pureF F_is_between)) (cCons (cVar 0) (cCons (cK (.int 1)) (cCons (cK (.int 6)) cNil)))))
def F_is_places : Fn := cFun 1 1 c_is_places
theorem ok_is_places (T : Tx K mg) (Z : Gz K mg G memoK tsW T.fi) (Zx : Gx T G) : FnG P W K mg base (L2.CX P W) 3 T.is_places.f T.is_places.fd ["value"] (spF G 1 F_is_places) :=
  fn_runX T.is_places.F S_is_places rfl rfl fun cdv A outer s H E hcd gd hr le => (xss_one (xs_ret (xe_ownX T.is_between (ok_is_between T Z Zx) gd (hr.mono (by decide)) (by first | exact le | exact True.intro) rd_pure (xa_cons (xe_var 0) (xa_cons xe_int (xa_cons (xe_glob (c := .int 6) (v := .int 6) (by rfl) T.g_MOST_PLACES ⟨_, rfl⟩ (fun _ _ _ => cr_int _)) xa_nil))))))
end
section
variable {P : Program} {W : World} {K : PySem.W.Frag} {mg : Str → Option Value} {base : Heap} {G : Gb}
theorem S_first_wrong : FnScope ["value", "is_right", "index", "each"] ["value", "is_right"] (defScope s_first_wrong) := ⟨rfl, rfl, rfl, by decide +kernel, rfl, by decide +kernel, by decide +kernel⟩
def h_first_wrong (φ : Fn) : CS := (sSeq (sFor (iEnum (cCons (cVar 0) cNil)) (tgTup 2 (tgsCons (tgName 2) (tgsCons (tgName 3) tgsNil))) (sIf (tNotC (tVal (cFL 1 φ (cCons (cVar 3) (cCons (cSl (cVar 0) oNo (oYes (cVar 2))) cNil))))) (sRet (cVar 2)) sNil)) (sRet (cK .non)))
theorem holder_first_wrong {X : Cx} {G : Gb} {q : Str} (T : Tx X.K X.mg) (hK : X.K = G.K) {k : Nat} : HolderOkX X G k q "is_right" ["value", "is_right", "index", "each"] "first_wrong" s_first_wrong T.first_wrong.f h_first_wrong :=
  fun cdv s H f c' cp φ gd hr hcall => (xss_cons (xs_for PassesOwn.leaving rfl (xi_enum hK (by rfl) T.n_enumerate (xa_cons (xe_var 0) xa_nil)) (xg_tup hK rfl (xgs_cons (xg_name S_first_wrong.nd rfl (by first | exact Or.inl rfl | exact Or.inr rfl)) (xgs_cons (xg_name S_first_wrong.nd rfl (by first | exact Or.inl rfl | exact Or.inr rfl)) xgs_nil))) (xss_one (xs_if (xt_not (xt_val (hcall _ _ _ _ _ (xa_cons (xe_var 3) (xa_cons (xe_slice hK (xe_var 0) xo_no (xo_yes (xe_var 2))) xa_nil)) rfl rfl))) (xss_one (xs_ret (xe_var 2))) xss_nil))) (xss_one (xs_ret xe_non)))
end
section
variable {P : Program} {W : World} {K : PySem.W.Frag} {mg : Str → Option Value} {base : Heap} {G : Gb}
theorem S_is_tuple_of : FnScope ["value", "many"] ["value", "many"] (defScope s_is_tuple_of) := ⟨rfl, rfl, rfl, by decide +kernel, rfl, by decide +kernel, by decide +kernel⟩
def c_is_tuple_of : CS := (sRet (cAndV (c1 (isiB .tup) (cVar 0)) (c2 fEq (cF fLen (cCons (cVar 0) cNil)) (cVar 1))))
def F_is_tuple_of : Fn := cFun 2 2 c_is_tuple_of
theorem ok_is_tuple_of (T : Tx K mg) (Z : Gz K mg G memoK tsW T.fi) (Zx : Gx T G) : FnG P W K mg base (L2.CX P W) 1 T.is_tuple_of.f T.is_tuple_of.fd ["value", "many"] (spF G 2 F_is_tuple_of) :=
  fn_runX T.is_tuple_of.F S_is_tuple_of rfl rfl fun cdv A outer s H E hcd gd hr le => (xss_one (xs_ret (xe_and (xe_isi (by rfl) T.n_isinstance (xe_var 0) (pe_bltn (v := .ty "tuple") (by rfl) T.n_tuple bt_tuple rfl) (.ty _) (isiB_ok Z.eK .tup) bt_isinstance) (xe_and1 (xe_cmp (o_eq Z.eK hr.u64) (xe_B (b_len Z.eK) (by rfl) T.n_len bt_len (xa_cons (xe_var 0) xa_nil)) (xe_var 1))))))
end
section
variable {P : Program} {W : World} {K : PySem.W.Frag} {mg : Str → Option Value} {base : Heap} {G : Gb}
theorem S_is_tie : FnScope ["places", "value", "place"] ["places", "value"] (defScope s_is_tie) := ⟨rfl, rfl, rfl, by decide +kernel, rfl, by decide +kernel, by decide +kernel⟩
def c_is_tie : CS := (sSeq (sIf (tOrC (tNotC (tVal (cF (cCall 2 (pureF F_is_tuple_of)) (cCons (cVar 1) (cCons (cK (.int 2)) cNil))))) (tNotC (tVal (cF fAll (cCons (cComp [2] (iSeq (cVar 1)) (tgName 2) tYesC (cF (cCall 3 (pureF F_is_between)) (cCons (cVar 2) (cCons (cK (.int 0)) (cCons (c2 fSub (cVar 0) (cK (.int 1))) cNil))))) cNil))))) (sRet (cK (.bl false))) sNil) (sRet (c2 fLt (c2 fIx (cVar 1) (cK (.int 0))) (c2 fIx (cVar 1) (cK (.int 1))))))
def F_is_tie : Fn := cFun 2 3 c_is_tie
theorem ok_is_tie (T : Tx K mg) (Z : Gz K mg G memoK tsW T.fi) (Zx : Gx T G) : FnG P W K mg base (L2.CX P W) 3 T.is_tie.f T.is_tie.fd ["places", "value"] (spF G 2 F_is_tie) :=
  fn_runX T.is_tie.F S_is_tie rfl rfl fun cdv A outer s H E hcd gd hr le => (xss_cons (xs_if (xt_w (xw_or (xt_not (xt_val (xe_ownX T.is_tuple_of (ok_is_tuple_of T Z Zx) gd (hr.mono (by decide)) (by first | exact le | exact True.intro) rd_pure (xa_cons (xe_var 1) (xa_cons xe_int xa_nil))))) (xw_or1 (xt_not (xt_val (xe_B (b_all rfl) (by rfl) T.n_all bt_all (xa_cons (xe_comp (own := [("place", 2)]) rfl S_is_tie.nd (xi_seq Z.eK (xe_var 1)) (blkOk_by (N := ["places", "value", "place"]) (sc := defScope s_is_tie) (by decide +kernel)) (fun _ _ _ _ _ => (xgw_name S_is_tie.nd rfl (by first | exact Or.inl rfl | exact Or.inr rfl) (by decide))) (fun _ _ _ _ _ => xts_nil) (fun _ _ _ _ _ => (xe_ownX T.is_between (ok_is_between T Z Zx) gd (hr.mono (by decide)) (by first | exact le | exact True.intro) rd_pure (xa_cons (xe_var 2) (xa_cons xe_int (xa_cons (xe_op (o_sub) (xe_var 0) xe_int) xa_nil)))))) xa_nil))))))) (xss_one (xs_ret xe_bl)) xss_nil) (xss_one (xs_ret (xe_cmp (o_lt Z.eK hr.u0) (xe_ix (o_ix Z.eK hr.u1) (xe_var 1) xe_int) (xe_ix (o_ix Z.eK hr.u1) (xe_var 1) xe_int)))))
end
section
variable {P : Program} {W : World} {K : PySem.W.Frag} {mg : Str → Option Value} {base : Heap} {G : Gb}
theorem S_wrong_tie : FnScope ["places", "value"] ["places", "value"] (defScope s_wrong_tie) := ⟨rfl, rfl, rfl, by decide +kernel, rfl, by decide +kernel, by decide +kernel⟩
def c_wrong_tie : CS := (sRet (cLamX 4 2 3 [0] (cAndV (cF (cCall 2 (pureF F_is_tie)) (cCons (cVar 2) (cCons (cVar 0) cNil))) (cOrV (c2 fEq (cVar 1) (cTup cNil)) (c2 fLt (c2 fIx (cVar 1) (c1 fNeg (cK (.int 1)))) (cVar 0)))) h_first_wrong (cVar 1)))
def F_wrong_tie : Fn := cFun 2 2 c_wrong_tie
theorem ok_wrong_tie (T : Tx K mg) (Z : Gz K mg G memoK tsW T.fi) (Zx : Gx T G) (Lz : Lzz T base G) : FnG P W K mg base (L2.CX P W) 6 T.wrong_tie.f T.wrong_tie.fd ["places", "value"] (spF G 2 F_wrong_tie) :=
  fn_runX T.wrong_tie.F S_wrong_tie rfl rfl fun cdv A outer s H E hcd gd hr le => (xss_one (xs_ret (xe_lamcallX (k := 3) (ps := ["tie", "ahead"]) (fr := ["places"]) (Nl := ["tie", "ahead", "places"]) gd (hr.mono (by decide)) (by rfl) T.first_wrong.m T.first_wrong.F T.first_wrong.b S_first_wrong rfl rfl (by first | exact Or.inl rfl | exact Or.inr (Or.inl rfl))
      (nscope_by (by decide +kernel)) rfl rfl (ndef_free (sc := defScope s_wrong_tie) (fr := ["places"]) (by decide +kernel)) (ndef_fr (sc := defScope s_wrong_tie) (by decide +kernel)) rfl Lz.l_wrong_tie.tb (hcd.symm.trans Lz.l_wrong_tie.code) Lz.l_wrong_tie.mem Lz.l_wrong_tie.un rfl
      (fun _ _ _ _ _ us hl => match us, hl with | [_, _], _ => rfl) (by refine holder_first_wrong _ ?_; exact Z.eK) (fun A outer s H f c' cp gd hr => have Z := Z.wc f [(c', _)] cp; have Zx : Gx T (G.wc f [(c', _)] cp) := Zx.to rfl rfl; (xe_and (xe_ownX T.is_tie (ok_is_tie T Z Zx) gd (hr.mono (by decide)) (by first | exact le | exact True.intro) rd_pure (xa_cons (xe_var 2) (xa_cons (xe_var 0) xa_nil))) (xe_and1 (xe_or (xe_cmp (o_eq Z.eK hr.u64) (xe_var 1) (xe_tup xa_nil)) (xe_and1 (xe_cmp (o_lt Z.eK hr.u0) (xe_ix (o_ix Z.eK hr.u1) (xe_var 1) (xe_un u_neg xe_int)) (xe_var 0))))))) (xe_var 1))))
end
section
variable {P : Program} {W : World} {K : PySem.W.Frag} {mg : Str → Option Value} {base : Heap} {G : Gb}
theorem S_init : FnScope ["self", "places", "ties", "wrong"] ["self", "places", "ties"] (defScope s_init) := ⟨rfl, rfl, rfl, by decide +kernel, rfl, by decide +kernel, by decide +kernel⟩
def c_init : CS := (sSeq (sIf (tNotC (tVal (cF (cCall 1 (pureF F_is_places)) (cCons (cVar 1) cNil)))) sStuck sNil) (sSeq (sIf (tNotC (tVal (c1 (isiB .tup) (cVar 2)))) sStuck sNil) (sSeq (sAsg (cF (cCall 2 (pureF F_wrong_tie)) (cCons (cVar 1) (cCons (cVar 2) cNil))) (tgName 3)) (sSeq (sIf (tVal (c2 fNotN (cVar 3) (cK .non))) sStuck sNil) sNil))))
theorem ok_init (T : Tx K mg) (Z : Gz K mg G memoK tsW T.fi) (Zx : Gx T G) (Lz : Lzz T base G) : FnG P W K mg base (L2.CX P W) 7 T.fi T.fdi ["self", "places", "ties"] (spInit G 4 c_init) :=
  init_ok (a := (defBody s_init).take 4) (post := (defBody s_init).drop 4) T.Fi S_init rfl (List.take_append_drop _ _).symm (fun cdv A outer s H E x gd hr => have Z := Z.wl x []; have Zx : Gx T (G.wl x []) := Zx.to rfl rfl; have Lz : Lzz T base (G.wl x []) := Lz.to rfl; (show XPre _ _ _ _ from (.cons (xs_if (xt_not (xt_val (xe_ownX T.is_places (ok_is_places T Z Zx) gd (hr.mono (by decide)) (by first | exact le | exact True.intro) rd_pure (xa_cons (xe_var 1) xa_nil)))) (xss_one xs_stuck) xss_nil) (.cons (xs_if (xt_not (xt_val (xe_isi (by rfl) T.n_isinstance (xe_var 2) (pe_bltn (v := .ty "tuple") (by rfl) T.n_tuple bt_tuple rfl) (.ty _) (isiB_ok Z.eK .tup) bt_isinstance))) (xss_one xs_stuck) xss_nil) (.cons (xs_set S_init.nd rfl (by first | exact Or.inl rfl | exact Or.inr rfl) (xe_ownX T.wrong_tie (ok_wrong_tie T Z Zx Lz) gd (hr.mono (by decide)) (by first | exact le | exact True.intro) rd_pure (xa_cons (xe_var 1) (xa_cons (xe_var 2) xa_nil)))) (.cons (xs_if (xt_cmp (o_notN) (xe_var 3) xe_non) (xss_one xs_stuck) xss_nil) XPre.nil))))))
    fun cdv A outer s H E => stores3 Z.W rfl rfl rfl (by first | exact Or.inl rfl | exact Or.inr (Or.inl rfl) | exact Or.inr (Or.inr rfl)) (by first | exact Or.inl rfl | exact Or.inr (Or.inl rfl) | exact Or.inr (Or.inr rfl)) (by first | exact Or.inl rfl | exact Or.inr (Or.inl rfl) | exact Or.inr (Or.inr rfl)) (by decide) (by decide) (by decide)
end
section
variable {P : Program} {W : World} {K : PySem.W.Frag} {mg : Str → Option Value} {base : Heap} {G : Gb}
theorem S__law_take : FnScope ["bag", "top", "digit"] ["bag", "top"] (defScope s__law_take) := ⟨rfl, rfl, rfl, by decide +kernel, rfl, by decide +kernel, by decide +kernel⟩
def c__law_take : CS := (sSeq (sIf (tVal (c2 fGt (c2 fIx (cVar 0) (cK (.int 0))) (cK (.int 0)))) (sSeq (sAsg (cF fDivmod (cCons (c2 fIx (cVar 0) (cK (.int 0))) (cCons (cVar 1) cNil))) (tgTup 2 (tgsCons (tgSub (cVar 0) (cK (.int 0))) (tgsCons (tgName 2) tgsNil)))) (sRet (cVar 2))) sNil) (sSeq (sAsg (c2 fAdd (c2 fIx (cVar 0) (cK (.int 2))) (cK (.int 1))) (tgSub (cVar 0) (cK (.int 2)))) (sSeq (sAsg (c2 fMod (cF fInt (cCons (c2 fAdd (c2 fAdd (c2 fMulI (c2 fIx (cVar 0) (cK (.int 1))) (cK (.int 16807))) (c2 fMulI (cK (.int 4099)) (c2 fIx (cVar 0) (cK (.int 2))))) (cK (.int 1))) cNil)) (cK (.int 2147483647))) (tgSub (cVar 0) (cK (.int 1)))) (sRet (c2 fMod (cF fInt (cCons (c2 fDiv (c2 fIx (cVar 0) (cK (.int 1))) (cK (.int 911))) cNil)) (cVar 1))))))
def F__law_take : Fn := cFun 2 3 c__law_take
theorem ok__law_take (T : Tx K mg) (Z : Gz K mg G memoK tsW T.fi) (Zx : Gx T G) : FnG P W K mg base (L2.CX P W) 1 T._law_take.f T._law_take.fd ["bag", "top"] (spF G 2 F__law_take) :=
  fn_runX T._law_take.F S__law_take rfl rfl fun cdv A outer s H E hcd gd hr le => (xss_cons (xs_if (xt_cmp (o_gt) (xe_ix (o_ix Z.eK hr.u1) (xe_var 0) xe_int) xe_int) (xss_cons (xs_asg (xe_B (b_divmod) (by rfl) T.n_divmod bt_divmod (xa_cons (xe_ix (o_ix Z.eK hr.u1) (xe_var 0) xe_int) (xa_cons (xe_var 1) xa_nil))) (xg_tup Z.eK rfl (xgs_cons (xg_sub (xe_var 0) xe_int) (xgs_cons (xg_name S__law_take.nd rfl (by first | exact Or.inl rfl | exact Or.inr rfl)) xgs_nil)))) (xss_one (xs_ret (xe_var 2)))) xss_nil) (xss_cons (xs_asg (xe_op (o_add Z.eK) (xe_ix (o_ix Z.eK hr.u1) (xe_var 0) xe_int) xe_int) (xg_sub (xe_var 0) xe_int)) (xss_cons (xs_asg (xe_op (o_mod) (xe_Ty (b_int) (by rfl) T.n_int bt_int (xa_cons (xe_op (o_add Z.eK) (xe_op (o_add Z.eK) (xe_op (o_mul) (xe_ix (o_ix Z.eK hr.u1) (xe_var 0) xe_int) xe_int) (xe_op (o_mul) xe_int (xe_ix (o_ix Z.eK hr.u1) (xe_var 0) xe_int))) xe_int) xa_nil)) xe_int) (xg_sub (xe_var 0) xe_int)) (xss_one (xs_ret (xe_op (o_mod) (xe_Ty (b_int) (by rfl) T.n_int bt_int (xa_cons (xe_op (o_div) (xe_ix (o_ix Z.eK hr.u1) (xe_var 0) xe_int) xe_int) xa_nil)) (xe_var 1)))))))
end
theorem tk_ok : Takes3 F__law_take := by
  intro n h i j k m hi hj hk hm hm2 e
  obtain ⟨a0, a1, a2⟩ := ix_bag e
  unfold F__law_take cFun
  simp only [List.length_cons, List.length_nil, if_true, List.map_cons, List.map_nil, List.replicate, Nat.reduceAdd, Nat.reduceSub, List.cons_append, List.nil_append]
  by_cases h0 : 0 < i
  · obtain ⟨d, d1, d2⟩ := mod_fit i hm
    refine ⟨d, i / m, j, k, d1, Int.ediv_nonneg hi (Int.le_of_lt hm), hj, hk, ?_⟩
    have s0 := (sub_bag (l := [some (CV.ref n), some (CV.int m), none]) (eo := cVar 0) (ei := cK (.int 0)) e (i / m) rfl rfl).1 rfl
    simp only [c__law_take, sSeq, sIf, tVal, c2, cVar, cK, List.getElem?_cons_zero, List.getElem?_cons_succ, bind_ok, a0, a1, a2, fGt_ok, bOf, decide_eq_true h0, sAsg, cF, cCons, cNil, fDivmod_ok hm hm2, tgTup, tgsCons, s0, List.length_cons, List.length_nil, if_true, tgName, tgsNil, sRet, List.set_cons_succ, List.set_cons_zero, d2, Nat.reduceAdd]
  · have hk1 : (0 : Int) ≤ k + 1 := by omega
    have P0 : (0 : Int) < 2147483647 := by decide
    obtain ⟨d, d1, d2⟩ := mod_fit ((j * 16807 + 4099 * (k + 1) + 1) % 2147483647 / 911) hm
    have e1 : (h.set n (bag3 i j (k + 1)))[n]? = some (bag3 i j (k + 1)) := set_at e
    obtain ⟨b0, b1, b2⟩ := ix_bag e1
    have e2 : ((h.set n (bag3 i j (k + 1))).set n (bag3 i ((j * 16807 + 4099 * (k + 1) + 1) % 2147483647) (k + 1)))[n]? = _ := set_at e1
    obtain ⟨c0, c1', c2'⟩ := ix_bag e2
    have s1 := (sub_bag (l := [some (CV.ref n), some (CV.int m), none]) (eo := cVar 0) (ei := cK (.int 2)) e (k + 1) rfl rfl).2.2 rfl
    have s2 := (sub_bag (l := [some (CV.ref n), some (CV.int m), none]) (eo := cVar 0) (ei := cK (.int 1)) e1 ((j * 16807 + 4099 * (k + 1) + 1) % 2147483647) rfl rfl).2.1 rfl
    refine ⟨d, i, (j * 16807 + 4099 * (k + 1) + 1) % 2147483647, k + 1, d1, hi, Int.emod_nonneg _ (by decide), hk1, ?_⟩
    simp only [c__law_take, sSeq, sIf, tVal, c2, cVar, cK, List.getElem?_cons_zero, List.getElem?_cons_succ, bind_ok, a0, a1, a2, b0, b1, b2, c0, c1', c2', fGt_ok, bOf, decide_eq_false h0, sNil, sAsg, fAdd_ok, s1, s2, cF, cCons, cNil, fInt_ok, fMul_ok (j := 16807) (by decide), fMul_ok' (i := 4099) (by decide), fMod_ok P0, fMod_ok hm, fDiv_ok (j := 911) (by decide) (by decide), tgName, sRet, List.set_cons_succ, List.set_cons_zero, d2]
    rw [List.set_set]

section
variable {P : Program} {W : World} {K : PySem.W.Frag} {mg : Str → Option Value} {base : Heap} {G : Gb}
theorem S__law_pull : FnScope ["bag", "some"] ["bag", "some"] (defScope s__law_pull) := ⟨rfl, rfl, rfl, by decide +kernel, rfl, by decide +kernel, by decide +kernel⟩
def c__law_pull : CS := (sRet (c2 fIx (cVar 1) (cF (cCall 2 takeF) (cCons (cVar 0) (cCons (cF fLen (cCons (cVar 1) cNil)) cNil)))))
def F__law_pull : Fn := cFun 2 2 c__law_pull
theorem ok__law_pull (T : Tx K mg) (Z : Gz K mg G memoK tsW T.fi) (Zx : Gx T G) : FnG P W K mg base (L2.CX P W) 2 T._law_pull.f T._law_pull.fd ["bag", "some"] (spF G 2 F__law_pull) :=
  fn_runX T._law_pull.F S__law_pull rfl rfl fun cdv A outer s H E hcd gd hr le => (xss_one (xs_ret (xe_ix (o_ix Z.eK hr.u1) (xe_var 1) (xe_ownX T._law_take (ok__law_take T Z Zx) gd (hr.mono (by decide)) (by first | exact le | exact True.intro) (rd_take tk_ok) (xa_cons (xe_var 0) (xa_cons (xe_B (b_len Z.eK) (by rfl) T.n_len bt_len (xa_cons (xe_var 1) xa_nil)) xa_nil))))))
end
section
variable {P : Program} {W : World} {K : PySem.W.Frag} {mg : Str → Option Value} {base : Heap} {G : Gb}
theorem S__law_raised : FnScope ["act", "e", "sorts"] ["act"] (defScope s__law_raised) := ⟨rfl, rfl, rfl, by decide +kernel, rfl, by decide +kernel, by decide +kernel⟩
def su__law_raised (k : Nat) (v : Option CV) : CS := match k with
  | 0 => (sSeq (sAsg (cLst (cCons (cIsX 1 false) (cCons (cIsX 1 false) (cCons (cIsX 1 true) cNil)))) (tgName 2)) (sSeq (sAsg (c2 fAdd (cVar 2) (cLst (cCons (cIsX 1 false) cNil))) (tgName 2)) (sSeq (sIf (tOrC (tVal (c2 fNe (cLMx mCnt (cVar 2) (cCons (cK (.bl true)) cNil)) (cK (.int 1)))) (tNotC (tVal (cIsX 1 true)))) (sRet (cLst (cCons (cK (.str "odd")) cNil))) sNil) (sRet (cLst (cCons (c2 fIx (cLst (cCons (cK (.str "web")) (cCons (cK (.str "number")) (cCons (cK (.str "lists")) (cCons (cK (.str "sketch")) cNil))))) (cLMx mIdx (cVar 2) (cCons (cK (.bl true)) cNil))) (cCons (cIte (tOrC (tVal (c2 fIx (cVar 2) (cK (.int 2)))) (tVal (c2 fIx (cVar 2) (cK (.int 3))))) (cGivX 1 v) cNev) cNil)))))))
  | 1 => (sSeq (sAsg (cLst (cCons (cIsX 1 true) (cCons (cIsX 1 false) (cCons (cIsX 1 false) cNil)))) (tgName 2)) (sSeq (sAsg (c2 fAdd (cVar 2) (cLst (cCons (cIsX 1 false) cNil))) (tgName 2)) (sSeq (sIf (tOrC (tVal (c2 fNe (cLMx mCnt (cVar 2) (cCons (cK (.bl true)) cNil)) (cK (.int 1)))) (tNotC (tVal (cIsX 1 true)))) (sRet (cLst (cCons (cK (.str "odd")) cNil))) sNil) (sRet (cLst (cCons (c2 fIx (cLst (cCons (cK (.str "web")) (cCons (cK (.str "number")) (cCons (cK (.str "lists")) (cCons (cK (.str "sketch")) cNil))))) (cLMx mIdx (cVar 2) (cCons (cK (.bl true)) cNil))) (cCons (cIte (tOrC (tVal (c2 fIx (cVar 2) (cK (.int 2)))) (tVal (c2 fIx (cVar 2) (cK (.int 3))))) cNev (cGivX 1 v)) cNil)))))))
  | 2 => (sSeq (sAsg (cLst (cCons (cIsX 1 false) (cCons (cIsX 1 true) (cCons (cIsX 1 false) cNil)))) (tgName 2)) (sSeq (sAsg (c2 fAdd (cVar 2) (cLst (cCons (cIsX 1 false) cNil))) (tgName 2)) (sSeq (sIf (tOrC (tVal (c2 fNe (cLMx mCnt (cVar 2) (cCons (cK (.bl true)) cNil)) (cK (.int 1)))) (tNotC (tVal (cIsX 1 true)))) (sRet (cLst (cCons (cK (.str "odd")) cNil))) sNil) (sRet (cLst (cCons (c2 fIx (cLst (cCons (cK (.str "web")) (cCons (cK (.str "number")) (cCons (cK (.str "lists")) (cCons (cK (.str "sketch")) cNil))))) (cLMx mIdx (cVar 2) (cCons (cK (.bl true)) cNil))) (cCons (cIte (tOrC (tVal (c2 fIx (cVar 2) (cK (.int 2)))) (tVal (c2 fIx (cVar 2) (cK (.int 3))))) cNev (cGivX 1 v)) cNil)))))))
  | 3 => (sSeq (sAsg (cLst (cCons (cIsX 1 false) (cCons (cIsX 1 false) (cCons (cIsX 1 false) cNil)))) (tgName 2)) (sSeq (sAsg (c2 fAdd (cVar 2) (cLst (cCons (cIsX 1 true) cNil))) (tgName 2)) (sSeq (sIf (tOrC (tVal (c2 fNe (cLMx mCnt (cVar 2) (cCons (cK (.bl true)) cNil)) (cK (.int 1)))) (tNotC (tVal (cIsX 1 true)))) (sRet (cLst (cCons (cK (.str "odd")) cNil))) sNil) (sRet (cLst (cCons (c2 fIx (cLst (cCons (cK (.str "web")) (cCons (cK (.str "number")) (cCons (cK (.str "lists")) (cCons (cK (.str "sketch")) cNil))))) (cLMx mIdx (cVar 2) (cCons (cK (.bl true)) cNil))) (cCons (cIte (tOrC (tVal (c2 fIx (cVar 2) (cK (.int 2)))) (tVal (c2 fIx (cVar 2) (cK (.int 3))))) (cGivX 1 v) cNev) cNil)))))))
  | _ => sStuck
def h__law_raised (φ : CH → Out CV) : CS := (sTry 3 1 4 (sSeq (sDrop (cAct 0 φ)) (sRet (cLst (cCons (cK (.str "told")) cNil)))) su__law_raised)
theorem holder_su__law_raised {X : Cx} (T : Tx X.K X.mg) (G : Gb) (hK : X.K = G.K) (Zx : Gx T G) {s : Shared} {H : Hp} {cdv : Value} {k0 : Nat} (hr : Room k0 (X.A.deeper (envOfC "_law_raised" (defScope s__law_raised) s.heap.objs.size T._law_raised.f cdv))) : ∀ (k : Nat) (v : Option CV) (a : Addr) (oe : Obj) (d : Option Addr) (pn : List (Addr × Obj)), k < 4 → Zc (.ref (G.ga k)) d oe → (∃ vs, oe.data = .fields vs) → DOk d v →
    XSs ((cxOf (L2.CX X.prog X.w) X.prog X.w X.K X.mg X.base ["act", "e", "sorts"] "_law_raised" (defScope s__law_raised) T._law_raised.f cdv X.A X.stack s H E0).suite a ((a, oe) :: pn)) (G.ex a (pinOf G d k v)) none (tryBody (defBody s__law_raised)) (su__law_raised k v) := fun k v a oe d pn hk hz hf dv => by
  match k, hk with
  | 0, _ => exact (xss_cons (xs_set S__law_raised.nd rfl (by first | exact Or.inl rfl | exact Or.inr rfl) (xe_lst (xa_cons (xe_isX (i := 1) T.xE_InvalidLists (by rw [← Zx.g0]; exact hz) hf rfl dv.pin (by rfl) T.n_isinstance rfl (by first | exact Or.inl rfl | exact Or.inr (Or.inl rfl) | exact Or.inr (Or.inr rfl)) (pe_glob (v := .ref _) (by rfl) T.xF_NotAWeb.m rfl) (.own _) T.kit_InvalidLists_NotAWeb) (xa_cons (xe_isX (i := 1) T.xE_InvalidLists (by rw [← Zx.g0]; exact hz) hf rfl dv.pin (by rfl) T.n_isinstance rfl (by first | exact Or.inl rfl | exact Or.inr (Or.inl rfl) | exact Or.inr (Or.inr rfl)) (pe_glob (v := .ref _) (by rfl) T.xF_InvalidNumber.m rfl) (.own _) T.kit_InvalidLists_InvalidNumber) (xa_cons (xe_isX (i := 1) T.xE_InvalidLists (by rw [← Zx.g0]; exact hz) hf rfl dv.pin (by rfl) T.n_isinstance rfl (by first | exact Or.inl rfl | exact Or.inr (Or.inl rfl) | exact Or.inr (Or.inr rfl)) (pe_glob (v := .ref _) (by rfl) T.xF_InvalidLists.m rfl) (.own _) T.kit_InvalidLists_InvalidLists) xa_nil))))) (xss_cons (xs_set S__law_raised.nd rfl (by first | exact Or.inl rfl | exact Or.inr rfl) (xe_op (o_add hK) (xe_var 2) (xe_lst (xa_cons (xe_isX (i := 1) T.xE_InvalidLists (by rw [← Zx.g0]; exact hz) hf rfl dv.pin (by rfl) T.n_isinstance rfl (by first | exact Or.inl rfl | exact Or.inr (Or.inl rfl) | exact Or.inr (Or.inr rfl)) (pe_glob (v := .ref _) (by rfl) T.xF_InvalidSketch.m rfl) (.own _) T.kit_InvalidLists_InvalidSketch) xa_nil)))) (xss_cons (xs_if (xt_w (xw_or (xt_cmp (o_ne hK hr.u64) (xe_count hK hr.u65 (xe_var 2) (xa_cons xe_bl xa_nil)) xe_int) (xw_or1 (xt_not (xt_val (xe_isX (i := 1) T.xE_InvalidLists (by rw [← Zx.g0]; exact hz) hf rfl dv.pin (by rfl) T.n_isinstance rfl (by first | exact Or.inl rfl | exact Or.inr (Or.inl rfl) | exact Or.inr (Or.inr rfl)) (pe_bltn (v := .ty "ValueError") (by rfl) T.n_ValueError bt_ValueError rfl) (.ty _) T.kitv_InvalidLists)))))) (xss_one (xs_ret (xe_lst (xa_cons xe_str xa_nil)))) xss_nil) (xss_one (xs_ret (xe_lst (xa_cons (xe_ix (o_ix hK hr.u1) (xe_lst (xa_cons xe_str (xa_cons xe_str (xa_cons xe_str (xa_cons xe_str xa_nil))))) (xe_index hK hr.u65 (xe_var 2) (xa_cons xe_bl xa_nil))) (xa_cons (xe_ite (xt_w (xw_or (xt_val (xe_ix (o_ix hK hr.u1) (xe_var 2) xe_int)) (xw_or1 (xt_val (xe_ix (o_ix hK hr.u1) (xe_var 2) xe_int))))) (xe_givX (k := 0) (i := 1) T.xA_InvalidLists T.xF_InvalidLists.no (by rw [← Zx.g0]; exact hz) hf rfl dv (fun dd c e1 e2 => by subst e1 e2; show some (dd, G.exf 0, c) = _; rw [Zx.f0]) rfl (by first | exact Or.inl rfl | exact Or.inr (Or.inl rfl) | exact Or.inr (Or.inr rfl))) xe_nev) xa_nil))))))))
  | 1, _ => exact (xss_cons (xs_set S__law_raised.nd rfl (by first | exact Or.inl rfl | exact Or.inr rfl) (xe_lst (xa_cons (xe_isX (i := 1) T.xE_NotAWeb (by rw [← Zx.g1]; exact hz) hf rfl dv.pin (by rfl) T.n_isinstance rfl (by first | exact Or.inl rfl | exact Or.inr (Or.inl rfl) | exact Or.inr (Or.inr rfl)) (pe_glob (v := .ref _) (by rfl) T.xF_NotAWeb.m rfl) (.own _) T.kit_NotAWeb_NotAWeb) (xa_cons (xe_isX (i := 1) T.xE_NotAWeb (by rw [← Zx.g1]; exact hz) hf rfl dv.pin (by rfl) T.n_isinstance rfl (by first | exact Or.inl rfl | exact Or.inr (Or.inl rfl) | exact Or.inr (Or.inr rfl)) (pe_glob (v := .ref _) (by rfl) T.xF_InvalidNumber.m rfl) (.own _) T.kit_NotAWeb_InvalidNumber) (xa_cons (xe_isX (i := 1) T.xE_NotAWeb (by rw [← Zx.g1]; exact hz) hf rfl dv.pin (by rfl) T.n_isinstance rfl (by first | exact Or.inl rfl | exact Or.inr (Or.inl rfl) | exact Or.inr (Or.inr rfl)) (pe_glob (v := .ref _) (by rfl) T.xF_InvalidLists.m rfl) (.own _) T.kit_NotAWeb_InvalidLists) xa_nil))))) (xss_cons (xs_set S__law_raised.nd rfl (by first | exact Or.inl rfl | exact Or.inr rfl) (xe_op (o_add hK) (xe_var 2) (xe_lst (xa_cons (xe_isX (i := 1) T.xE_NotAWeb (by rw [← Zx.g1]; exact hz) hf rfl dv.pin (by rfl) T.n_isinstance rfl (by first | exact Or.inl rfl | exact Or.inr (Or.inl rfl) | exact Or.inr (Or.inr rfl)) (pe_glob (v := .ref _) (by rfl) T.xF_InvalidSketch.m rfl) (.own _) T.kit_NotAWeb_InvalidSketch) xa_nil)))) (xss_cons (xs_if (xt_w (xw_or (xt_cmp (o_ne hK hr.u64) (xe_count hK hr.u65 (xe_var 2) (xa_cons xe_bl xa_nil)) xe_int) (xw_or1 (xt_not (xt_val (xe_isX (i := 1) T.xE_NotAWeb (by rw [← Zx.g1]; exact hz) hf rfl dv.pin (by rfl) T.n_isinstance rfl (by first | exact Or.inl rfl | exact Or.inr (Or.inl rfl) | exact Or.inr (Or.inr rfl)) (pe_bltn (v := .ty "ValueError") (by rfl) T.n_ValueError bt_ValueError rfl) (.ty _) T.kitv_NotAWeb)))))) (xss_one (xs_ret (xe_lst (xa_cons xe_str xa_nil)))) xss_nil) (xss_one (xs_ret (xe_lst (xa_cons (xe_ix (o_ix hK hr.u1) (xe_lst (xa_cons xe_str (xa_cons xe_str (xa_cons xe_str (xa_cons xe_str xa_nil))))) (xe_index hK hr.u65 (xe_var 2) (xa_cons xe_bl xa_nil))) (xa_cons (xe_ite (xt_w (xw_or (xt_val (xe_ix (o_ix hK hr.u1) (xe_var 2) xe_int)) (xw_or1 (xt_val (xe_ix (o_ix hK hr.u1) (xe_var 2) xe_int))))) xe_nev (xe_givX (k := 1) (i := 1) T.xA_NotAWeb T.xF_NotAWeb.no (by rw [← Zx.g1]; exact hz) hf rfl dv (fun dd c e1 e2 => by subst e1 e2; show some (dd, G.exf 1, c) = _; rw [Zx.f1]) rfl (by first | exact Or.inl rfl | exact Or.inr (Or.inl rfl) | exact Or.inr (Or.inr rfl)))) xa_nil))))))))
  | 2, _ => exact (xss_cons (xs_set S__law_raised.nd rfl (by first | exact Or.inl rfl | exact Or.inr rfl) (xe_lst (xa_cons (xe_isX (i := 1) T.xE_InvalidNumber (by rw [← Zx.g2]; exact hz) hf rfl dv.pin (by rfl) T.n_isinstance rfl (by first | exact Or.inl rfl | exact Or.inr (Or.inl rfl) | exact Or.inr (Or.inr rfl)) (pe_glob (v := .ref _) (by rfl) T.xF_NotAWeb.m rfl) (.own _) T.kit_InvalidNumber_NotAWeb) (xa_cons (xe_isX (i := 1) T.xE_InvalidNumber (by rw [← Zx.g2]; exact hz) hf rfl dv.pin (by rfl) T.n_isinstance rfl (by first | exact Or.inl rfl | exact Or.inr (Or.inl rfl) | exact Or.inr (Or.inr rfl)) (pe_glob (v := .ref _) (by rfl) T.xF_InvalidNumber.m rfl) (.own _) T.kit_InvalidNumber_InvalidNumber) (xa_cons (xe_isX (i := 1) T.xE_InvalidNumber (by rw [← Zx.g2]; exact hz) hf rfl dv.pin (by rfl) T.n_isinstance rfl (by first | exact Or.inl rfl | exact Or.inr (Or.inl rfl) | exact Or.inr (Or.inr rfl)) (pe_glob (v := .ref _) (by rfl) T.xF_InvalidLists.m rfl) (.own _) T.kit_InvalidNumber_InvalidLists) xa_nil))))) (xss_cons (xs_set S__law_raised.nd rfl (by first | exact Or.inl rfl | exact Or.inr rfl) (xe_op (o_add hK) (xe_var 2) (xe_lst (xa_cons (xe_isX (i := 1) T.xE_InvalidNumber (by rw [← Zx.g2]; exact hz) hf rfl dv.pin (by rfl) T.n_isinstance rfl (by first | exact Or.inl rfl | exact Or.inr (Or.inl rfl) | exact Or.inr (Or.inr rfl)) (pe_glob (v := .ref _) (by rfl) T.xF_InvalidSketch.m rfl) (.own _) T.kit_InvalidNumber_InvalidSketch) xa_nil)))) (xss_cons (xs_if (xt_w (xw_or (xt_cmp (o_ne hK hr.u64) (xe_count hK hr.u65 (xe_var 2) (xa_cons xe_bl xa_nil)) xe_int) (xw_or1 (xt_not (xt_val (xe_isX (i := 1) T.xE_InvalidNumber (by rw [← Zx.g2]; exact hz) hf rfl dv.pin (by rfl) T.n_isinstance rfl (by first | exact Or.inl rfl | exact Or.inr (Or.inl rfl) | exact Or.inr (Or.inr rfl)) (pe_bltn (v := .ty "ValueError") (by rfl) T.n_ValueError bt_ValueError rfl) (.ty _) T.kitv_InvalidNumber)))))) (xss_one (xs_ret (xe_lst (xa_cons xe_str xa_nil)))) xss_nil) (xss_one (xs_ret (xe_lst (xa_cons (xe_ix (o_ix hK hr.u1) (xe_lst (xa_cons xe_str (xa_cons xe_str (xa_cons xe_str (xa_cons xe_str xa_nil))))) (xe_index hK hr.u65 (xe_var 2) (xa_cons xe_bl xa_nil))) (xa_cons (xe_ite (xt_w (xw_or (xt_val (xe_ix (o_ix hK hr.u1) (xe_var 2) xe_int)) (xw_or1 (xt_val (xe_ix (o_ix hK hr.u1) (xe_var 2) xe_int))))) xe_nev (xe_givX (k := 2) (i := 1) T.xA_InvalidNumber T.xF_InvalidNumber.no (by rw [← Zx.g2]; exact hz) hf rfl dv (fun dd c e1 e2 => by subst e1 e2; show some (dd, G.exf 2, c) = _; rw [Zx.f2]) rfl (by first | exact Or.inl rfl | exact Or.inr (Or.inl rfl) | exact Or.inr (Or.inr rfl)))) xa_nil))))))))
  | 3, _ => exact (xss_cons (xs_set S__law_raised.nd rfl (by first | exact Or.inl rfl | exact Or.inr rfl) (xe_lst (xa_cons (xe_isX (i := 1) T.xE_InvalidSketch (by rw [← Zx.g3]; exact hz) hf rfl dv.pin (by rfl) T.n_isinstance rfl (by first | exact Or.inl rfl | exact Or.inr (Or.inl rfl) | exact Or.inr (Or.inr rfl)) (pe_glob (v := .ref _) (by rfl) T.xF_NotAWeb.m rfl) (.own _) T.kit_InvalidSketch_NotAWeb) (xa_cons (xe_isX (i := 1) T.xE_InvalidSketch (by rw [← Zx.g3]; exact hz) hf rfl dv.pin (by rfl) T.n_isinstance rfl (by first | exact Or.inl rfl | exact Or.inr (Or.inl rfl) | exact Or.inr (Or.inr rfl)) (pe_glob (v := .ref _) (by rfl) T.xF_InvalidNumber.m rfl) (.own _) T.kit_InvalidSketch_InvalidNumber) (xa_cons (xe_isX (i := 1) T.xE_InvalidSketch (by rw [← Zx.g3]; exact hz) hf rfl dv.pin (by rfl) T.n_isinstance rfl (by first | exact Or.inl rfl | exact Or.inr (Or.inl rfl) | exact Or.inr (Or.inr rfl)) (pe_glob (v := .ref _) (by rfl) T.xF_InvalidLists.m rfl) (.own _) T.kit_InvalidSketch_InvalidLists) xa_nil))))) (xss_cons (xs_set S__law_raised.nd rfl (by first | exact Or.inl rfl | exact Or.inr rfl) (xe_op (o_add hK) (xe_var 2) (xe_lst (xa_cons (xe_isX (i := 1) T.xE_InvalidSketch (by rw [← Zx.g3]; exact hz) hf rfl dv.pin (by rfl) T.n_isinstance rfl (by first | exact Or.inl rfl | exact Or.inr (Or.inl rfl) | exact Or.inr (Or.inr rfl)) (pe_glob (v := .ref _) (by rfl) T.xF_InvalidSketch.m rfl) (.own _) T.kit_InvalidSketch_InvalidSketch) xa_nil)))) (xss_cons (xs_if (xt_w (xw_or (xt_cmp (o_ne hK hr.u64) (xe_count hK hr.u65 (xe_var 2) (xa_cons xe_bl xa_nil)) xe_int) (xw_or1 (xt_not (xt_val (xe_isX (i := 1) T.xE_InvalidSketch (by rw [← Zx.g3]; exact hz) hf rfl dv.pin (by rfl) T.n_isinstance rfl (by first | exact Or.inl rfl | exact Or.inr (Or.inl rfl) | exact Or.inr (Or.inr rfl)) (pe_bltn (v := .ty "ValueError") (by rfl) T.n_ValueError bt_ValueError rfl) (.ty _) T.kitv_InvalidSketch)))))) (xss_one (xs_ret (xe_lst (xa_cons xe_str xa_nil)))) xss_nil) (xss_one (xs_ret (xe_lst (xa_cons (xe_ix (o_ix hK hr.u1) (xe_lst (xa_cons xe_str (xa_cons xe_str (xa_cons xe_str (xa_cons xe_str xa_nil))))) (xe_index hK hr.u65 (xe_var 2) (xa_cons xe_bl xa_nil))) (xa_cons (xe_ite (xt_w (xw_or (xt_val (xe_ix (o_ix hK hr.u1) (xe_var 2) xe_int)) (xw_or1 (xt_val (xe_ix (o_ix hK hr.u1) (xe_var 2) xe_int))))) (xe_givX (k := 3) (i := 1) T.xA_InvalidSketch T.xF_InvalidSketch.no (by rw [← Zx.g3]; exact hz) hf rfl dv (fun dd c e1 e2 => by subst e1 e2; show some (dd, G.exf 3, c) = _; rw [Zx.f3]) rfl (by first | exact Or.inl rfl | exact Or.inr (Or.inl rfl) | exact Or.inr (Or.inr rfl))) xe_nev) xa_nil))))))))
theorem holder__law_raised {X : Cx} {G : Gb} {k : Nat} (T : Tx X.K X.mg) (hK : X.K = G.K) (Zx : Gx T G) : HolderX X G k "act" ["act", "e", "sorts"] "_law_raised" s__law_raised T._law_raised.f h__law_raised :=
  fun cdv s H f cs ps φ gd hr hcall => have hK : X.K = (G.wc f cs ps).K := hK; have Zx : Gx T (G.wc f cs ps) := Zx.to rfl rfl; (xss_one (xs_try rfl rfl S__law_raised.nd rfl rfl rfl ⟨by rfl, by decide, .inl T.m_Hue⟩
    (fun k hk => match k, hk with | 0, _ => by rw [Zx.g0]; exact T.xH_InvalidLists | 1, _ => by rw [Zx.g1]; exact T.xH_NotAWeb | 2, _ => by rw [Zx.g2]; exact T.xH_InvalidNumber | 3, _ => by rw [Zx.g3]; exact T.xH_InvalidSketch)
    (fun pn xe E le => (xss_cons (xs_drop (hcall pn xe E _ _ le)) (xss_one (xs_ret (xe_lst (xa_cons xe_str xa_nil))))))
    (fun k v a oe d pn hk => holder_su__law_raised T (G.wc f cs ps) hK Zx hr k v a oe d pn hk)))
end
section
variable {P : Program} {W : World} {K : PySem.W.Frag} {mg : Str → Option Value} {base : Heap} {G : Gb}
theorem S_with_hue : FnScope ["colouring", "place", "hue"] ["colouring", "place", "hue"] (defScope s_with_hue) := ⟨rfl, rfl, rfl, by decide +kernel, rfl, by decide +kernel, by decide +kernel⟩
def c_with_hue : CS := (sRet (cTup (cStar (cSl (cVar 0) oNo (oYes (cVar 1))) (cCons (cVar 2) (cStar (cSl (cVar 0) (oYes (c2 fAdd (cVar 1) (cK (.int 1)))) oNo) cNil)))))
def F_with_hue : Fn := cFun 3 3 c_with_hue
theorem ok_with_hue (T : Tx K mg) (Z : Gz K mg G memoK tsW T.fi) (Zx : Gx T G) : FnG P W K mg base (L2.CX P W) 1 T.with_hue.f T.with_hue.fd ["colouring", "place", "hue"] (spF G 3 F_with_hue) :=
  fn_runX T.with_hue.F S_with_hue rfl rfl fun cdv A outer s H E hcd gd hr le => (xss_one (xs_ret (xe_tup (xa_star Z.eK (xe_slice Z.eK (xe_var 0) xo_no (xo_yes (xe_var 1))) (xa_cons (xe_var 2) (xa_star Z.eK (xe_slice Z.eK (xe_var 0) (xo_yes (xe_op (o_add Z.eK) (xe_var 1) xe_int)) xo_no) xa_nil))))))
end
section
variable {P : Program} {W : World} {K : PySem.W.Frag} {mg : Str → Option Value} {base : Heap} {G : Gb}
theorem S_come_by : FnScope ["fitting", "lists", "first", "known", "front", "told", "colouring", "here", "place", "some", "later", "hue"] ["fitting", "lists", "first"] (defScope s_come_by) := ⟨rfl, rfl, rfl, by decide +kernel, rfl, by decide +kernel, by decide +kernel⟩
def c_come_by : CS := (sSeq (sPar 3 4 (cCons (cDict1 (cVar 2) (cK (.bl true))) (cCons (cNew (cCons (cVar 2) cNil)) cNil))) (sSeq (sAsg (cDcT [6] (iSeq (cVar 0)) (tgName 6) tYesC (cVar 6) (cK (.bl true))) (tgName 5)) (sSeq (sWhile 100000 (tVal (c2 fNe (cVar 4) (cLst cNil))) (sSeq (sAsg (cLM mPop (cVar 4) cNil) (tgName 7)) (sFor (iEnum (cCons (cVar 1) cNil)) (tgTup 2 (tgsCons (tgName 8) (tgsCons (tgName 9) tgsNil))) (sFor (iSeq (cComp [11] (iSeq (cVar 9)) (tgName 11) tYesC (cF (cCall 3 (pureF F_with_hue)) (cCons (cVar 7) (cCons (cVar 8) (cCons (cVar 11) cNil)))))) (tgName 10) (sIf (tAndC (tVal (c2 (fInT false) (cVar 10) (cVar 5))) (tVal (c2 (fInT true) (cVar 10) (cVar 3)))) (sSeq (sAsg (cK (.bl true)) (tgSubT (cVar 3) (cVar 10))) (sDrop (cLM mAppend (cVar 4) (cCons (cVar 10) cNil)))) sNil))))) (sRet (cF fLenT (cCons (cVar 3) cNil))))))
def F_come_by : Fn := cFun 3 12 c_come_by
theorem ok_come_by (T : Tx K mg) (Z : Gz K mg G memoK tsW T.fi) (Zx : Gx T G) : FnG P W K mg base (L2.CX P W) 2 T.come_by.f T.come_by.fd ["fitting", "lists", "first"] (spF G 3 F_come_by) :=
  fn_runX T.come_by.F S_come_by rfl rfl fun cdv A outer s H E hcd gd hr le => (xss_cons (xs_par rfl S_come_by.nd rfl rfl (by decide) rfl rfl (xa_cons (xe_dict1 hr.u0 (xe_var 2) xe_bl) (xa_cons (xe_new (xa_cons (xe_var 2) xa_nil)) xa_nil)) rfl) (xss_cons (by first | exact xs_setDcT (own := [("colouring", 6)]) rfl hr.u1 S_come_by.nd rfl rfl rfl (xi_seq Z.eK (xe_var 0)) (blkOk_by (N := ["fitting", "lists", "first", "known", "front", "told", "colouring", "here", "place", "some", "later", "hue"]) (sc := defScope s_come_by) (by decide +kernel)) (fun _ _ _ _ _ => (xgw_name S_come_by.nd rfl (by first | exact Or.inl rfl | exact Or.inr rfl) (by decide))) (fun _ _ _ _ _ => xts_nil) (fun _ _ _ _ _ => (xe_var 6)) (fun _ _ _ _ _ => xe_bl) | exact xs_set S_come_by.nd rfl (by first | exact Or.inl rfl | exact Or.inr rfl) (xe_dcT (own := [("colouring", 6)]) rfl hr.u1 S_come_by.nd (xi_seq Z.eK (xe_var 0)) (blkOk_by (N := ["fitting", "lists", "first", "known", "front", "told", "colouring", "here", "place", "some", "later", "hue"]) (sc := defScope s_come_by) (by decide +kernel)) (fun _ _ _ _ _ => (xgw_name S_come_by.nd rfl (by first | exact Or.inl rfl | exact Or.inr rfl) (by decide))) (fun _ _ _ _ _ => xts_nil) (fun _ _ _ _ _ => (xe_var 6)) (fun _ _ _ _ _ => xe_bl))) (xss_cons (xs_while PassesOwn.leaving (xt_cmp (o_ne Z.eK hr.u64) (xe_var 4) (xe_lst xa_nil)) (xss_cons (xs_set S_come_by.nd rfl (by first | exact Or.inl rfl | exact Or.inr rfl) (xe_pop (xe_var 4))) (xss_one (xs_for PassesOwn.leaving rfl (xi_enum Z.eK (by rfl) T.n_enumerate (xa_cons (xe_var 1) xa_nil)) (xg_tup Z.eK rfl (xgs_cons (xg_name S_come_by.nd rfl (by first | exact Or.inl rfl | exact Or.inr rfl)) (xgs_cons (xg_name S_come_by.nd rfl (by first | exact Or.inl rfl | exact Or.inr rfl)) xgs_nil))) (xss_one (xs_for PassesOwn.leaving rfl (xi_seq Z.eK (xe_comp (own := [("hue", 11)]) rfl S_come_by.nd (xi_seq Z.eK (xe_var 9)) (blkOk_by (N := ["fitting", "lists", "first", "known", "front", "told", "colouring", "here", "place", "some", "later", "hue"]) (sc := defScope s_come_by) (by decide +kernel)) (fun _ _ _ _ _ => (xgw_name S_come_by.nd rfl (by first | exact Or.inl rfl | exact Or.inr rfl) (by decide))) (fun _ _ _ _ _ => xts_nil) (fun _ _ _ _ _ => (xe_ownX T.with_hue (ok_with_hue T Z Zx) gd (hr.mono (by decide)) (by first | exact le | exact True.intro) rd_pure (xa_cons (xe_var 7) (xa_cons (xe_var 8) (xa_cons (xe_var 11) xa_nil))))))) (xg_name S_come_by.nd rfl (by first | exact Or.inl rfl | exact Or.inr rfl)) (xss_one (xs_if (xt_w (xw_and (xt_cmp (o_inT Z.eK hr.u65) (xe_var 10) (xe_var 5)) (xw_and1 (xt_cmp (o_notInT Z.eK hr.u65) (xe_var 10) (xe_var 3))))) (xss_cons (xs_asg xe_bl (xg_subT hr.u1 (xe_var 3) (xe_var 10))) (xss_one (xs_drop (xe_append (xe_var 4) (xa_cons (xe_var 10) xa_nil))))) xss_nil)))))))) (xss_one (xs_ret (xe_B (b_lenT Z.eK) (by rfl) T.n_len bt_len (xa_cons (xe_var 3) xa_nil)))))))
end
section
variable {P : Program} {W : World} {K : PySem.W.Frag} {mg : Str → Option Value} {base : Heap} {G : Gb}
theorem S_are_tied : FnScope ["web", "one", "other"] ["web", "one", "other"] (defScope s_are_tied) := ⟨rfl, rfl, rfl, by decide +kernel, rfl, by decide +kernel, by decide +kernel⟩
def c_are_tied : CS := (sRet (c2 fIn (cTup (cCons (cF fMin2 (cCons (cVar 1) (cCons (cVar 2) cNil))) (cCons (cF fMax2 (cCons (cVar 1) (cCons (cVar 2) cNil))) cNil))) (c1 fTies (cVar 0))))
def F_are_tied : Fn := cFun 3 3 c_are_tied
theorem ok_are_tied (T : Tx K mg) (Z : Gz K mg G memoK tsW T.fi) (Zx : Gx T G) : FnG P W K mg base (L2.CX P W) 1 T.are_tied.f T.are_tied.fd ["web", "one", "other"] (spF G 3 F_are_tied) :=
  fn_runX T.are_tied.F S_are_tied rfl rfl fun cdv A outer s H E hcd gd hr le => (xss_one (xs_ret (xe_cmp (o_in Z.eK hr.u65) (xe_tup (xa_cons (xe_B (b_min2 rfl) (by rfl) T.n_min bt_min (xa_cons (xe_var 1) (xa_cons (xe_var 2) xa_nil))) (xa_cons (xe_B (b_max2 rfl) (by rfl) T.n_max bt_max (xa_cons (xe_var 1) (xa_cons (xe_var 2) xa_nil))) xa_nil))) (xe_ties Z.W (xe_var 0)))))
end
section
variable {P : Program} {W : World} {K : PySem.W.Frag} {mg : Str → Option Value} {base : Heap} {G : Gb}
theorem S_places_of : FnScope ["web", "place"] ["web"] (defScope s_places_of) := ⟨rfl, rfl, rfl, by decide +kernel, rfl, by decide +kernel, by decide +kernel⟩
def c_places_of : CS := (sRet (cF fTuple (cCons (cComp [1] (iRng1 (cCons (c1 fPlaces (cVar 0)) cNil)) (tgName 1) tYesC (cVar 1)) cNil)))
def F_places_of : Fn := cFun 1 2 c_places_of
theorem ok_places_of (T : Tx K mg) (Z : Gz K mg G memoK tsW T.fi) (Zx : Gx T G) : FnG P W K mg base (L2.CX P W) 1 T.places_of.f T.places_of.fd ["web"] (spF G 1 F_places_of) :=
  fn_runX T.places_of.F S_places_of rfl rfl fun cdv A outer s H E hcd gd hr le => (xss_one (xs_ret (xe_Ty (b_tuple Z.eK) (by rfl) T.n_tuple bt_tuple (xa_cons (xe_comp (own := [("place", 1)]) rfl S_places_of.nd (xi_range1 (by rfl) T.n_range (xa_cons (xe_places Z.W (xe_var 0)) xa_nil)) (blkOk_by (N := ["web", "place"]) (sc := defScope s_places_of) (by decide +kernel)) (fun _ _ _ _ _ => (xgw_name S_places_of.nd rfl (by first | exact Or.inl rfl | exact Or.inr rfl) (by decide))) (fun _ _ _ _ _ => xts_nil) (fun _ _ _ _ _ => (xe_var 1))) xa_nil))))
end
section
variable {P : Program} {W : World} {K : PySem.W.Frag} {mg : Str → Option Value} {base : Heap} {G : Gb}
theorem S_neighbours_of : FnScope ["web", "place", "other"] ["web", "place"] (defScope s_neighbours_of) := ⟨rfl, rfl, rfl, by decide +kernel, rfl, by decide +kernel, by decide +kernel⟩
def c_neighbours_of : CS := (sRet (cF fTuple (cCons (cComp [2] (iSeq (cF (cCall 1 (pureF F_places_of)) (cCons (cVar 0) cNil))) (tgName 2) (tVal (cF (cCall 3 (pureF F_are_tied)) (cCons (cVar 0) (cCons (cVar 1) (cCons (cVar 2) cNil))))) (cVar 2)) cNil)))
def F_neighbours_of : Fn := cFun 2 3 c_neighbours_of
theorem ok_neighbours_of (T : Tx K mg) (Z : Gz K mg G memoK tsW T.fi) (Zx : Gx T G) : FnG P W K mg base (L2.CX P W) 2 T.neighbours_of.f T.neighbours_of.fd ["web", "place"] (spF G 2 F_neighbours_of) :=
  fn_runX T.neighbours_of.F S_neighbours_of rfl rfl fun cdv A outer s H E hcd gd hr le => (xss_one (xs_ret (xe_Ty (b_tuple Z.eK) (by rfl) T.n_tuple bt_tuple (xa_cons (xe_comp (own := [("other", 2)]) rfl S_neighbours_of.nd (xi_seq Z.eK (xe_ownX T.places_of (ok_places_of T Z Zx) gd (hr.mono (by decide)) (by first | exact le | exact True.intro) rd_pure (xa_cons (xe_var 0) xa_nil))) (blkOk_by (N := ["web", "place", "other"]) (sc := defScope s_neighbours_of) (by decide +kernel)) (fun _ _ _ _ _ => (xgw_name S_neighbours_of.nd rfl (by first | exact Or.inl rfl | exact Or.inr rfl) (by decide))) (fun _ _ _ _ _ => (xts_one (xt_val (xe_ownX T.are_tied (ok_are_tied T Z Zx) gd (hr.mono (by decide)) (by first | exact le | exact True.intro) rd_pure (xa_cons (xe_var 0) (xa_cons (xe_var 1) (xa_cons (xe_var 2) xa_nil))))))) (fun _ _ _ _ _ => (xe_var 2))) xa_nil))))
end
section
variable {P : Program} {W : World} {K : PySem.W.Frag} {mg : Str → Option Value} {base : Heap} {G : Gb}
theorem S_fitting_by : FnScope ["web", "lists", "found", "place", "ahead", "other", "longer", "row", "hue"] ["web", "lists"] (defScope s_fitting_by) := ⟨rfl, rfl, rfl, by decide +kernel, rfl, by decide +kernel, by decide +kernel⟩
def c_fitting_by : CS := (sSeq (sAsg (cLst (cCons (cTup cNil) cNil)) (tgName 2)) (sSeq (sFor (iSeq (cF (cCall 1 (pureF F_places_of)) (cCons (cVar 0) cNil))) (tgName 3) (sSeq (sAsg (cComp [5] (iSeq (cF (cCall 2 (pureF F_neighbours_of)) (cCons (cVar 0) (cCons (cVar 3) cNil)))) (tgName 5) (tVal (c2 fLt (cVar 5) (cVar 3))) (cVar 5)) (tgName 4)) (sSeq (sAsg (cNew cNil) (tgName 6)) (sSeq (sFor (iSeq (cVar 2)) (tgName 7) (sDrop (cLM mExtend (cVar 6) (cCons (cComp [8] (iSeq (c2 fIx (cVar 1) (cVar 3))) (tgName 8) (tVal (c2 fNotIn (cVar 8) (cComp [5] (iSeq (cVar 4)) (tgName 5) tYesC (c2 fIx (cVar 7) (cVar 5))))) (cTup (cStar (cVar 7) (cCons (cVar 8) cNil)))) cNil)))) (sAsg (cVar 6) (tgName 2)))))) (sRet (cVar 2))))
def F_fitting_by : Fn := cFun 2 9 c_fitting_by
theorem ok_fitting_by (T : Tx K mg) (Z : Gz K mg G memoK tsW T.fi) (Zx : Gx T G) : FnG P W K mg base (L2.CX P W) 3 T.fitting_by.f T.fitting_by.fd ["web", "lists"] (spF G 2 F_fitting_by) :=
  fn_runX T.fitting_by.F S_fitting_by rfl rfl fun cdv A outer s H E hcd gd hr le => (xss_cons (xs_set S_fitting_by.nd rfl (by first | exact Or.inl rfl | exact Or.inr rfl) (xe_lst (xa_cons (xe_tup xa_nil) xa_nil))) (xss_cons (xs_for PassesOwn.leaving rfl (xi_seq Z.eK (xe_ownX T.places_of (ok_places_of T Z Zx) gd (hr.mono (by decide)) (by first | exact le | exact True.intro) rd_pure (xa_cons (xe_var 0) xa_nil))) (xg_name S_fitting_by.nd rfl (by first | exact Or.inl rfl | exact Or.inr rfl)) (xss_cons (by first | exact xs_setComp (own := [("other", 5)]) rfl S_fitting_by.nd rfl rfl rfl (xi_seq Z.eK (xe_ownX T.neighbours_of (ok_neighbours_of T Z Zx) gd (hr.mono (by decide)) (by first | exact le | exact True.intro) rd_pure (xa_cons (xe_var 0) (xa_cons (xe_var 3) xa_nil)))) (blkOk_by (N := ["web", "lists", "found", "place", "ahead", "other", "longer", "row", "hue"]) (sc := defScope s_fitting_by) (by decide +kernel)) (fun _ _ _ _ _ => (xgw_name S_fitting_by.nd rfl (by first | exact Or.inl rfl | exact Or.inr rfl) (by decide))) (fun _ _ _ _ _ => (xts_one (xt_cmp (o_lt Z.eK hr.u0) (xe_var 5) (xe_var 3)))) (fun _ _ _ _ _ => (xe_var 5)) | exact xs_set S_fitting_by.nd rfl (by first | exact Or.inl rfl | exact Or.inr rfl) (xe_comp (own := [("other", 5)]) rfl S_fitting_by.nd (xi_seq Z.eK (xe_ownX T.neighbours_of (ok_neighbours_of T Z Zx) gd (hr.mono (by decide)) (by first | exact le | exact True.intro) rd_pure (xa_cons (xe_var 0) (xa_cons (xe_var 3) xa_nil)))) (blkOk_by (N := ["web", "lists", "found", "place", "ahead", "other", "longer", "row", "hue"]) (sc := defScope s_fitting_by) (by decide +kernel)) (fun _ _ _ _ _ => (xgw_name S_fitting_by.nd rfl (by first | exact Or.inl rfl | exact Or.inr rfl) (by decide))) (fun _ _ _ _ _ => (xts_one (xt_cmp (o_lt Z.eK hr.u0) (xe_var 5) (xe_var 3)))) (fun _ _ _ _ _ => (xe_var 5)))) (xss_cons (xs_set S_fitting_by.nd rfl (by first | exact Or.inl rfl | exact Or.inr rfl) (xe_new xa_nil)) (xss_cons (xs_for PassesOwn.leaving rfl (xi_seq Z.eK (xe_var 2)) (xg_name S_fitting_by.nd rfl (by first | exact Or.inl rfl | exact Or.inr rfl)) (xss_one (xs_drop (xe_extend (xe_var 6) (xa_cons (xe_comp (own := [("hue", 8)]) rfl S_fitting_by.nd (xi_seq Z.eK (xe_ix (o_ix Z.eK hr.u1) (xe_var 1) (xe_var 3))) (blkOk_by (N := ["web", "lists", "found", "place", "ahead", "other", "longer", "row", "hue"]) (sc := defScope s_fitting_by) (by decide +kernel)) (fun _ _ _ _ _ => (xgw_name S_fitting_by.nd rfl (by first | exact Or.inl rfl | exact Or.inr rfl) (by decide))) (fun _ _ _ _ _ => (xts_one (xt_cmp (o_notIn Z.eK hr.u65) (xe_var 8) (xe_comp (own := [("other", 5)]) rfl S_fitting_by.nd (xi_seq Z.eK (xe_var 4)) (blkOk_by (N := ["web", "lists", "found", "place", "ahead", "other", "longer", "row", "hue"]) (by first | rfl | kernel_rfl)) (fun _ _ _ _ _ => (xgw_name S_fitting_by.nd rfl (by first | exact Or.inl rfl | exact Or.inr rfl) (by decide))) (fun _ _ _ _ _ => xts_nil) (fun _ _ _ _ _ => (xe_ix (o_ix Z.eK hr.u1) (xe_var 7) (xe_var 5))))))) (fun _ _ _ _ _ => (xe_tup (xa_star Z.eK (xe_var 7) (xa_cons (xe_var 8) xa_nil))))) xa_nil))))) (xss_one (xs_set S_fitting_by.nd rfl (by first | exact Or.inl rfl | exact Or.inr rfl) (xe_var 6))))))) (xss_one (xs_ret (xe_var 2)))))
end
section
variable {P : Program} {W : World} {K : PySem.W.Frag} {mg : Str → Option Value} {base : Heap} {G : Gb}
theorem S_are_joined_by : FnScope ["web", "lists", "fitting"] ["web", "lists"] (defScope s_are_joined_by) := ⟨rfl, rfl, rfl, by decide +kernel, rfl, by decide +kernel, by decide +kernel⟩
def c_are_joined_by : CS := (sSeq (sAsg (cF (cCall 2 (pureF F_fitting_by)) (cCons (cVar 0) (cCons (cVar 1) cNil))) (tgName 2)) (sRet (cOrV (c2 fEq (cVar 2) (cLst cNil)) (c2 fEq (cF (cCall 3 (pureF F_come_by)) (cCons (cVar 2) (cCons (cVar 1) (cCons (c2 fIx (cVar 2) (cK (.int 0))) cNil)))) (cF fLen (cCons (cVar 2) cNil))))))
def F_are_joined_by : Fn := cFun 2 3 c_are_joined_by
theorem ok_are_joined_by (T : Tx K mg) (Z : Gz K mg G memoK tsW T.fi) (Zx : Gx T G) : FnG P W K mg base (L2.CX P W) 4 T.are_joined_by.f T.are_joined_by.fd ["web", "lists"] (spF G 2 F_are_joined_by) :=
  fn_runX T.are_joined_by.F S_are_joined_by rfl rfl fun cdv A outer s H E hcd gd hr le => (xss_cons (xs_set S_are_joined_by.nd rfl (by first | exact Or.inl rfl | exact Or.inr rfl) (xe_ownX T.fitting_by (ok_fitting_by T Z Zx) gd (hr.mono (by decide)) (by first | exact le | exact True.intro) rd_pure (xa_cons (xe_var 0) (xa_cons (xe_var 1) xa_nil)))) (xss_one (xs_ret (xe_or (xe_cmp (o_eq Z.eK hr.u64) (xe_var 2) (xe_lst xa_nil)) (xe_and1 (xe_cmp (o_eq Z.eK hr.u64) (xe_ownX T.come_by (ok_come_by T Z Zx) gd (hr.mono (by decide)) (by first | exact le | exact True.intro) rd_pure (xa_cons (xe_var 2) (xa_cons (xe_var 1) (xa_cons (xe_ix (o_ix Z.eK hr.u1) (xe_var 2) xe_int) xa_nil)))) (xe_B (b_len Z.eK) (by rfl) T.n_len bt_len (xa_cons (xe_var 2) xa_nil))))))))
end
section
variable {P : Program} {W : World} {K : PySem.W.Frag} {mg : Str → Option Value} {base : Heap} {G : Gb}
theorem S_is_list : FnScope ["value", "own", "at"] ["value"] (defScope s_is_list) := ⟨rfl, rfl, rfl, by decide +kernel, rfl, by decide +kernel, by decide +kernel⟩
def c_is_list : CS := (sSeq (sIf (tOrC (tNotC (tVal (c1 (isiB .tup) (cVar 0)))) (tOrC (tVal (c2 fEq (cVar 0) (cTup cNil))) (tNotC (tVal (cF fAll (cCons (cComp [1] (iSeq (cVar 0)) (tgName 1) tYesC (cF (cCall 3 (pureF F_is_between)) (cCons (cVar 1) (cCons (cK (.int 0)) (cCons (cK (.int 3)) cNil))))) cNil)))))) (sRet (cK (.bl false))) sNil) (sRet (cF fAll (cCons (cComp [2] (iRng1 (cCons (c2 fSub (cF fLen (cCons (cVar 0) cNil)) (cK (.int 1))) cNil)) (tgName 2) tYesC (c2 fLt (c2 fIx (cVar 0) (cVar 2)) (c2 fIx (cVar 0) (c2 fAdd (cVar 2) (cK (.int 1)))))) cNil))))
def F_is_list : Fn := cFun 1 3 c_is_list
theorem ok_is_list (T : Tx K mg) (Z : Gz K mg G memoK tsW T.fi) (Zx : Gx T G) : FnG P W K mg base (L2.CX P W) 3 T.is_list.f T.is_list.fd ["value"] (spF G 1 F_is_list) :=
  fn_runX T.is_list.F S_is_list rfl rfl fun cdv A outer s H E hcd gd hr le => (xss_cons (xs_if (xt_w (xw_or (xt_not (xt_val (xe_isi (by rfl) T.n_isinstance (xe_var 0) (pe_bltn (v := .ty "tuple") (by rfl) T.n_tuple bt_tuple rfl) (.ty _) (isiB_ok Z.eK .tup) bt_isinstance))) (xw_or (xt_cmp (o_eq Z.eK hr.u64) (xe_var 0) (xe_tup xa_nil)) (xw_or1 (xt_not (xt_val (xe_B (b_all rfl) (by rfl) T.n_all bt_all (xa_cons (xe_comp (own := [("own", 1)]) rfl S_is_list.nd (xi_seq Z.eK (xe_var 0)) (blkOk_by (N := ["value", "own", "at"]) (sc := defScope s_is_list) (by decide +kernel)) (fun _ _ _ _ _ => (xgw_name S_is_list.nd rfl (by first | exact Or.inl rfl | exact Or.inr rfl) (by decide))) (fun _ _ _ _ _ => xts_nil) (fun _ _ _ _ _ => (xe_ownX T.is_between (ok_is_between T Z Zx) gd (hr.mono (by decide)) (by first | exact le | exact True.intro) rd_pure (xa_cons (xe_var 1) (xa_cons xe_int (xa_cons (xe_glob (c := .int 3) (v := .int 3) (by rfl) T.g_MOST_HUE ⟨_, rfl⟩ (fun _ _ _ => cr_int _)) xa_nil)))))) xa_nil)))))))) (xss_one (xs_ret xe_bl)) xss_nil) (xss_one (xs_ret (xe_B (b_all rfl) (by rfl) T.n_all bt_all (xa_cons (xe_comp (own := [("at", 2)]) rfl S_is_list.nd (xi_range1 (by rfl) T.n_range (xa_cons (xe_op (o_sub) (xe_B (b_len Z.eK) (by rfl) T.n_len bt_len (xa_cons (xe_var 0) xa_nil)) xe_int) xa_nil)) (blkOk_by (N := ["value", "own", "at"]) (sc := defScope s_is_list) (by decide +kernel)) (fun _ _ _ _ _ => (xgw_name S_is_list.nd rfl (by first | exact Or.inl rfl | exact Or.inr rfl) (by decide))) (fun _ _ _ _ _ => xts_nil) (fun _ _ _ _ _ => (xe_cmp (o_lt Z.eK hr.u0) (xe_ix (o_ix Z.eK hr.u1) (xe_var 0) (xe_var 2)) (xe_ix (o_ix Z.eK hr.u1) (xe_var 0) (xe_op (o_add Z.eK) (xe_var 2) xe_int))))) xa_nil)))))
end
section
variable {P : Program} {W : World} {K : PySem.W.Frag} {mg : Str → Option Value} {base : Heap} {G : Gb}
theorem S_wrong_list : FnScope ["value"] ["value"] (defScope s_wrong_list) := ⟨rfl, rfl, rfl, by decide +kernel, rfl, by decide +kernel, by decide +kernel⟩
def c_wrong_list : CS := (sRet (cLamX 4 2 2 [] (cF (cCall 1 (pureF F_is_list)) (cCons (cVar 0) cNil)) h_first_wrong (cVar 0)))
def F_wrong_list : Fn := cFun 1 1 c_wrong_list
theorem ok_wrong_list (T : Tx K mg) (Z : Gz K mg G memoK tsW T.fi) (Zx : Gx T G) (Lz : Lzz T base G) : FnG P W K mg base (L2.CX P W) 6 T.wrong_list.f T.wrong_list.fd ["value"] (spF G 1 F_wrong_list) :=
  fn_runX T.wrong_list.F S_wrong_list rfl rfl fun cdv A outer s H E hcd gd hr le => (xss_one (xs_ret (xe_lamcallX (k := 3) (ps := ["each", "ahead"]) (fr := []) (Nl := ["each", "ahead"]) gd (hr.mono (by decide)) (by rfl) T.first_wrong.m T.first_wrong.F T.first_wrong.b S_first_wrong rfl rfl (by first | exact Or.inl rfl | exact Or.inr (Or.inl rfl))
      (nscope_by (by decide +kernel)) rfl rfl (ndef_free (sc := defScope s_wrong_list) (fr := []) (by decide +kernel)) (ndef_fr (sc := defScope s_wrong_list) (by decide +kernel)) rfl Lz.l_wrong_list.tb (hcd.symm.trans Lz.l_wrong_list.code) Lz.l_wrong_list.mem Lz.l_wrong_list.un rfl
      (fun _ _ _ _ _ us hl => match us, hl with | [_, _], _ => rfl) (by refine holder_first_wrong _ ?_; exact Z.eK) (fun A outer s H f c' cp gd hr => have Z := Z.wc f [(c', _)] cp; have Zx : Gx T (G.wc f [(c', _)] cp) := Zx.to rfl rfl; (xe_ownX T.is_list (ok_is_list T Z Zx) gd (hr.mono (by decide)) (by first | exact le | exact True.intro) rd_pure (xa_cons (xe_var 0) xa_nil))) (xe_var 0))))
end
section
variable {P : Program} {W : World} {K : PySem.W.Frag} {mg : Str → Option Value} {base : Heap} {G : Gb}
theorem S_check_lists : FnScope ["web", "value", "wrong"] ["web", "value"] (defScope s_check_lists) := ⟨rfl, rfl, rfl, by decide +kernel, rfl, by decide +kernel, by decide +kernel⟩
def c_check_lists : CS := (sSeq (sIf (tNotC (tVal (cF (cCall 2 (pureF F_is_tuple_of)) (cCons (cVar 1) (cCons (c1 fPlaces (cVar 0)) cNil))))) (sRaise 0 (cK .non)) sNil) (sSeq (sAsg (cF (cCall 1 (pureF F_wrong_list)) (cCons (cVar 1) cNil)) (tgName 2)) (sIf (tVal (c2 fNotN (cVar 2) (cK .non))) (sRaise 0 (cVar 2)) sNil)))
def F_check_lists : Fn := cFun 2 3 c_check_lists
theorem ok_check_lists (T : Tx K mg) (Z : Gz K mg G memoK tsW T.fi) (Zx : Gx T G) (Lz : Lzz T base G) : FnG P W K mg base (L2.CX P W) 7 T.check_lists.f T.check_lists.fd ["web", "value"] (spF G 2 F_check_lists) :=
  fn_runX T.check_lists.F S_check_lists rfl rfl fun cdv A outer s H E hcd gd hr le => (xss_cons (xs_if (xt_not (xt_val (xe_ownX T.is_tuple_of (ok_is_tuple_of T Z Zx) gd (hr.mono (by decide)) (by first | exact le | exact True.intro) rd_pure (xa_cons (xe_var 1) (xa_cons (xe_places Z.W (xe_var 0)) xa_nil))))) (xss_one (xs_raise (k := 0) (j := 1) rfl le T.xF_InvalidLists (T.xO_InvalidLists P W base) (hr.mono (by decide)) Zx.g0 Zx.f0 (by rfl) xe_non)) xss_nil) (xss_cons (xs_set S_check_lists.nd rfl (by first | exact Or.inl rfl | exact Or.inr rfl) (xe_ownX T.wrong_list (ok_wrong_list T Z Zx Lz) gd (hr.mono (by decide)) (by first | exact le | exact True.intro) rd_pure (xa_cons (xe_var 1) xa_nil))) (xss_one (xs_if (xt_cmp (o_notN) (xe_var 2) xe_non) (xss_one (xs_raise (k := 0) (j := 1) rfl le T.xF_InvalidLists (T.xO_InvalidLists P W base) (hr.mono (by decide)) Zx.g0 Zx.f0 (by rfl) (xe_var 2))) xss_nil))))
end
section
variable {P : Program} {W : World} {K : PySem.W.Frag} {mg : Str → Option Value} {base : Heap} {G : Gb}
theorem S_check_web : FnScope ["value"] ["value"] (defScope s_check_web) := ⟨rfl, rfl, rfl, by decide +kernel, rfl, by decide +kernel, by decide +kernel⟩
def c_check_web : CS := (sIf (tNotC (tVal (c1 (isiW tsW) (cVar 0)))) (sRaise 1 (cVar 0)) sNil)
def F_check_web : Fn := cFun 1 1 c_check_web
theorem ok_check_web (T : Tx K mg) (Z : Gz K mg G memoK tsW T.fi) (Zx : Gx T G) : FnG P W K mg base (L2.CX P W) 3 T.check_web.f T.check_web.fd ["value"] (spF G 1 F_check_web) :=
  fn_runX T.check_web.F S_check_web rfl rfl fun cdv A outer s H E hcd gd hr le => (xss_one (xs_if (xt_not (xt_val (xe_isi (by rfl) T.n_isinstance (xe_var 0) (pe_glob (v := .ref _) (by rfl) Z.m rfl) (.own _) (isiW_ok Z.eK Z.W) bt_isinstance))) (xss_one (xs_raise (k := 1) (j := 1) rfl le T.xF_NotAWeb (T.xO_NotAWeb P W base) (hr.mono (by decide)) Zx.g1 Zx.f1 (by rfl) (xe_var 0))) xss_nil))
end
section
variable {P : Program} {W : World} {K : PySem.W.Frag} {mg : Str → Option Value} {base : Heap} {G : Gb}
theorem S_check_listed : FnScope ["web", "lists"] ["web", "lists"] (defScope s_check_listed) := ⟨rfl, rfl, rfl, by decide +kernel, rfl, by decide +kernel, by decide +kernel⟩
def c_check_listed : CS := (sSeq (sDrop (cF (cCall 1 (pureF F_check_web)) (cCons (cVar 0) cNil))) (sDrop (cF (cCall 2 (pureF F_check_lists)) (cCons (cVar 0) (cCons (cVar 1) cNil)))))
def F_check_listed : Fn := cFun 2 2 c_check_listed
theorem ok_check_listed (T : Tx K mg) (Z : Gz K mg G memoK tsW T.fi) (Zx : Gx T G) (Lz : Lzz T base G) : FnG P W K mg base (L2.CX P W) 8 T.check_listed.f T.check_listed.fd ["web", "lists"] (spF G 2 F_check_listed) :=
  fn_runX T.check_listed.F S_check_listed rfl rfl fun cdv A outer s H E hcd gd hr le => (xss_cons (xs_drop (xe_ownX T.check_web (ok_check_web T Z Zx) gd (hr.mono (by decide)) (by first | exact le | exact True.intro) rd_pure (xa_cons (xe_var 0) xa_nil))) (xss_one (xs_drop (xe_ownX T.check_lists (ok_check_lists T Z Zx Lz) gd (hr.mono (by decide)) (by first | exact le | exact True.intro) rd_pure (xa_cons (xe_var 0) (xa_cons (xe_var 1) xa_nil))))))
end
section
variable {P : Program} {W : World} {K : PySem.W.Frag} {mg : Str → Option Value} {base : Heap} {G : Gb}
theorem S_are_lists_joined : FnScope ["web", "lists"] ["web", "lists"] (defScope s_are_lists_joined) := ⟨rfl, rfl, rfl, by decide +kernel, rfl, by decide +kernel, by decide +kernel⟩
def c_are_lists_joined : CS := (sSeq (sDrop (cF (cCall 2 (pureF F_check_listed)) (cCons (cVar 0) (cCons (cVar 1) cNil)))) (sRet (cF (cCall 2 (pureF F_are_joined_by)) (cCons (cVar 0) (cCons (cVar 1) cNil)))))
def F_are_lists_joined : Fn := cFun 2 2 c_are_lists_joined
theorem ok_are_lists_joined (T : Tx K mg) (Z : Gz K mg G memoK tsW T.fi) (Zx : Gx T G) (Lz : Lzz T base G) : FnG P W K mg base (L2.CX P W) 9 T.are_lists_joined.f T.are_lists_joined.fd ["web", "lists"] (spF G 2 F_are_lists_joined) :=
  fn_runX T.are_lists_joined.F S_are_lists_joined rfl rfl fun cdv A outer s H E hcd gd hr le => (xss_cons (xs_drop (xe_ownX T.check_listed (ok_check_listed T Z Zx Lz) gd (hr.mono (by decide)) (by first | exact le | exact True.intro) rd_pure (xa_cons (xe_var 0) (xa_cons (xe_var 1) xa_nil)))) (xss_one (xs_ret (xe_ownX T.are_joined_by (ok_are_joined_by T Z Zx) gd (hr.mono (by decide)) (by first | exact le | exact True.intro) rd_pure (xa_cons (xe_var 0) (xa_cons (xe_var 1) xa_nil))))))
end
section
variable {P : Program} {W : World} {K : PySem.W.Frag} {mg : Str → Option Value} {base : Heap} {G : Gb}
theorem S_may_follow : FnScope ["web", "row", "hue", "other"] ["web", "row", "hue"] (defScope s_may_follow) := ⟨rfl, rfl, rfl, by decide +kernel, rfl, by decide +kernel, by decide +kernel⟩
def c_may_follow : CS := (sRet (cNotV (cF fAny (cCons (cComp [3] (iSeq (cF (cCall 2 (pureF F_neighbours_of)) (cCons (cVar 0) (cCons (cF fLen (cCons (cVar 1) cNil)) cNil)))) (tgName 3) (tVal (c2 fLt (cVar 3) (cF fLen (cCons (cVar 1) cNil)))) (c2 fEq (c2 fIx (cVar 1) (cVar 3)) (cVar 2))) cNil))))
def F_may_follow : Fn := cFun 3 4 c_may_follow
theorem ok_may_follow (T : Tx K mg) (Z : Gz K mg G memoK tsW T.fi) (Zx : Gx T G) : FnG P W K mg base (L2.CX P W) 3 T.may_follow.f T.may_follow.fd ["web", "row", "hue"] (spF G 3 F_may_follow) :=
  fn_runX T.may_follow.F S_may_follow rfl rfl fun cdv A outer s H E hcd gd hr le => (xss_one (xs_ret (xe_not (xe_B (b_any rfl) (by rfl) T.n_any bt_any (xa_cons (xe_comp (own := [("other", 3)]) rfl S_may_follow.nd (xi_seq Z.eK (xe_ownX T.neighbours_of (ok_neighbours_of T Z Zx) gd (hr.mono (by decide)) (by first | exact le | exact True.intro) rd_pure (xa_cons (xe_var 0) (xa_cons (xe_B (b_len Z.eK) (by rfl) T.n_len bt_len (xa_cons (xe_var 1) xa_nil)) xa_nil)))) (blkOk_by (N := ["web", "row", "hue", "other"]) (sc := defScope s_may_follow) (by decide +kernel)) (fun _ _ _ _ _ => (xgw_name S_may_follow.nd rfl (by first | exact Or.inl rfl | exact Or.inr rfl) (by decide))) (fun _ _ _ _ _ => (xts_one (xt_cmp (o_lt Z.eK hr.u0) (xe_var 3) (xe_B (b_len Z.eK) (by rfl) T.n_len bt_len (xa_cons (xe_var 1) xa_nil))))) (fun _ _ _ _ _ => (xe_cmp (o_eq Z.eK hr.u64) (xe_ix (o_ix Z.eK hr.u1) (xe_var 1) (xe_var 3)) (xe_var 2)))) xa_nil)))))
end
section
variable {P : Program} {W : World} {K : PySem.W.Frag} {mg : Str → Option Value} {base : Heap} {G : Gb}
theorem S_colourings_by : FnScope ["web", "hues", "word", "found", "place", "row", "hue"] ["web", "hues"] (defScope s_colourings_by) := ⟨rfl, rfl, rfl, by decide +kernel, rfl, by decide +kernel, by decide +kernel⟩
def c_colourings_by : CS := (sSeq (sAsg (c2 fAdd (cK (.str "colourings ")) (cF fStrI (cCons (cVar 1) cNil))) (tgName 2)) (sMemo memoK 0 (keyLoc 2) (sSeq (sAsg (cLst (cCons (cTup cNil) cNil)) (tgName 3)) (sSeq (sFor (iSeq (cF (cCall 1 (pureF F_places_of)) (cCons (cVar 0) cNil))) (tgName 4) (sAsg (cComp2 [5, 6] (iSeq (cVar 3)) (tgName 5) tYesC [6] (iRng1 (cCons (cVar 1) cNil)) (tgName 6) (tVal (cF (cCall 3 (pureF F_may_follow)) (cCons (cVar 0) (cCons (cVar 5) (cCons (cVar 6) cNil))))) (cTup (cStar (cVar 5) (cCons (cVar 6) cNil)))) (tgName 3))) sNil)) (cVar 3)))
def F_colourings_by : Fn := cFun 2 7 (noX c_colourings_by)
theorem ok_colourings_by (T : Tx K mg) (Z : Gz K mg G memoK tsW T.fi) (Zx : Gx T G) : FnG P W K mg base (L2.CX P W) 4 T.colourings_by.f T.colourings_by.fd ["web", "hues"] (spF G 2 F_colourings_by) :=
  fn_runXN T.colourings_by.F S_colourings_by rfl rfl fun cdv A outer s H E hcd gd hr => (xss_cons (xs_set S_colourings_by.nd rfl (by first | exact Or.inl rfl | exact Or.inr rfl) (xe_op (o_add Z.eK) (xe_glob (c := .str "colourings ") (v := .str "colourings ") (by rfl) T.g_COLOURINGS ⟨_, rfl⟩ (fun _ _ _ => cr_str _)) (xe_Ty (b_strI) (by rfl) T.n_str bt_str (xa_cons (xe_var 1) xa_nil)))) (xss_memo (ms := memoMs) (i := 0) (B := ((ifBody ((defBody s_colourings_by).getD 1 (.Pass ⟨0, 0, 0, 0⟩))).take 2)) Z.mem memo_ms (by decide) Z.W hr.u1 rfl (by first | exact Or.inl rfl | exact Or.inr (Or.inl rfl) | exact Or.inr (Or.inr rfl)) (key_loc (i := 2) rfl (by first | exact Or.inl rfl | exact Or.inr (Or.inl rfl) | exact Or.inr (Or.inr rfl))) (key_loc (i := 2) rfl (by first | exact Or.inl rfl | exact Or.inr (Or.inl rfl) | exact Or.inr (Or.inr rfl))) (key_loc (i := 2) rfl (by first | exact Or.inl rfl | exact Or.inr (Or.inl rfl) | exact Or.inr (Or.inr rfl))) (show XPre _ _ _ _ from (.cons (xs_set S_colourings_by.nd rfl (by first | exact Or.inl rfl | exact Or.inr rfl) (xe_lst (xa_cons (xe_tup xa_nil) xa_nil))) (.cons (xs_for PassesOwn.leaving rfl (xi_seq Z.eK (xe_ownX T.places_of (ok_places_of T Z Zx) gd (hr.mono (by decide)) (by first | exact le | exact True.intro) rd_pure (xa_cons (xe_var 0) xa_nil))) (xg_name S_colourings_by.nd rfl (by first | exact Or.inl rfl | exact Or.inr rfl)) (xss_one (by first | exact xs_setComp2 (own := [("row", 5), ("hue", 6)]) (vs1 := [6]) rfl S_colourings_by.nd rfl rfl rfl (xi_seq Z.eK (xe_var 3)) (blkOk_by (N := ["web", "hues", "word", "found", "place", "row", "hue"]) (sc := defScope s_colourings_by) (by decide +kernel)) (by decide) (fun _ _ _ _ _ => (xgw_name S_colourings_by.nd rfl (by first | exact Or.inl rfl | exact Or.inr rfl) (by decide))) (fun _ _ _ _ _ => xts_nil) (fun _ _ _ _ _ => (xi_range1 (by rfl) T.n_range (xa_cons (xe_var 1) xa_nil))) (fun _ _ _ _ _ => (xgw_name S_colourings_by.nd rfl (by first | exact Or.inl rfl | exact Or.inr rfl) (by decide))) (fun _ _ _ _ _ => (xts_one (xt_val (xe_ownX T.may_follow (ok_may_follow T Z Zx) gd (hr.mono (by decide)) (by first | exact le | exact True.intro) rd_pure (xa_cons (xe_var 0) (xa_cons (xe_var 5) (xa_cons (xe_var 6) xa_nil))))))) (fun _ _ _ _ _ => (xe_tup (xa_star Z.eK (xe_var 5) (xa_cons (xe_var 6) xa_nil)))) | exact xs_set S_colourings_by.nd rfl (by first | exact Or.inl rfl | exact Or.inr rfl) (xe_comp2 (own := [("row", 5), ("hue", 6)]) (vs1 := [6]) rfl S_colourings_by.nd (xi_seq Z.eK (xe_var 3)) (blkOk_by (N := ["web", "hues", "word", "found", "place", "row", "hue"]) (sc := defScope s_colourings_by) (by decide +kernel)) (by decide) (fun _ _ _ _ _ => (xgw_name S_colourings_by.nd rfl (by first | exact Or.inl rfl | exact Or.inr rfl) (by decide))) (fun _ _ _ _ _ => xts_nil) (fun _ _ _ _ _ => (xi_range1 (by rfl) T.n_range (xa_cons (xe_var 1) xa_nil))) (fun _ _ _ _ _ => (xgw_name S_colourings_by.nd rfl (by first | exact Or.inl rfl | exact Or.inr rfl) (by decide))) (fun _ _ _ _ _ => (xts_one (xt_val (xe_ownX T.may_follow (ok_may_follow T Z Zx) gd (hr.mono (by decide)) (by first | exact le | exact True.intro) rd_pure (xa_cons (xe_var 0) (xa_cons (xe_var 5) (xa_cons (xe_var 6) xa_nil))))))) (fun _ _ _ _ _ => (xe_tup (xa_star Z.eK (xe_var 5) (xa_cons (xe_var 6) xa_nil)))))))) XPre.nil))) (xe_var 3)))
end
section
variable {P : Program} {W : World} {K : PySem.W.Frag} {mg : Str → Option Value} {base : Heap} {G : Gb}
theorem S_sketched_by : FnScope ["web", "hues", "sketch", "told", "colouring", "place", "hue"] ["web", "hues", "sketch"] (defScope s_sketched_by) := ⟨rfl, rfl, rfl, by decide +kernel, rfl, by decide +kernel, by decide +kernel⟩
def c_sketched_by : CS := (sSeq (sAsg (cF (cCall 2 (pureF F_colourings_by)) (cCons (cVar 0) (cCons (cVar 1) cNil))) (tgName 3)) (sRet (cComp [4] (iSeq (cVar 3)) (tgName 4) (tVal (cF fAll (cCons (cComp [5, 6] (iSeq (cVar 2)) (tgTup 2 (tgsCons (tgName 5) (tgsCons (tgName 6) tgsNil))) tYesC (c2 fEq (c2 fIx (cVar 4) (cVar 5)) (cVar 6))) cNil))) (cVar 4))))
def F_sketched_by : Fn := cFun 3 7 c_sketched_by
theorem ok_sketched_by (T : Tx K mg) (Z : Gz K mg G memoK tsW T.fi) (Zx : Gx T G) : FnG P W K mg base (L2.CX P W) 5 T.sketched_by.f T.sketched_by.fd ["web", "hues", "sketch"] (spF G 3 F_sketched_by) :=
  fn_runX T.sketched_by.F S_sketched_by rfl rfl fun cdv A outer s H E hcd gd hr le => (xss_cons (xs_set S_sketched_by.nd rfl (by first | exact Or.inl rfl | exact Or.inr rfl) (xe_ownX T.colourings_by (ok_colourings_by T Z Zx) gd (hr.mono (by decide)) (by first | exact le | exact True.intro) rd_pure (xa_cons (xe_var 0) (xa_cons (xe_var 1) xa_nil)))) (xss_one (xs_ret (xe_comp (own := [("colouring", 4)]) rfl S_sketched_by.nd (xi_seq Z.eK (xe_var 3)) (blkOk_by (N := ["web", "hues", "sketch", "told", "colouring", "place", "hue"]) (sc := defScope s_sketched_by) (by decide +kernel)) (fun _ _ _ _ _ => (xgw_name S_sketched_by.nd rfl (by first | exact Or.inl rfl | exact Or.inr rfl) (by decide))) (fun _ _ _ _ _ => (xts_one (xt_val (xe_B (b_all rfl) (by rfl) T.n_all bt_all (xa_cons (xe_comp (own := [("place", 5), ("hue", 6)]) rfl S_sketched_by.nd (xi_seq Z.eK (xe_var 2)) (blkOk_by (N := ["web", "hues", "sketch", "told", "colouring", "place", "hue"]) (by first | rfl | kernel_rfl)) (fun _ _ _ _ _ => (xgw_tup Z.eK rfl (xgws_cons (xgw_name S_sketched_by.nd rfl (by first | exact Or.inl rfl | exact Or.inr rfl) (by decide)) (xgws_cons (xgw_name S_sketched_by.nd rfl (by first | exact Or.inl rfl | exact Or.inr rfl) (by decide)) xgws_nil)))) (fun _ _ _ _ _ => xts_nil) (fun _ _ _ _ _ => (xe_cmp (o_eq Z.eK hr.u64) (xe_ix (o_ix Z.eK hr.u1) (xe_var 4) (xe_var 5)) (xe_var 6)))) xa_nil))))) (fun _ _ _ _ _ => (xe_var 4))))))
end
section
variable {P : Program} {W : World} {K : PySem.W.Frag} {mg : Str → Option Value} {base : Heap} {G : Gb}
theorem S_best_look_by : FnScope ["web", "hues", "sketch", "left", "had", "place", "hue", "best", "told", "colouring", "most"] ["web", "hues", "sketch"] (defScope s_best_look_by) := ⟨rfl, rfl, rfl, by decide +kernel, rfl, by decide +kernel, by decide +kernel⟩
def c_best_look_by : CS := (sSeq (sPar 3 4 (cCons (cF (cCall 3 (pureF F_sketched_by)) (cCons (cVar 0) (cCons (cVar 1) (cCons (cVar 2) cNil)))) (cCons (cComp [5, 6] (iSeq (cVar 2)) (tgTup 2 (tgsCons (tgName 5) (tgsCons (tgName 6) tgsNil))) tYesC (cVar 5)) cNil))) (sSeq (sAsg (cK .non) (tgName 7)) (sSeq (sFor (iSeq (cIte (tVal (c2 fGt (cF fLen (cCons (cVar 3) cNil)) (cK (.int 1)))) (cF (cCall 1 (pureF F_places_of)) (cCons (cVar 0) cNil)) (cTup cNil))) (tgName 5) (sIf (tVal (c2 fNotIn (cVar 5) (cVar 4))) (sSeq (sAsg (cComp [9] (iSeq (cVar 3)) (tgName 9) tYesC (c2 fIx (cVar 9) (cVar 5))) (tgName 8)) (sSeq (sAsg (cF fMaxS (cCons (cComp [6] (iSeq (cVar 8)) (tgName 6) tYesC (cLMx mCnt (cVar 8) (cCons (cVar 6) cNil))) cNil)) (tgName 10)) (sIf (tOrC (tVal (c2 fIsN (cVar 7) (cK .non))) (tVal (c2 fLt (cVar 10) (c2 fIx (cVar 7) (cK (.int 0)))))) (sAsg (cTup (cCons (cVar 10) (cCons (cVar 5) cNil))) (tgName 7)) sNil))) sNil)) (sRet (cIte (tVal (c2 fIsN (cVar 7) (cK .non))) (cK .non) (c2 fIx (cVar 7) (cK (.int 1))))))))
def F_best_look_by : Fn := cFun 3 11 c_best_look_by
theorem ok_best_look_by (T : Tx K mg) (Z : Gz K mg G memoK tsW T.fi) (Zx : Gx T G) : FnG P W K mg base (L2.CX P W) 6 T.best_look_by.f T.best_look_by.fd ["web", "hues", "sketch"] (spF G 3 F_best_look_by) :=
  fn_runX T.best_look_by.F S_best_look_by rfl rfl fun cdv A outer s H E hcd gd hr le => (xss_cons (xs_par rfl S_best_look_by.nd rfl rfl (by decide) rfl rfl (xa_cons (xe_ownX T.sketched_by (ok_sketched_by T Z Zx) gd (hr.mono (by decide)) (by first | exact le | exact True.intro) rd_pure (xa_cons (xe_var 0) (xa_cons (xe_var 1) (xa_cons (xe_var 2) xa_nil)))) (xa_cons (xe_comp (own := [("place", 5), ("hue", 6)]) rfl S_best_look_by.nd (xi_seq Z.eK (xe_var 2)) (blkOk_by (N := ["web", "hues", "sketch", "left", "had", "place", "hue", "best", "told", "colouring", "most"]) (sc := defScope s_best_look_by) (by decide +kernel)) (fun _ _ _ _ _ => (xgw_tup Z.eK rfl (xgws_cons (xgw_name S_best_look_by.nd rfl (by first | exact Or.inl rfl | exact Or.inr rfl) (by decide)) (xgws_cons (xgw_name S_best_look_by.nd rfl (by first | exact Or.inl rfl | exact Or.inr rfl) (by decide)) xgws_nil)))) (fun _ _ _ _ _ => xts_nil) (fun _ _ _ _ _ => (xe_var 5))) xa_nil)) rfl) (xss_cons (xs_set S_best_look_by.nd rfl (by first | exact Or.inl rfl | exact Or.inr rfl) xe_non) (xss_cons (xs_for PassesOwn.leaving rfl (xi_seq Z.eK (xe_ite (xt_cmp (o_gt) (xe_B (b_len Z.eK) (by rfl) T.n_len bt_len (xa_cons (xe_var 3) xa_nil)) xe_int) (xe_ownX T.places_of (ok_places_of T Z Zx) gd (hr.mono (by decide)) (by first | exact le | exact True.intro) rd_pure (xa_cons (xe_var 0) xa_nil)) (xe_tup xa_nil))) (xg_name S_best_look_by.nd rfl (by first | exact Or.inl rfl | exact Or.inr rfl)) (xss_one (xs_if (xt_cmp (o_notIn Z.eK hr.u65) (xe_var 5) (xe_var 4)) (xss_cons (by first | exact xs_setComp (own := [("colouring", 9)]) rfl S_best_look_by.nd rfl rfl rfl (xi_seq Z.eK (xe_var 3)) (blkOk_by (N := ["web", "hues", "sketch", "left", "had", "place", "hue", "best", "told", "colouring", "most"]) (sc := defScope s_best_look_by) (by decide +kernel)) (fun _ _ _ _ _ => (xgw_name S_best_look_by.nd rfl (by first | exact Or.inl rfl | exact Or.inr rfl) (by decide))) (fun _ _ _ _ _ => xts_nil) (fun _ _ _ _ _ => (xe_ix (o_ix Z.eK hr.u1) (xe_var 9) (xe_var 5))) | exact xs_set S_best_look_by.nd rfl (by first | exact Or.inl rfl | exact Or.inr rfl) (xe_comp (own := [("colouring", 9)]) rfl S_best_look_by.nd (xi_seq Z.eK (xe_var 3)) (blkOk_by (N := ["web", "hues", "sketch", "left", "had", "place", "hue", "best", "told", "colouring", "most"]) (sc := defScope s_best_look_by) (by decide +kernel)) (fun _ _ _ _ _ => (xgw_name S_best_look_by.nd rfl (by first | exact Or.inl rfl | exact Or.inr rfl) (by decide))) (fun _ _ _ _ _ => xts_nil) (fun _ _ _ _ _ => (xe_ix (o_ix Z.eK hr.u1) (xe_var 9) (xe_var 5))))) (xss_cons (xs_set S_best_look_by.nd rfl (by first | exact Or.inl rfl | exact Or.inr rfl) (xe_B (b_maxS Z.eK hr.u2 rfl) (by rfl) T.n_max bt_max (xa_cons (xe_comp (own := [("hue", 6)]) rfl S_best_look_by.nd (xi_seq Z.eK (xe_var 8)) (blkOk_by (N := ["web", "hues", "sketch", "left", "had", "place", "hue", "best", "told", "colouring", "most"]) (sc := defScope s_best_look_by) (by decide +kernel)) (fun _ _ _ _ _ => (xgw_name S_best_look_by.nd rfl (by first | exact Or.inl rfl | exact Or.inr rfl) (by decide))) (fun _ _ _ _ _ => xts_nil) (fun _ _ _ _ _ => (xe_count Z.eK hr.u65 (xe_var 8) (xa_cons (xe_var 6) xa_nil)))) xa_nil))) (xss_one (xs_if (xt_w (xw_or (xt_cmp (o_isN) (xe_var 7) xe_non) (xw_or1 (xt_cmp (o_lt Z.eK hr.u0) (xe_var 10) (xe_ix (o_ix Z.eK hr.u1) (xe_var 7) xe_int))))) (xss_one (xs_set S_best_look_by.nd rfl (by first | exact Or.inl rfl | exact Or.inr rfl) (xe_tup (xa_cons (xe_var 10) (xa_cons (xe_var 5) xa_nil))))) xss_nil)))) xss_nil))) (xss_one (xs_ret (xe_ite (xt_cmp (o_isN) (xe_var 7) xe_non) xe_non (xe_ix (o_ix Z.eK hr.u1) (xe_var 7) xe_int)))))))
end
section
variable {P : Program} {W : World} {K : PySem.W.Frag} {mg : Str → Option Value} {base : Heap} {G : Gb}
theorem S_is_hues : FnScope ["value"] ["value"] (defScope s_is_hues) := ⟨rfl, rfl, rfl, by decide +kernel, rfl, by decide +kernel, by decide +kernel⟩
def c_is_hues : CS := (sRet (cF (cCall 3 (pureF F_is_between)) (cCons (cVar 0) (cCons (cK (.int 1)) (cCons (cK (.int 4)) cNil)))))
def F_is_hues : Fn := cFun 1 1 c_is_hues
theorem ok_is_hues (T : Tx K mg) (Z : Gz K mg G memoK tsW T.fi) (Zx : Gx T G) : FnG P W K mg base (L2.CX P W) 3 T.is_hues.f T.is_hues.fd ["value"] (spF G 1 F_is_hues) :=
  fn_runX T.is_hues.F S_is_hues rfl rfl fun cdv A outer s H E hcd gd hr le => (xss_one (xs_ret (xe_ownX T.is_between (ok_is_between T Z Zx) gd (hr.mono (by decide)) (by first | exact le | exact True.intro) rd_pure (xa_cons (xe_var 0) (xa_cons xe_int (xa_cons (xe_glob (c := .int 4) (v := .int 4) (by rfl) T.g_MOST_HUES ⟨_, rfl⟩ (fun _ _ _ => cr_int _)) xa_nil))))))
end
section
variable {P : Program} {W : World} {K : PySem.W.Frag} {mg : Str → Option Value} {base : Heap} {G : Gb}
theorem S_check_hues : FnScope ["value"] ["value"] (defScope s_check_hues) := ⟨rfl, rfl, rfl, by decide +kernel, rfl, by decide +kernel, by decide +kernel⟩
def c_check_hues : CS := (sIf (tNotC (tVal (cF (cCall 1 (pureF F_is_hues)) (cCons (cVar 0) cNil)))) (sRaise 2 (cVar 0)) sNil)
def F_check_hues : Fn := cFun 1 1 c_check_hues
theorem ok_check_hues (T : Tx K mg) (Z : Gz K mg G memoK tsW T.fi) (Zx : Gx T G) : FnG P W K mg base (L2.CX P W) 4 T.check_hues.f T.check_hues.fd ["value"] (spF G 1 F_check_hues) :=
  fn_runX T.check_hues.F S_check_hues rfl rfl fun cdv A outer s H E hcd gd hr le => (xss_one (xs_if (xt_not (xt_val (xe_ownX T.is_hues (ok_is_hues T Z Zx) gd (hr.mono (by decide)) (by first | exact le | exact True.intro) rd_pure (xa_cons (xe_var 0) xa_nil)))) (xss_one (xs_raise (k := 2) (j := 1) rfl le T.xF_InvalidNumber (T.xO_InvalidNumber P W base) (hr.mono (by decide)) Zx.g2 Zx.f2 (by rfl) (xe_var 0))) xss_nil))
end
section
variable {P : Program} {W : World} {K : PySem.W.Frag} {mg : Str → Option Value} {base : Heap} {G : Gb}
theorem S_check_hued : FnScope ["web", "hues"] ["web", "hues"] (defScope s_check_hued) := ⟨rfl, rfl, rfl, by decide +kernel, rfl, by decide +kernel, by decide +kernel⟩
def c_check_hued : CS := (sSeq (sDrop (cF (cCall 1 (pureF F_check_web)) (cCons (cVar 0) cNil))) (sDrop (cF (cCall 1 (pureF F_check_hues)) (cCons (cVar 1) cNil))))
def F_check_hued : Fn := cFun 2 2 c_check_hued
theorem ok_check_hued (T : Tx K mg) (Z : Gz K mg G memoK tsW T.fi) (Zx : Gx T G) : FnG P W K mg base (L2.CX P W) 5 T.check_hued.f T.check_hued.fd ["web", "hues"] (spF G 2 F_check_hued) :=
  fn_runX T.check_hued.F S_check_hued rfl rfl fun cdv A outer s H E hcd gd hr le => (xss_cons (xs_drop (xe_ownX T.check_web (ok_check_web T Z Zx) gd (hr.mono (by decide)) (by first | exact le | exact True.intro) rd_pure (xa_cons (xe_var 0) xa_nil))) (xss_one (xs_drop (xe_ownX T.check_hues (ok_check_hues T Z Zx) gd (hr.mono (by decide)) (by first | exact le | exact True.intro) rd_pure (xa_cons (xe_var 1) xa_nil)))))
end
section
variable {P : Program} {W : World} {K : PySem.W.Frag} {mg : Str → Option Value} {base : Heap} {G : Gb}
theorem S_is_hue : FnScope ["hues", "value"] ["hues", "value"] (defScope s_is_hue) := ⟨rfl, rfl, rfl, by decide +kernel, rfl, by decide +kernel, by decide +kernel⟩
def c_is_hue : CS := (sRet (cF (cCall 3 (pureF F_is_between)) (cCons (cVar 1) (cCons (cK (.int 0)) (cCons (c2 fSub (cVar 0) (cK (.int 1))) cNil)))))
def F_is_hue : Fn := cFun 2 2 c_is_hue
theorem ok_is_hue (T : Tx K mg) (Z : Gz K mg G memoK tsW T.fi) (Zx : Gx T G) : FnG P W K mg base (L2.CX P W) 3 T.is_hue.f T.is_hue.fd ["hues", "value"] (spF G 2 F_is_hue) :=
  fn_runX T.is_hue.F S_is_hue rfl rfl fun cdv A outer s H E hcd gd hr le => (xss_one (xs_ret (xe_ownX T.is_between (ok_is_between T Z Zx) gd (hr.mono (by decide)) (by first | exact le | exact True.intro) rd_pure (xa_cons (xe_var 1) (xa_cons xe_int (xa_cons (xe_op (o_sub) (xe_var 0) xe_int) xa_nil))))))
end
section
variable {P : Program} {W : World} {K : PySem.W.Frag} {mg : Str → Option Value} {base : Heap} {G : Gb}
theorem S_is_place : FnScope ["web", "value"] ["web", "value"] (defScope s_is_place) := ⟨rfl, rfl, rfl, by decide +kernel, rfl, by decide +kernel, by decide +kernel⟩
def c_is_place : CS := (sRet (cF (cCall 3 (pureF F_is_between)) (cCons (cVar 1) (cCons (cK (.int 0)) (cCons (c2 fSub (c1 fPlaces (cVar 0)) (cK (.int 1))) cNil)))))
def F_is_place : Fn := cFun 2 2 c_is_place
theorem ok_is_place (T : Tx K mg) (Z : Gz K mg G memoK tsW T.fi) (Zx : Gx T G) : FnG P W K mg base (L2.CX P W) 3 T.is_place.f T.is_place.fd ["web", "value"] (spF G 2 F_is_place) :=
  fn_runX T.is_place.F S_is_place rfl rfl fun cdv A outer s H E hcd gd hr le => (xss_one (xs_ret (xe_ownX T.is_between (ok_is_between T Z Zx) gd (hr.mono (by decide)) (by first | exact le | exact True.intro) rd_pure (xa_cons (xe_var 1) (xa_cons xe_int (xa_cons (xe_op (o_sub) (xe_places Z.W (xe_var 0)) xe_int) xa_nil))))))
end
section
variable {P : Program} {W : World} {K : PySem.W.Frag} {mg : Str → Option Value} {base : Heap} {G : Gb}
theorem S_is_note : FnScope ["web", "hues", "value", "ahead"] ["web", "hues", "value", "ahead"] (defScope s_is_note) := ⟨rfl, rfl, rfl, by decide +kernel, rfl, by decide +kernel, by decide +kernel⟩
def c_is_note : CS := (sSeq (sIf (tOrC (tNotC (tVal (cF (cCall 2 (pureF F_is_tuple_of)) (cCons (cVar 2) (cCons (cK (.int 2)) cNil))))) (tOrC (tNotC (tVal (cF (cCall 2 (pureF F_is_place)) (cCons (cVar 0) (cCons (c2 fIx (cVar 2) (cK (.int 0))) cNil))))) (tNotC (tVal (cF (cCall 2 (pureF F_is_hue)) (cCons (cVar 1) (cCons (c2 fIx (cVar 2) (cK (.int 1))) cNil))))))) (sRet (cK (.bl false))) sNil) (sRet (cOrV (c2 fEq (cVar 3) (cTup cNil)) (c2 fLt (c2 fIx (c2 fIx (cVar 3) (c1 fNeg (cK (.int 1)))) (cK (.int 0))) (c2 fIx (cVar 2) (cK (.int 0)))))))
def F_is_note : Fn := cFun 4 4 c_is_note
theorem ok_is_note (T : Tx K mg) (Z : Gz K mg G memoK tsW T.fi) (Zx : Gx T G) : FnG P W K mg base (L2.CX P W) 4 T.is_note.f T.is_note.fd ["web", "hues", "value", "ahead"] (spF G 4 F_is_note) :=
  fn_runX T.is_note.F S_is_note rfl rfl fun cdv A outer s H E hcd gd hr le => (xss_cons (xs_if (xt_w (xw_or (xt_not (xt_val (xe_ownX T.is_tuple_of (ok_is_tuple_of T Z Zx) gd (hr.mono (by decide)) (by first | exact le | exact True.intro) rd_pure (xa_cons (xe_var 2) (xa_cons xe_int xa_nil))))) (xw_or (xt_not (xt_val (xe_ownX T.is_place (ok_is_place T Z Zx) gd (hr.mono (by decide)) (by first | exact le | exact True.intro) rd_pure (xa_cons (xe_var 0) (xa_cons (xe_ix (o_ix Z.eK hr.u1) (xe_var 2) xe_int) xa_nil))))) (xw_or1 (xt_not (xt_val (xe_ownX T.is_hue (ok_is_hue T Z Zx) gd (hr.mono (by decide)) (by first | exact le | exact True.intro) rd_pure (xa_cons (xe_var 1) (xa_cons (xe_ix (o_ix Z.eK hr.u1) (xe_var 2) xe_int) xa_nil))))))))) (xss_one (xs_ret xe_bl)) xss_nil) (xss_one (xs_ret (xe_or (xe_cmp (o_eq Z.eK hr.u64) (xe_var 3) (xe_tup xa_nil)) (xe_and1 (xe_cmp (o_lt Z.eK hr.u0) (xe_ix (o_ix Z.eK hr.u1) (xe_ix (o_ix Z.eK hr.u1) (xe_var 3) (xe_un u_neg xe_int)) xe_int) (xe_ix (o_ix Z.eK hr.u1) (xe_var 2) xe_int)))))))
end
section
variable {P : Program} {W : World} {K : PySem.W.Frag} {mg : Str → Option Value} {base : Heap} {G : Gb}
theorem S_wrong_note : FnScope ["web", "hues", "value"] ["web", "hues", "value"] (defScope s_wrong_note) := ⟨rfl, rfl, rfl, by decide +kernel, rfl, by decide +kernel, by decide +kernel⟩
def c_wrong_note : CS := (sRet (cLamX 4 2 4 [0, 1] (cF (cCall 4 (pureF F_is_note)) (cCons (cVar 2) (cCons (cVar 3) (cCons (cVar 0) (cCons (cVar 1) cNil))))) h_first_wrong (cVar 2)))
def F_wrong_note : Fn := cFun 3 3 c_wrong_note
theorem ok_wrong_note (T : Tx K mg) (Z : Gz K mg G memoK tsW T.fi) (Zx : Gx T G) (Lz : Lzz T base G) : FnG P W K mg base (L2.CX P W) 7 T.wrong_note.f T.wrong_note.fd ["web", "hues", "value"] (spF G 3 F_wrong_note) :=
  fn_runX T.wrong_note.F S_wrong_note rfl rfl fun cdv A outer s H E hcd gd hr le => (xss_one (xs_ret (xe_lamcallX (k := 4) (ps := ["each", "ahead"]) (fr := ["web", "hues"]) (Nl := ["each", "ahead", "web", "hues"]) gd (hr.mono (by decide)) (by rfl) T.first_wrong.m T.first_wrong.F T.first_wrong.b S_first_wrong rfl rfl (by first | exact Or.inl rfl | exact Or.inr (Or.inl rfl))
      (nscope_by (by decide +kernel)) rfl rfl (ndef_free (sc := defScope s_wrong_note) (fr := ["web", "hues"]) (by decide +kernel)) (ndef_fr (sc := defScope s_wrong_note) (by decide +kernel)) rfl Lz.l_wrong_note.tb (hcd.symm.trans Lz.l_wrong_note.code) Lz.l_wrong_note.mem Lz.l_wrong_note.un rfl
      (fun _ _ _ _ _ us hl => match us, hl with | [_, _], _ => rfl) (by refine holder_first_wrong _ ?_; exact Z.eK) (fun A outer s H f c' cp gd hr => have Z := Z.wc f [(c', _)] cp; have Zx : Gx T (G.wc f [(c', _)] cp) := Zx.to rfl rfl; (xe_ownX T.is_note (ok_is_note T Z Zx) gd (hr.mono (by decide)) (by first | exact le | exact True.intro) rd_pure (xa_cons (xe_var 2) (xa_cons (xe_var 3) (xa_cons (xe_var 0) (xa_cons (xe_var 1) xa_nil)))))) (xe_var 2))))
end
section
variable {P : Program} {W : World} {K : PySem.W.Frag} {mg : Str → Option Value} {base : Heap} {G : Gb}
theorem S_check_sketch : FnScope ["web", "hues", "value", "wrong"] ["web", "hues", "value"] (defScope s_check_sketch) := ⟨rfl, rfl, rfl, by decide +kernel, rfl, by decide +kernel, by decide +kernel⟩
def c_check_sketch : CS := (sSeq (sIf (tNotC (tVal (c1 (isiB .tup) (cVar 2)))) (sRaise 3 (cK .non)) sNil) (sSeq (sAsg (cF (cCall 3 (pureF F_wrong_note)) (cCons (cVar 0) (cCons (cVar 1) (cCons (cVar 2) cNil)))) (tgName 3)) (sIf (tVal (c2 fNotN (cVar 3) (cK .non))) (sRaise 3 (cVar 3)) sNil)))
def F_check_sketch : Fn := cFun 3 4 c_check_sketch
theorem ok_check_sketch (T : Tx K mg) (Z : Gz K mg G memoK tsW T.fi) (Zx : Gx T G) (Lz : Lzz T base G) : FnG P W K mg base (L2.CX P W) 8 T.check_sketch.f T.check_sketch.fd ["web", "hues", "value"] (spF G 3 F_check_sketch) :=
  fn_runX T.check_sketch.F S_check_sketch rfl rfl fun cdv A outer s H E hcd gd hr le => (xss_cons (xs_if (xt_not (xt_val (xe_isi (by rfl) T.n_isinstance (xe_var 2) (pe_bltn (v := .ty "tuple") (by rfl) T.n_tuple bt_tuple rfl) (.ty _) (isiB_ok Z.eK .tup) bt_isinstance))) (xss_one (xs_raise (k := 3) (j := 1) rfl le T.xF_InvalidSketch (T.xO_InvalidSketch P W base) (hr.mono (by decide)) Zx.g3 Zx.f3 (by rfl) xe_non)) xss_nil) (xss_cons (xs_set S_check_sketch.nd rfl (by first | exact Or.inl rfl | exact Or.inr rfl) (xe_ownX T.wrong_note (ok_wrong_note T Z Zx Lz) gd (hr.mono (by decide)) (by first | exact le | exact True.intro) rd_pure (xa_cons (xe_var 0) (xa_cons (xe_var 1) (xa_cons (xe_var 2) xa_nil))))) (xss_one (xs_if (xt_cmp (o_notN) (xe_var 3) xe_non) (xss_one (xs_raise (k := 3) (j := 1) rfl le T.xF_InvalidSketch (T.xO_InvalidSketch P W base) (hr.mono (by decide)) Zx.g3 Zx.f3 (by rfl) (xe_var 3))) xss_nil))))
end
section
variable {P : Program} {W : World} {K : PySem.W.Frag} {mg : Str → Option Value} {base : Heap} {G : Gb}
theorem S_check_sketched : FnScope ["web", "hues", "sketch"] ["web", "hues", "sketch"] (defScope s_check_sketched) := ⟨rfl, rfl, rfl, by decide +kernel, rfl, by decide +kernel, by decide +kernel⟩
def c_check_sketched : CS := (sSeq (sDrop (cF (cCall 2 (pureF F_check_hued)) (cCons (cVar 0) (cCons (cVar 1) cNil)))) (sDrop (cF (cCall 3 (pureF F_check_sketch)) (cCons (cVar 0) (cCons (cVar 1) (cCons (cVar 2) cNil))))))
def F_check_sketched : Fn := cFun 3 3 c_check_sketched
theorem ok_check_sketched (T : Tx K mg) (Z : Gz K mg G memoK tsW T.fi) (Zx : Gx T G) (Lz : Lzz T base G) : FnG P W K mg base (L2.CX P W) 9 T.check_sketched.f T.check_sketched.fd ["web", "hues", "sketch"] (spF G 3 F_check_sketched) :=
  fn_runX T.check_sketched.F S_check_sketched rfl rfl fun cdv A outer s H E hcd gd hr le => (xss_cons (xs_drop (xe_ownX T.check_hued (ok_check_hued T Z Zx) gd (hr.mono (by decide)) (by first | exact le | exact True.intro) rd_pure (xa_cons (xe_var 0) (xa_cons (xe_var 1) xa_nil)))) (xss_one (xs_drop (xe_ownX T.check_sketch (ok_check_sketch T Z Zx Lz) gd (hr.mono (by decide)) (by first | exact le | exact True.intro) rd_pure (xa_cons (xe_var 0) (xa_cons (xe_var 1) (xa_cons (xe_var 2) xa_nil)))))))
end
section
variable {P : Program} {W : World} {K : PySem.W.Frag} {mg : Str → Option Value} {base : Heap} {G : Gb}
theorem S_best_look : FnScope ["web", "hues", "sketch"] ["web", "hues", "sketch"] (defScope s_best_look) := ⟨rfl, rfl, rfl, by decide +kernel, rfl, by decide +kernel, by decide +kernel⟩
def c_best_look : CS := (sSeq (sDrop (cF (cCall 3 (pureF F_check_sketched)) (cCons (cVar 0) (cCons (cVar 1) (cCons (cVar 2) cNil))))) (sRet (cF (cCall 3 (pureF F_best_look_by)) (cCons (cVar 0) (cCons (cVar 1) (cCons (cVar 2) cNil))))))
def F_best_look : Fn := cFun 3 3 c_best_look
theorem ok_best_look (T : Tx K mg) (Z : Gz K mg G memoK tsW T.fi) (Zx : Gx T G) (Lz : Lzz T base G) : FnG P W K mg base (L2.CX P W) 10 T.best_look.f T.best_look.fd ["web", "hues", "sketch"] (spF G 3 F_best_look) :=
  fn_runX T.best_look.F S_best_look rfl rfl fun cdv A outer s H E hcd gd hr le => (xss_cons (xs_drop (xe_ownX T.check_sketched (ok_check_sketched T Z Zx Lz) gd (hr.mono (by decide)) (by first | exact le | exact True.intro) rd_pure (xa_cons (xe_var 0) (xa_cons (xe_var 1) (xa_cons (xe_var 2) xa_nil))))) (xss_one (xs_ret (xe_ownX T.best_look_by (ok_best_look_by T Z Zx) gd (hr.mono (by decide)) (by first | exact le | exact True.intro) rd_pure (xa_cons (xe_var 0) (xa_cons (xe_var 1) (xa_cons (xe_var 2) xa_nil)))))))
end
section
variable {P : Program} {W : World} {K : PySem.W.Frag} {mg : Str → Option Value} {base : Heap} {G : Gb}
theorem S_count_fitting : FnScope ["web", "lists"] ["web", "lists"] (defScope s_count_fitting) := ⟨rfl, rfl, rfl, by decide +kernel, rfl, by decide +kernel, by decide +kernel⟩
def c_count_fitting : CS := (sSeq (sDrop (cF (cCall 2 (pureF F_check_listed)) (cCons (cVar 0) (cCons (cVar 1) cNil)))) (sRet (cF fLen (cCons (cF (cCall 2 (pureF F_fitting_by)) (cCons (cVar 0) (cCons (cVar 1) cNil))) cNil))))
def F_count_fitting : Fn := cFun 2 2 c_count_fitting
theorem ok_count_fitting (T : Tx K mg) (Z : Gz K mg G memoK tsW T.fi) (Zx : Gx T G) (Lz : Lzz T base G) : FnG P W K mg base (L2.CX P W) 9 T.count_fitting.f T.count_fitting.fd ["web", "lists"] (spF G 2 F_count_fitting) :=
  fn_runX T.count_fitting.F S_count_fitting rfl rfl fun cdv A outer s H E hcd gd hr le => (xss_cons (xs_drop (xe_ownX T.check_listed (ok_check_listed T Z Zx Lz) gd (hr.mono (by decide)) (by first | exact le | exact True.intro) rd_pure (xa_cons (xe_var 0) (xa_cons (xe_var 1) xa_nil)))) (xss_one (xs_ret (xe_B (b_len Z.eK) (by rfl) T.n_len bt_len (xa_cons (xe_ownX T.fitting_by (ok_fitting_by T Z Zx) gd (hr.mono (by decide)) (by first | exact le | exact True.intro) rd_pure (xa_cons (xe_var 0) (xa_cons (xe_var 1) xa_nil))) xa_nil)))))
end
section
variable {P : Program} {W : World} {K : PySem.W.Frag} {mg : Str → Option Value} {base : Heap} {G : Gb}
theorem S_parts_of : FnScope ["web"] ["web"] (defScope s_parts_of) := ⟨rfl, rfl, rfl, by decide +kernel, rfl, by decide +kernel, by decide +kernel⟩
def c_parts_of : CS := (sSeq (sDrop (cF (cCall 1 (pureF F_check_web)) (cCons (cVar 0) cNil))) (sRet (cTup (cCons (c1 fPlaces (cVar 0)) (cCons (c1 fTies (cVar 0)) cNil)))))
def F_parts_of : Fn := cFun 1 1 c_parts_of
theorem ok_parts_of (T : Tx K mg) (Z : Gz K mg G memoK tsW T.fi) (Zx : Gx T G) : FnG P W K mg base (L2.CX P W) 4 T.parts_of.f T.parts_of.fd ["web"] (spF G 1 F_parts_of) :=
  fn_runX T.parts_of.F S_parts_of rfl rfl fun cdv A outer s H E hcd gd hr le => (xss_cons (xs_drop (xe_ownX T.check_web (ok_check_web T Z Zx) gd (hr.mono (by decide)) (by first | exact le | exact True.intro) rd_pure (xa_cons (xe_var 0) xa_nil))) (xss_one (xs_ret (xe_tup (xa_cons (xe_places Z.W (xe_var 0)) (xa_cons (xe_ties Z.W (xe_var 0)) xa_nil))))))
end
section
variable {P : Program} {W : World} {K : PySem.W.Frag} {mg : Str → Option Value} {base : Heap} {G : Gb}
theorem S_certify_lists : FnScope ["web", "lists"] ["web", "lists"] (defScope s_certify_lists) := ⟨rfl, rfl, rfl, by decide +kernel, rfl, by decide +kernel, by decide +kernel⟩
def c_certify_lists : CS := (sRet (cTup (cCons (cTup (cCons (cK (.str "lists")) (cCons (cF (cCall 1 (pureF F_parts_of)) (cCons (cVar 0) cNil)) (cCons (cVar 1) (cCons (cF (cCall 2 (pureF F_count_fitting)) (cCons (cVar 0) (cCons (cVar 1) cNil))) cNil))))) (cCons (cTup cNil) cNil))))
def F_certify_lists : Fn := cFun 2 2 c_certify_lists
theorem ok_certify_lists (T : Tx K mg) (Z : Gz K mg G memoK tsW T.fi) (Zx : Gx T G) (Lz : Lzz T base G) : FnG P W K mg base (L2.CX P W) 10 T.certify_lists.f T.certify_lists.fd ["web", "lists"] (spF G 2 F_certify_lists) :=
  fn_runX T.certify_lists.F S_certify_lists rfl rfl fun cdv A outer s H E hcd gd hr le => (xss_one (xs_ret (xe_tup (xa_cons (xe_tup (xa_cons xe_str (xa_cons (xe_ownX T.parts_of (ok_parts_of T Z Zx) gd (hr.mono (by decide)) (by first | exact le | exact True.intro) rd_pure (xa_cons (xe_var 0) xa_nil)) (xa_cons (xe_var 1) (xa_cons (xe_ownX T.count_fitting (ok_count_fitting T Z Zx Lz) gd (hr.mono (by decide)) (by first | exact le | exact True.intro) rd_pure (xa_cons (xe_var 0) (xa_cons (xe_var 1) xa_nil))) xa_nil))))) (xa_cons (xe_tup xa_nil) xa_nil)))))
end
section
variable {P : Program} {W : World} {K : PySem.W.Frag} {mg : Str → Option Value} {base : Heap} {G : Gb}
theorem S_check_place : FnScope ["web", "value"] ["web", "value"] (defScope s_check_place) := ⟨rfl, rfl, rfl, by decide +kernel, rfl, by decide +kernel, by decide +kernel⟩
def c_check_place : CS := (sIf (tNotC (tVal (cF (cCall 2 (pureF F_is_place)) (cCons (cVar 0) (cCons (cVar 1) cNil))))) (sRaise 2 (cVar 1)) sNil)
def F_check_place : Fn := cFun 2 2 c_check_place
theorem ok_check_place (T : Tx K mg) (Z : Gz K mg G memoK tsW T.fi) (Zx : Gx T G) : FnG P W K mg base (L2.CX P W) 4 T.check_place.f T.check_place.fd ["web", "value"] (spF G 2 F_check_place) :=
  fn_runX T.check_place.F S_check_place rfl rfl fun cdv A outer s H E hcd gd hr le => (xss_one (xs_if (xt_not (xt_val (xe_ownX T.is_place (ok_is_place T Z Zx) gd (hr.mono (by decide)) (by first | exact le | exact True.intro) rd_pure (xa_cons (xe_var 0) (xa_cons (xe_var 1) xa_nil))))) (xss_one (xs_raise (k := 2) (j := 1) rfl le T.xF_InvalidNumber (T.xO_InvalidNumber P W base) (hr.mono (by decide)) Zx.g2 Zx.f2 (by rfl) (xe_var 1))) xss_nil))
end
section
variable {P : Program} {W : World} {K : PySem.W.Frag} {mg : Str → Option Value} {base : Heap} {G : Gb}
theorem S_may_by : FnScope ["web", "hues", "sketch", "place", "colouring"] ["web", "hues", "sketch", "place"] (defScope s_may_by) := ⟨rfl, rfl, rfl, by decide +kernel, rfl, by decide +kernel, by decide +kernel⟩
def c_may_by : CS := (sRet (cF fTuple (cCons (cSortSet (cComp [4] (iSeq (cF (cCall 3 (pureF F_sketched_by)) (cCons (cVar 0) (cCons (cVar 1) (cCons (cVar 2) cNil))))) (tgName 4) tYesC (c2 fIx (cVar 4) (cVar 3)))) cNil)))
def F_may_by : Fn := cFun 4 5 c_may_by
theorem ok_may_by (T : Tx K mg) (Z : Gz K mg G memoK tsW T.fi) (Zx : Gx T G) : FnG P W K mg base (L2.CX P W) 6 T.may_by.f T.may_by.fd ["web", "hues", "sketch", "place"] (spF G 4 F_may_by) :=
  fn_runX T.may_by.F S_may_by rfl rfl fun cdv A outer s H E hcd gd hr le => (xss_one (xs_ret (xe_Ty (b_tuple Z.eK) (by rfl) T.n_tuple bt_tuple (xa_cons (xe_sortedSet Z.eK rfl (by rfl) T.n_sorted (by rfl) T.n_set (xe_comp (own := [("colouring", 4)]) rfl S_may_by.nd (xi_seq Z.eK (xe_ownX T.sketched_by (ok_sketched_by T Z Zx) gd (hr.mono (by decide)) (by first | exact le | exact True.intro) rd_pure (xa_cons (xe_var 0) (xa_cons (xe_var 1) (xa_cons (xe_var 2) xa_nil))))) (blkOk_by (N := ["web", "hues", "sketch", "place", "colouring"]) (sc := defScope s_may_by) (by decide +kernel)) (fun _ _ _ _ _ => (xgw_name S_may_by.nd rfl (by first | exact Or.inl rfl | exact Or.inr rfl) (by decide))) (fun _ _ _ _ _ => xts_nil) (fun _ _ _ _ _ => (xe_ix (o_ix Z.eK hr.u1) (xe_var 4) (xe_var 3))))) xa_nil))))
end
section
variable {P : Program} {W : World} {K : PySem.W.Frag} {mg : Str → Option Value} {base : Heap} {G : Gb}
theorem S_may_have : FnScope ["web", "hues", "sketch", "place"] ["web", "hues", "sketch", "place"] (defScope s_may_have) := ⟨rfl, rfl, rfl, by decide +kernel, rfl, by decide +kernel, by decide +kernel⟩
def c_may_have : CS := (sSeq (sDrop (cF (cCall 3 (pureF F_check_sketched)) (cCons (cVar 0) (cCons (cVar 1) (cCons (cVar 2) cNil))))) (sSeq (sDrop (cF (cCall 2 (pureF F_check_place)) (cCons (cVar 0) (cCons (cVar 3) cNil)))) (sRet (cF (cCall 4 (pureF F_may_by)) (cCons (cVar 0) (cCons (cVar 1) (cCons (cVar 2) (cCons (cVar 3) cNil))))))))
def F_may_have : Fn := cFun 4 4 c_may_have
theorem ok_may_have (T : Tx K mg) (Z : Gz K mg G memoK tsW T.fi) (Zx : Gx T G) (Lz : Lzz T base G) : FnG P W K mg base (L2.CX P W) 10 T.may_have.f T.may_have.fd ["web", "hues", "sketch", "place"] (spF G 4 F_may_have) :=
  fn_runX T.may_have.F S_may_have rfl rfl fun cdv A outer s H E hcd gd hr le => (xss_cons (xs_drop (xe_ownX T.check_sketched (ok_check_sketched T Z Zx Lz) gd (hr.mono (by decide)) (by first | exact le | exact True.intro) rd_pure (xa_cons (xe_var 0) (xa_cons (xe_var 1) (xa_cons (xe_var 2) xa_nil))))) (xss_cons (xs_drop (xe_ownX T.check_place (ok_check_place T Z Zx) gd (hr.mono (by decide)) (by first | exact le | exact True.intro) rd_pure (xa_cons (xe_var 0) (xa_cons (xe_var 3) xa_nil)))) (xss_one (xs_ret (xe_ownX T.may_by (ok_may_by T Z Zx) gd (hr.mono (by decide)) (by first | exact le | exact True.intro) rd_pure (xa_cons (xe_var 0) (xa_cons (xe_var 1) (xa_cons (xe_var 2) (xa_cons (xe_var 3) xa_nil)))))))))
end
section
variable {P : Program} {W : World} {K : PySem.W.Frag} {mg : Str → Option Value} {base : Heap} {G : Gb}
theorem S_certify_may : FnScope ["web", "hues", "sketch", "place"] ["web", "hues", "sketch", "place"] (defScope s_certify_may) := ⟨rfl, rfl, rfl, by decide +kernel, rfl, by decide +kernel, by decide +kernel⟩
def c_certify_may : CS := (sRet (cTup (cCons (cTup (cCons (cK (.str "may")) (cCons (cF (cCall 1 (pureF F_parts_of)) (cCons (cVar 0) cNil)) (cCons (cVar 1) (cCons (cVar 2) (cCons (cVar 3) (cCons (cF (cCall 4 (pureF F_may_have)) (cCons (cVar 0) (cCons (cVar 1) (cCons (cVar 2) (cCons (cVar 3) cNil))))) cNil))))))) (cCons (cTup cNil) cNil))))
def F_certify_may : Fn := cFun 4 4 c_certify_may
theorem ok_certify_may (T : Tx K mg) (Z : Gz K mg G memoK tsW T.fi) (Zx : Gx T G) (Lz : Lzz T base G) : FnG P W K mg base (L2.CX P W) 11 T.certify_may.f T.certify_may.fd ["web", "hues", "sketch", "place"] (spF G 4 F_certify_may) :=
  fn_runX T.certify_may.F S_certify_may rfl rfl fun cdv A outer s H E hcd gd hr le => (xss_one (xs_ret (xe_tup (xa_cons (xe_tup (xa_cons xe_str (xa_cons (xe_ownX T.parts_of (ok_parts_of T Z Zx) gd (hr.mono (by decide)) (by first | exact le | exact True.intro) rd_pure (xa_cons (xe_var 0) xa_nil)) (xa_cons (xe_var 1) (xa_cons (xe_var 2) (xa_cons (xe_var 3) (xa_cons (xe_ownX T.may_have (ok_may_have T Z Zx Lz) gd (hr.mono (by decide)) (by first | exact le | exact True.intro) rd_pure (xa_cons (xe_var 0) (xa_cons (xe_var 1) (xa_cons (xe_var 2) (xa_cons (xe_var 3) xa_nil))))) xa_nil))))))) (xa_cons (xe_tup xa_nil) xa_nil)))))
end
section
variable {P : Program} {W : World} {K : PySem.W.Frag} {mg : Str → Option Value} {base : Heap} {G : Gb}
theorem S_count_sketch : FnScope ["web", "hues", "sketch"] ["web", "hues", "sketch"] (defScope s_count_sketch) := ⟨rfl, rfl, rfl, by decide +kernel, rfl, by decide +kernel, by decide +kernel⟩
def c_count_sketch : CS := (sSeq (sDrop (cF (cCall 3 (pureF F_check_sketched)) (cCons (cVar 0) (cCons (cVar 1) (cCons (cVar 2) cNil))))) (sRet (cF fLen (cCons (cF (cCall 3 (pureF F_sketched_by)) (cCons (cVar 0) (cCons (cVar 1) (cCons (cVar 2) cNil)))) cNil))))
def F_count_sketch : Fn := cFun 3 3 c_count_sketch
theorem ok_count_sketch (T : Tx K mg) (Z : Gz K mg G memoK tsW T.fi) (Zx : Gx T G) (Lz : Lzz T base G) : FnG P W K mg base (L2.CX P W) 10 T.count_sketch.f T.count_sketch.fd ["web", "hues", "sketch"] (spF G 3 F_count_sketch) :=
  fn_runX T.count_sketch.F S_count_sketch rfl rfl fun cdv A outer s H E hcd gd hr le => (xss_cons (xs_drop (xe_ownX T.check_sketched (ok_check_sketched T Z Zx Lz) gd (hr.mono (by decide)) (by first | exact le | exact True.intro) rd_pure (xa_cons (xe_var 0) (xa_cons (xe_var 1) (xa_cons (xe_var 2) xa_nil))))) (xss_one (xs_ret (xe_B (b_len Z.eK) (by rfl) T.n_len bt_len (xa_cons (xe_ownX T.sketched_by (ok_sketched_by T Z Zx) gd (hr.mono (by decide)) (by first | exact le | exact True.intro) rd_pure (xa_cons (xe_var 0) (xa_cons (xe_var 1) (xa_cons (xe_var 2) xa_nil)))) xa_nil)))))
end
section
variable {P : Program} {W : World} {K : PySem.W.Frag} {mg : Str → Option Value} {base : Heap} {G : Gb}
theorem S_certify_sketch : FnScope ["web", "hues", "sketch"] ["web", "hues", "sketch"] (defScope s_certify_sketch) := ⟨rfl, rfl, rfl, by decide +kernel, rfl, by decide +kernel, by decide +kernel⟩
def c_certify_sketch : CS := (sRet (cTup (cCons (cTup (cCons (cK (.str "sketch")) (cCons (cF (cCall 1 (pureF F_parts_of)) (cCons (cVar 0) cNil)) (cCons (cVar 1) (cCons (cVar 2) (cCons (cF (cCall 3 (pureF F_count_sketch)) (cCons (cVar 0) (cCons (cVar 1) (cCons (cVar 2) cNil)))) cNil)))))) (cCons (cTup cNil) cNil))))
def F_certify_sketch : Fn := cFun 3 3 c_certify_sketch
theorem ok_certify_sketch (T : Tx K mg) (Z : Gz K mg G memoK tsW T.fi) (Zx : Gx T G) (Lz : Lzz T base G) : FnG P W K mg base (L2.CX P W) 11 T.certify_sketch.f T.certify_sketch.fd ["web", "hues", "sketch"] (spF G 3 F_certify_sketch) :=
  fn_runX T.certify_sketch.F S_certify_sketch rfl rfl fun cdv A outer s H E hcd gd hr le => (xss_one (xs_ret (xe_tup (xa_cons (xe_tup (xa_cons xe_str (xa_cons (xe_ownX T.parts_of (ok_parts_of T Z Zx) gd (hr.mono (by decide)) (by first | exact le | exact True.intro) rd_pure (xa_cons (xe_var 0) xa_nil)) (xa_cons (xe_var 1) (xa_cons (xe_var 2) (xa_cons (xe_ownX T.count_sketch (ok_count_sketch T Z Zx Lz) gd (hr.mono (by decide)) (by first | exact le | exact True.intro) rd_pure (xa_cons (xe_var 0) (xa_cons (xe_var 1) (xa_cons (xe_var 2) xa_nil)))) xa_nil)))))) (xa_cons (xe_tup xa_nil) xa_nil)))))
end
section
variable {P : Program} {W : World} {K : PySem.W.Frag} {mg : Str → Option Value} {base : Heap} {G : Gb}
theorem S_fitting : FnScope ["web", "lists"] ["web", "lists"] (defScope s_fitting) := ⟨rfl, rfl, rfl, by decide +kernel, rfl, by decide +kernel, by decide +kernel⟩
def c_fitting : CS := (sSeq (sDrop (cF (cCall 2 (pureF F_check_listed)) (cCons (cVar 0) (cCons (cVar 1) cNil)))) (sRet (cF fTuple (cCons (cF (cCall 2 (pureF F_fitting_by)) (cCons (cVar 0) (cCons (cVar 1) cNil))) cNil))))
def F_fitting : Fn := cFun 2 2 c_fitting
theorem ok_fitting (T : Tx K mg) (Z : Gz K mg G memoK tsW T.fi) (Zx : Gx T G) (Lz : Lzz T base G) : FnG P W K mg base (L2.CX P W) 9 T.fitting.f T.fitting.fd ["web", "lists"] (spF G 2 F_fitting) :=
  fn_runX T.fitting.F S_fitting rfl rfl fun cdv A outer s H E hcd gd hr le => (xss_cons (xs_drop (xe_ownX T.check_listed (ok_check_listed T Z Zx Lz) gd (hr.mono (by decide)) (by first | exact le | exact True.intro) rd_pure (xa_cons (xe_var 0) (xa_cons (xe_var 1) xa_nil)))) (xss_one (xs_ret (xe_Ty (b_tuple Z.eK) (by rfl) T.n_tuple bt_tuple (xa_cons (xe_ownX T.fitting_by (ok_fitting_by T Z Zx) gd (hr.mono (by decide)) (by first | exact le | exact True.intro) rd_pure (xa_cons (xe_var 0) (xa_cons (xe_var 1) xa_nil))) xa_nil)))))
end
section
variable {P : Program} {W : World} {K : PySem.W.Frag} {mg : Str → Option Value} {base : Heap} {G : Gb}
theorem S__law_right : FnScope ["bag", "web", "lists", "hues", "sketch", "place", "due", "rows", "some", "lot", "kept", "late", "told", "more", "last", "ask", "each"] ["bag"] (defScope s__law_right) := ⟨rfl, rfl, rfl, by decide +kernel, rfl, by decide +kernel, by decide +kernel⟩
def tb0 : Nat → Option (Nat × Fn) := fun kk => if kk = 103 then some (2, pureF F_fitting) else if kk = 102 then some (2, pureF F_count_fitting) else if kk = 101 then some (2, pureF F_are_lists_joined) else if kk = 100 then some (2, pureF F_certify_lists) else none
def tb1 : Nat → Option (Nat × List Nat × Fn) := fun kk => if kk = 103 then some (2, [1, 0], pureF F_fitting) else if kk = 102 then some (2, [1, 0], pureF F_count_fitting) else if kk = 101 then some (2, [1, 0], pureF F_are_lists_joined) else if kk = 100 then some (2, [1, 0], pureF F_certify_lists) else none
def tb2 : Nat → Option (Nat × Fn) := fun kk => if kk = 106 then some (3, pureF F_count_sketch) else if kk = 105 then some (3, pureF F_best_look) else if kk = 104 then some (3, pureF F_certify_sketch) else none
def tb3 : Nat → Option (Nat × List Nat × Fn) := fun kk => if kk = 106 then some (3, [2, 1, 0], pureF F_count_sketch) else if kk = 105 then some (3, [2, 1, 0], pureF F_best_look) else if kk = 104 then some (3, [2, 1, 0], pureF F_certify_sketch) else none
def tb4 : Nat → Option (Nat × Fn) := fun kk => if kk = 108 then some (4, pureF F_may_have) else if kk = 107 then some (4, pureF F_certify_may) else none
def tb5 : Nat → Option (Nat × List Nat × Fn) := fun kk => if kk = 108 then some (4, [3, 2, 1, 0], pureF F_may_have) else if kk = 107 then some (4, [3, 2, 1, 0], pureF F_certify_may) else none
def c__law_right : CS := (sSeq (sAsg (cTup (cCons (cF (fun ys => fWeb 4 c_init (ys ++ [])) (cCons (cK (.int 3)) (cCons (cTup (cCons (cTup (cCons (cK (.int 0)) (cCons (cK (.int 1)) cNil))) (cCons (cTup (cCons (cK (.int 1)) (cCons (cK (.int 2)) cNil))) cNil))) cNil))) (cCons (cTup (cCons (cTup (cCons (cK (.int 0)) (cCons (cK (.int 1)) cNil))) (cCons (cTup (cCons (cK (.int 1)) cNil)) (cCons (cTup (cCons (cK (.int 0)) (cCons (cK (.int 2)) cNil))) cNil)))) (cCons (cK (.int 3)) (cCons (cTup (cCons (cTup (cCons (cK (.int 0)) (cCons (cK (.int 0)) cNil))) (cCons (cTup (cCons (cK (.int 2)) (cCons (cK (.int 1)) cNil))) cNil))) (cCons (cK (.int 1)) (cCons (cLst cNil) cNil))))))) (tgTup 6 (tgsCons (tgName 1) (tgsCons (tgName 2) (tgsCons (tgName 3) (tgsCons (tgName 4) (tgsCons (tgName 5) (tgsCons (tgName 6) tgsNil)))))))) (sSeq (sIf (tVal (c2 fEq (cF (cCall 2 takeF) (cCons (cVar 0) (cCons (cK (.int 3)) cNil))) (cK (.int 0)))) (sSeq (sAsg (cF (cCall 2 F__law_pull) (cCons (cVar 0) (cCons (cLst (cCons (cK .non) (cCons (cK (.int 5)) (cCons (cK (.str "web")) (cCons (cTup (cCons (cK (.int 3)) (cCons (cTup (cCons (cTup (cCons (cK (.int 0)) (cCons (cK (.int 1)) cNil))) (cCons (cTup (cCons (cK (.int 1)) (cCons (cK (.int 2)) cNil))) cNil))) cNil))) (cCons (cTup cNil) cNil)))))) cNil))) (tgName 1)) (sAsg (cLst (cCons (cK (.str "web")) (cCons (cVar 1) cNil))) (tgName 6))) sNil) (sSeq (sAsg (cF fList (cCons (cVar 6) cNil)) (tgName 7)) (sSeq (sIf (tVal (c2 fEq (cF (cCall 2 takeF) (cCons (cVar 0) (cCons (cK (.int 2)) cNil))) (cK (.int 0)))) (sSeq (sAsg (cLst (cCons (cK .non) (cCons (cTup cNil) (cCons (cTup (cCons (cK (.int 1)) (cCons (cK (.int 0)) cNil))) (cCons (cTup (cCons (cK (.int 0)) (cCons (cK (.int 0)) cNil))) (cCons (cTup (cCons (cK (.int 4)) cNil)) (cCons (cTup (cCons (c1 fNeg (cK (.int 1))) cNil)) (cCons (cTup (cCons (cK (.bl true)) cNil)) (cCons (cLst (cCons (cK (.int 0)) (cCons (cK (.int 1)) cNil))) (cCons (cK (.int 5)) (cCons (cTup (cCons (cK (.int 0)) (cCons (cK .non) cNil))) cNil))))))))))) (tgName 8)) (sSeq (sAsg (cLst (cCons (cTup (cCons (cK .non) (cCons (cK .non) cNil))) (cCons (cTup (cCons (cSl (cVar 2) (oYes (cK (.int 1))) oNo) (cCons (cK .non) cNil))) (cCons (cTup (cCons (cF fList (cCons (cVar 2) cNil)) (cCons (cK .non) cNil))) (cCons (cTup (cCons (cK (.int 5)) (cCons (cK .non) cNil))) (cCons (cTup (cCons (c2 fAdd (cVar 2) (cTup (cCons (cTup (cCons (cK (.int 0)) cNil)) cNil))) (cCons (cK .non) cNil))) cNil)))))) (tgName 9)) (sSeq (sAsg (c2 fAdd (cVar 9) (cLst (cCons (cTup (cCons (c2 fAdd (cTup (cCons (cF (cCall 2 F__law_pull) (cCons (cVar 0) (cCons (cVar 8) cNil))) cNil)) (cSl (cVar 2) (oYes (cK (.int 1))) oNo)) (cCons (cK (.int 0)) cNil))) cNil))) (tgName 9)) (sSeq (sAsg (c2 fAdd (cVar 9) (cLst (cCons (cTup (cCons (c2 fAdd (c2 fAdd (cSl (cVar 2) oNo (oYes (cK (.int 1)))) (cTup (cCons (cF (cCall 2 F__law_pull) (cCons (cVar 0) (cCons (cVar 8) cNil))) cNil))) (cSl (cVar 2) (oYes (cK (.int 2))) oNo)) (cCons (cK (.int 1)) cNil))) (cCons (cTup (cCons (c2 fAdd (cSl (cVar 2) oNo (oYes (cK (.int 2)))) (cTup (cCons (cTup cNil) cNil))) (cCons (cK (.int 2)) cNil))) cNil)))) (tgName 9)) (sSeq (sAsg (cF (cCall 2 F__law_pull) (cCons (cVar 0) (cCons (cVar 9) cNil))) (tgTup 2 (tgsCons (tgName 2) (tgsCons (tgName 10) tgsNil)))) (sAsg (cIte (tVal (c2 fNe (cVar 7) (cLst cNil))) (cVar 7) (cLst (cCons (cK (.str "lists")) (cCons (cVar 10) cNil)))) (tgName 7))))))) sNil) (sSeq (sIf (tVal (c2 fEq (cF (cCall 2 takeF) (cCons (cVar 0) (cCons (cK (.int 4)) cNil))) (cK (.int 0)))) (sSeq (sAsg (cF (cCall 2 F__law_pull) (cCons (cVar 0) (cCons (cLst (cCons (cK (.int 0)) (cCons (cK (.int 5)) (cCons (c1 fNeg (cK (.int 1))) (cCons (cK (.bl true)) (cCons (cK .non) (cCons (cK (.str "3")) cNil))))))) cNil))) (tgName 3)) (sAsg (cIte (tVal (c2 fNe (cVar 6) (cLst cNil))) (cVar 6) (cLst (cCons (cK (.str "number")) (cCons (cVar 3) cNil)))) (tgName 6))) sNil) (sSeq (sIf (tVal (c2 fEq (cF (cCall 2 takeF) (cCons (cVar 0) (cCons (cK (.int 2)) cNil))) (cK (.int 0)))) (sSeq (sAsg (cLst (cCons (cK .non) (cCons (cTup cNil) (cCons (cTup (cCons (cK (.int 1)) cNil)) (cCons (cTup (cCons (cK (.int 3)) (cCons (cK (.int 0)) cNil))) (cCons (cTup (cCons (c1 fNeg (cK (.int 1))) (cCons (cK (.int 0)) cNil))) (cCons (cTup (cCons (cK (.int 1)) (cCons (cK (.int 3)) cNil))) (cCons (cTup (cCons (cK (.int 1)) (cCons (c1 fNeg (cK (.int 1))) cNil))) (cCons (cTup (cCons (cK (.int 0)) (cCons (cK (.int 2)) cNil))) (cCons (cTup (cCons (cK (.bl true)) (cCons (cK (.int 1)) cNil))) (cCons (cTup (cCons (cK (.int 1)) (cCons (cK (.bl true)) cNil))) (cCons (cLst (cCons (cK (.int 1)) (cCons (cK (.int 1)) cNil))) (cCons (cTup (cCons (cK (.int 1)) (cCons (cK (.int 1)) (cCons (cK (.int 1)) cNil)))) (cCons (cK (.int 5)) cNil)))))))))))))) (tgName 8)) (sSeq (sAsg (cLst (cCons (cTup (cCons (cK .non) (cCons (cK .non) cNil))) (cCons (cTup (cCons (cLst (cCons (cTup (cCons (cK (.int 0)) (cCons (cK (.int 0)) cNil))) cNil)) (cCons (cK .non) cNil))) (cCons (cTup (cCons (cK (.int 5)) (cCons (cK .non) cNil))) (cCons (cTup (cCons (cTup (cCons (cTup (cCons (cK (.int 3)) (cCons (cK (.int 0)) cNil))) cNil)) (cCons (cK (.int 0)) cNil))) (cCons (cTup (cCons (cTup (cCons (cTup (cCons (cK (.int 2)) (cCons (cK (.int 0)) cNil))) (cCons (cTup (cCons (cK (.int 1)) (cCons (cK (.int 0)) cNil))) cNil))) (cCons (cK (.int 1)) cNil))) cNil)))))) (tgName 9)) (sSeq (sAsg (cF (cCall 2 F__law_pull) (cCons (cVar 0) (cCons (c2 fAdd (cVar 9) (cLst (cCons (cTup (cCons (cTup (cCons (cTup (cCons (cK (.int 0)) (cCons (cK (.int 0)) cNil))) (cCons (cF (cCall 2 F__law_pull) (cCons (cVar 0) (cCons (cVar 8) cNil))) cNil))) (cCons (cK (.int 1)) cNil))) cNil))) cNil))) (tgTup 2 (tgsCons (tgName 4) (tgsCons (tgName 10) tgsNil)))) (sAsg (cIte (tVal (c2 fNe (cVar 6) (cLst cNil))) (cVar 6) (cLst (cCons (cK (.str "sketch")) (cCons (cVar 10) cNil)))) (tgName 6))))) sNil) (sSeq (sAsg (cF fList (cCons (cVar 6) cNil)) (tgName 11)) (sSeq (sIf (tVal (c2 fEq (cF (cCall 2 takeF) (cCons (cVar 0) (cCons (cK (.int 3)) cNil))) (cK (.int 0)))) (sSeq (sAsg (cF (cCall 2 F__law_pull) (cCons (cVar 0) (cCons (cLst (cCons (c1 fNeg (cK (.int 1))) (cCons (cK (.int 3)) (cCons (cK (.bl true)) (cCons (cK .non) (cCons (cK (.str "1")) cNil)))))) cNil))) (tgName 5)) (sAsg (cIte (tVal (c2 fNe (cVar 11) (cLst cNil))) (cVar 11) (cLst (cCons (cK (.str "number")) (cCons (cVar 5) cNil)))) (tgName 11))) sNil) (sSeq (sPar3 12 13 14 (cCons (cNew cNil) (cCons (cNew cNil) (cCons (cNew cNil) cNil)))) (sSeq (sFor (iSeq (cLst (cCons (cK (.g 103)) (cCons (cK (.g 102)) (cCons (cK (.g 101)) (cCons (cK (.g 100)) cNil)))))) (tgName 15) (sSeq (sDrop (cLM mAppend (cVar 12) (cCons (cTold 3 [1, 2, 15] (cCallV 15 tb0 (cCons (cVar 1) (cCons (cVar 2) cNil))) h__law_raised) cNil))) (sDrop (cLM mAppend (cVar 12) (cCons (cTold 3 [1, 2, 15] (cKeyV 15 tb1 2 (cCons (cVar 2) (cCons (cVar 1) cNil))) h__law_raised) cNil))))) (sSeq (sFor (iSeq (cLst (cCons (cK (.g 106)) (cCons (cK (.g 105)) (cCons (cK (.g 104)) cNil))))) (tgName 15) (sSeq (sDrop (cLM mAppend (cVar 13) (cCons (cTold 3 [1, 3, 4, 15] (cCallV 15 tb2 (cCons (cVar 1) (cCons (cVar 3) (cCons (cVar 4) cNil)))) h__law_raised) cNil))) (sDrop (cLM mAppend (cVar 13) (cCons (cTold 3 [1, 3, 4, 15] (cKeyV 15 tb3 3 (cCons (cVar 4) (cCons (cVar 3) (cCons (cVar 1) cNil)))) h__law_raised) cNil))))) (sSeq (sFor (iSeq (cLst (cCons (cK (.g 108)) (cCons (cK (.g 107)) cNil)))) (tgName 15) (sSeq (sDrop (cLM mAppend (cVar 14) (cCons (cTold 3 [1, 3, 4, 5, 15] (cCallV 15 tb4 (cCons (cVar 1) (cCons (cVar 3) (cCons (cVar 4) (cCons (cVar 5) cNil))))) h__law_raised) cNil))) (sDrop (cLM mAppend (cVar 14) (cCons (cTold 3 [1, 3, 4, 5, 15] (cKeyV 15 tb5 4 (cCons (cVar 5) (cCons (cVar 4) (cCons (cVar 3) (cCons (cVar 1) cNil))))) h__law_raised) cNil))))) (sSeq (sAsg (cComp [16] (iSeq (cTup (cCons (cVar 6) (cCons (cVar 7) (cCons (cVar 11) cNil))))) (tgName 16) tYesC (cIte (tVal (c2 fNe (cVar 16) (cLst cNil))) (cVar 16) (cLst (cCons (cK (.str "told")) cNil)))) (tgLst 3 (tgsCons (tgName 6) (tgsCons (tgName 7) (tgsCons (tgName 11) tgsNil))))) (sRet (c2 fEq (cF fRepr2 (cCons (cLst (cCons (cVar 12) (cCons (cVar 13) (cCons (cVar 14) cNil)))) cNil)) (cF fRepr (cCons (cLst (cCons (c2 fMulR (cLst (cCons (cVar 7) cNil)) (cK (.int 8))) (cCons (c2 fMulR (cLst (cCons (cVar 6) cNil)) (cK (.int 6))) (cCons (c2 fMulR (cLst (cCons (cVar 11) cNil)) (cK (.int 4))) cNil)))) cNil)))))))))))))))))
def F__law_right : Fn := cFun 1 17 c__law_right
theorem ok__law_right (T : Tx K mg) (Z : Gz K mg G memoK tsW T.fi) (Zx : Gx T G) (Lz : Lzz T base G) : FnG P W K mg base (L2.CX P W) 14 T._law_right.f T._law_right.fd ["bag"] (spF G 1 F__law_right) :=
  fn_runX T._law_right.F S__law_right rfl rfl fun cdv A outer s H E hcd gd hr le => (xss_cons (xs_asg (xe_tup (xa_cons (xe_web Z.eK rfl Z.M (ok_init T Z Zx Lz) gd (hr.mono (by decide)) (by rfl) Z.m T.bi2 .nil (fun _ _ _ => RelCs.nil) rfl (xa_cons xe_int (xa_cons (xe_tup (xa_cons (xe_tup (xa_cons xe_int (xa_cons xe_int xa_nil))) (xa_cons (xe_tup (xa_cons xe_int (xa_cons xe_int xa_nil))) xa_nil))) xa_nil))) (xa_cons (xe_tup (xa_cons (xe_tup (xa_cons xe_int (xa_cons xe_int xa_nil))) (xa_cons (xe_tup (xa_cons xe_int xa_nil)) (xa_cons (xe_tup (xa_cons xe_int (xa_cons xe_int xa_nil))) xa_nil)))) (xa_cons xe_int (xa_cons (xe_tup (xa_cons (xe_tup (xa_cons xe_int (xa_cons xe_int xa_nil))) (xa_cons (xe_tup (xa_cons xe_int (xa_cons xe_int xa_nil))) xa_nil))) (xa_cons xe_int (xa_cons (xe_lst xa_nil) xa_nil))))))) (xg_tup Z.eK rfl (xgs_cons (xg_name S__law_right.nd rfl (by first | exact Or.inl rfl | exact Or.inr rfl)) (xgs_cons (xg_name S__law_right.nd rfl (by first | exact Or.inl rfl | exact Or.inr rfl)) (xgs_cons (xg_name S__law_right.nd rfl (by first | exact Or.inl rfl | exact Or.inr rfl)) (xgs_cons (xg_name S__law_right.nd rfl (by first | exact Or.inl rfl | exact Or.inr rfl)) (xgs_cons (xg_name S__law_right.nd rfl (by first | exact Or.inl rfl | exact Or.inr rfl)) (xgs_cons (xg_name S__law_right.nd rfl (by first | exact Or.inl rfl | exact Or.inr rfl)) xgs_nil)))))))) (xss_cons (xs_if (xt_cmp (o_eq Z.eK hr.u64) (xe_ownX T._law_take (ok__law_take T Z Zx) gd (hr.mono (by decide)) (by first | exact le | exact True.intro) (rd_take tk_ok) (xa_cons (xe_var 0) (xa_cons xe_int xa_nil))) xe_int) (xss_cons (xs_set S__law_right.nd rfl (by first | exact Or.inl rfl | exact Or.inr rfl) (xe_ownX T._law_pull (ok__law_pull T Z Zx) gd (hr.mono (by decide)) (by first | exact le | exact True.intro) rd_idX (xa_cons (xe_var 0) (xa_cons (xe_lst (xa_cons xe_non (xa_cons xe_int (xa_cons xe_str (xa_cons (xe_tup (xa_cons xe_int (xa_cons (xe_tup (xa_cons (xe_tup (xa_cons xe_int (xa_cons xe_int xa_nil))) (xa_cons (xe_tup (xa_cons xe_int (xa_cons xe_int xa_nil))) xa_nil))) xa_nil))) (xa_cons (xe_tup xa_nil) xa_nil)))))) xa_nil)))) (xss_one (xs_set S__law_right.nd rfl (by first | exact Or.inl rfl | exact Or.inr rfl) (xe_lst (xa_cons xe_str (xa_cons (xe_var 1) xa_nil)))))) xss_nil) (xss_cons (xs_set S__law_right.nd rfl (by first | exact Or.inl rfl | exact Or.inr rfl) (xe_Ty (b_list Z.eK) (by rfl) T.n_list bt_list (xa_cons (xe_var 6) xa_nil))) (xss_cons (xs_if (xt_cmp (o_eq Z.eK hr.u64) (xe_ownX T._law_take (ok__law_take T Z Zx) gd (hr.mono (by decide)) (by first | exact le | exact True.intro) (rd_take tk_ok) (xa_cons (xe_var 0) (xa_cons xe_int xa_nil))) xe_int) (xss_cons (xs_set S__law_right.nd rfl (by first | exact Or.inl rfl | exact Or.inr rfl) (xe_lst (xa_cons xe_non (xa_cons (xe_tup xa_nil) (xa_cons (xe_tup (xa_cons xe_int (xa_cons xe_int xa_nil))) (xa_cons (xe_tup (xa_cons xe_int (xa_cons xe_int xa_nil))) (xa_cons (xe_tup (xa_cons xe_int xa_nil)) (xa_cons (xe_tup (xa_cons (xe_un u_neg xe_int) xa_nil)) (xa_cons (xe_tup (xa_cons xe_bl xa_nil)) (xa_cons (xe_lst (xa_cons xe_int (xa_cons xe_int xa_nil))) (xa_cons xe_int (xa_cons (xe_tup (xa_cons xe_int (xa_cons xe_non xa_nil))) xa_nil)))))))))))) (xss_cons (xs_set S__law_right.nd rfl (by first | exact Or.inl rfl | exact Or.inr rfl) (xe_lst (xa_cons (xe_tup (xa_cons xe_non (xa_cons xe_non xa_nil))) (xa_cons (xe_tup (xa_cons (xe_slice Z.eK (xe_var 2) (xo_yes xe_int) xo_no) (xa_cons xe_non xa_nil))) (xa_cons (xe_tup (xa_cons (xe_Ty (b_list Z.eK) (by rfl) T.n_list bt_list (xa_cons (xe_var 2) xa_nil)) (xa_cons xe_non xa_nil))) (xa_cons (xe_tup (xa_cons xe_int (xa_cons xe_non xa_nil))) (xa_cons (xe_tup (xa_cons (xe_op (o_add Z.eK) (xe_var 2) (xe_tup (xa_cons (xe_tup (xa_cons xe_int xa_nil)) xa_nil))) (xa_cons xe_non xa_nil))) xa_nil))))))) (xss_cons (xs_set S__law_right.nd rfl (by first | exact Or.inl rfl | exact Or.inr rfl) (xe_op (o_add Z.eK) (xe_var 9) (xe_lst (xa_cons (xe_tup (xa_cons (xe_op (o_add Z.eK) (xe_tup (xa_cons (xe_ownX T._law_pull (ok__law_pull T Z Zx) gd (hr.mono (by decide)) (by first | exact le | exact True.intro) rd_idX (xa_cons (xe_var 0) (xa_cons (xe_var 8) xa_nil))) xa_nil)) (xe_slice Z.eK (xe_var 2) (xo_yes xe_int) xo_no)) (xa_cons xe_int xa_nil))) xa_nil)))) (xss_cons (xs_set S__law_right.nd rfl (by first | exact Or.inl rfl | exact Or.inr rfl) (xe_op (o_add Z.eK) (xe_var 9) (xe_lst (xa_cons (xe_tup (xa_cons (xe_op (o_add Z.eK) (xe_op (o_add Z.eK) (xe_slice Z.eK (xe_var 2) xo_no (xo_yes xe_int)) (xe_tup (xa_cons (xe_ownX T._law_pull (ok__law_pull T Z Zx) gd (hr.mono (by decide)) (by first | exact le | exact True.intro) rd_idX (xa_cons (xe_var 0) (xa_cons (xe_var 8) xa_nil))) xa_nil))) (xe_slice Z.eK (xe_var 2) (xo_yes xe_int) xo_no)) (xa_cons xe_int xa_nil))) (xa_cons (xe_tup (xa_cons (xe_op (o_add Z.eK) (xe_slice Z.eK (xe_var 2) xo_no (xo_yes xe_int)) (xe_tup (xa_cons (xe_tup xa_nil) xa_nil))) (xa_cons xe_int xa_nil))) xa_nil))))) (xss_cons (xs_asg (xe_ownX T._law_pull (ok__law_pull T Z Zx) gd (hr.mono (by decide)) (by first | exact le | exact True.intro) rd_idX (xa_cons (xe_var 0) (xa_cons (xe_var 9) xa_nil))) (xg_tup Z.eK rfl (xgs_cons (xg_name S__law_right.nd rfl (by first | exact Or.inl rfl | exact Or.inr rfl)) (xgs_cons (xg_name S__law_right.nd rfl (by first | exact Or.inl rfl | exact Or.inr rfl)) xgs_nil)))) (xss_one (xs_set S__law_right.nd rfl (by first | exact Or.inl rfl | exact Or.inr rfl) (xe_ite (xt_cmp (o_ne Z.eK hr.u64) (xe_var 7) (xe_lst xa_nil)) (xe_var 7) (xe_lst (xa_cons xe_str (xa_cons (xe_var 10) xa_nil))))))))))) xss_nil) (xss_cons (xs_if (xt_cmp (o_eq Z.eK hr.u64) (xe_ownX T._law_take (ok__law_take T Z Zx) gd (hr.mono (by decide)) (by first | exact le | exact True.intro) (rd_take tk_ok) (xa_cons (xe_var 0) (xa_cons xe_int xa_nil))) xe_int) (xss_cons (xs_set S__law_right.nd rfl (by first | exact Or.inl rfl | exact Or.inr rfl) (xe_ownX T._law_pull (ok__law_pull T Z Zx) gd (hr.mono (by decide)) (by first | exact le | exact True.intro) rd_idX (xa_cons (xe_var 0) (xa_cons (xe_lst (xa_cons xe_int (xa_cons xe_int (xa_cons (xe_un u_neg xe_int) (xa_cons xe_bl (xa_cons xe_non (xa_cons xe_str xa_nil))))))) xa_nil)))) (xss_one (xs_set S__law_right.nd rfl (by first | exact Or.inl rfl | exact Or.inr rfl) (xe_ite (xt_cmp (o_ne Z.eK hr.u64) (xe_var 6) (xe_lst xa_nil)) (xe_var 6) (xe_lst (xa_cons xe_str (xa_cons (xe_var 3) xa_nil))))))) xss_nil) (xss_cons (xs_if (xt_cmp (o_eq Z.eK hr.u64) (xe_ownX T._law_take (ok__law_take T Z Zx) gd (hr.mono (by decide)) (by first | exact le | exact True.intro) (rd_take tk_ok) (xa_cons (xe_var 0) (xa_cons xe_int xa_nil))) xe_int) (xss_cons (xs_set S__law_right.nd rfl (by first | exact Or.inl rfl | exact Or.inr rfl) (xe_lst (xa_cons xe_non (xa_cons (xe_tup xa_nil) (xa_cons (xe_tup (xa_cons xe_int xa_nil)) (xa_cons (xe_tup (xa_cons xe_int (xa_cons xe_int xa_nil))) (xa_cons (xe_tup (xa_cons (xe_un u_neg xe_int) (xa_cons xe_int xa_nil))) (xa_cons (xe_tup (xa_cons xe_int (xa_cons xe_int xa_nil))) (xa_cons (xe_tup (xa_cons xe_int (xa_cons (xe_un u_neg xe_int) xa_nil))) (xa_cons (xe_tup (xa_cons xe_int (xa_cons xe_int xa_nil))) (xa_cons (xe_tup (xa_cons xe_bl (xa_cons xe_int xa_nil))) (xa_cons (xe_tup (xa_cons xe_int (xa_cons xe_bl xa_nil))) (xa_cons (xe_lst (xa_cons xe_int (xa_cons xe_int xa_nil))) (xa_cons (xe_tup (xa_cons xe_int (xa_cons xe_int (xa_cons xe_int xa_nil)))) (xa_cons xe_int xa_nil))))))))))))))) (xss_cons (xs_set S__law_right.nd rfl (by first | exact Or.inl rfl | exact Or.inr rfl) (xe_lst (xa_cons (xe_tup (xa_cons xe_non (xa_cons xe_non xa_nil))) (xa_cons (xe_tup (xa_cons (xe_lst (xa_cons (xe_tup (xa_cons xe_int (xa_cons xe_int xa_nil))) xa_nil)) (xa_cons xe_non xa_nil))) (xa_cons (xe_tup (xa_cons xe_int (xa_cons xe_non xa_nil))) (xa_cons (xe_tup (xa_cons (xe_tup (xa_cons (xe_tup (xa_cons xe_int (xa_cons xe_int xa_nil))) xa_nil)) (xa_cons xe_int xa_nil))) (xa_cons (xe_tup (xa_cons (xe_tup (xa_cons (xe_tup (xa_cons xe_int (xa_cons xe_int xa_nil))) (xa_cons (xe_tup (xa_cons xe_int (xa_cons xe_int xa_nil))) xa_nil))) (xa_cons xe_int xa_nil))) xa_nil))))))) (xss_cons (xs_asg (xe_ownX T._law_pull (ok__law_pull T Z Zx) gd (hr.mono (by decide)) (by first | exact le | exact True.intro) rd_idX (xa_cons (xe_var 0) (xa_cons (xe_op (o_add Z.eK) (xe_var 9) (xe_lst (xa_cons (xe_tup (xa_cons (xe_tup (xa_cons (xe_tup (xa_cons xe_int (xa_cons xe_int xa_nil))) (xa_cons (xe_ownX T._law_pull (ok__law_pull T Z Zx) gd (hr.mono (by decide)) (by first | exact le | exact True.intro) rd_idX (xa_cons (xe_var 0) (xa_cons (xe_var 8) xa_nil))) xa_nil))) (xa_cons xe_int xa_nil))) xa_nil))) xa_nil))) (xg_tup Z.eK rfl (xgs_cons (xg_name S__law_right.nd rfl (by first | exact Or.inl rfl | exact Or.inr rfl)) (xgs_cons (xg_name S__law_right.nd rfl (by first | exact Or.inl rfl | exact Or.inr rfl)) xgs_nil)))) (xss_one (xs_set S__law_right.nd rfl (by first | exact Or.inl rfl | exact Or.inr rfl) (xe_ite (xt_cmp (o_ne Z.eK hr.u64) (xe_var 6) (xe_lst xa_nil)) (xe_var 6) (xe_lst (xa_cons xe_str (xa_cons (xe_var 10) xa_nil))))))))) xss_nil) (xss_cons (xs_set S__law_right.nd rfl (by first | exact Or.inl rfl | exact Or.inr rfl) (xe_Ty (b_list Z.eK) (by rfl) T.n_list bt_list (xa_cons (xe_var 6) xa_nil))) (xss_cons (xs_if (xt_cmp (o_eq Z.eK hr.u64) (xe_ownX T._law_take (ok__law_take T Z Zx) gd (hr.mono (by decide)) (by first | exact le | exact True.intro) (rd_take tk_ok) (xa_cons (xe_var 0) (xa_cons xe_int xa_nil))) xe_int) (xss_cons (xs_set S__law_right.nd rfl (by first | exact Or.inl rfl | exact Or.inr rfl) (xe_ownX T._law_pull (ok__law_pull T Z Zx) gd (hr.mono (by decide)) (by first | exact le | exact True.intro) rd_idX (xa_cons (xe_var 0) (xa_cons (xe_lst (xa_cons (xe_un u_neg xe_int) (xa_cons xe_int (xa_cons xe_bl (xa_cons xe_non (xa_cons xe_str xa_nil)))))) xa_nil)))) (xss_one (xs_set S__law_right.nd rfl (by first | exact Or.inl rfl | exact Or.inr rfl) (xe_ite (xt_cmp (o_ne Z.eK hr.u64) (xe_var 11) (xe_lst xa_nil)) (xe_var 11) (xe_lst (xa_cons xe_str (xa_cons (xe_var 5) xa_nil))))))) xss_nil) (xss_cons (xs_par3 rfl S__law_right.nd rfl rfl rfl (by decide) (by decide) (by decide) rfl rfl rfl (xa_cons (xe_new xa_nil) (xa_cons (xe_new xa_nil) (xa_cons (xe_new xa_nil) xa_nil))) rfl) (xss_cons (xs_for PassesOwn.leaving rfl (xi_seq Z.eK (xe_lst (xa_cons (xe_gv (by rfl) T.fitting.m Zx.v3) (xa_cons (xe_gv (by rfl) T.count_fitting.m Zx.v2) (xa_cons (xe_gv (by rfl) T.are_lists_joined.m Zx.v1) (xa_cons (xe_gv (by rfl) T.certify_lists.m Zx.v0) xa_nil)))))) (xg_name S__law_right.nd rfl (by first | exact Or.inl rfl | exact Or.inr rfl)) (xss_cons (xs_drop (xe_append (xe_var 12) (xa_cons (xe_told (k := 11) gd (hr.mono (by decide)) (by rfl) T._law_raised.m T._law_raised.F T._law_raised.b S__law_raised rfl rfl (by first | exact Or.inl rfl | exact Or.inr (Or.inl rfl))
      (lamS_by (sc := defScope s__law_right) (by decide +kernel)) Lz.l__law_right.tb (hcd.symm.trans Lz.l__law_right.code) Lz.l__law_right.mem Lz.l__law_right.un rfl (fun _ _ _ _ _ => rfl) (by refine holder__law_raised _ ?_ ?_; exact Z.eK; exact Zx)
      (fun A outer s H E f c' ps gd hr le => have Z := Z.wc f [(c', _)] ps; have Zx : Gx T (G.wc f [(c', _)] ps) := Zx.to rfl rfl; have Lz : Lzz T base (G.wc f [(c', _)] ps) := Lz.to rfl; (xe_callV (k := 10) (tb := tb0) rfl (by first | exact Or.inl rfl | exact Or.inr (Or.inl rfl) | exact Or.inr (Or.inr rfl)) gd (hr.mono (by decide)) (by first | exact le | exact True.intro) (by
        intro kk n F e
        unfold tb0 at e
        by_cases z0 : kk = 103
        · rw [if_pos z0] at e; cases e; subst z0; exact ⟨_, _, _, by rw [Zx.v3]; exact T.fitting.F.kp, T.fitting.b, by rw [Zx.v3]; exact FnG.mono (ok_fitting T Z Zx Lz) (by decide), rd_pure⟩
        rw [if_neg z0] at e
        by_cases z1 : kk = 102
        · rw [if_pos z1] at e; cases e; subst z1; exact ⟨_, _, _, by rw [Zx.v2]; exact T.count_fitting.F.kp, T.count_fitting.b, by rw [Zx.v2]; exact FnG.mono (ok_count_fitting T Z Zx Lz) (by decide), rd_pure⟩
        rw [if_neg z1] at e
        by_cases z2 : kk = 101
        · rw [if_pos z2] at e; cases e; subst z2; exact ⟨_, _, _, by rw [Zx.v1]; exact T.are_lists_joined.F.kp, T.are_lists_joined.b, by rw [Zx.v1]; exact FnG.mono (ok_are_lists_joined T Z Zx Lz) (by decide), rd_pure⟩
        rw [if_neg z2] at e
        by_cases z3 : kk = 100
        · rw [if_pos z3] at e; cases e; subst z3; exact ⟨_, _, _, by rw [Zx.v0]; exact T.certify_lists.F.kp, T.certify_lists.b, by rw [Zx.v0]; exact FnG.mono (ok_certify_lists T Z Zx Lz) (by decide), rd_pure⟩
        rw [if_neg z3] at e
        cases e) (xa_cons (xe_var 1) (xa_cons (xe_var 2) xa_nil))))) xa_nil))) (xss_one (xs_drop (xe_append (xe_var 12) (xa_cons (xe_told (k := 11) gd (hr.mono (by decide)) (by rfl) T._law_raised.m T._law_raised.F T._law_raised.b S__law_raised rfl rfl (by first | exact Or.inl rfl | exact Or.inr (Or.inl rfl))
      (lamS_by (sc := defScope s__law_right) (by decide +kernel)) Lz.l__law_right.tb (hcd.symm.trans Lz.l__law_right.code) Lz.l__law_right.mem Lz.l__law_right.un rfl (fun _ _ _ _ _ => rfl) (by refine holder__law_raised _ ?_ ?_; exact Z.eK; exact Zx)
      (fun A outer s H E f c' ps gd hr le => have Z := Z.wc f [(c', _)] ps; have Zx : Gx T (G.wc f [(c', _)] ps) := Zx.to rfl rfl; have Lz : Lzz T base (G.wc f [(c', _)] ps) := Lz.to rfl; (xe_keyV (k := 10) (tb := tb1) (ks := ["lists", "web"]) rfl (by first | exact Or.inl rfl | exact Or.inr (Or.inl rfl) | exact Or.inr (Or.inr rfl)) gd (hr.mono (by decide)) (by first | exact le | exact True.intro) (by
        intro kk n pm F e
        unfold tb1 at e
        by_cases z0 : kk = 103
        · rw [if_pos z0] at e; cases e; subst z0; exact ⟨_, _, _, by rw [Zx.v3]; exact T.fitting.F.kp, Fun.kp (ks := ["lists", "web"]) (pm := [1, 0]) T.fitting.F fun _ _ _ _ _ _ us ws h1 h2 => match us, ws, h1, h2 with | [], [_, _], _, _ => rfl, by rw [Zx.v3]; exact FnG.mono (ok_fitting T Z Zx Lz) (by decide), rd_pure⟩
        rw [if_neg z0] at e
        by_cases z1 : kk = 102
        · rw [if_pos z1] at e; cases e; subst z1; exact ⟨_, _, _, by rw [Zx.v2]; exact T.count_fitting.F.kp, Fun.kp (ks := ["lists", "web"]) (pm := [1, 0]) T.count_fitting.F fun _ _ _ _ _ _ us ws h1 h2 => match us, ws, h1, h2 with | [], [_, _], _, _ => rfl, by rw [Zx.v2]; exact FnG.mono (ok_count_fitting T Z Zx Lz) (by decide), rd_pure⟩
        rw [if_neg z1] at e
        by_cases z2 : kk = 101
        · rw [if_pos z2] at e; cases e; subst z2; exact ⟨_, _, _, by rw [Zx.v1]; exact T.are_lists_joined.F.kp, Fun.kp (ks := ["lists", "web"]) (pm := [1, 0]) T.are_lists_joined.F fun _ _ _ _ _ _ us ws h1 h2 => match us, ws, h1, h2 with | [], [_, _], _, _ => rfl, by rw [Zx.v1]; exact FnG.mono (ok_are_lists_joined T Z Zx Lz) (by decide), rd_pure⟩
        rw [if_neg z2] at e
        by_cases z3 : kk = 100
        · rw [if_pos z3] at e; cases e; subst z3; exact ⟨_, _, _, by rw [Zx.v0]; exact T.certify_lists.F.kp, Fun.kp (ks := ["lists", "web"]) (pm := [1, 0]) T.certify_lists.F fun _ _ _ _ _ _ us ws h1 h2 => match us, ws, h1, h2 with | [], [_, _], _, _ => rfl, by rw [Zx.v0]; exact FnG.mono (ok_certify_lists T Z Zx Lz) (by decide), rd_pure⟩
        rw [if_neg z3] at e
        cases e) (xk_cons (xe_var 2) (xk_cons (xe_var 1) xk_nil)) rfl))) xa_nil)))))) (xss_cons (xs_for PassesOwn.leaving rfl (xi_seq Z.eK (xe_lst (xa_cons (xe_gv (by rfl) T.count_sketch.m Zx.v6) (xa_cons (xe_gv (by rfl) T.best_look.m Zx.v5) (xa_cons (xe_gv (by rfl) T.certify_sketch.m Zx.v4) xa_nil))))) (xg_name S__law_right.nd rfl (by first | exact Or.inl rfl | exact Or.inr rfl)) (xss_cons (xs_drop (xe_append (xe_var 13) (xa_cons (xe_told (k := 11) gd (hr.mono (by decide)) (by rfl) T._law_raised.m T._law_raised.F T._law_raised.b S__law_raised rfl rfl (by first | exact Or.inl rfl | exact Or.inr (Or.inl rfl))
      (lamS_by (sc := defScope s__law_right) (by decide +kernel)) Lz.l__law_right.tb (hcd.symm.trans Lz.l__law_right.code) Lz.l__law_right.mem Lz.l__law_right.un rfl (fun _ _ _ _ _ => rfl) (by refine holder__law_raised _ ?_ ?_; exact Z.eK; exact Zx)
      (fun A outer s H E f c' ps gd hr le => have Z := Z.wc f [(c', _)] ps; have Zx : Gx T (G.wc f [(c', _)] ps) := Zx.to rfl rfl; have Lz : Lzz T base (G.wc f [(c', _)] ps) := Lz.to rfl; (xe_callV (k := 11) (tb := tb2) rfl (by first | exact Or.inl rfl | exact Or.inr (Or.inl rfl) | exact Or.inr (Or.inr rfl)) gd (hr.mono (by decide)) (by first | exact le | exact True.intro) (by
        intro kk n F e
        unfold tb2 at e
        by_cases z0 : kk = 106
        · rw [if_pos z0] at e; cases e; subst z0; exact ⟨_, _, _, by rw [Zx.v6]; exact T.count_sketch.F.kp, T.count_sketch.b, by rw [Zx.v6]; exact FnG.mono (ok_count_sketch T Z Zx Lz) (by decide), rd_pure⟩
        rw [if_neg z0] at e
        by_cases z1 : kk = 105
        · rw [if_pos z1] at e; cases e; subst z1; exact ⟨_, _, _, by rw [Zx.v5]; exact T.best_look.F.kp, T.best_look.b, by rw [Zx.v5]; exact FnG.mono (ok_best_look T Z Zx Lz) (by decide), rd_pure⟩
        rw [if_neg z1] at e
        by_cases z2 : kk = 104
        · rw [if_pos z2] at e; cases e; subst z2; exact ⟨_, _, _, by rw [Zx.v4]; exact T.certify_sketch.F.kp, T.certify_sketch.b, by rw [Zx.v4]; exact FnG.mono (ok_certify_sketch T Z Zx Lz) (by decide), rd_pure⟩
        rw [if_neg z2] at e
        cases e) (xa_cons (xe_var 1) (xa_cons (xe_var 3) (xa_cons (xe_var 4) xa_nil)))))) xa_nil))) (xss_one (xs_drop (xe_append (xe_var 13) (xa_cons (xe_told (k := 11) gd (hr.mono (by decide)) (by rfl) T._law_raised.m T._law_raised.F T._law_raised.b S__law_raised rfl rfl (by first | exact Or.inl rfl | exact Or.inr (Or.inl rfl))
      (lamS_by (sc := defScope s__law_right) (by decide +kernel)) Lz.l__law_right.tb (hcd.symm.trans Lz.l__law_right.code) Lz.l__law_right.mem Lz.l__law_right.un rfl (fun _ _ _ _ _ => rfl) (by refine holder__law_raised _ ?_ ?_; exact Z.eK; exact Zx)
      (fun A outer s H E f c' ps gd hr le => have Z := Z.wc f [(c', _)] ps; have Zx : Gx T (G.wc f [(c', _)] ps) := Zx.to rfl rfl; have Lz : Lzz T base (G.wc f [(c', _)] ps) := Lz.to rfl; (xe_keyV (k := 11) (tb := tb3) (ks := ["sketch", "hues", "web"]) rfl (by first | exact Or.inl rfl | exact Or.inr (Or.inl rfl) | exact Or.inr (Or.inr rfl)) gd (hr.mono (by decide)) (by first | exact le | exact True.intro) (by
        intro kk n pm F e
        unfold tb3 at e
        by_cases z0 : kk = 106
        · rw [if_pos z0] at e; cases e; subst z0; exact ⟨_, _, _, by rw [Zx.v6]; exact T.count_sketch.F.kp, Fun.kp (ks := ["sketch", "hues", "web"]) (pm := [2, 1, 0]) T.count_sketch.F fun _ _ _ _ _ _ us ws h1 h2 => match us, ws, h1, h2 with | [], [_, _, _], _, _ => rfl, by rw [Zx.v6]; exact FnG.mono (ok_count_sketch T Z Zx Lz) (by decide), rd_pure⟩
        rw [if_neg z0] at e
        by_cases z1 : kk = 105
        · rw [if_pos z1] at e; cases e; subst z1; exact ⟨_, _, _, by rw [Zx.v5]; exact T.best_look.F.kp, Fun.kp (ks := ["sketch", "hues", "web"]) (pm := [2, 1, 0]) T.best_look.F fun _ _ _ _ _ _ us ws h1 h2 => match us, ws, h1, h2 with | [], [_, _, _], _, _ => rfl, by rw [Zx.v5]; exact FnG.mono (ok_best_look T Z Zx Lz) (by decide), rd_pure⟩
        rw [if_neg z1] at e
        by_cases z2 : kk = 104
        · rw [if_pos z2] at e; cases e; subst z2; exact ⟨_, _, _, by rw [Zx.v4]; exact T.certify_sketch.F.kp, Fun.kp (ks := ["sketch", "hues", "web"]) (pm := [2, 1, 0]) T.certify_sketch.F fun _ _ _ _ _ _ us ws h1 h2 => match us, ws, h1, h2 with | [], [_, _, _], _, _ => rfl, by rw [Zx.v4]; exact FnG.mono (ok_certify_sketch T Z Zx Lz) (by decide), rd_pure⟩
        rw [if_neg z2] at e
        cases e) (xk_cons (xe_var 4) (xk_cons (xe_var 3) (xk_cons (xe_var 1) xk_nil))) rfl))) xa_nil)))))) (xss_cons (xs_for PassesOwn.leaving rfl (xi_seq Z.eK (xe_lst (xa_cons (xe_gv (by rfl) T.may_have.m Zx.v8) (xa_cons (xe_gv (by rfl) T.certify_may.m Zx.v7) xa_nil)))) (xg_name S__law_right.nd rfl (by first | exact Or.inl rfl | exact Or.inr rfl)) (xss_cons (xs_drop (xe_append (xe_var 14) (xa_cons (xe_told (k := 11) gd (hr.mono (by decide)) (by rfl) T._law_raised.m T._law_raised.F T._law_raised.b S__law_raised rfl rfl (by first | exact Or.inl rfl | exact Or.inr (Or.inl rfl))
      (lamS_by (sc := defScope s__law_right) (by decide +kernel)) Lz.l__law_right.tb (hcd.symm.trans Lz.l__law_right.code) Lz.l__law_right.mem Lz.l__law_right.un rfl (fun _ _ _ _ _ => rfl) (by refine holder__law_raised _ ?_ ?_; exact Z.eK; exact Zx)
      (fun A outer s H E f c' ps gd hr le => have Z := Z.wc f [(c', _)] ps; have Zx : Gx T (G.wc f [(c', _)] ps) := Zx.to rfl rfl; have Lz : Lzz T base (G.wc f [(c', _)] ps) := Lz.to rfl; (xe_callV (k := 11) (tb := tb4) rfl (by first | exact Or.inl rfl | exact Or.inr (Or.inl rfl) | exact Or.inr (Or.inr rfl)) gd (hr.mono (by decide)) (by first | exact le | exact True.intro) (by
        intro kk n F e
        unfold tb4 at e
        by_cases z0 : kk = 108
        · rw [if_pos z0] at e; cases e; subst z0; exact ⟨_, _, _, by rw [Zx.v8]; exact T.may_have.F.kp, T.may_have.b, by rw [Zx.v8]; exact FnG.mono (ok_may_have T Z Zx Lz) (by decide), rd_pure⟩
        rw [if_neg z0] at e
        by_cases z1 : kk = 107
        · rw [if_pos z1] at e; cases e; subst z1; exact ⟨_, _, _, by rw [Zx.v7]; exact T.certify_may.F.kp, T.certify_may.b, by rw [Zx.v7]; exact FnG.mono (ok_certify_may T Z Zx Lz) (by decide), rd_pure⟩
        rw [if_neg z1] at e
        cases e) (xa_cons (xe_var 1) (xa_cons (xe_var 3) (xa_cons (xe_var 4) (xa_cons (xe_var 5) xa_nil))))))) xa_nil))) (xss_one (xs_drop (xe_append (xe_var 14) (xa_cons (xe_told (k := 11) gd (hr.mono (by decide)) (by rfl) T._law_raised.m T._law_raised.F T._law_raised.b S__law_raised rfl rfl (by first | exact Or.inl rfl | exact Or.inr (Or.inl rfl))
      (lamS_by (sc := defScope s__law_right) (by decide +kernel)) Lz.l__law_right.tb (hcd.symm.trans Lz.l__law_right.code) Lz.l__law_right.mem Lz.l__law_right.un rfl (fun _ _ _ _ _ => rfl) (by refine holder__law_raised _ ?_ ?_; exact Z.eK; exact Zx)
      (fun A outer s H E f c' ps gd hr le => have Z := Z.wc f [(c', _)] ps; have Zx : Gx T (G.wc f [(c', _)] ps) := Zx.to rfl rfl; have Lz : Lzz T base (G.wc f [(c', _)] ps) := Lz.to rfl; (xe_keyV (k := 11) (tb := tb5) (ks := ["place", "sketch", "hues", "web"]) rfl (by first | exact Or.inl rfl | exact Or.inr (Or.inl rfl) | exact Or.inr (Or.inr rfl)) gd (hr.mono (by decide)) (by first | exact le | exact True.intro) (by
        intro kk n pm F e
        unfold tb5 at e
        by_cases z0 : kk = 108
        · rw [if_pos z0] at e; cases e; subst z0; exact ⟨_, _, _, by rw [Zx.v8]; exact T.may_have.F.kp, Fun.kp (ks := ["place", "sketch", "hues", "web"]) (pm := [3, 2, 1, 0]) T.may_have.F fun _ _ _ _ _ _ us ws h1 h2 => match us, ws, h1, h2 with | [], [_, _, _, _], _, _ => rfl, by rw [Zx.v8]; exact FnG.mono (ok_may_have T Z Zx Lz) (by decide), rd_pure⟩
        rw [if_neg z0] at e
        by_cases z1 : kk = 107
        · rw [if_pos z1] at e; cases e; subst z1; exact ⟨_, _, _, by rw [Zx.v7]; exact T.certify_may.F.kp, Fun.kp (ks := ["place", "sketch", "hues", "web"]) (pm := [3, 2, 1, 0]) T.certify_may.F fun _ _ _ _ _ _ us ws h1 h2 => match us, ws, h1, h2 with | [], [_, _, _, _], _, _ => rfl, by rw [Zx.v7]; exact FnG.mono (ok_certify_may T Z Zx Lz) (by decide), rd_pure⟩
        rw [if_neg z1] at e
        cases e) (xk_cons (xe_var 5) (xk_cons (xe_var 4) (xk_cons (xe_var 3) (xk_cons (xe_var 1) xk_nil)))) rfl))) xa_nil)))))) (xss_cons (xs_asg (xe_comp (own := [("each", 16)]) rfl S__law_right.nd (xi_seq Z.eK (xe_tup (xa_cons (xe_var 6) (xa_cons (xe_var 7) (xa_cons (xe_var 11) xa_nil))))) (blkOk_by (N := ["bag", "web", "lists", "hues", "sketch", "place", "due", "rows", "some", "lot", "kept", "late", "told", "more", "last", "ask", "each"]) (sc := defScope s__law_right) (by decide +kernel)) (fun _ _ _ _ _ => (xgw_name S__law_right.nd rfl (by first | exact Or.inl rfl | exact Or.inr rfl) (by decide))) (fun _ _ _ _ _ => xts_nil) (fun _ _ _ _ _ => (xe_ite (xt_cmp (o_ne Z.eK hr.u64) (xe_var 16) (xe_lst xa_nil)) (xe_var 16) (xe_lst (xa_cons xe_str xa_nil))))) (xg_lst Z.eK rfl (xgs_cons (xg_name S__law_right.nd rfl (by first | exact Or.inl rfl | exact Or.inr rfl)) (xgs_cons (xg_name S__law_right.nd rfl (by first | exact Or.inl rfl | exact Or.inr rfl)) (xgs_cons (xg_name S__law_right.nd rfl (by first | exact Or.inl rfl | exact Or.inr rfl)) xgs_nil))))) (xss_one (xs_ret (xe_cmp (o_eq Z.eK hr.u64) (xe_B (b_repr2 Z.eK gd hr.u64) (by rfl) T.n_repr bt_repr (xa_cons (xe_lst (xa_cons (xe_var 12) (xa_cons (xe_var 13) (xa_cons (xe_var 14) xa_nil)))) xa_nil)) (xe_B (b_repr Z.eK gd hr.u64) (by rfl) T.n_repr bt_repr (xa_cons (xe_lst (xa_cons (xe_op (o_mulR) (xe_lst (xa_cons (xe_var 7) xa_nil)) xe_int) (xa_cons (xe_op (o_mulR) (xe_lst (xa_cons (xe_var 6) xa_nil)) xe_int) (xa_cons (xe_op (o_mulR) (xe_lst (xa_cons (xe_var 11) xa_nil)) xe_int) xa_nil)))) xa_nil))))))))))))))))))
end
section
variable {P : Program} {W : World} {K : PySem.W.Frag} {mg : Str → Option Value} {base : Heap} {G : Gb}
theorem S_law : FnScope ["script", "lap", "bag", "turn"] ["script"] (defScope s_law) := ⟨rfl, rfl, rfl, by decide +kernel, rfl, by decide +kernel, by decide +kernel⟩
def c_law : CS := (sSeq (sFor (iRng1 (cCons (cF fMax2 (cCons (cK (.int 2)) (cCons (cF fMin2 (cCons (cF fLen (cCons (cVar 0) cNil)) (cCons (cK (.int 3)) cNil))) cNil))) cNil)) (tgName 1) (sSeq (sAsg (cF (cCall 2 makeF) (cCons (cVar 0) (cCons (cVar 1) cNil))) (tgName 2)) (sIf (tNotC (tVal (cF fAll (cCons (cComp [3] (iRng1 (cCons (cK (.int 12)) cNil)) (tgName 3) tYesC (cF (cCall 1 F__law_right) (cCons (cVar 2) cNil))) cNil)))) (sRet (cK (.bl false))) sNil))) (sRet (cK (.bl true))))
def F_law : Fn := cFun 1 4 c_law
theorem ok_law (T : Tx K mg) (Z : Gz K mg G memoK tsW T.fi) (Zx : Gx T G) (Lz : Lzz T base G) : FnG P W K mg base (L2.CX P W) 15 T.law.f T.law.fd ["script"] (spF G 1 F_law) :=
  fn_runX T.law.F S_law rfl rfl fun cdv A outer s H E hcd gd hr le => (xss_cons (xs_for PassesOwn.leaving rfl (xi_range1 (by rfl) T.n_range (xa_cons (xe_B (b_max2 rfl) (by rfl) T.n_max bt_max (xa_cons xe_int (xa_cons (xe_B (b_min2 rfl) (by rfl) T.n_min bt_min (xa_cons (xe_B (b_len Z.eK) (by rfl) T.n_len bt_len (xa_cons (xe_var 0) xa_nil)) (xa_cons xe_int xa_nil))) xa_nil))) xa_nil)) (xg_name S_law.nd rfl (by first | exact Or.inl rfl | exact Or.inr rfl)) (xss_cons (xs_set S_law.nd rfl (by first | exact Or.inl rfl | exact Or.inr rfl) (xe_ownX T._law_bag (ok__law_bag T Z Zx) gd (hr.mono (by decide)) (by first | exact le | exact True.intro) (rd_make mk_ok) (xa_cons (xe_var 0) (xa_cons (xe_var 1) xa_nil)))) (xss_one (xs_if (xt_not (xt_val (xe_B (b_all rfl) (by rfl) T.n_all bt_all (xa_cons (xe_comp (own := [("turn", 3)]) rfl S_law.nd (xi_range1 (by rfl) T.n_range (xa_cons xe_int xa_nil)) (blkOk_by (N := ["script", "lap", "bag", "turn"]) (sc := defScope s_law) (by decide +kernel)) (fun _ _ _ _ _ => (xgw_name S_law.nd rfl (by first | exact Or.inl rfl | exact Or.inr rfl) (by decide))) (fun _ _ _ _ _ => xts_nil) (fun _ _ _ _ _ => (xe_ownX T._law_right (ok__law_right T Z Zx Lz) gd (hr.mono (by decide)) (by first | exact le | exact True.intro) rd_idX (xa_cons (xe_var 2) xa_nil)))) xa_nil)))) (xss_one (xs_ret xe_bl)) xss_nil)))) (xss_one (xs_ret xe_bl)))
end
end K61

namespace K61
open PySem L2 Rn
/-! ### what is drawn -/
def tup (l : List Int) : CV := .tup (l.map CV.int)
def W2 : CV := .web 3 [tup [0, 1], tup [1, 2]]
def L0 : CV := .tup [tup [0, 1], tup [1], tup [0, 2]]
def S0 : CV := .tup [tup [0, 0], tup [2, 1]]
def websB : List CV := [.non, .int 5, .str "web", .tup [.int 3, .tup [tup [0, 1], tup [1, 2]]], .tup []]
def someL : List CV := [.non, tup [], tup [1, 0], tup [0, 0], tup [4], tup [-1], .tup [.bl true], .lst [.int 0, .int 1], .int 5, .tup [.int 0, .non]]
def lotL (x y : CV) : List (CV × CV) := [(.non, .non), (.tup [tup [1], tup [0, 2]], .non), (.lst [tup [0, 1], tup [1], tup [0, 2]], .non), (.int 5, .non), (.tup [tup [0, 1], tup [1], tup [0, 2], tup [0]], .non),
  (.tup [x, tup [1], tup [0, 2]], .int 0), (.tup [tup [0, 1], y, tup [0, 2]], .int 1), (.tup [tup [0, 1], tup [1], tup []], .int 2)]
def listsB : List (CV × CV) := lotL (tup []) (tup []) ++ someL.flatMap fun x => (lotL x x).drop 5
def huesB : List CV := [.int 0, .int 5, .int (-1), .bl true, .non, .str "3"]
def someS : List CV := [.non, tup [], tup [1], tup [3, 0], tup [-1, 0], tup [1, 3], tup [1, -1], tup [0, 2], .tup [.bl true, .int 1], .tup [.int 1, .bl true], .lst [.int 1, .int 1], tup [1, 1, 1], .int 5]
def lotS (x : CV) : List (CV × CV) := [(.non, .non), (.lst [tup [0, 0]], .non), (.int 5, .non), (.tup [tup [3, 0]], .int 0), (.tup [tup [2, 0], tup [1, 0]], .int 1), (.tup [tup [0, 0], x], .int 1)]
def sketchB : List (CV × CV) := someS.flatMap fun x => if cvEq x .non then lotS x else (lotS x).drop 5
def placesB : List CV := [.int (-1), .int 3, .bl true, .non, .str "1"]
def isWb : CV → Bool
  | .web _ _ => true
  | _ => false
def pair (w : Str) (v : CV) : CV := .lst [.str w, v]
def nil0 : CV := .lst []
def isV : Out CV → CV → Bool
  | .ok x [], v => cvEq x v
  | .ask n f, v => (List.range n).all fun d => isV (f d) v
  | _, _ => false
def ansOf (d : CV) : CV := if cvEq d nil0 then .lst [.str "told"] else d
def orr (a b : CV) : CV := if cvEq a nil0 then b else a
def dW (w : CV) : CV := if isWb w then nil0 else pair "web" w
def dL (l : CV × CV) : CV := if cvEq l.1 L0 then nil0 else pair "lists" l.2
def dH (v : CV) : CV := if cvEq v (.int 3) then nil0 else pair "number" v
def dS (s : CV × CV) : CV := if cvEq s.1 S0 then nil0 else pair "sketch" s.2
def dP (v : CV) : CV := if cvEq v (.int 1) then nil0 else pair "number" v
def ws : List CV := W2 :: websB
def ls : List (CV × CV) := (L0, .non) :: listsB
def hs : List CV := .int 3 :: huesB
def sks : List (CV × CV) := (S0, .non) :: sketchB
def ps : List CV := .int 1 :: placesB
def T1 : CE := cTold 3 [1, 2, 15] (cCallV 15 tb0 (cCons (cVar 1) (cCons (cVar 2) cNil))) h__law_raised
def T2 : CE := cTold 3 [1, 2, 15] (cKeyV 15 tb1 2 (cCons (cVar 2) (cCons (cVar 1) cNil))) h__law_raised
def T3 : CE := cTold 3 [1, 3, 4, 15] (cCallV 15 tb2 (cCons (cVar 1) (cCons (cVar 3) (cCons (cVar 4) cNil)))) h__law_raised
def T4 : CE := cTold 3 [1, 3, 4, 15] (cKeyV 15 tb3 3 (cCons (cVar 4) (cCons (cVar 3) (cCons (cVar 1) cNil)))) h__law_raised
def T5 : CE := cTold 3 [1, 3, 4, 5, 15] (cCallV 15 tb4 (cCons (cVar 1) (cCons (cVar 3) (cCons (cVar 4) (cCons (cVar 5) cNil))))) h__law_raised
def T6 : CE := cTold 3 [1, 3, 4, 5, 15] (cKeyV 15 tb5 4 (cCons (cVar 5) (cCons (cVar 4) (cCons (cVar 3) (cCons (cVar 1) cNil))))) h__law_raised
def Lz0 (w l hu s p : Option CV) (k : Nat) : Lc := [none, w, l, hu, s, p, none, none, none, none, none, none, none, none, none, some (.g k), none]
def okA (w : CV) (l : CV × CV) (k : Nat) : Bool := isV (T1 (Lz0 (some w) (some l.1) none none none k) []) (ansOf (orr (dW w) (dL l))) && isV (T2 (Lz0 (some w) (some l.1) none none none k) []) (ansOf (orr (dW w) (dL l)))
def okB (w hu : CV) (s : CV × CV) (k : Nat) : Bool := isV (T3 (Lz0 (some w) none (some hu) (some s.1) none k) []) (ansOf (orr (orr (dW w) (dH hu)) (dS s))) && isV (T4 (Lz0 (some w) none (some hu) (some s.1) none k) []) (ansOf (orr (orr (dW w) (dH hu)) (dS s)))
def okC (w hu : CV) (s : CV × CV) (p : CV) (k : Nat) : Bool := isV (T5 (Lz0 (some w) none (some hu) (some s.1) (some p) k) []) (ansOf (orr (orr (orr (dW w) (dH hu)) (dS s)) (dP p))) && isV (T6 (Lz0 (some w) none (some hu) (some s.1) (some p) k) []) (ansOf (orr (orr (orr (dW w) (dH hu)) (dS s)) (dP p)))
theorem all_get {α : Type} {f : α → Bool} {L : List α} (d : α) (h : ∀ i, i < L.length → f (L.getD i d) = true) : L.all f = true :=
  List.all_eq_true.mpr fun x hx => by
    obtain ⟨i, hi, e⟩ := List.getElem_of_mem hx
    have z := h i hi
    rw [List.getD_eq_getElem?_getD, List.getElem?_eq_getElem hi, e] at z
    exact z
theorem allA0 : (ls.all fun l => [100, 101, 102, 103].all fun k => okA (ws.getD 0 .non) l k) = true := by decide +kernel
theorem allA1 : (ls.all fun l => [100, 101, 102, 103].all fun k => okA (ws.getD 1 .non) l k) = true := by decide +kernel
theorem allA2 : (ls.all fun l => [100, 101, 102, 103].all fun k => okA (ws.getD 2 .non) l k) = true := by decide +kernel
theorem allA3 : (ls.all fun l => [100, 101, 102, 103].all fun k => okA (ws.getD 3 .non) l k) = true := by decide +kernel
theorem allA4 : (ls.all fun l => [100, 101, 102, 103].all fun k => okA (ws.getD 4 .non) l k) = true := by decide +kernel
theorem allA5 : (ls.all fun l => [100, 101, 102, 103].all fun k => okA (ws.getD 5 .non) l k) = true := by decide +kernel
theorem allA : (ws.all fun w => ls.all fun l => [100, 101, 102, 103].all fun k => okA w l k) = true := by
  refine all_get .non fun i hi => ?_
  match i, hi with
  | 0, _ => exact allA0
  | 1, _ => exact allA1
  | 2, _ => exact allA2
  | 3, _ => exact allA3
  | 4, _ => exact allA4
  | 5, _ => exact allA5
  | n + 6, h => exact absurd (show n + 6 < 6 from h) (by omega)
theorem allB0 : (hs.all fun hu => sks.all fun s => [104, 105, 106].all fun k => okB (ws.getD 0 .non) hu s k) = true := by decide +kernel
theorem allB1 : (hs.all fun hu => sks.all fun s => [104, 105, 106].all fun k => okB (ws.getD 1 .non) hu s k) = true := by decide +kernel
theorem allB2 : (hs.all fun hu => sks.all fun s => [104, 105, 106].all fun k => okB (ws.getD 2 .non) hu s k) = true := by decide +kernel
theorem allB3 : (hs.all fun hu => sks.all fun s => [104, 105, 106].all fun k => okB (ws.getD 3 .non) hu s k) = true := by decide +kernel
theorem allB4 : (hs.all fun hu => sks.all fun s => [104, 105, 106].all fun k => okB (ws.getD 4 .non) hu s k) = true := by decide +kernel
theorem allB5 : (hs.all fun hu => sks.all fun s => [104, 105, 106].all fun k => okB (ws.getD 5 .non) hu s k) = true := by decide +kernel
theorem allB : (ws.all fun w => hs.all fun hu => sks.all fun s => [104, 105, 106].all fun k => okB w hu s k) = true := by
  refine all_get .non fun i hi => ?_
  match i, hi with
  | 0, _ => exact allB0
  | 1, _ => exact allB1
  | 2, _ => exact allB2
  | 3, _ => exact allB3
  | 4, _ => exact allB4
  | 5, _ => exact allB5
  | n + 6, h => exact absurd (show n + 6 < 6 from h) (by omega)
theorem allC0_0 : (sks.all fun s => ps.all fun p => [107, 108].all fun k => okC (ws.getD 0 .non) (hs.getD 0 .non) s p k) = true := by decide +kernel
theorem allC0_1 : (sks.all fun s => ps.all fun p => [107, 108].all fun k => okC (ws.getD 0 .non) (hs.getD 1 .non) s p k) = true := by decide +kernel
theorem allC0_2 : (sks.all fun s => ps.all fun p => [107, 108].all fun k => okC (ws.getD 0 .non) (hs.getD 2 .non) s p k) = true := by decide +kernel
theorem allC0_3 : (sks.all fun s => ps.all fun p => [107, 108].all fun k => okC (ws.getD 0 .non) (hs.getD 3 .non) s p k) = true := by decide +kernel
theorem allC0_4 : (sks.all fun s => ps.all fun p => [107, 108].all fun k => okC (ws.getD 0 .non) (hs.getD 4 .non) s p k) = true := by decide +kernel
theorem allC0_5 : (sks.all fun s => ps.all fun p => [107, 108].all fun k => okC (ws.getD 0 .non) (hs.getD 5 .non) s p k) = true := by decide +kernel
theorem allC0_6 : (sks.all fun s => ps.all fun p => [107, 108].all fun k => okC (ws.getD 0 .non) (hs.getD 6 .non) s p k) = true := by decide +kernel
theorem allC0 : (hs.all fun hu => sks.all fun s => ps.all fun p => [107, 108].all fun k => okC (ws.getD 0 .non) hu s p k) = true := by
  refine all_get .non fun i hi => ?_
  match i, hi with
  | 0, _ => exact allC0_0
  | 1, _ => exact allC0_1
  | 2, _ => exact allC0_2
  | 3, _ => exact allC0_3
  | 4, _ => exact allC0_4
  | 5, _ => exact allC0_5
  | 6, _ => exact allC0_6
  | n + 7, h => exact absurd (show n + 7 < 7 from h) (by omega)
theorem allC1_0 : (sks.all fun s => ps.all fun p => [107, 108].all fun k => okC (ws.getD 1 .non) (hs.getD 0 .non) s p k) = true := by decide +kernel
theorem allC1_1 : (sks.all fun s => ps.all fun p => [107, 108].all fun k => okC (ws.getD 1 .non) (hs.getD 1 .non) s p k) = true := by decide +kernel
theorem allC1_2 : (sks.all fun s => ps.all fun p => [107, 108].all fun k => okC (ws.getD 1 .non) (hs.getD 2 .non) s p k) = true := by decide +kernel
theorem allC1_3 : (sks.all fun s => ps.all fun p => [107, 108].all fun k => okC (ws.getD 1 .non) (hs.getD 3 .non) s p k) = true := by decide +kernel
theorem allC1_4 : (sks.all fun s => ps.all fun p => [107, 108].all fun k => okC (ws.getD 1 .non) (hs.getD 4 .non) s p k) = true := by decide +kernel
theorem allC1_5 : (sks.all fun s => ps.all fun p => [107, 108].all fun k => okC (ws.getD 1 .non) (hs.getD 5 .non) s p k) = true := by decide +kernel
theorem allC1_6 : (sks.all fun s => ps.all fun p => [107, 108].all fun k => okC (ws.getD 1 .non) (hs.getD 6 .non) s p k) = true := by decide +kernel
theorem allC1 : (hs.all fun hu => sks.all fun s => ps.all fun p => [107, 108].all fun k => okC (ws.getD 1 .non) hu s p k) = true := by
  refine all_get .non fun i hi => ?_
  match i, hi with
  | 0, _ => exact allC1_0
  | 1, _ => exact allC1_1
  | 2, _ => exact allC1_2
  | 3, _ => exact allC1_3
  | 4, _ => exact allC1_4
  | 5, _ => exact allC1_5
  | 6, _ => exact allC1_6
  | n + 7, h => exact absurd (show n + 7 < 7 from h) (by omega)
theorem allC2_0 : (sks.all fun s => ps.all fun p => [107, 108].all fun k => okC (ws.getD 2 .non) (hs.getD 0 .non) s p k) = true := by decide +kernel
theorem allC2_1 : (sks.all fun s => ps.all fun p => [107, 108].all fun k => okC (ws.getD 2 .non) (hs.getD 1 .non) s p k) = true := by decide +kernel
theorem allC2_2 : (sks.all fun s => ps.all fun p => [107, 108].all fun k => okC (ws.getD 2 .non) (hs.getD 2 .non) s p k) = true := by decide +kernel
theorem allC2_3 : (sks.all fun s => ps.all fun p => [107, 108].all fun k => okC (ws.getD 2 .non) (hs.getD 3 .non) s p k) = true := by decide +kernel
theorem allC2_4 : (sks.all fun s => ps.all fun p => [107, 108].all fun k => okC (ws.getD 2 .non) (hs.getD 4 .non) s p k) = true := by decide +kernel
theorem allC2_5 : (sks.all fun s => ps.all fun p => [107, 108].all fun k => okC (ws.getD 2 .non) (hs.getD 5 .non) s p k) = true := by decide +kernel
theorem allC2_6 : (sks.all fun s => ps.all fun p => [107, 108].all fun k => okC (ws.getD 2 .non) (hs.getD 6 .non) s p k) = true := by decide +kernel
theorem allC2 : (hs.all fun hu => sks.all fun s => ps.all fun p => [107, 108].all fun k => okC (ws.getD 2 .non) hu s p k) = true := by
  refine all_get .non fun i hi => ?_
  match i, hi with
  | 0, _ => exact allC2_0
  | 1, _ => exact allC2_1
  | 2, _ => exact allC2_2
  | 3, _ => exact allC2_3
  | 4, _ => exact allC2_4
  | 5, _ => exact allC2_5
  | 6, _ => exact allC2_6
  | n + 7, h => exact absurd (show n + 7 < 7 from h) (by omega)
theorem allC3_0 : (sks.all fun s => ps.all fun p => [107, 108].all fun k => okC (ws.getD 3 .non) (hs.getD 0 .non) s p k) = true := by decide +kernel
theorem allC3_1 : (sks.all fun s => ps.all fun p => [107, 108].all fun k => okC (ws.getD 3 .non) (hs.getD 1 .non) s p k) = true := by decide +kernel
theorem allC3_2 : (sks.all fun s => ps.all fun p => [107, 108].all fun k => okC (ws.getD 3 .non) (hs.getD 2 .non) s p k) = true := by decide +kernel
theorem allC3_3 : (sks.all fun s => ps.all fun p => [107, 108].all fun k => okC (ws.getD 3 .non) (hs.getD 3 .non) s p k) = true := by decide +kernel
theorem allC3_4 : (sks.all fun s => ps.all fun p => [107, 108].all fun k => okC (ws.getD 3 .non) (hs.getD 4 .non) s p k) = true := by decide +kernel
theorem allC3_5 : (sks.all fun s => ps.all fun p => [107, 108].all fun k => okC (ws.getD 3 .non) (hs.getD 5 .non) s p k) = true := by decide +kernel
theorem allC3_6 : (sks.all fun s => ps.all fun p => [107, 108].all fun k => okC (ws.getD 3 .non) (hs.getD 6 .non) s p k) = true := by decide +kernel
theorem allC3 : (hs.all fun hu => sks.all fun s => ps.all fun p => [107, 108].all fun k => okC (ws.getD 3 .non) hu s p k) = true := by
  refine all_get .non fun i hi => ?_
  match i, hi with
  | 0, _ => exact allC3_0
  | 1, _ => exact allC3_1
  | 2, _ => exact allC3_2
  | 3, _ => exact allC3_3
  | 4, _ => exact allC3_4
  | 5, _ => exact allC3_5
  | 6, _ => exact allC3_6
  | n + 7, h => exact absurd (show n + 7 < 7 from h) (by omega)
theorem allC4_0 : (sks.all fun s => ps.all fun p => [107, 108].all fun k => okC (ws.getD 4 .non) (hs.getD 0 .non) s p k) = true := by decide +kernel
theorem allC4_1 : (sks.all fun s => ps.all fun p => [107, 108].all fun k => okC (ws.getD 4 .non) (hs.getD 1 .non) s p k) = true := by decide +kernel
theorem allC4_2 : (sks.all fun s => ps.all fun p => [107, 108].all fun k => okC (ws.getD 4 .non) (hs.getD 2 .non) s p k) = true := by decide +kernel
theorem allC4_3 : (sks.all fun s => ps.all fun p => [107, 108].all fun k => okC (ws.getD 4 .non) (hs.getD 3 .non) s p k) = true := by decide +kernel
theorem allC4_4 : (sks.all fun s => ps.all fun p => [107, 108].all fun k => okC (ws.getD 4 .non) (hs.getD 4 .non) s p k) = true := by decide +kernel
theorem allC4_5 : (sks.all fun s => ps.all fun p => [107, 108].all fun k => okC (ws.getD 4 .non) (hs.getD 5 .non) s p k) = true := by decide +kernel
theorem allC4_6 : (sks.all fun s => ps.all fun p => [107, 108].all fun k => okC (ws.getD 4 .non) (hs.getD 6 .non) s p k) = true := by decide +kernel
theorem allC4 : (hs.all fun hu => sks.all fun s => ps.all fun p => [107, 108].all fun k => okC (ws.getD 4 .non) hu s p k) = true := by
  refine all_get .non fun i hi => ?_
  match i, hi with
  | 0, _ => exact allC4_0
  | 1, _ => exact allC4_1
  | 2, _ => exact allC4_2
  | 3, _ => exact allC4_3
  | 4, _ => exact allC4_4
  | 5, _ => exact allC4_5
  | 6, _ => exact allC4_6
  | n + 7, h => exact absurd (show n + 7 < 7 from h) (by omega)
theorem allC5_0 : (sks.all fun s => ps.all fun p => [107, 108].all fun k => okC (ws.getD 5 .non) (hs.getD 0 .non) s p k) = true := by decide +kernel
theorem allC5_1 : (sks.all fun s => ps.all fun p => [107, 108].all fun k => okC (ws.getD 5 .non) (hs.getD 1 .non) s p k) = true := by decide +kernel
theorem allC5_2 : (sks.all fun s => ps.all fun p => [107, 108].all fun k => okC (ws.getD 5 .non) (hs.getD 2 .non) s p k) = true := by decide +kernel
theorem allC5_3 : (sks.all fun s => ps.all fun p => [107, 108].all fun k => okC (ws.getD 5 .non) (hs.getD 3 .non) s p k) = true := by decide +kernel
theorem allC5_4 : (sks.all fun s => ps.all fun p => [107, 108].all fun k => okC (ws.getD 5 .non) (hs.getD 4 .non) s p k) = true := by decide +kernel
theorem allC5_5 : (sks.all fun s => ps.all fun p => [107, 108].all fun k => okC (ws.getD 5 .non) (hs.getD 5 .non) s p k) = true := by decide +kernel
theorem allC5_6 : (sks.all fun s => ps.all fun p => [107, 108].all fun k => okC (ws.getD 5 .non) (hs.getD 6 .non) s p k) = true := by decide +kernel
theorem allC5 : (hs.all fun hu => sks.all fun s => ps.all fun p => [107, 108].all fun k => okC (ws.getD 5 .non) hu s p k) = true := by
  refine all_get .non fun i hi => ?_
  match i, hi with
  | 0, _ => exact allC5_0
  | 1, _ => exact allC5_1
  | 2, _ => exact allC5_2
  | 3, _ => exact allC5_3
  | 4, _ => exact allC5_4
  | 5, _ => exact allC5_5
  | 6, _ => exact allC5_6
  | n + 7, h => exact absurd (show n + 7 < 7 from h) (by omega)
theorem allC : (ws.all fun w => hs.all fun hu => sks.all fun s => ps.all fun p => [107, 108].all fun k => okC w hu s p k) = true := by
  refine all_get .non fun i hi => ?_
  match i, hi with
  | 0, _ => exact allC0
  | 1, _ => exact allC1
  | 2, _ => exact allC2
  | 3, _ => exact allC3
  | 4, _ => exact allC4
  | 5, _ => exact allC5
  | n + 6, h => exact absurd (show n + 6 < 6 from h) (by omega)
/-- a told call, whatever it asks -/
theorem isV_gd {v : CV} {h : CH} : ∀ {o : Out CV}, isV (o.pureL []) v = true → (o.pureL h).Good (fun x h' => x = v ∧ h' = h ∧ noRef v = true) NoX
  | .ok x h', e => by
    unfold Out.pureL at e ⊢
    by_cases nr : noRef x = true
    · rw [if_pos nr] at e ⊢
      have q : cvEq x v = true := e
      have q2 := cvEq_eq q
      subst q2
      exact ⟨rfl, rfl, nr⟩
    · rw [if_neg nr] at e
      cases e
  | .exc k v h', e => by cases e
  | .ask n f, e => fun d hd => isV_gd (List.all_eq_true.mp e d (List.mem_range.mpr hd))
  | .stuck, e => by cases e
end K61

namespace K61
open PySem L2 Rn
theorem pull_good {n : Nat} {h : CH} (eb : h[n]? = some .bag) {xs : List CV} (h0 : xs ≠ []) (hl : xs.length ≤ 4096) : Gd (F__law_pull [.ref n, .lst xs] h) (fun v h' => h' = h ∧ v ∈ xs) NoX := by
  refine ⟨?_⟩
  have hp : 0 < xs.length := List.length_pos_iff.mpr h0
  unfold F__law_pull c__law_pull
  have ln : ∀ h, fLen [.lst xs] h = .ok (.int (xs.length : Nat)) h := fun h => rfl
  simp only [cFun, cVar, cK, c2, c1, cF, cCall, cCons, cNil, cAndV, cOrV, cNotV, cChain, cIte, tVal, tNotC, tAndC, tOrC, bOf, cTup, cLst, cNew, sRet, sRetN, sSeq, sIf, sAsg, sPar, sPar3, sDrop, sNil, tgName, tgTup, tgsCons, tgsNil, tYesC, bind_ok, List.length_cons, List.length_nil, List.map_cons, List.map_nil, List.replicate, List.getElem?_cons_zero, List.getElem?_cons_succ, List.set_cons_zero, List.set_cons_succ, List.cons_append, List.nil_append, Nat.reduceAdd, Nat.reduceSub, if_true, if_false, big, Nat.reduceLeDiff, Bool.not_true, Bool.not_false, reduceIte, wipeL, ln, take_ask eb (show (0 : Int) < (xs.length : Nat) by omega) (show ((xs.length : Nat) : Int) < 1073741824 by omega), bind_ask]
  refine good_ask fun d hd => ?_
  rw [Int.toNat_natCast] at hd
  have e : fIx (.lst xs) (.int (d : Int)) h = .ok xs[d] h := by
    unfold fIx fIxS
    have q : atI xs (d : Int) = some xs[d] := by
      unfold atI ixN
      rw [if_pos (by omega)]
      rw [if_pos (by omega)]
      show xs[(d : Int).toNat]? = _
      rw [Int.toNat_natCast, List.getElem?_eq_getElem hd]
    have s : seqOf h (.lst xs) = some xs := rfl
    simp only [s, q]
  simp only [e, bind_ok]
  exact ⟨rfl, List.getElem_mem hd⟩
/-! ### one choice -/
theorem choice {k : Int} (h1 : 0 < k) (h2 : k < 1073741824) {A : CS} {l : Lc} {h : CH} {n : Nat} {Q : Fl → CH → Prop} (l0 : l[0]? = some (some (.ref n))) (eb : h[n]? = some .bag) (hno : Q (.nx l) h) (hyes : Gd (A l h) Q NoX) :
    Gd (sIf (tVal (c2 fEq (cF (cCall 2 takeF) (cCons (cVar 0) (cCons (cK (.int k)) cNil))) (cK (.int 0)))) A sNil l h) Q NoX := by
  have t : ∀ d : Nat, fEq (.int (d : Int)) (.int 0) h = .ok (.bl (decide ((d : Int) = 0))) h := fun d => by
    unfold fEq fEqG
    rw [toDh_of h (fun k z => by cases z), toDh_of h (fun k z => by cases z)]
    unfold toD
    have s1 : SeqAt.shaped (.int (d : Int)) = true := by simp [SeqAt.shaped, PyData.canLay0, PyData.depth]
    have s2 : SeqAt.shaped (.int (0 : Int)) = true := by simp [SeqAt.shaped, PyData.canLay0, PyData.depth]
    have ev : PyData.eqv (.int (d : Int)) (.int 0) = decide ((d : Int) = 0) := by
      rw [Bool.eq_iff_iff]
      simp [PyData.eqv]
    simp only [s1, s2, ev, and_self, if_true]
    rfl
  unfold sIf tVal
  simp only [c2, cF, cCall, cCons, cVar, cK, cNil, l0, bind_ok, List.length_cons, List.length_nil, if_true, Nat.reduceAdd, take_ask eb h1 h2, bind_ask, t, bOf]
  refine Gd.ask fun d hd => ?_
  by_cases z : (d : Int) = 0
  · rw [decide_eq_true z]
    exact hyes
  · rw [decide_eq_false z]
    exact Gd.ok hno
theorem pulled {xs : List CV} {a : CE} {j : Nat} {l : Lc} {h : CH} {n : Nat} {Q : Fl → CH → Prop} (l0 : l[0]? = some (some (.ref n))) (eb : h[n]? = some .bag) (ea : a l h = .ok (.lst xs) h) (h0 : xs ≠ []) (hl : xs.length ≤ 4096) (H : ∀ v ∈ xs, Q (.nx (l.set j (some v))) h) :
    Gd (sAsg (cF (cCall 2 F__law_pull) (cCons (cVar 0) (cCons a cNil))) (tgName j) l h) Q NoX := by
  refine Gd.asg (Gd.cF (xs := [.ref n, .lst xs]) (h1 := h) ?_ (Gd.call rfl ((pull_good eb h0 hl).mono fun v h' q => ?_)))
  · simp only [cCons, cVar, cNil, l0, bind_ok, ea]
  · obtain ⟨e, hv⟩ := q
    subst e
    exact H v hv
theorem Gd.cF1 {F : Fn} {ce : CE} {l : Lc} {h : CH} {Q : CV → CH → Prop} {E : Nat → Option CV → CH → Prop} (g : Gd (ce l h) (fun v h1 => Gd (F [v] h1) Q E) E) : Gd (Rn.cF F (cCons ce cNil) l h) Q E := by
  unfold Rn.cF cCons cNil
  refine Gd.bind (Gd.bind (g.mono fun v h1 q => ?_))
  exact Gd.bindOk rfl (Gd.ok q)
theorem Gd.args2 {a b : CE} {l : Lc} {h : CH} {Q : List CV → CH → Prop} {E : Nat → Option CV → CH → Prop} (g : Gd (a l h) (fun x h1 => Gd (b l h1) (fun y h2 => Q [x, y] h2) E) E) : Gd (cCons a (cCons b cNil) l h) Q E := by
  unfold cCons cNil
  refine Gd.bind (g.mono fun x h1 q => Gd.bind (Gd.bind (q.mono fun y h2 q => ?_)))
  exact Gd.bindOk rfl (Gd.ok (Gd.ok q))

/-! ### what is due -/
def keptV : List CV := [.non, .int 0, .int 1, .int 2]
def numsV : List CV := huesB ++ placesB
def neB (d : CV) : Bool := !(cvEq d nil0)
def neOk (d : CV) : Prop := ∀ h, fNe d nil0 h = .ok (.bl (neB d)) h
def DOk (d : CV) : Prop := d = nil0 ∨ (∃ v ∈ websB, d = pair "web" v) ∨ (∃ v ∈ keptV, d = pair "lists" v) ∨ (∃ v ∈ numsV, d = pair "number" v) ∨ ∃ v ∈ keptV, d = pair "sketch" v
theorem ne_nil : neOk nil0 := fun h => by kernel_rfl
theorem ne_web {v : CV} (hv : v ∈ websB) : neOk (pair "web" v) := by
  simp only [websB, List.mem_cons, List.not_mem_nil, or_false] at hv
  rcases hv with e | e | e | e | e <;> subst e <;> exact fun h => by kernel_rfl
theorem ne_lists {v : CV} (hv : v ∈ keptV) : neOk (pair "lists" v) := by
  simp only [keptV, List.mem_cons, List.not_mem_nil, or_false] at hv
  rcases hv with e | e | e | e <;> subst e <;> exact fun h => by kernel_rfl
theorem ne_sketch {v : CV} (hv : v ∈ keptV) : neOk (pair "sketch" v) := by
  simp only [keptV, List.mem_cons, List.not_mem_nil, or_false] at hv
  rcases hv with e | e | e | e <;> subst e <;> exact fun h => by kernel_rfl
theorem ne_number {v : CV} (hv : v ∈ numsV) : neOk (pair "number" v) := by
  simp only [numsV, huesB, placesB, List.mem_append, List.mem_cons, List.not_mem_nil, or_false] at hv
  rcases hv with (e | e | e | e | e | e) | e | e | e | e | e <;> subst e <;> exact fun h => by kernel_rfl
theorem DOk.ne {d : CV} (h : DOk d) : neOk d := by
  rcases h with e | ⟨v, hv, e⟩ | ⟨v, hv, e⟩ | ⟨v, hv, e⟩ | ⟨v, hv, e⟩ <;> subst e
  · exact ne_nil
  · exact ne_web hv
  · exact ne_lists hv
  · exact ne_number hv
  · exact ne_sketch hv
theorem DOk.orr {a b : CV} (ha : DOk a) (hb : DOk b) : DOk (orr a b) := by
  unfold K61.orr
  split
  · exact hb
  · exact ha
theorem orr_nil (a : CV) : orr a nil0 = a := by
  unfold orr
  split
  · rename_i h; exact (cvEq_eq h).symm
  · rfl
theorem dW_no : dW W2 = nil0 := rfl
theorem dL_no (k : CV) : dL (L0, k) = nil0 := rfl
theorem dH_no : dH (.int 3) = nil0 := rfl
theorem dS_no (k : CV) : dS (S0, k) = nil0 := rfl
theorem dP_no : dP (.int 1) = nil0 := rfl
theorem dW_yes : (websB.all fun w => !isWb w) = true := by decide +kernel
theorem dL_yes : (listsB.all fun l => !cvEq l.1 L0 && keptV.any fun k => cvEq l.2 k) = true := by decide +kernel
theorem dH_yes : (huesB.all fun v => !cvEq v (.int 3)) = true := by decide +kernel
theorem dS_yes : (sketchB.all fun l => !cvEq l.1 S0 && keptV.any fun k => cvEq l.2 k) = true := by decide +kernel
theorem dP_yes : (placesB.all fun v => !cvEq v (.int 1)) = true := by decide +kernel
theorem dW_of {w : CV} (h : w ∈ websB) : dW w = pair "web" w ∧ DOk (pair "web" w) := by
  have a := List.all_eq_true.mp dW_yes w h
  unfold dW
  rw [if_neg (by simpa using a)]
  exact ⟨rfl, .inr (.inl ⟨w, h, rfl⟩)⟩
theorem any_kept {x : CV} (h : (keptV.any fun k => cvEq x k) = true) : x ∈ keptV := by
  obtain ⟨k, h1, h2⟩ := List.any_eq_true.mp h
  rw [cvEq_eq h2]
  exact h1
theorem dL_of {l : CV × CV} (h : l ∈ listsB) : dL l = pair "lists" l.2 ∧ DOk (pair "lists" l.2) := by
  have a := List.all_eq_true.mp dL_yes l h
  rw [Bool.and_eq_true] at a
  unfold dL
  rw [if_neg (by simpa using a.1)]
  exact ⟨rfl, .inr (.inr (.inl ⟨_, any_kept a.2, rfl⟩))⟩
theorem dH_of {v : CV} (h : v ∈ huesB) : dH v = pair "number" v ∧ DOk (pair "number" v) := by
  have a := List.all_eq_true.mp dH_yes v h
  unfold dH
  rw [if_neg (by simpa using a)]
  exact ⟨rfl, .inr (.inr (.inr (.inl ⟨v, List.mem_append_left _ h, rfl⟩)))⟩
theorem dS_of {l : CV × CV} (h : l ∈ sketchB) : dS l = pair "sketch" l.2 ∧ DOk (pair "sketch" l.2) := by
  have a := List.all_eq_true.mp dS_yes l h
  rw [Bool.and_eq_true] at a
  unfold dS
  rw [if_neg (by simpa using a.1)]
  exact ⟨rfl, .inr (.inr (.inr (.inr ⟨_, any_kept a.2, rfl⟩)))⟩
theorem dP_of {v : CV} (h : v ∈ placesB) : dP v = pair "number" v ∧ DOk (pair "number" v) := by
  have a := List.all_eq_true.mp dP_yes v h
  unfold dP
  rw [if_neg (by simpa using a)]
  exact ⟨rfl, .inr (.inr (.inr (.inl ⟨v, List.mem_append_right _ h, rfl⟩)))⟩
/-- x = y if y != [] else [word, it] -/
theorem due_set {l : Lc} {h : CH} {d x : CV} {word : Str} {i j m : Nat} (hd : neOk d) (hi : l[i]? = some (some d)) (hj : l[j]? = some (some x)) :
    sAsg (cIte (tVal (c2 fNe (cVar i) (cLst cNil))) (cVar i) (cLst (cCons (cK (.str word)) (cCons (cVar j) cNil)))) (tgName m) l h = .ok (.nx (l.set m (some (orr d (pair word x))))) h := by
  have e := hd h
  unfold nil0 at e
  unfold sAsg cIte tVal
  simp only [c2, cVar, cLst, cNil, bind_ok, hi, List.length_nil, show (0 : Nat) ≤ big from by decide, if_true, e, bOf]
  unfold neB orr
  cases q : cvEq d nil0 with
  | true =>
    simp only [Bool.not_true, cCons, cK, cVar, cNil, bind_ok, hj, List.length_cons, List.length_nil, Nat.reduceAdd, show (2 : Nat) ≤ big from by decide, if_true]
    rfl
  | false =>
    simp only [Bool.not_false, hi, bind_ok]
    rfl
theorem Gd.lst1 {a : CE} {l : Lc} {h : CH} {Q : CV → CH → Prop} {E : Nat → Option CV → CH → Prop} (g : Gd (a l h) (fun v h1 => Q (.lst [v]) h1) E) : Gd (cLst (cCons a cNil) l h) Q E := by
  unfold cLst cCons cNil
  refine Gd.bind (Gd.bind (g.mono fun v h1 q => ?_))
  exact Gd.bindOk rfl (Gd.ok (Gd.ok q))
theorem Gd.tup1 {a : CE} {l : Lc} {h : CH} {Q : CV → CH → Prop} {E : Nat → Option CV → CH → Prop} (g : Gd (a l h) (fun v h1 => Q (.tup [v]) h1) E) : Gd (cTup (cCons a cNil) l h) Q E := by
  unfold cTup cCons cNil
  refine Gd.bind (Gd.bind (g.mono fun v h1 q => ?_))
  exact Gd.bindOk rfl (Gd.ok (Gd.ok q))
theorem Gd.tup2 {a b : CE} {l : Lc} {h : CH} {Q : CV → CH → Prop} {E : Nat → Option CV → CH → Prop} (g : Gd (a l h) (fun x h1 => Gd (b l h1) (fun y h2 => Q (.tup [x, y]) h2) E) E) : Gd (cTup (cCons a (cCons b cNil)) l h) Q E := by
  unfold cTup
  exact Gd.bind (Gd.args2 (g.mono fun x h1 q => q.mono fun y h2 q => Gd.ok q))
theorem Gd.op {f : F2} {a b : CE} {l : Lc} {h : CH} {Q : CV → CH → Prop} {E : Nat → Option CV → CH → Prop} (g : Gd (a l h) (fun x h1 => Gd (b l h1) (fun y h2 => Gd (f x y h2) Q E) E) E) : Gd (c2 f a b l h) Q E := by
  unfold c2
  exact Gd.bind (g.mono fun x h1 q => Gd.bind q)
theorem pullE {xs : List CV} {a : CE} {l : Lc} {h : CH} {n : Nat} {Q : CV → CH → Prop} (l0 : l[0]? = some (some (.ref n))) (eb : h[n]? = some .bag) (ea : a l h = .ok (.lst xs) h) (h0 : xs ≠ []) (hl : xs.length ≤ 4096) (H : ∀ v ∈ xs, Q v h) :
    Gd (cF (cCall 2 F__law_pull) (cCons (cVar 0) (cCons a cNil)) l h) Q NoX := by
  refine Gd.cF (xs := [.ref n, .lst xs]) (h1 := h) ?_ (Gd.call rfl ((pull_good eb h0 hl).mono fun v h' q => ?_))
  · simp only [cCons, cVar, cNil, l0, bind_ok, ea]
  · obtain ⟨e, hv⟩ := q
    subst e
    exact H v hv
end K61

namespace K61
open PySem L2 Rn
theorem Gd.lst2 {a b : CE} {l : Lc} {h : CH} {Q : CV → CH → Prop} {E : Nat → Option CV → CH → Prop} (g : Gd (a l h) (fun x h1 => Gd (b l h1) (fun y h2 => Q (.lst [x, y]) h2) E) E) : Gd (cLst (cCons a (cCons b cNil)) l h) Q E := by
  unfold cLst
  exact Gd.bind (Gd.args2 (g.mono fun x h1 q => q.mono fun y h2 q => Gd.ok q))
abbrev LR (n : Nat) (w l hu s p d : CV) (r x8 x9 x10 la : Option CV) : Lc := [some (.ref n), some w, some l, some hu, some s, some p, some d, r, x8, x9, x10, la, none, none, none, none, none]
theorem w2_ok (h : CH) : fWeb 4 c_init [.int 3, .tup [tup [0, 1], tup [1, 2]]] h = .ok W2 h := by kernel_rfl
def pairT (p : CV × CV) : CV := .tup [p.1, p.2]
theorem lot_in {x y : CV} (hx : x ∈ someL) (hy : y ∈ someL) : ∀ q ∈ lotL x y, q ∈ listsB := fun q hq => by
  have pick : ∀ z ∈ someL, ∀ q ∈ (lotL z z).drop 5, q ∈ listsB := fun z hz q hq => List.mem_append_right _ (List.mem_flatMap.mpr ⟨z, hz, hq⟩)
  simp only [lotL, List.mem_cons, List.not_mem_nil, or_false] at hq
  rcases hq with e | e | e | e | e | e | e | e <;> subst e
  · exact List.mem_append_left _ (by simp [lotL])
  · exact List.mem_append_left _ (by simp [lotL])
  · exact List.mem_append_left _ (by simp [lotL])
  · exact List.mem_append_left _ (by simp [lotL])
  · exact List.mem_append_left _ (by simp [lotL])
  · exact pick x hx _ (by simp [lotL])
  · exact pick y hy _ (by simp [lotL])
  · exact List.mem_append_left _ (by simp [lotL])
theorem sk_in {x : CV} (hx : x ∈ someS) : ∀ q ∈ lotS x, q ∈ sketchB := fun q hq => by
  have pick : ∀ z ∈ someS, ∀ q ∈ (lotS z).drop 5, q ∈ sketchB := fun z hz q hq => by
    refine List.mem_flatMap.mpr ⟨z, hz, ?_⟩
    split
    · exact List.mem_of_mem_drop hq
    · exact hq
  have base : ∀ q ∈ (lotS nil0).take 5, q ∈ sketchB := fun q hq => by
    refine List.mem_flatMap.mpr ⟨.non, by simp [someS], ?_⟩
    rw [if_pos (by rfl)]
    exact List.mem_of_mem_take (show q ∈ (lotS .non).take 5 from hq)
  simp only [lotS, List.mem_cons, List.not_mem_nil, or_false] at hq
  rcases hq with e | e | e | e | e | e <;> subst e
  · exact base _ (by simp [lotS])
  · exact base _ (by simp [lotS])
  · exact base _ (by simp [lotS])
  · exact base _ (by simp [lotS])
  · exact base _ (by simp [lotS])
  · exact pick x hx _ (by simp [lotS])
theorem pullG {a : CE} {l : Lc} {h : CH} {n : Nat} {Q : CV → CH → Prop} (l0 : l[0]? = some (some (.ref n))) (eb : h[n]? = some .bag) (g : Gd (a l h) (fun v h1 => h1 = h ∧ ∃ xs, v = .lst xs ∧ xs ≠ [] ∧ xs.length ≤ 4096 ∧ ∀ v ∈ xs, Q v h) NoX) :
    Gd (cF (cCall 2 F__law_pull) (cCons (cVar 0) (cCons a cNil)) l h) Q NoX := by
  unfold Rn.cF
  refine Gd.bind (Gd.args2 (Gd.eq (a := .ref n) (h := h) (by simp only [cVar, l0]) (g.mono fun v h1 q => ?_)))
  obtain ⟨eh, xs, ev, h0, hl, H⟩ := q
  subst eh ev
  refine Gd.call rfl ((pull_good eb h0 hl).mono fun v h' q => ?_)
  obtain ⟨e, hv⟩ := q
  subst e
  exact H v hv
end K61

namespace K61
open PySem L2 Rn
/-! ### what is shown -/
structure Fc (d : PyData) (w p : Nat) : Prop where
  a : d.leavesShort 13 = true
  b : d.showable = true
  c : d.hasDict = false
  e : PyData.strOk d.shown = true
  w : d.weight ≤ w
  p : d.depth ≤ p
structure FcA (ds : List PyData) (w p : Nat) : Prop where
  a : PyData.leavesShortAll 13 ds = true
  b : PyData.showableAll ds = true
  c : PyData.hasDictAll ds = false
  e : ∀ t ∈ PyData.shownAll ds, PyData.strOk t = true
  w : PyData.weightAll ds ≤ ds.length * (w + 1)
  p : PyData.depthAll ds ≤ p
theorem fcA {w p : Nat} : ∀ ds : List PyData, (∀ d ∈ ds, Fc d w p) → FcA ds w p
  | [], _ => by
    refine ⟨rfl, rfl, rfl, fun t ht => ?_, ?_, ?_⟩
    · unfold PyData.shownAll at ht
      cases ht
    · unfold PyData.weightAll
      omega
    · unfold PyData.depthAll
      omega
  | d :: ds, h => by
    have f := h d List.mem_cons_self
    have g := fcA ds fun x hx => h x (List.mem_cons_of_mem _ hx)
    refine ⟨?_, ?_, ?_, fun t ht => ?_, ?_, ?_⟩
    · unfold PyData.leavesShortAll; rw [f.a, g.a]; rfl
    · unfold PyData.showableAll; rw [f.b, g.b]; rfl
    · unfold PyData.hasDictAll; rw [f.c, g.c]; rfl
    · unfold PyData.shownAll at ht
      rcases List.mem_cons.mp ht with e | e
      · rw [e]; exact f.e
      · exact g.e t e
    · unfold PyData.weightAll
      have := f.w
      have := g.w
      rw [List.length_cons, Nat.succ_mul]
      omega
    · unfold PyData.depthAll
      have := f.p
      have := g.p
      omega
theorem fcL {w p : Nat} {ds : List PyData} (h : ∀ d ∈ ds, Fc d w p) : Fc (.list ds) (ds.length * (w + 1)) (p + 1) := by
  have g := fcA ds h
  refine ⟨?_, ?_, ?_, ?_, ?_, ?_⟩
  · unfold PyData.leavesShort; exact g.a
  · unfold PyData.showable; exact g.b
  · unfold PyData.hasDict; exact g.c
  · unfold PyData.shown listText
    exact sh_app (sh_from _ 0 "[" (by decide +kernel) g.e) (by decide +kernel)
  · unfold PyData.weight; exact g.w
  · unfold PyData.depth; have := g.p; omega
def duesL : List CV := nil0 :: (websB.map (pair "web") ++ (keptV.map (pair "lists") ++ (numsV.map (pair "number") ++ keptV.map (pair "sketch"))))
theorem DOk.mem {d : CV} (h : DOk d) : d ∈ duesL := by
  unfold duesL
  rcases h with e | ⟨v, hv, e⟩ | ⟨v, hv, e⟩ | ⟨v, hv, e⟩ | ⟨v, hv, e⟩ <;> subst e
  · exact List.mem_cons_self
  · exact List.mem_cons_of_mem _ (List.mem_append_left _ (List.mem_map_of_mem hv))
  · exact List.mem_cons_of_mem _ (List.mem_append_right _ (List.mem_append_left _ (List.mem_map_of_mem hv)))
  · exact List.mem_cons_of_mem _ (List.mem_append_right _ (List.mem_append_right _ (List.mem_append_left _ (List.mem_map_of_mem hv))))
  · exact List.mem_cons_of_mem _ (List.mem_append_right _ (List.mem_append_right _ (List.mem_append_right _ (List.mem_map_of_mem hv))))
def fct (t : CV) : Bool := match toD t with
  | some d => d.leavesShort 13 && d.showable && !d.hasDict && PyData.strOk d.shown && decide (d.weight ≤ 100) && decide (d.depth ≤ 10)
  | none => false
theorem fct_all : (duesL.all fun d => fct (ansOf d)) = true := by decide +kernel
theorem fc_of {d : CV} (h : DOk d) : ∃ x, toD (ansOf d) = some x ∧ Fc x 100 10 := by
  have a := List.all_eq_true.mp fct_all d h.mem
  unfold fct at a
  split at a
  case h_2 => cases a
  case h_1 x e =>
  simp only [Bool.and_eq_true, decide_eq_true_eq, Bool.not_eq_true'] at a
  obtain ⟨⟨⟨⟨⟨a1, a2⟩, a3⟩, a4⟩, a5⟩, a6⟩ := a
  exact ⟨x, e, a1, a2, a3, a4, a5, a6⟩
theorem Fc.ok {d : PyData} {w p : Nat} (f : Fc d w p) (hw : w ≤ 2 ^ 20) (hp : p ≤ 40) : okShow d = true := by
  unfold okShow
  rw [f.a, f.b, f.c, decide_eq_true (Nat.le_trans f.w hw), decide_eq_true (Nat.le_trans f.p hp)]
  rfl
theorem eq_text {s : Str} (ok : PyData.strOk s = true) (h : CH) : fEq (.str s) (.str s) h = .ok (.bl true) h := by
  unfold fEq fEqG
  have t : toDh h (.str s) = some (.str s) := by
    rw [toDh_of h (fun k z => by cases z)]
    unfold toD
    rfl
  rw [t]
  have sh : SeqAt.shaped (.str s) = true := by simp [SeqAt.shaped, PyData.canLay0, PyData.depth, ok]
  have ev : PyData.eqv (.str s) (.str s) = true := by simp [PyData.eqv]
  simp only [sh, ev, and_self, if_true]
  rfl
/-! ### one loop of two tells -/
theorem Gd.loopN {t : CTg} {body : CS} {Q : Fl → CH → Prop} {E : Nat → Option CV → CH → Prop} (N : Nat) (R : Nat → Lc → CH → Prop) : ∀ (as : List CV) (k : Nat) (l : Lc) (h : CH), k + as.length = N → R k l h → (∀ l h, R N l h → Q (.nx l) h) →
    (∀ k a l h, k < N → a ∈ as → R k l h → ∃ l1, t a l h = .ok l1 h ∧ Gd (body l1 h) (fun f h2 => ∃ l2, f = .nx l2 ∧ R (k + 1) l2 h2) E) → Gd (loopV t body as l h) Q E
  | [], k, l, h, eN, r, hQ, _ => by
    unfold loopV
    have e : k = N := eN
    subst e
    exact Gd.ok (hQ l h r)
  | a :: as, k, l, h, eN, r, hQ, H => by
    have eN' : k + (as.length + 1) = N := eN
    obtain ⟨l1, e, g⟩ := H k a l h (by omega) List.mem_cons_self r
    unfold loopV
    rw [e]
    simp only [bind_ok]
    refine Gd.bind (g.mono fun f h2 q => ?_)
    obtain ⟨l2, ef, r2⟩ := q
    subst ef
    exact Gd.loopN N R as (k + 1) l2 h2 (by omega) r2 hQ fun k a l h hk ha r => H k a l h hk (List.mem_cons_of_mem _ ha) r
theorem app_one {r m : Nat} {T : CE} {l : Lc} {h : CH} {xs : List CV} {v : CV} (lr : l[r]? = some (some (.ref m))) (hm : h[m]? = some (.lst xs)) (hl : xs.length < big) (g : Gd (T l h) (fun x h' => x = v ∧ h' = h ∧ noRef v = true) NoX) :
    Gd (sDrop (cLM mAppend (cVar r) (cCons T cNil)) l h) (fun f h2 => f = .nx l ∧ h2 = h.set m (.lst (xs ++ [v]))) NoX := by
  unfold sDrop cLM
  have lo : lstOf h (.ref m) = some xs := lstOf_at hm
  simp only [cVar, lr, bind_ok, lo]
  unfold cCons cNil
  refine Gd.bind (Gd.bind (Gd.bind (g.mono fun x h1 q => ?_)))
  obtain ⟨ex, eh, nr⟩ := q
  subst ex eh
  refine Gd.bindOk rfl (Gd.ok ?_)
  rw [append_ok hm hl nr]
  exact Gd.ok ⟨rfl, rfl⟩
theorem app_two {r m : Nat} {T U : CE} {l : Lc} {h : CH} {xs : List CV} {v : CV} (lr : l[r]? = some (some (.ref m))) (hm : h[m]? = some (.lst xs)) (hl : xs.length + 1 < big) (g1 : ∀ h, Gd (T l h) (fun x h' => x = v ∧ h' = h ∧ noRef v = true) NoX) (g2 : ∀ h, Gd (U l h) (fun x h' => x = v ∧ h' = h ∧ noRef v = true) NoX) :
    Gd (sSeq (sDrop (cLM mAppend (cVar r) (cCons T cNil))) (sDrop (cLM mAppend (cVar r) (cCons U cNil))) l h) (fun f h2 => f = .nx l ∧ h2 = h.set m (.lst (xs ++ [v, v]))) NoX := by
  refine Gd.seq ((app_one lr hm (by omega) (g1 h)).mono fun f h2 q => ?_)
  obtain ⟨ef, eh⟩ := q
  subst ef eh
  have hm' : (h.set m (.lst (xs ++ [v])))[m]? = some (.lst (xs ++ [v])) := by
    rw [List.getElem?_set_self (List.getElem?_eq_some_iff.mp hm).1]
  refine ⟨_, rfl, (app_one lr hm' (by rw [List.length_append]; exact hl) (g2 _)).mono fun f h2 q => ?_⟩
  obtain ⟨ef, eh⟩ := q
  subst ef eh
  rw [List.set_set, List.append_assoc]
  exact ⟨rfl, rfl⟩
end K61

namespace K61
open PySem L2 Rn
abbrev LU (n : Nat) (w l hu s p d r : CV) (x8 x9 x10 : Option CV) (la : CV) (m : Nat) (z : Option CV) : Lc := [some (.ref n), some w, some l, some hu, some s, some p, some d, some r, x8, x9, x10, some la, some (.ref m), some (.ref (m + 1)), some (.ref (m + 2)), z, none]
abbrev H3 (h : CH) (a b c : List CV) : CH := h ++ [.lst a, .lst b, .lst c]
theorem h3a {h : CH} {a b c : List CV} : (H3 h a b c)[h.length]? = some (.lst a) := by simp [H3]
theorem h3b {h : CH} {a b c : List CV} : (H3 h a b c)[h.length + 1]? = some (.lst b) := by simp [H3]
theorem h3c {h : CH} {a b c : List CV} : (H3 h a b c)[h.length + 2]? = some (.lst c) := by simp [H3]
theorem s3a {h : CH} {a b c x : List CV} : (H3 h a b c).set h.length (.lst x) = H3 h x b c := by simp [H3]
theorem s3b {h : CH} {a b c x : List CV} : (H3 h a b c).set (h.length + 1) (.lst x) = H3 h a x c := by simp [H3]
theorem s3c {h : CH} {a b c x : List CV} : (H3 h a b c).set (h.length + 2) (.lst x) = H3 h a b x := by simp [H3]
theorem rep2 (j : Nat) (t : CV) : List.replicate (2 * j) t ++ [t, t] = List.replicate (2 * (j + 1)) t := by
  exact List.replicate_append_replicate (n := 2 * j) (m := 2) (a := t)
section
variable {n m : Nat} {w hu p d r la : CV} {l s : CV × CV} {x8 x9 x10 : Option CV} {k : Nat}
theorem t12 (e : okA w l k = true) (h : CH) : Gd (T1 (LU n w l.1 hu s.1 p d r x8 x9 x10 la m (some (.g k))) h) (fun x h' => x = ansOf (orr (dW w) (dL l)) ∧ h' = h ∧ noRef (ansOf (orr (dW w) (dL l))) = true) NoX ∧ Gd (T2 (LU n w l.1 hu s.1 p d r x8 x9 x10 la m (some (.g k))) h) (fun x h' => x = ansOf (orr (dW w) (dL l)) ∧ h' = h ∧ noRef (ansOf (orr (dW w) (dL l))) = true) NoX := by
  unfold okA at e
  rw [Bool.and_eq_true] at e
  have c : capL [1, 2, 15] (LU n w l.1 hu s.1 p d r x8 x9 x10 la m (some (.g k))) = capL [1, 2, 15] (Lz0 (some w) (some l.1) none none none k) := by cases x8 <;> cases x9 <;> cases x10 <;> rfl
  unfold T1 T2 cTold at e ⊢
  rw [c]
  exact ⟨⟨isV_gd e.1⟩, ⟨isV_gd e.2⟩⟩
theorem t34 (e : okB w hu s k = true) (h : CH) : Gd (T3 (LU n w l.1 hu s.1 p d r x8 x9 x10 la m (some (.g k))) h) (fun x h' => x = ansOf (orr (orr (dW w) (dH hu)) (dS s)) ∧ h' = h ∧ noRef (ansOf (orr (orr (dW w) (dH hu)) (dS s))) = true) NoX ∧ Gd (T4 (LU n w l.1 hu s.1 p d r x8 x9 x10 la m (some (.g k))) h) (fun x h' => x = ansOf (orr (orr (dW w) (dH hu)) (dS s)) ∧ h' = h ∧ noRef (ansOf (orr (orr (dW w) (dH hu)) (dS s))) = true) NoX := by
  unfold okB at e
  rw [Bool.and_eq_true] at e
  have c : capL [1, 3, 4, 15] (LU n w l.1 hu s.1 p d r x8 x9 x10 la m (some (.g k))) = capL [1, 3, 4, 15] (Lz0 (some w) none (some hu) (some s.1) none k) := by cases x8 <;> cases x9 <;> cases x10 <;> rfl
  unfold T3 T4 cTold at e ⊢
  rw [c]
  exact ⟨⟨isV_gd e.1⟩, ⟨isV_gd e.2⟩⟩
theorem t56 (e : okC w hu s p k = true) (h : CH) : Gd (T5 (LU n w l.1 hu s.1 p d r x8 x9 x10 la m (some (.g k))) h) (fun x h' => x = ansOf (orr (orr (orr (dW w) (dH hu)) (dS s)) (dP p)) ∧ h' = h ∧ noRef (ansOf (orr (orr (orr (dW w) (dH hu)) (dS s)) (dP p))) = true) NoX ∧ Gd (T6 (LU n w l.1 hu s.1 p d r x8 x9 x10 la m (some (.g k))) h) (fun x h' => x = ansOf (orr (orr (orr (dW w) (dH hu)) (dS s)) (dP p)) ∧ h' = h ∧ noRef (ansOf (orr (orr (orr (dW w) (dH hu)) (dS s)) (dP p))) = true) NoX := by
  unfold okC at e
  rw [Bool.and_eq_true] at e
  have c : capL [1, 3, 4, 5, 15] (LU n w l.1 hu s.1 p d r x8 x9 x10 la m (some (.g k))) = capL [1, 3, 4, 5, 15] (Lz0 (some w) none (some hu) (some s.1) (some p) k) := by cases x8 <;> cases x9 <;> cases x10 <;> rfl
  unfold T5 T6 cTold at e ⊢
  rw [c]
  exact ⟨⟨isV_gd e.1⟩, ⟨isV_gd e.2⟩⟩
end
theorem toD_reps {t : CV} {x : PyData} (e : toD t = some x) : ∀ k : Nat, toDs (List.replicate k t) = some (List.replicate k x)
  | 0 => rfl
  | k + 1 => by
    rw [List.replicate_succ, List.replicate_succ]
    unfold toDs
    rw [e, toD_reps e k]
theorem toD_rep {t : CV} {x : PyData} (e : toD t = some x) (k : Nat) : toD (.lst (List.replicate k t)) = some (.list (List.replicate k x)) := by
  unfold toD
  rw [toD_reps e k]
  rfl
theorem ite_ok {l : Lc} {h : CH} {d : CV} {j : Nat} (lj : l[j]? = some (some d)) (hd : neOk d) : cIte (tVal (c2 fNe (cVar j) (cLst cNil))) (cVar j) (cLst (cCons (cK (.str "told")) cNil)) l h = .ok (ansOf d) h := by
  have e := hd h
  unfold nil0 at e
  unfold cIte tVal ansOf
  simp only [c2, cVar, cLst, cNil, bind_ok, lj, List.length_nil, show (0 : Nat) ≤ big from by decide, if_true, e, bOf]
  unfold neB
  cases q : cvEq d nil0 with
  | true =>
    have z : cvEq d nil0 = true := q
    simp only [z, Bool.not_true, cCons, cK, cNil, bind_ok, List.length_cons, List.length_nil, Nat.reduceAdd, show (1 : Nat) ≤ big from by decide, if_true]
  | false =>
    simp only [Bool.not_false, lj, bind_ok]
    rfl
theorem loop2 {T U : CE} {r m : Nat} {v : CV} {ks : List Nat} (mk : Option CV → Lc) {z0 : Option CV} {h : CH} (st : ∀ z k h', tgName 15 (.g k) (mk z) h' = .ok (mk (some (.g k))) h') (lr : ∀ z, (mk z)[r]? = some (some (.ref m))) (hk : ks.length ≤ 4) (hv : h[m]? = some (.lst []))
    (gT : ∀ k ∈ ks, ∀ h, Gd (T (mk (some (.g k))) h) (fun x h' => x = v ∧ h' = h ∧ noRef v = true) NoX) (gU : ∀ k ∈ ks, ∀ h, Gd (U (mk (some (.g k))) h) (fun x h' => x = v ∧ h' = h ∧ noRef v = true) NoX) :
    Gd (loopV (tgName 15) (sSeq (sDrop (cLM mAppend (cVar r) (cCons T cNil))) (sDrop (cLM mAppend (cVar r) (cCons U cNil)))) (ks.map CV.g) (mk z0) h) (fun f h2 => ∃ z, f = .nx (mk z) ∧ h2 = h.set m (.lst (List.replicate (2 * ks.length) v))) NoX := by
  have hm := (List.getElem?_eq_some_iff.mp hv).1
  refine Gd.loopN ks.length (fun j l' h' => ∃ z, l' = mk z ∧ h' = h.set m (.lst (List.replicate (2 * j) v))) _ 0 _ _ (by rw [List.length_map]; omega) ⟨z0, rfl, ?_⟩ (fun l' h' r => ?_) fun j a l' h' hj ha r => ?_
  · have e : h[m] = .lst [] := (List.getElem?_eq_some_iff.mp hv).2
    have q := List.set_getElem_self (as := h) (i := m) hm
    rw [e] at q
    exact q.symm
  · obtain ⟨z, el, eh⟩ := r
    exact ⟨z, by rw [el], eh⟩
  · obtain ⟨z, el, eh⟩ := r
    obtain ⟨k, hk, ea⟩ := List.mem_map.mp ha
    subst el ea
    refine ⟨_, st z k h', (app_two (lr _) (xs := List.replicate (2 * j) v) ?_ ?_ (gT k hk) (gU k hk)).mono fun f h2 q => ?_⟩
    · rw [eh, List.getElem?_set_self hm]
    · rw [List.length_replicate]
      exact Nat.lt_of_le_of_lt (show 2 * j + 1 ≤ 9 by omega) (by decide)
    · obtain ⟨q1, q2⟩ := q
      refine ⟨_, q1, _, rfl, ?_⟩
      rw [q2, eh, List.set_set, rep2]
theorem all_true {α : Type} (f : α → Bool) (xs : List α) (H : ∀ x ∈ xs, f x = true) : (xs.map f).all id = true := by
  rw [List.all_eq_true]
  intro b hb
  obtain ⟨x, hx, e⟩ := List.mem_map.mp hb
  rw [← e]
  exact H x hx
theorem fAll_true {α : Type} {h : CH} (f : α → Bool) (xs : List α) (H : ∀ x ∈ xs, f x = true) : fAll [.lst (xs.map fun x => CV.bl (f x))] h = .ok (.bl true) h := by
  have e : (xs.map fun x => CV.bl (f x)) = (xs.map f).map CV.bl := by rw [List.map_map]; rfl
  rw [e, fAll_bls, all_true f xs H]
theorem compL_goodG {α : Type} {t : CTg} {tt : CTt} {el : CE} (Inv : CH → Prop) (htt : ∀ l h, tt l h = .ok true h) (φ : α → CV) (y : α → CV) (l : Lc) : ∀ (as : List α) (h : CH), Inv h → (∀ a ∈ as, ∀ h, Inv h → ∃ l1, t (φ a) l h = .ok l1 h ∧ (el l1 h).Good (fun v h' => v = y a ∧ Inv h') NoX) → (compL t tt el (as.map φ) l h).Good (fun ys h' => ys = as.map y ∧ Inv h') NoX
  | [], h, iv, _ => ⟨rfl, iv⟩
  | a :: as, h, iv, H => by
    obtain ⟨l1, h1, h3⟩ := H a List.mem_cons_self h iv
    rw [List.map_cons (f := φ), compL, h1]
    simp only [bind_ok, htt]
    refine Out.good_bind.mpr (h3.mono (fun v h' q => ?_) fun _ _ _ q => q)
    obtain ⟨ev, iv'⟩ := q
    subst ev
    refine Out.good_bind.mpr ((compL_goodG Inv htt φ y l as h' iv' fun x hx => H x (List.mem_cons_of_mem _ hx)).mono (fun ys h'' q => ?_) fun _ _ _ q => q)
    obtain ⟨ey, iv''⟩ := q
    subst ey
    exact ⟨rfl, iv''⟩
theorem compG {α : Type} {vs : List Nat} {ci : CI} {t : CTg} {el : CE} (Inv : CH → Prop) (φ : α → CV) (y : α → CV) {l : Lc} {h : CH} (as : List α) (iv : Inv h) (hi : ci l h = .ok (.vals (as.map φ)) h) (hn : as.length ≤ big)
    (H : ∀ a ∈ as, ∀ h, Inv h → ∃ l1, t (φ a) (wipeL l vs) h = .ok l1 h ∧ Gd (el l1 h) (fun v h' => v = y a ∧ Inv h') NoX) : Gd (cComp vs ci t tYesC el l h) (fun c h' => c = .lst (as.map y) ∧ Inv h') NoX := by
  refine ⟨?_⟩
  unfold cComp cComp0
  rw [hi]
  simp only [bind_ok]
  rw [if_pos (by rw [List.length_map]; exact hn)]
  refine good_noExc' (Out.good_bind.mpr ((compL_goodG (tt := tYesC) Inv (fun _ _ => rfl) φ y (wipeL l vs) as h iv fun a ha h iv => let ⟨l1, e, g⟩ := H a ha h iv; ⟨l1, e, g.out⟩).mono (fun ys h' q => ?_) fun _ _ _ q => q))
  obtain ⟨q1, q2⟩ := q
  subst q1
  exact ⟨rfl, q2⟩
end K61

namespace K61
open PySem L2 Rn
theorem inA {k : Nat} (h : k ∈ [103, 102, 101, 100]) : k ∈ [100, 101, 102, 103] := by
  simp at h ⊢
  omega
theorem inB {k : Nat} (h : k ∈ [106, 105, 104]) : k ∈ [104, 105, 106] := by
  simp at h ⊢
  omega
theorem inC {k : Nat} (h : k ∈ [108, 107]) : k ∈ [107, 108] := by
  simp at h ⊢
  omega
theorem right_ok {n : Nat} {h : CH} (eb : h[n]? = some .bag) : Gd (F__law_right [.ref n] h) (fun v h' => v = .bl true ∧ ∃ X, h' = h ++ X) NoX := by
  unfold F__law_right
  refine Gd.fn (l := [some (.ref n), none, none, none, none, none, none, none, none, none, none, none, none, none, none, none, none]) rfl rfl ?_
  unfold c__law_right
  have a1 := w2_ok h
  refine Gd.seqOk (l1 := LR n W2 L0 (.int 3) S0 (.int 1) nil0 none none none none none) (h1 := h) ?_ ?_
  · kernel_rfl
  -- the web
  refine Gd.seq (Gd.mono (Q := fun f h2 => h2 = h ∧ ∃ w ∈ ws, DOk (dW w) ∧ f = .nx (LR n w L0 (.int 3) S0 (.int 1) (dW w) none none none none none)) ?_ fun f h2 q => ?_)
  · refine choice (by decide) (by decide) rfl eb ⟨rfl, W2, List.mem_cons_self, .inl dW_no, by rw [dW_no]⟩ (Gd.seq (pulled (xs := websB) rfl eb rfl (by decide) (by decide) fun v hv => ?_))
    obtain ⟨e1, e2⟩ := dW_of hv
    refine ⟨_, rfl, Gd.eq (a := .nx (LR n v L0 (.int 3) S0 (.int 1) (pair "web" v) none none none none none)) (h := h) rfl ⟨rfl, v, List.mem_cons_of_mem _ hv, by rw [e1]; exact e2, by rw [e1]⟩⟩
  obtain ⟨eh, w, hw, kw, ef⟩ := q
  subst eh ef
  refine ⟨_, rfl, ?_⟩
  have fl : ∀ d, DOk d → ∀ h, fList [d] h = .ok d h := fun d hd h => by
    rcases hd with e | ⟨v, _, e⟩ | ⟨v, _, e⟩ | ⟨v, _, e⟩ | ⟨v, _, e⟩ <;> subst e <;> rfl
  refine Gd.seqOk (l1 := LR n w L0 (.int 3) S0 (.int 1) (dW w) (some (dW w)) none none none none) (h1 := h2) ?_ ?_
  · unfold sAsg
    simp only [cF, cCons, cVar, cNil, bind_ok, List.getElem?_cons_zero, List.getElem?_cons_succ, fl _ kw]
    rfl
  -- the lists
  refine Gd.seq (Gd.mono (Q := fun f h3 => h3 = h2 ∧ ∃ l ∈ ls, ∃ x8 x9 x10, DOk (dL l) ∧ f = .nx (LR n w l.1 (.int 3) S0 (.int 1) (dW w) (some (orr (dW w) (dL l))) x8 x9 x10 none)) ?_ fun f h3 q => ?_)
  · refine choice (by decide) (by decide) rfl eb ⟨rfl, (L0, .non), List.mem_cons_self, none, none, none, .inl (dL_no _), by rw [dL_no, orr_nil]⟩ ?_
    refine Gd.seqOk (l1 := LR n w L0 (.int 3) S0 (.int 1) (dW w) (some (dW w)) (some (.lst someL)) none none none) (h1 := h2) ?_ ?_
    · kernel_rfl
    refine Gd.seqOk (l1 := LR n w L0 (.int 3) S0 (.int 1) (dW w) (some (dW w)) (some (.lst someL)) (some (.lst ((lotL nil0 nil0).take 5 |>.map pairT))) none none) (h1 := h2) ?_ ?_
    · kernel_rfl
    refine Gd.seq (Gd.mono (Q := fun f h3 => h3 = h2 ∧ ∃ x ∈ someL, f = .nx (LR n w L0 (.int 3) S0 (.int 1) (dW w) (some (dW w)) (some (.lst someL)) (some (.lst ((lotL x nil0).take 6 |>.map pairT))) none none)) ?_ fun f h3 q => ?_)
    · refine Gd.asg (Gd.op (Gd.eq (a := .lst ((lotL nil0 nil0).take 5 |>.map pairT)) (h := h2) rfl (Gd.lst1 (Gd.tup2 (Gd.op (Gd.tup1 (pullE (xs := someL) rfl eb rfl (by decide) (by decide) fun x hx => ?_)))))))
      refine Gd.eq (a := .tup [tup [1], tup [0, 2]]) (h := h2) rfl (Gd.eq (a := .tup [x, tup [1], tup [0, 2]]) (h := h2) rfl (Gd.eq (a := .int 0) (h := h2) rfl (Gd.eq (a := .lst ((lotL x nil0).take 6 |>.map pairT)) (h := h2) rfl ⟨rfl, x, hx, rfl⟩)))
    obtain ⟨eh, x, hx, ef⟩ := q
    subst eh ef
    refine ⟨_, rfl, ?_⟩
    refine Gd.seq (Gd.mono (Q := fun f h4 => h4 = h3 ∧ ∃ y ∈ someL, f = .nx (LR n w L0 (.int 3) S0 (.int 1) (dW w) (some (dW w)) (some (.lst someL)) (some (.lst ((lotL x y).map pairT))) none none)) ?_ fun f h4 q => ?_)
    · refine Gd.asg (Gd.op (Gd.eq (a := .lst ((lotL x nil0).take 6 |>.map pairT)) (h := h3) rfl (Gd.lst2 (Gd.tup2 (Gd.op (Gd.op (Gd.eq (a := .tup [tup [0, 1]]) (h := h3) rfl (Gd.tup1 (pullE (xs := someL) rfl eb rfl (by decide) (by decide) fun y hy => ?_)))))))))
      refine Gd.eq (a := .tup [tup [0, 1], y]) (h := h3) rfl (Gd.eq (a := .tup [tup [0, 2]]) (h := h3) rfl (Gd.eq (a := .tup [tup [0, 1], y, tup [0, 2]]) (h := h3) rfl (Gd.eq (a := .int 1) (h := h3) rfl (Gd.eq (a := .tup [.tup [tup [0, 1], tup [1], tup []], .int 2]) (h := h3) rfl (Gd.eq (a := .lst ((lotL x y).map pairT)) (h := h3) rfl ⟨rfl, y, hy, rfl⟩)))))
    obtain ⟨eh, y, hy, ef⟩ := q
    subst eh ef
    refine ⟨_, rfl, ?_⟩
    refine Gd.seq (Gd.mono (Q := fun f h5 => h5 = h4 ∧ ∃ q ∈ lotL x y, f = .nx (LR n w q.1 (.int 3) S0 (.int 1) (dW w) (some (dW w)) (some (.lst someL)) (some (.lst ((lotL x y).map pairT))) (some q.2) none)) ?_ fun f h5 q => ?_)
    · unfold sAsg
      refine Gd.bind (pullE (xs := (lotL x y).map pairT) rfl eb rfl (by simp [lotL]) (by simp [lotL]) fun v hv => ?_)
      obtain ⟨q, hq, e⟩ := List.mem_map.mp hv
      subst e
      exact Gd.eq (a := .nx (LR n w q.1 (.int 3) S0 (.int 1) (dW w) (some (dW w)) (some (.lst someL)) (some (.lst ((lotL x y).map pairT))) (some q.2) none)) (h := h4) rfl ⟨rfl, q, hq, rfl⟩
    obtain ⟨eh, q, hq, ef⟩ := q
    subst eh ef
    refine ⟨_, rfl, ?_⟩
    have hin := lot_in hx hy q hq
    obtain ⟨e1, e2⟩ := dL_of hin
    refine Gd.eq (due_set (d := dW w) (x := q.2) kw.ne rfl rfl) ⟨rfl, q, List.mem_cons_of_mem _ hin, some (.lst someL), some (.lst ((lotL x y).map pairT)), some q.2, by rw [e1]; exact e2, by rw [e1]; rfl⟩
  obtain ⟨eh, l, hl, x8, x9, x10, kl, ef⟩ := q
  subst eh ef
  refine ⟨_, rfl, ?_⟩
  have kr : DOk (orr (dW w) (dL l)) := kw.orr kl
  -- the hues
  refine Gd.seq (Gd.mono (Q := fun f h4 => h4 = h3 ∧ ∃ hu ∈ hs, DOk (dH hu) ∧ f = .nx (LR n w l.1 hu S0 (.int 1) (orr (dW w) (dH hu)) (some (orr (dW w) (dL l))) x8 x9 x10 none)) ?_ fun f h4 q => ?_)
  · refine choice (by decide) (by decide) rfl eb ⟨rfl, .int 3, List.mem_cons_self, .inl dH_no, by rw [dH_no, orr_nil]⟩ (Gd.seq (pulled (xs := huesB) rfl eb rfl (by decide) (by decide) fun v hv => ?_))
    obtain ⟨e1, e2⟩ := dH_of hv
    exact ⟨_, rfl, Gd.eq (due_set (d := dW w) (x := v) kw.ne rfl rfl) ⟨rfl, v, List.mem_cons_of_mem _ hv, by rw [e1]; exact e2, by rw [e1]; rfl⟩⟩
  obtain ⟨eh, hu, hhu, kh, ef⟩ := q
  subst eh ef
  refine ⟨_, rfl, ?_⟩
  have k1 : DOk (orr (dW w) (dH hu)) := kw.orr kh
  -- the sketch
  refine Gd.seq (Gd.mono (Q := fun f h5 => h5 = h4 ∧ ∃ s ∈ sks, ∃ x8 x9 x10, DOk (dS s) ∧ f = .nx (LR n w l.1 hu s.1 (.int 1) (orr (orr (dW w) (dH hu)) (dS s)) (some (orr (dW w) (dL l))) x8 x9 x10 none)) ?_ fun f h5 q => ?_)
  · refine choice (by decide) (by decide) rfl eb ⟨rfl, (S0, .non), List.mem_cons_self, x8, x9, x10, .inl (dS_no _), by rw [dS_no, orr_nil]⟩ ?_
    refine Gd.seqOk (l1 := LR n w l.1 hu S0 (.int 1) (orr (dW w) (dH hu)) (some (orr (dW w) (dL l))) (some (.lst someS)) x9 x10 none) (h1 := h4) ?_ ?_
    · kernel_rfl
    refine Gd.seqOk (l1 := LR n w l.1 hu S0 (.int 1) (orr (dW w) (dH hu)) (some (orr (dW w) (dL l))) (some (.lst someS)) (some (.lst ((lotS nil0).take 5 |>.map pairT))) x10 none) (h1 := h4) ?_ ?_
    · kernel_rfl
    refine Gd.seq (Gd.mono (Q := fun f h5 => h5 = h4 ∧ ∃ x ∈ someS, ∃ q ∈ lotS x, f = .nx (LR n w l.1 hu q.1 (.int 1) (orr (dW w) (dH hu)) (some (orr (dW w) (dL l))) (some (.lst someS)) (some (.lst ((lotS nil0).take 5 |>.map pairT))) (some q.2) none)) ?_ fun f h5 q => ?_)
    · unfold sAsg
      refine Gd.bind (pullG rfl eb (Gd.op (Gd.eq (a := .lst ((lotS nil0).take 5 |>.map pairT)) (h := h4) rfl (Gd.lst1 (Gd.tup2 (Gd.tup2 (Gd.eq (a := tup [0, 0]) (h := h4) rfl (pullE (xs := someS) rfl eb rfl (by decide) (by decide) fun x hx => ?_))))))))
      refine Gd.eq (a := .int 1) (h := h4) rfl (Gd.eq (a := .lst ((lotS x).map pairT)) (h := h4) rfl ⟨rfl, (lotS x).map pairT, rfl, by simp [lotS], by simp [lotS], fun v hv => ?_⟩)
      obtain ⟨q, hq, e⟩ := List.mem_map.mp hv
      subst e
      exact Gd.eq (a := .nx (LR n w l.1 hu q.1 (.int 1) (orr (dW w) (dH hu)) (some (orr (dW w) (dL l))) (some (.lst someS)) (some (.lst ((lotS nil0).take 5 |>.map pairT))) (some q.2) none)) (h := h4) rfl ⟨rfl, x, hx, q, hq, rfl⟩
    obtain ⟨eh, x, hx, q, hq, ef⟩ := q
    subst eh ef
    refine ⟨_, rfl, ?_⟩
    have hin := sk_in hx q hq
    obtain ⟨e1, e2⟩ := dS_of hin
    exact Gd.eq (due_set (d := orr (dW w) (dH hu)) (x := q.2) k1.ne rfl rfl) ⟨rfl, q, List.mem_cons_of_mem _ hin, some (.lst someS), some (.lst ((lotS nil0).take 5 |>.map pairT)), some q.2, by rw [e1]; exact e2, by rw [e1]; rfl⟩
  obtain ⟨eh, s, hsk, y8, y9, y10, ks, ef⟩ := q
  subst eh ef
  refine ⟨_, rfl, ?_⟩
  have k2 : DOk (orr (orr (dW w) (dH hu)) (dS s)) := k1.orr ks
  refine Gd.seqOk (l1 := LR n w l.1 hu s.1 (.int 1) (orr (orr (dW w) (dH hu)) (dS s)) (some (orr (dW w) (dL l))) y8 y9 y10 (some (orr (orr (dW w) (dH hu)) (dS s)))) (h1 := h5) ?_ ?_
  · unfold sAsg
    simp only [cF, cCons, cVar, cNil, bind_ok, List.getElem?_cons_zero, List.getElem?_cons_succ, fl _ k2]
    rfl
  -- the place
  refine Gd.seq (Gd.mono (Q := fun f h6 => h6 = h5 ∧ ∃ p ∈ ps, DOk (dP p) ∧ f = .nx (LR n w l.1 hu s.1 p (orr (orr (dW w) (dH hu)) (dS s)) (some (orr (dW w) (dL l))) y8 y9 y10 (some (orr (orr (orr (dW w) (dH hu)) (dS s)) (dP p))))) ?_ fun f h6 q => ?_)
  · refine choice (by decide) (by decide) rfl eb ⟨rfl, .int 1, List.mem_cons_self, .inl dP_no, by rw [dP_no, orr_nil]⟩ (Gd.seq (pulled (xs := placesB) rfl eb rfl (by decide) (by decide) fun v hv => ?_))
    obtain ⟨e1, e2⟩ := dP_of hv
    exact ⟨_, rfl, Gd.eq (due_set (d := orr (orr (dW w) (dH hu)) (dS s)) (x := v) k2.ne rfl rfl) ⟨rfl, v, List.mem_cons_of_mem _ hv, by rw [e1]; exact e2, by rw [e1]; rfl⟩⟩
  obtain ⟨eh, p, hp, kp, ef⟩ := q
  subst eh ef
  refine ⟨_, rfl, ?_⟩
  have k3 := k2.orr kp
  have aA := fun k hk => List.all_eq_true.mp (List.all_eq_true.mp (List.all_eq_true.mp allA w hw) l hl) k hk
  have aB := fun k hk => List.all_eq_true.mp (List.all_eq_true.mp (List.all_eq_true.mp (List.all_eq_true.mp allB w hw) hu hhu) s hsk) k hk
  have aC := fun k hk => List.all_eq_true.mp (List.all_eq_true.mp (List.all_eq_true.mp (List.all_eq_true.mp (List.all_eq_true.mp allC w hw) hu hhu) s hsk) p hp) k hk
  have gA := fun {d r la x8 x9 x10 m k} hk => t12 (n := n) (w := w) (l := l) (hu := hu) (s := s) (p := p) (d := d) (r := r) (la := la) (x8 := x8) (x9 := x9) (x10 := x10) (m := m) (aA k hk)
  have gB := fun {d r la x8 x9 x10 m k} hk => t34 (n := n) (w := w) (l := l) (hu := hu) (s := s) (p := p) (d := d) (r := r) (la := la) (x8 := x8) (x9 := x9) (x10 := x10) (m := m) (aB k hk)
  have gC := fun {d r la x8 x9 x10 m k} hk => t56 (n := n) (w := w) (l := l) (hu := hu) (s := s) (p := p) (d := d) (r := r) (la := la) (x8 := x8) (x9 := x9) (x10 := x10) (m := m) (aC k hk)
  obtain ⟨xr, e1, f1⟩ := fc_of kr
  obtain ⟨xd, e2, f2⟩ := fc_of k2
  obtain ⟨xl, e3, f3⟩ := fc_of k3
  have n1 := kr.ne
  have n2 := k2.ne
  have n3 := k3.ne
  generalize orr (orr (orr (dW w) (dH hu)) (dS s)) (dP p) = late at *
  generalize orr (orr (dW w) (dH hu)) (dS s) = due at *
  generalize orr (dW w) (dL l) = rows at *
  refine Gd.seqOk (l1 := LU n w l.1 hu s.1 p due rows y8 y9 y10 late h6.length none) (h1 := H3 h6 [] [] []) ?_ ?_
  · show sPar3 12 13 14 (cCons (cNew cNil) (cCons (cNew cNil) (cCons (cNew cNil) cNil))) (LR n w l.1 hu s.1 p due (some rows) y8 y9 y10 (some late)) h6 = _
    unfold sPar3 cNew
    simp only [cCons, cNil, bind_ok, List.length_nil, show (0 : Nat) ≤ big from by decide, show noRefs [] = true from rfl, and_self, if_true, List.length_append, List.length_cons, List.append_assoc]
    rfl
  -- the first loop
  refine Gd.seq (Gd.mono (Q := fun f h2 => ∃ z, f = .nx (LU n w l.1 hu s.1 p due rows y8 y9 y10 late h6.length z) ∧ h2 = H3 h6 (List.replicate 8 (ansOf rows)) [] []) ?_ fun f h2 q => ?_)
  · rw [sFor_vals (xs := [103, 102, 101, 100].map CV.g) (h1 := H3 h6 [] [] []) rfl]
    refine (loop2 (T := T1) (U := T2) (r := 12) (ks := [103, 102, 101, 100]) (z0 := none) (LU n w l.1 hu s.1 p due rows y8 y9 y10 late h6.length) (v := ansOf rows) (m := h6.length) (fun _ _ _ => rfl) (fun _ => rfl) (by decide) h3a (fun k hk h => (gA (inA hk) h).1) (fun k hk h => (gA (inA hk) h).2)).mono fun f h2 q => ?_
    obtain ⟨z, ef, eh⟩ := q
    exact ⟨z, ef, by rw [eh, s3a]; rfl⟩
  obtain ⟨z1, ef, eh⟩ := q
  subst ef eh
  refine ⟨_, rfl, ?_⟩
  -- the second loop
  refine Gd.seq (Gd.mono (Q := fun f h2 => ∃ z, f = .nx (LU n w l.1 hu s.1 p due rows y8 y9 y10 late h6.length z) ∧ h2 = H3 h6 (List.replicate 8 (ansOf rows)) (List.replicate 6 (ansOf due)) []) ?_ fun f h2 q => ?_)
  · rw [sFor_vals (xs := [106, 105, 104].map CV.g) (h1 := H3 h6 (List.replicate 8 (ansOf rows)) [] []) rfl]
    refine (loop2 (T := T3) (U := T4) (r := 13) (ks := [106, 105, 104]) (z0 := z1) (LU n w l.1 hu s.1 p due rows y8 y9 y10 late h6.length) (v := ansOf due) (m := h6.length + 1) (fun _ _ _ => rfl) (fun _ => rfl) (by decide) h3b (fun k hk h => (gB (inB hk) h).1) (fun k hk h => (gB (inB hk) h).2)).mono fun f h2 q => ?_
    obtain ⟨z, ef, eh⟩ := q
    exact ⟨z, ef, by rw [eh, s3b]; rfl⟩
  obtain ⟨z2, ef, eh⟩ := q
  subst ef eh
  refine ⟨_, rfl, ?_⟩
  -- the third loop
  refine Gd.seq (Gd.mono (Q := fun f h2 => ∃ z, f = .nx (LU n w l.1 hu s.1 p due rows y8 y9 y10 late h6.length z) ∧ h2 = H3 h6 (List.replicate 8 (ansOf rows)) (List.replicate 6 (ansOf due)) (List.replicate 4 (ansOf late))) ?_ fun f h2 q => ?_)
  · rw [sFor_vals (xs := [108, 107].map CV.g) (h1 := H3 h6 (List.replicate 8 (ansOf rows)) (List.replicate 6 (ansOf due)) []) rfl]
    refine (loop2 (T := T5) (U := T6) (r := 14) (ks := [108, 107]) (z0 := z2) (LU n w l.1 hu s.1 p due rows y8 y9 y10 late h6.length) (v := ansOf late) (m := h6.length + 2) (fun _ _ _ => rfl) (fun _ => rfl) (by decide) h3c (fun k hk h => (gC (inC hk) h).1) (fun k hk h => (gC (inC hk) h).2)).mono fun f h2 q => ?_
    obtain ⟨z, ef, eh⟩ := q
    exact ⟨z, ef, by rw [eh, s3c]; rfl⟩
  obtain ⟨z3, ef, eh⟩ := q
  subst ef eh
  refine ⟨_, rfl, ?_⟩
  -- the answers
  have cg : Gd (cComp [16] (iSeq (cTup (cCons (cVar 6) (cCons (cVar 7) (cCons (cVar 11) cNil))))) (tgName 16) tYesC (cIte (tVal (c2 fNe (cVar 16) (cLst cNil))) (cVar 16) (cLst (cCons (cK (.str "told")) cNil))) (LU n w l.1 hu s.1 p due rows y8 y9 y10 late h6.length z3) (H3 h6 (List.replicate 8 (ansOf rows)) (List.replicate 6 (ansOf due)) (List.replicate 4 (ansOf late)))) (fun v h' => v = .lst ([due, rows, late].map ansOf) ∧ h' = H3 h6 (List.replicate 8 (ansOf rows)) (List.replicate 6 (ansOf due)) (List.replicate 4 (ansOf late))) NoX := by
    refine compG (fun h' => h' = H3 h6 (List.replicate 8 (ansOf rows)) (List.replicate 6 (ansOf due)) (List.replicate 4 (ansOf late))) id ansOf [due, rows, late] rfl rfl (show (3 : Nat) ≤ big by decide) fun a ha h' iv => ⟨[some (.ref n), some w, some l.1, some hu, some s.1, some p, some due, some rows, y8, y9, y10, some late, some (.ref h6.length), some (.ref (h6.length + 1)), some (.ref (h6.length + 2)), z3, some a], rfl, ?_⟩
    have na : neOk a := by
      simp only [List.mem_cons, List.not_mem_nil, or_false] at ha
      rcases ha with e | e | e <;> subst e <;> assumption
    exact Gd.eq (ite_ok (j := 16) rfl na) ⟨rfl, iv⟩
  generalize cIte (tVal (c2 fNe (cVar 16) (cLst cNil))) (cVar 16) (cLst (cCons (cK (.str "told")) cNil)) = CI at cg ⊢
  generalize cComp [16] (iSeq (cTup (cCons (cVar 6) (cCons (cVar 7) (cCons (cVar 11) cNil))))) (tgName 16) tYesC CI = CC at cg ⊢
  refine Gd.seq (Gd.mono (Q := fun f h2 => f = .nx (LU n w l.1 hu s.1 p (ansOf due) (ansOf rows) y8 y9 y10 (ansOf late) h6.length z3) ∧ h2 = H3 h6 (List.replicate 8 (ansOf rows)) (List.replicate 6 (ansOf due)) (List.replicate 4 (ansOf late))) ?_ fun f h2 q => ?_)
  · unfold sAsg
    refine Gd.bind (cg.mono fun v h' q => ?_)
    obtain ⟨ev, eh⟩ := q
    subst ev eh
    exact Gd.eq (a := .nx (LU n w l.1 hu s.1 p (ansOf due) (ansOf rows) y8 y9 y10 (ansOf late) h6.length z3)) rfl ⟨rfl, rfl⟩
  obtain ⟨ef, eh⟩ := q
  subst ef
  refine ⟨_, rfl, ?_⟩
  have q1 : toDh2 h2 (.lst [.ref h6.length, .ref (h6.length + 1), .ref (h6.length + 2)]) = some (.list [.list (List.replicate 8 xr), .list (List.replicate 6 xd), .list (List.replicate 4 xl)]) := by
    have a1 : toDh h2 (.ref h6.length) = some (.list (List.replicate 8 xr)) := by
      unfold toDh
      simp only
      rw [eh, h3a]
      exact toD_rep e1 8
    have a2 : toDh h2 (.ref (h6.length + 1)) = some (.list (List.replicate 6 xd)) := by
      unfold toDh
      simp only
      rw [eh, h3b]
      exact toD_rep e2 6
    have a3 : toDh h2 (.ref (h6.length + 2)) = some (.list (List.replicate 4 xl)) := by
      unfold toDh
      simp only
      rw [eh, h3c]
      exact toD_rep e3 4
    unfold toDh2 toDhs toDhs toDhs toDhs
    simp only [a1, a2, a3]
  have q2 : toDh h2 (.lst [.lst (List.replicate 8 (ansOf rows)), .lst (List.replicate 6 (ansOf due)), .lst (List.replicate 4 (ansOf late))]) = some (.list [.list (List.replicate 8 xr), .list (List.replicate 6 xd), .list (List.replicate 4 xl)]) := by
    rw [toDh_of h2 (fun k z => by cases z)]
    unfold toD toDs toDs toDs toDs
    rw [toD_rep e1, toD_rep e2, toD_rep e3]
    rfl
  have fD : Fc (.list [.list (List.replicate 8 xr), .list (List.replicate 6 xd), .list (List.replicate 4 xl)]) (3 * (8 * 101 + 1)) 12 := by
    refine fcL (w := 8 * 101) (p := 11) fun d hd => ?_
    have up : ∀ {x : PyData} {k : Nat}, k ≤ 8 → Fc x 100 10 → Fc (.list (List.replicate k x)) (8 * 101) 11 := fun {x k} hk f => by
      have g := fcL (ds := List.replicate k x) (w := 100) (p := 10) fun d hd => by rw [(List.mem_replicate.mp hd).2]; exact f
      rw [List.length_replicate] at g
      exact ⟨g.a, g.b, g.c, g.e, Nat.le_trans g.w (Nat.mul_le_mul_right _ hk), g.p⟩
    simp only [List.mem_cons, List.not_mem_nil, or_false] at hd
    rcases hd with e | e | e <;> subst e
    · exact up (by decide) f1
    · exact up (by decide) f2
    · exact up (by decide) f3
  have sq : isSeq (PyData.list [.list (List.replicate 8 xr), .list (List.replicate 6 xd), .list (List.replicate 4 xl)]) = true := rfl
  generalize PyData.list [.list (List.replicate 8 xr), .list (List.replicate 6 xd), .list (List.replicate 4 xl)] = D at q1 q2 fD sq
  have r1 : fRepr2 [.lst [.ref h6.length, .ref (h6.length + 1), .ref (h6.length + 2)]] h2 = .ok (.str D.shown) h2 := by
    unfold fRepr2
    simp only
    rw [q1]
    simp only
    rw [if_pos ⟨sq, fD.ok (by decide) (by decide)⟩]
  have r2 : fRepr [.lst [.lst (List.replicate 8 (ansOf rows)), .lst (List.replicate 6 (ansOf due)), .lst (List.replicate 4 (ansOf late))]] h2 = .ok (.str D.shown) h2 := by
    unfold fRepr
    simp only
    rw [q2]
    simp only
    rw [if_pos ⟨sq, fD.ok (by decide) (by decide)⟩]
  have m8 : fMulR (.lst [ansOf rows]) (.int 8) h2 = .ok (.lst (List.replicate 8 (ansOf rows))) h2 := rfl
  have m6 : fMulR (.lst [ansOf due]) (.int 6) h2 = .ok (.lst (List.replicate 6 (ansOf due))) h2 := rfl
  have m4 : fMulR (.lst [ansOf late]) (.int 4) h2 = .ok (.lst (List.replicate 4 (ansOf late))) h2 := rfl
  refine Gd.eq (a := .rt (.bl true)) (h := h2) ?_ ⟨rfl, _, eh⟩
  unfold sRet
  simp only [c2, cF, cCons, cNil, cVar, cK, cLst, List.getElem?_cons_zero, List.getElem?_cons_succ, bind_ok, List.length_cons, List.length_nil, show (0 + 1 : Nat) ≤ big from by decide, show (0 + 1 + 1 + 1 : Nat) ≤ big from by decide, if_true, r1, m8, m6, m4, r2, eq_text fD.e]
end K61

namespace K61
open PySem L2 Rn
theorem plain0 (ns : List Int) (ok : okScr ns = true) : Gd (F_law [.scr ns] []) (fun v _ => v = .bl true) (fun _ _ _ => False) := by
  have hn : ns.length ≤ 63 := by
    unfold okScr at ok
    simp only [Bool.and_eq_true, decide_eq_true_eq] at ok
    exact ok.1
  unfold F_law
  refine Gd.fn (l := [some (.scr ns), none, none, none]) rfl rfl ?_
  unfold c_law
  refine Gd.seq ?_
  have it : ∃ m : Nat, m ≤ 3 ∧ Rn.iRng1 (cCons (cF fMax2 (cCons (cK (.int 2)) (cCons (cF fMin2 (cCons (cF fLen (cCons (cVar 0) cNil)) (cCons (cK (.int 3)) cNil))) cNil))) cNil) [some (.scr ns), none, none, none] [] = .ok (.vals ((rngI 0 m).map CV.int)) [] := by
    have e1 : ∀ h, fLen [.scr ns] h = .ok (.int (ns.length : Nat)) h := fun h => by
      show (Out.ok (CV.int (((ns.map CV.int).length : Nat) : Int)) h : Out CV) = _
      rw [List.length_map]
    have e2 : ∀ h (i : Int), fMin2 [.int i, .int 3] h = .ok (.int (if (3 : Int) < i then 3 else i)) h := fun h i => rfl
    have e3 : ∀ h (i : Int), fMax2 [.int 2, .int i] h = .ok (.int (if i > 2 then i else 2)) h := fun h i => rfl
    obtain ⟨m, em, hm⟩ : ∃ m : Nat, (if (if (3 : Int) < (ns.length : Nat) then 3 else ((ns.length : Nat) : Int)) > 2 then (if (3 : Int) < (ns.length : Nat) then 3 else ((ns.length : Nat) : Int)) else 2) = (m : Int) ∧ m ≤ 3 := by
      refine ⟨(if (if (3 : Int) < (ns.length : Nat) then 3 else ((ns.length : Nat) : Int)) > 2 then (if (3 : Int) < (ns.length : Nat) then 3 else ((ns.length : Nat) : Int)) else 2).toNat, ?_, ?_⟩ <;> (split <;> (try split) <;> omega)
    refine ⟨m, hm, ?_⟩
    have okm : okR (m : Int) = true := by simp only [okR_iff]; omega
    simp only [Rn.iRng1, cFun, cVar, cK, c2, c1, cF, cCall, cCons, cNil, cAndV, cOrV, cNotV, cChain, cIte, tVal, tNotC, tAndC, tOrC, bOf, cTup, cLst, cNew, sRet, sRetN, sSeq, sIf, sAsg, sPar, sPar3, sDrop, sNil, tgName, tgTup, tgsCons, tgsNil, tYesC, bind_ok, List.length_cons, List.length_nil, List.map_cons, List.map_nil, List.replicate, List.getElem?_cons_zero, List.getElem?_cons_succ, List.set_cons_zero, List.set_cons_succ, List.cons_append, List.nil_append, Nat.reduceAdd, Nat.reduceSub, if_true, if_false, big, Nat.reduceLeDiff, Bool.not_true, Bool.not_false, reduceIte, wipeL, e1, e2, e3, em, okm, rng_map, Int.toNat_natCast]
  obtain ⟨m, hm, it⟩ := it
  refine Gd.for CV.int (fun l h' => ∃ x1 x2 x3, l = [some (.scr ns), x1, x2, x3]) it ⟨_, _, _, rfl⟩ (fun l h' r => ⟨l, rfl, ⟨rfl⟩⟩) (fun o l h' ho r => ?_)
  obtain ⟨x1, x2, x3, el⟩ := r
  subst el
  have ho' := mem_rngI.mp ho
  refine ⟨[some (.scr ns), some (.int o), x2, x3], rfl, ?_⟩
  have mk : makeF [.scr ns, .int o] h' = .ok (.ref h'.length) (h' ++ [.bag]) := by
    unfold makeF
    exact if_pos ⟨ok, by omega, by omega⟩
  have am : sAsg (cF (cCall 2 makeF) (cCons (cVar 0) (cCons (cVar 1) cNil))) (tgName 2) [some (.scr ns), some (.int o), x2, x3] h' = .ok (.nx [some (.scr ns), some (.int o), some (.ref h'.length), x3]) (h' ++ [.bag]) := by
    simp only [sAsg, cF, cCall, cCons, cVar, cNil, bind_ok, List.getElem?_cons_zero, List.getElem?_cons_succ, List.length_cons, List.length_nil, if_true, mk]
    rfl
  refine Gd.seqOk am ?_
  have cg : Gd (cComp [3] (Rn.iRng1 (cCons (cK (.int 12)) cNil)) (tgName 3) tYesC (cF (cCall 1 F__law_right) (cCons (cVar 2) cNil)) [some (.scr ns), some (.int o), some (.ref h'.length), x3] (h' ++ [.bag])) (fun c h2 => c = .lst ((rngI 0 12).map fun _ => .bl true) ∧ h2[h'.length]? = some .bag) NoX := by
    refine compG (fun h2 => h2[h'.length]? = some .bag) CV.int (fun _ => .bl true) (rngI 0 12) at_last (by simp only [Rn.iRng1, cFun, cVar, cK, c2, c1, cF, cCall, cCons, cNil, cAndV, cOrV, cNotV, cChain, cIte, tVal, tNotC, tAndC, tOrC, bOf, cTup, cLst, cNew, sRet, sRetN, sSeq, sIf, sAsg, sPar, sPar3, sDrop, sNil, tgName, tgTup, tgsCons, tgsNil, tYesC, bind_ok, List.length_cons, List.length_nil, List.map_cons, List.map_nil, List.replicate, List.getElem?_cons_zero, List.getElem?_cons_succ, List.set_cons_zero, List.set_cons_succ, List.cons_append, List.nil_append, Nat.reduceAdd, Nat.reduceSub, if_true, if_false, big, Nat.reduceLeDiff, Bool.not_true, Bool.not_false, reduceIte, wipeL, show okR 12 = true from rfl, rng_map]; rfl) (by decide) fun a ha h2 iv => ⟨[some (.scr ns), some (.int o), some (.ref h'.length), some (.int a)], rfl, ?_⟩
    refine Gd.cF (xs := [.ref h'.length]) rfl (Gd.call rfl ((right_ok iv).mono fun v h3 q => ?_))
    obtain ⟨ev, X, eh⟩ := q
    subst eh
    exact ⟨ev, by rw [List.getElem?_append_left (List.getElem?_eq_some_iff.mp iv).1]; exact iv⟩
  generalize cComp [3] (Rn.iRng1 (cCons (cK (.int 12)) cNil)) (tgName 3) tYesC (cF (cCall 1 F__law_right) (cCons (cVar 2) cNil)) = CC at cg ⊢
  unfold sIf tNotC tVal
  refine Gd.bind (Gd.bind (Gd.bind (Gd.cF1 (cg.mono fun v h3 q => ?_))))
  obtain ⟨ev, eh⟩ := q
  subst ev
  refine Gd.eq (fAll_true (fun _ : Int => true) (rngI 0 12) fun _ _ => rfl) ?_
  exact Gd.ok (Gd.ok (Gd.ok ⟨_, _, _, rfl⟩))
theorem plain (ns : List Int) (ok : okScr ns = true) : (F_law [.scr ns] []).Good (fun v _ => v = .bl true) (fun _ _ _ => False) := (plain0 ns ok).out
end K61

namespace K61
open PySem PyProof.Rows L2 LamX NdefX Rn
section
theorem all_mk {l : PySem.W.OpenLaw} {w : World} {K : PySem.W.Frag} {h : Heap} {mg : Str → Option Value} {fa : Addr} (X : K.In h) (G : h.Ns mainGlobals mg) (hfa : mg "law" = some (.ref fa)) (tf0 : TabFact K mg "wrong_tie" h) (tf1 : TabFact K mg "wrong_list" h) (tf2 : TabFact K mg "wrong_note" h) (tf3 : TabFact K mg "_law_right" h)
    {f0 : Addr} {od0 an0 : Option Addr} {sl0 : Array (Option Value)} {oc0 kV0 dc0 pm0 cd0 ct0 : Value}
    {f1 : Addr} {od1 an1 : Option Addr} {sl1 : Array (Option Value)} {oc1 kV1 dc1 pm1 cd1 ct1 : Value}
    {f2 : Addr} {od2 an2 : Option Addr} {sl2 : Array (Option Value)} {oc2 kV2 dc2 pm2 cd2 ct2 : Value}
    {f3 : Addr} {od3 an3 : Option Addr} {sl3 : Array (Option Value)} {oc3 kV3 dc3 pm3 cd3 ct3 : Value}
    {f4 : Addr} {od4 an4 : Option Addr} {sl4 : Array (Option Value)} {oc4 kV4 dc4 pm4 cd4 ct4 : Value}
    {f5 : Addr} {od5 an5 : Option Addr} {sl5 : Array (Option Value)} {oc5 kV5 dc5 pm5 cd5 ct5 : Value}
    {f6 : Addr} {od6 an6 : Option Addr} {sl6 : Array (Option Value)} {oc6 kV6 dc6 pm6 cd6 ct6 : Value}
    {f7 : Addr} {od7 an7 : Option Addr} {sl7 : Array (Option Value)} {oc7 kV7 dc7 pm7 cd7 ct7 : Value}
    {f8 : Addr} {od8 an8 : Option Addr} {sl8 : Array (Option Value)} {oc8 kV8 dc8 pm8 cd8 ct8 : Value}
    {f9 : Addr} {od9 an9 : Option Addr} {sl9 : Array (Option Value)} {oc9 kV9 dc9 pm9 cd9 ct9 : Value}
    {f10 : Addr} {od10 an10 : Option Addr} {sl10 : Array (Option Value)} {oc10 kV10 dc10 pm10 cd10 ct10 : Value}
    {f11 : Addr} {od11 an11 : Option Addr} {sl11 : Array (Option Value)} {oc11 kV11 dc11 pm11 cd11 ct11 : Value}
    {f12 : Addr} {od12 an12 : Option Addr} {sl12 : Array (Option Value)} {oc12 kV12 dc12 pm12 cd12 ct12 : Value}
    {f13 : Addr} {od13 an13 : Option Addr} {sl13 : Array (Option Value)} {oc13 kV13 dc13 pm13 cd13 ct13 : Value}
    {f14 : Addr} {od14 an14 : Option Addr} {sl14 : Array (Option Value)} {oc14 kV14 dc14 pm14 cd14 ct14 : Value}
    {f15 : Addr} {od15 an15 : Option Addr} {sl15 : Array (Option Value)} {oc15 kV15 dc15 pm15 cd15 ct15 : Value}
    {f16 : Addr} {od16 an16 : Option Addr} {sl16 : Array (Option Value)} {oc16 kV16 dc16 pm16 cd16 ct16 : Value}
    {f17 : Addr} {od17 an17 : Option Addr} {sl17 : Array (Option Value)} {oc17 kV17 dc17 pm17 cd17 ct17 : Value}
    {f18 : Addr} {od18 an18 : Option Addr} {sl18 : Array (Option Value)} {oc18 kV18 dc18 pm18 cd18 ct18 : Value}
    {f19 : Addr} {od19 an19 : Option Addr} {sl19 : Array (Option Value)} {oc19 kV19 dc19 pm19 cd19 ct19 : Value}
    {f20 : Addr} {od20 an20 : Option Addr} {sl20 : Array (Option Value)} {oc20 kV20 dc20 pm20 cd20 ct20 : Value}
    {f21 : Addr} {od21 an21 : Option Addr} {sl21 : Array (Option Value)} {oc21 kV21 dc21 pm21 cd21 ct21 : Value}
    {f22 : Addr} {od22 an22 : Option Addr} {sl22 : Array (Option Value)} {oc22 kV22 dc22 pm22 cd22 ct22 : Value}
    {f23 : Addr} {od23 an23 : Option Addr} {sl23 : Array (Option Value)} {oc23 kV23 dc23 pm23 cd23 ct23 : Value}
    {f24 : Addr} {od24 an24 : Option Addr} {sl24 : Array (Option Value)} {oc24 kV24 dc24 pm24 cd24 ct24 : Value}
    {f25 : Addr} {od25 an25 : Option Addr} {sl25 : Array (Option Value)} {oc25 kV25 dc25 pm25 cd25 ct25 : Value}
    {f26 : Addr} {od26 an26 : Option Addr} {sl26 : Array (Option Value)} {oc26 kV26 dc26 pm26 cd26 ct26 : Value}
    {f27 : Addr} {od27 an27 : Option Addr} {sl27 : Array (Option Value)} {oc27 kV27 dc27 pm27 cd27 ct27 : Value}
    {f28 : Addr} {od28 an28 : Option Addr} {sl28 : Array (Option Value)} {oc28 kV28 dc28 pm28 cd28 ct28 : Value}
    {f29 : Addr} {od29 an29 : Option Addr} {sl29 : Array (Option Value)} {oc29 kV29 dc29 pm29 cd29 ct29 : Value}
    {f30 : Addr} {od30 an30 : Option Addr} {sl30 : Array (Option Value)} {oc30 kV30 dc30 pm30 cd30 ct30 : Value}
    {f31 : Addr} {od31 an31 : Option Addr} {sl31 : Array (Option Value)} {oc31 kV31 dc31 pm31 cd31 ct31 : Value}
    {f32 : Addr} {od32 an32 : Option Addr} {sl32 : Array (Option Value)} {oc32 kV32 dc32 pm32 cd32 ct32 : Value}
    {f33 : Addr} {od33 an33 : Option Addr} {sl33 : Array (Option Value)} {oc33 kV33 dc33 pm33 cd33 ct33 : Value}
    {f34 : Addr} {od34 an34 : Option Addr} {sl34 : Array (Option Value)} {oc34 kV34 dc34 pm34 cd34 ct34 : Value}
    {f35 : Addr} {od35 an35 : Option Addr} {sl35 : Array (Option Value)} {oc35 kV35 dc35 pm35 cd35 ct35 : Value}
    {f36 : Addr} {od36 an36 : Option Addr} {sl36 : Array (Option Value)} {oc36 kV36 dc36 pm36 cd36 ct36 : Value}
    {f37 : Addr} {od37 an37 : Option Addr} {sl37 : Array (Option Value)} {oc37 kV37 dc37 pm37 cd37 ct37 : Value}
    {f38 : Addr} {od38 an38 : Option Addr} {sl38 : Array (Option Value)} {oc38 kV38 dc38 pm38 cd38 ct38 : Value}
    {f39 : Addr} {od39 an39 : Option Addr} {sl39 : Array (Option Value)} {oc39 kV39 dc39 pm39 cd39 ct39 : Value}
    {f40 : Addr} {od40 an40 : Option Addr} {sl40 : Array (Option Value)} {oc40 kV40 dc40 pm40 cd40 ct40 : Value}
    {f41 : Addr} {od41 an41 : Option Addr} {sl41 : Array (Option Value)} {oc41 kV41 dc41 pm41 cd41 ct41 : Value}
    {f42 : Addr} {od42 an42 : Option Addr} {sl42 : Array (Option Value)} {oc42 kV42 dc42 pm42 cd42 ct42 : Value}
    {f43 : Addr} {od43 an43 : Option Addr} {sl43 : Array (Option Value)} {oc43 kV43 dc43 pm43 cd43 ct43 : Value}
    {f44 : Addr} {od44 an44 : Option Addr} {sl44 : Array (Option Value)} {oc44 kV44 dc44 pm44 cd44 ct44 : Value}
    {f45 : Addr} {od45 an45 : Option Addr} {sl45 : Array (Option Value)} {oc45 kV45 dc45 pm45 cd45 ct45 : Value}
    {f46 : Addr} {od46 an46 : Option Addr} {sl46 : Array (Option Value)} {oc46 kV46 dc46 pm46 cd46 ct46 : Value}
    {f47 : Addr} {od47 an47 : Option Addr} {sl47 : Array (Option Value)} {oc47 kV47 dc47 pm47 cd47 ct47 : Value}
    {f48 : Addr} {od48 an48 : Option Addr} {sl48 : Array (Option Value)} {oc48 kV48 dc48 pm48 cd48 ct48 : Value}
    {f49 : Addr} {od49 an49 : Option Addr} {sl49 : Array (Option Value)} {oc49 kV49 dc49 pm49 cd49 ct49 : Value}
    {tk_COLOURINGS : Tok}
    {tk_MOST_HUE : Tok}
    {tk_MOST_HUES : Tok}
    {tk_MOST_PLACES : Tok}
    {C fi T0 T1 : Addr} {odi ani odt odu : Option Addr} {sli slt slu : Array (Option Value)} {oci kVi dci pmi cdi cti oct : Value} {nt nu : Nat}
    {cc0 PP0 : Addr} {ec0 : Value} {ddc0 : Option Addr} {us0 : Array Value} {slc0 : Array (Option Value)}
    {cc1 PP1 : Addr} {ec1 : Value} {ddc1 : Option Addr} {us1 : Array Value} {slc1 : Array (Option Value)}
    {cc2 PP2 : Addr} {ec2 : Value} {ddc2 : Option Addr} {us2 : Array Value} {slc2 : Array (Option Value)}
    {cc3 PP3 : Addr} {ec3 : Value} {ddc3 : Option Addr} {us3 : Array Value} {slc3 : Array (Option Value)}
    {CH : Addr}
    {CInvalidLists NInvalidLists fIInvalidLists : Addr} {nmInvalidLists qnInvalidLists : Str} {bsInvalidLists subInvalidLists : List Value} {snInvalidLists : List Str} {abInvalidLists : Bool} {colInvalidLists : Option Bool} {ddInvalidLists : Option Addr} {m0InvalidLists m1InvalidLists m2InvalidLists m3InvalidLists m5InvalidLists : Option Value} {odIInvalidLists anIInvalidLists : Option Addr} {slIInvalidLists : Array (Option Value)} {ocIInvalidLists kVIInvalidLists dcIInvalidLists pmIInvalidLists cdIInvalidLists ctIInvalidLists : Value}
    {CNotAWeb NNotAWeb fINotAWeb : Addr} {nmNotAWeb qnNotAWeb : Str} {bsNotAWeb subNotAWeb : List Value} {snNotAWeb : List Str} {abNotAWeb : Bool} {colNotAWeb : Option Bool} {ddNotAWeb : Option Addr} {m0NotAWeb m1NotAWeb m2NotAWeb m3NotAWeb m5NotAWeb : Option Value} {odINotAWeb anINotAWeb : Option Addr} {slINotAWeb : Array (Option Value)} {ocINotAWeb kVINotAWeb dcINotAWeb pmINotAWeb cdINotAWeb ctINotAWeb : Value}
    {CInvalidNumber NInvalidNumber fIInvalidNumber : Addr} {nmInvalidNumber qnInvalidNumber : Str} {bsInvalidNumber subInvalidNumber : List Value} {snInvalidNumber : List Str} {abInvalidNumber : Bool} {colInvalidNumber : Option Bool} {ddInvalidNumber : Option Addr} {m0InvalidNumber m1InvalidNumber m2InvalidNumber m3InvalidNumber m5InvalidNumber : Option Value} {odIInvalidNumber anIInvalidNumber : Option Addr} {slIInvalidNumber : Array (Option Value)} {ocIInvalidNumber kVIInvalidNumber dcIInvalidNumber pmIInvalidNumber cdIInvalidNumber ctIInvalidNumber : Value}
    {CInvalidSketch NInvalidSketch fIInvalidSketch : Addr} {nmInvalidSketch qnInvalidSketch : Str} {bsInvalidSketch subInvalidSketch : List Value} {snInvalidSketch : List Str} {abInvalidSketch : Bool} {colInvalidSketch : Option Bool} {ddInvalidSketch : Option Addr} {m0InvalidSketch m1InvalidSketch m2InvalidSketch m3InvalidSketch m5InvalidSketch : Option Value} {odIInvalidSketch anIInvalidSketch : Option Addr} {slIInvalidSketch : Array (Option Value)} {ocIInvalidSketch kVIInvalidSketch dcIInvalidSketch pmIInvalidSketch cdIInvalidSketch ctIInvalidSketch : Value}
    (a0 : PySem.W.nsIn K mainGlobals "_law_bag" = some (some (.ref f0)))
    (l0 : K.lookup f0 = some ⟨oc0, od0, .func (PySem.W.fnOf "_law_bag" "_law_bag" (defArgs s__law_bag) (defBody s__law_bag) (defScope s__law_bag) .none kV0 dc0 pm0 an0 cd0 ct0), sl0⟩)
    (c0 : PySem.W.codeIn K cd0 "_law_bag" = true)
    (k0 : PySem.W.keepIn K (.ref f0) = true)
    (a1 : PySem.W.nsIn K mainGlobals "is_whole" = some (some (.ref f1)))
    (l1 : K.lookup f1 = some ⟨oc1, od1, .func (PySem.W.fnOf "is_whole" "is_whole" (defArgs s_is_whole) (defBody s_is_whole) (defScope s_is_whole) .none kV1 dc1 pm1 an1 cd1 ct1), sl1⟩)
    (c1 : PySem.W.codeIn K cd1 "is_whole" = true)
    (k1 : PySem.W.keepIn K (.ref f1) = true)
    (a2 : PySem.W.nsIn K mainGlobals "is_between" = some (some (.ref f2)))
    (l2 : K.lookup f2 = some ⟨oc2, od2, .func (PySem.W.fnOf "is_between" "is_between" (defArgs s_is_between) (defBody s_is_between) (defScope s_is_between) .none kV2 dc2 pm2 an2 cd2 ct2), sl2⟩)
    (c2 : PySem.W.codeIn K cd2 "is_between" = true)
    (k2 : PySem.W.keepIn K (.ref f2) = true)
    (a3 : PySem.W.nsIn K mainGlobals "is_places" = some (some (.ref f3)))
    (l3 : K.lookup f3 = some ⟨oc3, od3, .func (PySem.W.fnOf "is_places" "is_places" (defArgs s_is_places) (defBody s_is_places) (defScope s_is_places) .none kV3 dc3 pm3 an3 cd3 ct3), sl3⟩)
    (c3 : PySem.W.codeIn K cd3 "is_places" = true)
    (k3 : PySem.W.keepIn K (.ref f3) = true)
    (a4 : PySem.W.nsIn K mainGlobals "first_wrong" = some (some (.ref f4)))
    (l4 : K.lookup f4 = some ⟨oc4, od4, .func (PySem.W.fnOf "first_wrong" "first_wrong" (defArgs s_first_wrong) (defBody s_first_wrong) (defScope s_first_wrong) .none kV4 dc4 pm4 an4 cd4 ct4), sl4⟩)
    (c4 : PySem.W.codeIn K cd4 "first_wrong" = true)
    (k4 : PySem.W.keepIn K (.ref f4) = true)
    (a5 : PySem.W.nsIn K mainGlobals "is_tuple_of" = some (some (.ref f5)))
    (l5 : K.lookup f5 = some ⟨oc5, od5, .func (PySem.W.fnOf "is_tuple_of" "is_tuple_of" (defArgs s_is_tuple_of) (defBody s_is_tuple_of) (defScope s_is_tuple_of) .none kV5 dc5 pm5 an5 cd5 ct5), sl5⟩)
    (c5 : PySem.W.codeIn K cd5 "is_tuple_of" = true)
    (k5 : PySem.W.keepIn K (.ref f5) = true)
    (a6 : PySem.W.nsIn K mainGlobals "is_tie" = some (some (.ref f6)))
    (l6 : K.lookup f6 = some ⟨oc6, od6, .func (PySem.W.fnOf "is_tie" "is_tie" (defArgs s_is_tie) (defBody s_is_tie) (defScope s_is_tie) .none kV6 dc6 pm6 an6 cd6 ct6), sl6⟩)
    (c6 : PySem.W.codeIn K cd6 "is_tie" = true)
    (k6 : PySem.W.keepIn K (.ref f6) = true)
    (a7 : PySem.W.nsIn K mainGlobals "wrong_tie" = some (some (.ref f7)))
    (l7 : K.lookup f7 = some ⟨oc7, od7, .func (PySem.W.fnOf "wrong_tie" "wrong_tie" (defArgs s_wrong_tie) (defBody s_wrong_tie) (defScope s_wrong_tie) .none kV7 dc7 pm7 an7 cd7 ct7), sl7⟩)
    (c7 : PySem.W.codeIn K cd7 "wrong_tie" = true)
    (k7 : PySem.W.keepIn K (.ref f7) = true)
    (a8 : PySem.W.nsIn K mainGlobals "_law_take" = some (some (.ref f8)))
    (l8 : K.lookup f8 = some ⟨oc8, od8, .func (PySem.W.fnOf "_law_take" "_law_take" (defArgs s__law_take) (defBody s__law_take) (defScope s__law_take) .none kV8 dc8 pm8 an8 cd8 ct8), sl8⟩)
    (c8 : PySem.W.codeIn K cd8 "_law_take" = true)
    (k8 : PySem.W.keepIn K (.ref f8) = true)
    (a9 : PySem.W.nsIn K mainGlobals "_law_pull" = some (some (.ref f9)))
    (l9 : K.lookup f9 = some ⟨oc9, od9, .func (PySem.W.fnOf "_law_pull" "_law_pull" (defArgs s__law_pull) (defBody s__law_pull) (defScope s__law_pull) .none kV9 dc9 pm9 an9 cd9 ct9), sl9⟩)
    (c9 : PySem.W.codeIn K cd9 "_law_pull" = true)
    (k9 : PySem.W.keepIn K (.ref f9) = true)
    (a10 : PySem.W.nsIn K mainGlobals "_law_raised" = some (some (.ref f10)))
    (l10 : K.lookup f10 = some ⟨oc10, od10, .func (PySem.W.fnOf "_law_raised" "_law_raised" (defArgs s__law_raised) (defBody s__law_raised) (defScope s__law_raised) .none kV10 dc10 pm10 an10 cd10 ct10), sl10⟩)
    (c10 : PySem.W.codeIn K cd10 "_law_raised" = true)
    (k10 : PySem.W.keepIn K (.ref f10) = true)
    (a11 : PySem.W.nsIn K mainGlobals "with_hue" = some (some (.ref f11)))
    (l11 : K.lookup f11 = some ⟨oc11, od11, .func (PySem.W.fnOf "with_hue" "with_hue" (defArgs s_with_hue) (defBody s_with_hue) (defScope s_with_hue) .none kV11 dc11 pm11 an11 cd11 ct11), sl11⟩)
    (c11 : PySem.W.codeIn K cd11 "with_hue" = true)
    (k11 : PySem.W.keepIn K (.ref f11) = true)
    (a12 : PySem.W.nsIn K mainGlobals "come_by" = some (some (.ref f12)))
    (l12 : K.lookup f12 = some ⟨oc12, od12, .func (PySem.W.fnOf "come_by" "come_by" (defArgs s_come_by) (defBody s_come_by) (defScope s_come_by) .none kV12 dc12 pm12 an12 cd12 ct12), sl12⟩)
    (c12 : PySem.W.codeIn K cd12 "come_by" = true)
    (k12 : PySem.W.keepIn K (.ref f12) = true)
    (a13 : PySem.W.nsIn K mainGlobals "are_tied" = some (some (.ref f13)))
    (l13 : K.lookup f13 = some ⟨oc13, od13, .func (PySem.W.fnOf "are_tied" "are_tied" (defArgs s_are_tied) (defBody s_are_tied) (defScope s_are_tied) .none kV13 dc13 pm13 an13 cd13 ct13), sl13⟩)
    (c13 : PySem.W.codeIn K cd13 "are_tied" = true)
    (k13 : PySem.W.keepIn K (.ref f13) = true)
    (a14 : PySem.W.nsIn K mainGlobals "places_of" = some (some (.ref f14)))
    (l14 : K.lookup f14 = some ⟨oc14, od14, .func (PySem.W.fnOf "places_of" "places_of" (defArgs s_places_of) (defBody s_places_of) (defScope s_places_of) .none kV14 dc14 pm14 an14 cd14 ct14), sl14⟩)
    (c14 : PySem.W.codeIn K cd14 "places_of" = true)
    (k14 : PySem.W.keepIn K (.ref f14) = true)
    (a15 : PySem.W.nsIn K mainGlobals "neighbours_of" = some (some (.ref f15)))
    (l15 : K.lookup f15 = some ⟨oc15, od15, .func (PySem.W.fnOf "neighbours_of" "neighbours_of" (defArgs s_neighbours_of) (defBody s_neighbours_of) (defScope s_neighbours_of) .none kV15 dc15 pm15 an15 cd15 ct15), sl15⟩)
    (c15 : PySem.W.codeIn K cd15 "neighbours_of" = true)
    (k15 : PySem.W.keepIn K (.ref f15) = true)
    (a16 : PySem.W.nsIn K mainGlobals "fitting_by" = some (some (.ref f16)))
    (l16 : K.lookup f16 = some ⟨oc16, od16, .func (PySem.W.fnOf "fitting_by" "fitting_by" (defArgs s_fitting_by) (defBody s_fitting_by) (defScope s_fitting_by) .none kV16 dc16 pm16 an16 cd16 ct16), sl16⟩)
    (c16 : PySem.W.codeIn K cd16 "fitting_by" = true)
    (k16 : PySem.W.keepIn K (.ref f16) = true)
    (a17 : PySem.W.nsIn K mainGlobals "are_joined_by" = some (some (.ref f17)))
    (l17 : K.lookup f17 = some ⟨oc17, od17, .func (PySem.W.fnOf "are_joined_by" "are_joined_by" (defArgs s_are_joined_by) (defBody s_are_joined_by) (defScope s_are_joined_by) .none kV17 dc17 pm17 an17 cd17 ct17), sl17⟩)
    (c17 : PySem.W.codeIn K cd17 "are_joined_by" = true)
    (k17 : PySem.W.keepIn K (.ref f17) = true)
    (a18 : PySem.W.nsIn K mainGlobals "is_list" = some (some (.ref f18)))
    (l18 : K.lookup f18 = some ⟨oc18, od18, .func (PySem.W.fnOf "is_list" "is_list" (defArgs s_is_list) (defBody s_is_list) (defScope s_is_list) .none kV18 dc18 pm18 an18 cd18 ct18), sl18⟩)
    (c18 : PySem.W.codeIn K cd18 "is_list" = true)
    (k18 : PySem.W.keepIn K (.ref f18) = true)
    (a19 : PySem.W.nsIn K mainGlobals "wrong_list" = some (some (.ref f19)))
    (l19 : K.lookup f19 = some ⟨oc19, od19, .func (PySem.W.fnOf "wrong_list" "wrong_list" (defArgs s_wrong_list) (defBody s_wrong_list) (defScope s_wrong_list) .none kV19 dc19 pm19 an19 cd19 ct19), sl19⟩)
    (c19 : PySem.W.codeIn K cd19 "wrong_list" = true)
    (k19 : PySem.W.keepIn K (.ref f19) = true)
    (a20 : PySem.W.nsIn K mainGlobals "check_lists" = some (some (.ref f20)))
    (l20 : K.lookup f20 = some ⟨oc20, od20, .func (PySem.W.fnOf "check_lists" "check_lists" (defArgs s_check_lists) (defBody s_check_lists) (defScope s_check_lists) .none kV20 dc20 pm20 an20 cd20 ct20), sl20⟩)
    (c20 : PySem.W.codeIn K cd20 "check_lists" = true)
    (k20 : PySem.W.keepIn K (.ref f20) = true)
    (a21 : PySem.W.nsIn K mainGlobals "check_web" = some (some (.ref f21)))
    (l21 : K.lookup f21 = some ⟨oc21, od21, .func (PySem.W.fnOf "check_web" "check_web" (defArgs s_check_web) (defBody s_check_web) (defScope s_check_web) .none kV21 dc21 pm21 an21 cd21 ct21), sl21⟩)
    (c21 : PySem.W.codeIn K cd21 "check_web" = true)
    (k21 : PySem.W.keepIn K (.ref f21) = true)
    (a22 : PySem.W.nsIn K mainGlobals "check_listed" = some (some (.ref f22)))
    (l22 : K.lookup f22 = some ⟨oc22, od22, .func (PySem.W.fnOf "check_listed" "check_listed" (defArgs s_check_listed) (defBody s_check_listed) (defScope s_check_listed) .none kV22 dc22 pm22 an22 cd22 ct22), sl22⟩)
    (c22 : PySem.W.codeIn K cd22 "check_listed" = true)
    (k22 : PySem.W.keepIn K (.ref f22) = true)
    (a23 : PySem.W.nsIn K mainGlobals "are_lists_joined" = some (some (.ref f23)))
    (l23 : K.lookup f23 = some ⟨oc23, od23, .func (PySem.W.fnOf "are_lists_joined" "are_lists_joined" (defArgs s_are_lists_joined) (defBody s_are_lists_joined) (defScope s_are_lists_joined) .none kV23 dc23 pm23 an23 cd23 ct23), sl23⟩)
    (c23 : PySem.W.codeIn K cd23 "are_lists_joined" = true)
    (k23 : PySem.W.keepIn K (.ref f23) = true)
    (a24 : PySem.W.nsIn K mainGlobals "may_follow" = some (some (.ref f24)))
    (l24 : K.lookup f24 = some ⟨oc24, od24, .func (PySem.W.fnOf "may_follow" "may_follow" (defArgs s_may_follow) (defBody s_may_follow) (defScope s_may_follow) .none kV24 dc24 pm24 an24 cd24 ct24), sl24⟩)
    (c24 : PySem.W.codeIn K cd24 "may_follow" = true)
    (k24 : PySem.W.keepIn K (.ref f24) = true)
    (a25 : PySem.W.nsIn K mainGlobals "colourings_by" = some (some (.ref f25)))
    (l25 : K.lookup f25 = some ⟨oc25, od25, .func (PySem.W.fnOf "colourings_by" "colourings_by" (defArgs s_colourings_by) (defBody s_colourings_by) (defScope s_colourings_by) .none kV25 dc25 pm25 an25 cd25 ct25), sl25⟩)
    (c25 : PySem.W.codeIn K cd25 "colourings_by" = true)
    (k25 : PySem.W.keepIn K (.ref f25) = true)
    (a26 : PySem.W.nsIn K mainGlobals "sketched_by" = some (some (.ref f26)))
    (l26 : K.lookup f26 = some ⟨oc26, od26, .func (PySem.W.fnOf "sketched_by" "sketched_by" (defArgs s_sketched_by) (defBody s_sketched_by) (defScope s_sketched_by) .none kV26 dc26 pm26 an26 cd26 ct26), sl26⟩)
    (c26 : PySem.W.codeIn K cd26 "sketched_by" = true)
    (k26 : PySem.W.keepIn K (.ref f26) = true)
    (a27 : PySem.W.nsIn K mainGlobals "best_look_by" = some (some (.ref f27)))
    (l27 : K.lookup f27 = some ⟨oc27, od27, .func (PySem.W.fnOf "best_look_by" "best_look_by" (defArgs s_best_look_by) (defBody s_best_look_by) (defScope s_best_look_by) .none kV27 dc27 pm27 an27 cd27 ct27), sl27⟩)
    (c27 : PySem.W.codeIn K cd27 "best_look_by" = true)
    (k27 : PySem.W.keepIn K (.ref f27) = true)
    (a28 : PySem.W.nsIn K mainGlobals "is_hues" = some (some (.ref f28)))
    (l28 : K.lookup f28 = some ⟨oc28, od28, .func (PySem.W.fnOf "is_hues" "is_hues" (defArgs s_is_hues) (defBody s_is_hues) (defScope s_is_hues) .none kV28 dc28 pm28 an28 cd28 ct28), sl28⟩)
    (c28 : PySem.W.codeIn K cd28 "is_hues" = true)
    (k28 : PySem.W.keepIn K (.ref f28) = true)
    (a29 : PySem.W.nsIn K mainGlobals "check_hues" = some (some (.ref f29)))
    (l29 : K.lookup f29 = some ⟨oc29, od29, .func (PySem.W.fnOf "check_hues" "check_hues" (defArgs s_check_hues) (defBody s_check_hues) (defScope s_check_hues) .none kV29 dc29 pm29 an29 cd29 ct29), sl29⟩)
    (c29 : PySem.W.codeIn K cd29 "check_hues" = true)
    (k29 : PySem.W.keepIn K (.ref f29) = true)
    (a30 : PySem.W.nsIn K mainGlobals "check_hued" = some (some (.ref f30)))
    (l30 : K.lookup f30 = some ⟨oc30, od30, .func (PySem.W.fnOf "check_hued" "check_hued" (defArgs s_check_hued) (defBody s_check_hued) (defScope s_check_hued) .none kV30 dc30 pm30 an30 cd30 ct30), sl30⟩)
    (c30 : PySem.W.codeIn K cd30 "check_hued" = true)
    (k30 : PySem.W.keepIn K (.ref f30) = true)
    (a31 : PySem.W.nsIn K mainGlobals "is_hue" = some (some (.ref f31)))
    (l31 : K.lookup f31 = some ⟨oc31, od31, .func (PySem.W.fnOf "is_hue" "is_hue" (defArgs s_is_hue) (defBody s_is_hue) (defScope s_is_hue) .none kV31 dc31 pm31 an31 cd31 ct31), sl31⟩)
    (c31 : PySem.W.codeIn K cd31 "is_hue" = true)
    (k31 : PySem.W.keepIn K (.ref f31) = true)
    (a32 : PySem.W.nsIn K mainGlobals "is_place" = some (some (.ref f32)))
    (l32 : K.lookup f32 = some ⟨oc32, od32, .func (PySem.W.fnOf "is_place" "is_place" (defArgs s_is_place) (defBody s_is_place) (defScope s_is_place) .none kV32 dc32 pm32 an32 cd32 ct32), sl32⟩)
    (c32 : PySem.W.codeIn K cd32 "is_place" = true)
    (k32 : PySem.W.keepIn K (.ref f32) = true)
    (a33 : PySem.W.nsIn K mainGlobals "is_note" = some (some (.ref f33)))
    (l33 : K.lookup f33 = some ⟨oc33, od33, .func (PySem.W.fnOf "is_note" "is_note" (defArgs s_is_note) (defBody s_is_note) (defScope s_is_note) .none kV33 dc33 pm33 an33 cd33 ct33), sl33⟩)
    (c33 : PySem.W.codeIn K cd33 "is_note" = true)
    (k33 : PySem.W.keepIn K (.ref f33) = true)
    (a34 : PySem.W.nsIn K mainGlobals "wrong_note" = some (some (.ref f34)))
    (l34 : K.lookup f34 = some ⟨oc34, od34, .func (PySem.W.fnOf "wrong_note" "wrong_note" (defArgs s_wrong_note) (defBody s_wrong_note) (defScope s_wrong_note) .none kV34 dc34 pm34 an34 cd34 ct34), sl34⟩)
    (c34 : PySem.W.codeIn K cd34 "wrong_note" = true)
    (k34 : PySem.W.keepIn K (.ref f34) = true)
    (a35 : PySem.W.nsIn K mainGlobals "check_sketch" = some (some (.ref f35)))
    (l35 : K.lookup f35 = some ⟨oc35, od35, .func (PySem.W.fnOf "check_sketch" "check_sketch" (defArgs s_check_sketch) (defBody s_check_sketch) (defScope s_check_sketch) .none kV35 dc35 pm35 an35 cd35 ct35), sl35⟩)
    (c35 : PySem.W.codeIn K cd35 "check_sketch" = true)
    (k35 : PySem.W.keepIn K (.ref f35) = true)
    (a36 : PySem.W.nsIn K mainGlobals "check_sketched" = some (some (.ref f36)))
    (l36 : K.lookup f36 = some ⟨oc36, od36, .func (PySem.W.fnOf "check_sketched" "check_sketched" (defArgs s_check_sketched) (defBody s_check_sketched) (defScope s_check_sketched) .none kV36 dc36 pm36 an36 cd36 ct36), sl36⟩)
    (c36 : PySem.W.codeIn K cd36 "check_sketched" = true)
    (k36 : PySem.W.keepIn K (.ref f36) = true)
    (a37 : PySem.W.nsIn K mainGlobals "best_look" = some (some (.ref f37)))
    (l37 : K.lookup f37 = some ⟨oc37, od37, .func (PySem.W.fnOf "best_look" "best_look" (defArgs s_best_look) (defBody s_best_look) (defScope s_best_look) .none kV37 dc37 pm37 an37 cd37 ct37), sl37⟩)
    (c37 : PySem.W.codeIn K cd37 "best_look" = true)
    (k37 : PySem.W.keepIn K (.ref f37) = true)
    (a38 : PySem.W.nsIn K mainGlobals "count_fitting" = some (some (.ref f38)))
    (l38 : K.lookup f38 = some ⟨oc38, od38, .func (PySem.W.fnOf "count_fitting" "count_fitting" (defArgs s_count_fitting) (defBody s_count_fitting) (defScope s_count_fitting) .none kV38 dc38 pm38 an38 cd38 ct38), sl38⟩)
    (c38 : PySem.W.codeIn K cd38 "count_fitting" = true)
    (k38 : PySem.W.keepIn K (.ref f38) = true)
    (a39 : PySem.W.nsIn K mainGlobals "parts_of" = some (some (.ref f39)))
    (l39 : K.lookup f39 = some ⟨oc39, od39, .func (PySem.W.fnOf "parts_of" "parts_of" (defArgs s_parts_of) (defBody s_parts_of) (defScope s_parts_of) .none kV39 dc39 pm39 an39 cd39 ct39), sl39⟩)
    (c39 : PySem.W.codeIn K cd39 "parts_of" = true)
    (k39 : PySem.W.keepIn K (.ref f39) = true)
    (a40 : PySem.W.nsIn K mainGlobals "certify_lists" = some (some (.ref f40)))
    (l40 : K.lookup f40 = some ⟨oc40, od40, .func (PySem.W.fnOf "certify_lists" "certify_lists" (defArgs s_certify_lists) (defBody s_certify_lists) (defScope s_certify_lists) .none kV40 dc40 pm40 an40 cd40 ct40), sl40⟩)
    (c40 : PySem.W.codeIn K cd40 "certify_lists" = true)
    (k40 : PySem.W.keepIn K (.ref f40) = true)
    (a41 : PySem.W.nsIn K mainGlobals "check_place" = some (some (.ref f41)))
    (l41 : K.lookup f41 = some ⟨oc41, od41, .func (PySem.W.fnOf "check_place" "check_place" (defArgs s_check_place) (defBody s_check_place) (defScope s_check_place) .none kV41 dc41 pm41 an41 cd41 ct41), sl41⟩)
    (c41 : PySem.W.codeIn K cd41 "check_place" = true)
    (k41 : PySem.W.keepIn K (.ref f41) = true)
    (a42 : PySem.W.nsIn K mainGlobals "may_by" = some (some (.ref f42)))
    (l42 : K.lookup f42 = some ⟨oc42, od42, .func (PySem.W.fnOf "may_by" "may_by" (defArgs s_may_by) (defBody s_may_by) (defScope s_may_by) .none kV42 dc42 pm42 an42 cd42 ct42), sl42⟩)
    (c42 : PySem.W.codeIn K cd42 "may_by" = true)
    (k42 : PySem.W.keepIn K (.ref f42) = true)
    (a43 : PySem.W.nsIn K mainGlobals "may_have" = some (some (.ref f43)))
    (l43 : K.lookup f43 = some ⟨oc43, od43, .func (PySem.W.fnOf "may_have" "may_have" (defArgs s_may_have) (defBody s_may_have) (defScope s_may_have) .none kV43 dc43 pm43 an43 cd43 ct43), sl43⟩)
    (c43 : PySem.W.codeIn K cd43 "may_have" = true)
    (k43 : PySem.W.keepIn K (.ref f43) = true)
    (a44 : PySem.W.nsIn K mainGlobals "certify_may" = some (some (.ref f44)))
    (l44 : K.lookup f44 = some ⟨oc44, od44, .func (PySem.W.fnOf "certify_may" "certify_may" (defArgs s_certify_may) (defBody s_certify_may) (defScope s_certify_may) .none kV44 dc44 pm44 an44 cd44 ct44), sl44⟩)
    (c44 : PySem.W.codeIn K cd44 "certify_may" = true)
    (k44 : PySem.W.keepIn K (.ref f44) = true)
    (a45 : PySem.W.nsIn K mainGlobals "count_sketch" = some (some (.ref f45)))
    (l45 : K.lookup f45 = some ⟨oc45, od45, .func (PySem.W.fnOf "count_sketch" "count_sketch" (defArgs s_count_sketch) (defBody s_count_sketch) (defScope s_count_sketch) .none kV45 dc45 pm45 an45 cd45 ct45), sl45⟩)
    (c45 : PySem.W.codeIn K cd45 "count_sketch" = true)
    (k45 : PySem.W.keepIn K (.ref f45) = true)
    (a46 : PySem.W.nsIn K mainGlobals "certify_sketch" = some (some (.ref f46)))
    (l46 : K.lookup f46 = some ⟨oc46, od46, .func (PySem.W.fnOf "certify_sketch" "certify_sketch" (defArgs s_certify_sketch) (defBody s_certify_sketch) (defScope s_certify_sketch) .none kV46 dc46 pm46 an46 cd46 ct46), sl46⟩)
    (c46 : PySem.W.codeIn K cd46 "certify_sketch" = true)
    (k46 : PySem.W.keepIn K (.ref f46) = true)
    (a47 : PySem.W.nsIn K mainGlobals "fitting" = some (some (.ref f47)))
    (l47 : K.lookup f47 = some ⟨oc47, od47, .func (PySem.W.fnOf "fitting" "fitting" (defArgs s_fitting) (defBody s_fitting) (defScope s_fitting) .none kV47 dc47 pm47 an47 cd47 ct47), sl47⟩)
    (c47 : PySem.W.codeIn K cd47 "fitting" = true)
    (k47 : PySem.W.keepIn K (.ref f47) = true)
    (a48 : PySem.W.nsIn K mainGlobals "_law_right" = some (some (.ref f48)))
    (l48 : K.lookup f48 = some ⟨oc48, od48, .func (PySem.W.fnOf "_law_right" "_law_right" (defArgs s__law_right) (defBody s__law_right) (defScope s__law_right) .none kV48 dc48 pm48 an48 cd48 ct48), sl48⟩)
    (c48 : PySem.W.codeIn K cd48 "_law_right" = true)
    (k48 : PySem.W.keepIn K (.ref f48) = true)
    (a49 : PySem.W.nsIn K mainGlobals "law" = some (some (.ref f49)))
    (l49 : K.lookup f49 = some ⟨oc49, od49, .func (PySem.W.fnOf "law" "law" (defArgs s_law) (defBody s_law) (defScope s_law) .none kV49 dc49 pm49 an49 cd49 ct49), sl49⟩)
    (c49 : PySem.W.codeIn K cd49 "law" = true)
    (k49 : PySem.W.keepIn K (.ref f49) = true)
    (g_COLOURINGS : PySem.W.nsIn K mainGlobals "COLOURINGS" = some (some (.str "colourings " tk_COLOURINGS)))
    (g_MOST_HUE : PySem.W.nsIn K mainGlobals "MOST_HUE" = some (some (.int 3 tk_MOST_HUE)))
    (g_MOST_HUES : PySem.W.nsIn K mainGlobals "MOST_HUES" = some (some (.int 4 tk_MOST_HUES)))
    (g_MOST_PLACES : PySem.W.nsIn K mainGlobals "MOST_PLACES" = some (some (.int 6 tk_MOST_PLACES)))
    (n_ValueError : PySem.W.nsIn K mainGlobals "ValueError" = some none)
    (n_abs : PySem.W.nsIn K mainGlobals "abs" = some none)
    (n_all : PySem.W.nsIn K mainGlobals "all" = some none)
    (n_any : PySem.W.nsIn K mainGlobals "any" = some none)
    (n_bool : PySem.W.nsIn K mainGlobals "bool" = some none)
    (n_divmod : PySem.W.nsIn K mainGlobals "divmod" = some none)
    (n_enumerate : PySem.W.nsIn K mainGlobals "enumerate" = some none)
    (n_int : PySem.W.nsIn K mainGlobals "int" = some none)
    (n_isinstance : PySem.W.nsIn K mainGlobals "isinstance" = some none)
    (n_len : PySem.W.nsIn K mainGlobals "len" = some none)
    (n_list : PySem.W.nsIn K mainGlobals "list" = some none)
    (n_max : PySem.W.nsIn K mainGlobals "max" = some none)
    (n_min : PySem.W.nsIn K mainGlobals "min" = some none)
    (n_range : PySem.W.nsIn K mainGlobals "range" = some none)
    (n_repr : PySem.W.nsIn K mainGlobals "repr" = some none)
    (n_set : PySem.W.nsIn K mainGlobals "set" = some none)
    (n_sorted : PySem.W.nsIn K mainGlobals "sorted" = some none)
    (n_str : PySem.W.nsIn K mainGlobals "str" = some none)
    (n_tuple : PySem.W.nsIn K mainGlobals "tuple" = some none)
    (aC : PySem.W.nsIn K mainGlobals "Web" = some (some (.ref C)))
    (ai : PySem.W.findIn K (.ref C) "__init__" = some (some (.ref fi)))
    (ii : PySem.W.isFn K (.ref fi) = true)
    (li : K.lookup fi = some ⟨oci, odi, .func (PySem.W.fnOf "__init__" "Web.__init__" (defArgs s_init) (defBody s_init) (defScope s_init) (.ref T0) kVi dci pmi ani cdi cti), sli⟩)
    (ci : PySem.W.codeIn K cdi "Web.__init__" = true)
    (ki : PySem.W.keepIn K (.ref fi) = true)
    (lt : K.lookup T0 = some ⟨oct, odt, .seq #[.ref T1] nt, slt⟩)
    (lu : K.lookup T1 = some ⟨.type "tuple", odu, .seq #[] nu, slu⟩)
    (pg : PySem.W.plainGet K C Str.empty = true)
    (hd : PySem.W.hasDictIn K C = true)
    (po : PySem.W.plainOver K C = true)
    (sa : PySem.W.findIn K (.ref C) "__setattr__" = some (some (.builtin "object.__setattr__")))
    (mk : PySem.W.makesIn K C = true)
    (kc : PySem.W.keepIn K (.ref C) = true)
    (ha : PySem.W.findIn K (.ref C) "__class__" = some (some (.builtin "object.__class__")))
    (hn : PySem.W.specialIn K (.builtin "object.__class__") "__get__" = some (some (.builtin "getset_descriptor.__get__")))
    (htk : PySem.W.takesIn K (.builtin "object.__class__") = some true)
    (hm : PySem.W.mroIn K C (.type "object") = some true)
    (nP : PySem.W.findIn K (.ref C) "places" = some none)
    (nT : PySem.W.findIn K (.ref C) "ties" = some none)
    (nK : PySem.W.findIn K (.ref C) "kept" = some none)
    (icW : PySem.W.isClsIn K C = true)
    (tyW : PySem.W.typeIn K (.ref C) = some (.type "type"))
    (ts0 : PySem.W.subIn K (.type "NoneType") (.ref C) = some false)
    (ts1 : PySem.W.subIn K (.type "bool") (.ref C) = some false)
    (ts2 : PySem.W.subIn K (.type "int") (.ref C) = some false)
    (ts3 : PySem.W.subIn K (.type "str") (.ref C) = some false)
    (ts4 : PySem.W.subIn K (.type "tuple") (.ref C) = some false)
    (ts5 : PySem.W.subIn K (.type "list") (.ref C) = some false)
    (kcd0 : cd7 = .ref cc0)
    (kcl0 : K.lookup cc0 = some ⟨ec0, ddc0, .fields us0, slc0⟩)
    (kcp0 : us0[11]? = some (.ref PP0))
    (kcn0 : K.lookup PP0 = none)
    (kcd1 : cd19 = .ref cc1)
    (kcl1 : K.lookup cc1 = some ⟨ec1, ddc1, .fields us1, slc1⟩)
    (kcp1 : us1[11]? = some (.ref PP1))
    (kcn1 : K.lookup PP1 = none)
    (kcd2 : cd34 = .ref cc2)
    (kcl2 : K.lookup cc2 = some ⟨ec2, ddc2, .fields us2, slc2⟩)
    (kcp2 : us2[11]? = some (.ref PP2))
    (kcn2 : K.lookup PP2 = none)
    (kcd3 : cd48 = .ref cc3)
    (kcl3 : K.lookup cc3 = some ⟨ec3, ddc3, .fields us3, slc3⟩)
    (kcp3 : us3[11]? = some (.ref PP3))
    (kcn3 : K.lookup PP3 = none)
    (une01 : PP0 ≠ PP1)
    (une02 : PP0 ≠ PP2)
    (une03 : PP0 ≠ PP3)
    (une10 : PP1 ≠ PP0)
    (une12 : PP1 ≠ PP2)
    (une13 : PP1 ≠ PP3)
    (une20 : PP2 ≠ PP0)
    (une21 : PP2 ≠ PP1)
    (une23 : PP2 ≠ PP3)
    (une30 : PP3 ≠ PP0)
    (une31 : PP3 ≠ PP1)
    (une32 : PP3 ≠ PP2)
    (aH : PySem.W.nsIn K mainGlobals "HueError" = some (some (.ref CH)))
    (eH : PySem.W.subIn K (.ref CH) (.type "BaseException") = some true)
    (dH : PySem.W.hasDictIn K CH = true)
    (tH : PySem.W.typeIn K (.ref CH) = some (.type "type"))
    (aCInvalidLists : PySem.W.nsIn K mainGlobals "InvalidLists" = some (some (.ref CInvalidLists)))
    (xLInvalidLists : K.lookup CInvalidLists = some (excClassObj nmInvalidLists qnInvalidLists CInvalidLists NInvalidLists bsInvalidLists [.ref CH, .type "ValueError", .type "Exception", .type "BaseException", .type "object"] true snInvalidLists subInvalidLists abInvalidLists colInvalidLists ddInvalidLists m0InvalidLists m1InvalidLists m2InvalidLists m3InvalidLists m5InvalidLists "ValueError.__new__"))
    (saInvalidLists : PySem.W.findIn K (.ref CInvalidLists) "__setattr__" = some (some (.builtin "object.__setattr__")))
    (gaInvalidLists : PySem.W.findIn K (.ref CInvalidLists) "__getattribute__" = some (some (.builtin "BaseException.__getattribute__")))
    (ggInvalidLists : PySem.W.findIn K (.ref CInvalidLists) "__getattr__" = some none)
    (noInvalidLists : PySem.W.findIn K (.ref CInvalidLists) "index" = some none)
    (iCInvalidLists : PySem.W.findIn K (.ref CInvalidLists) "__init__" = some (some (.ref fIInvalidLists)))
    (tIInvalidLists : PySem.W.typeIn K (.ref fIInvalidLists) = some (.type "function"))
    (lIInvalidLists : K.lookup fIInvalidLists = some ⟨ocIInvalidLists, odIInvalidLists, .func (PySem.W.fnOf "__init__" "InvalidLists.__init__" (defArgs s_x_InvalidLists) (defBody s_x_InvalidLists) (defScope s_x_InvalidLists) .none kVIInvalidLists dcIInvalidLists pmIInvalidLists anIInvalidLists cdIInvalidLists ctIInvalidLists), slIInvalidLists⟩)
    (cIInvalidLists : PySem.W.codeIn K cdIInvalidLists "InvalidLists.__init__" = true)
    (kIInvalidLists : PySem.W.keepIn K (.ref fIInvalidLists) = true)
    (kCInvalidLists : PySem.W.keepIn K (.ref CInvalidLists) = true)
    (eCInvalidLists : PySem.W.subIn K (.ref CInvalidLists) (.type "BaseException") = some true)
    (tCInvalidLists : PySem.W.typeIn K (.ref CInvalidLists) = some (.type "type"))
    (hCInvalidLists : PySem.W.hasDictIn K CInvalidLists = true)
    (sHInvalidLists : PySem.W.subIn K (.ref CInvalidLists) (.ref CH) = some true)
    (caInvalidLists : PySem.W.findIn K (.ref CInvalidLists) "__class__" = some (some (.builtin "object.__class__")))
    (moInvalidLists : PySem.W.mroIn K CInvalidLists (.type "object") = some true)
    (icInvalidLists : PySem.W.isClsIn K CInvalidLists = true)
    (aCNotAWeb : PySem.W.nsIn K mainGlobals "NotAWeb" = some (some (.ref CNotAWeb)))
    (xLNotAWeb : K.lookup CNotAWeb = some (excClassObj nmNotAWeb qnNotAWeb CNotAWeb NNotAWeb bsNotAWeb [.ref CH, .type "ValueError", .type "Exception", .type "BaseException", .type "object"] true snNotAWeb subNotAWeb abNotAWeb colNotAWeb ddNotAWeb m0NotAWeb m1NotAWeb m2NotAWeb m3NotAWeb m5NotAWeb "ValueError.__new__"))
    (saNotAWeb : PySem.W.findIn K (.ref CNotAWeb) "__setattr__" = some (some (.builtin "object.__setattr__")))
    (gaNotAWeb : PySem.W.findIn K (.ref CNotAWeb) "__getattribute__" = some (some (.builtin "BaseException.__getattribute__")))
    (ggNotAWeb : PySem.W.findIn K (.ref CNotAWeb) "__getattr__" = some none)
    (noNotAWeb : PySem.W.findIn K (.ref CNotAWeb) "given" = some none)
    (iCNotAWeb : PySem.W.findIn K (.ref CNotAWeb) "__init__" = some (some (.ref fINotAWeb)))
    (tINotAWeb : PySem.W.typeIn K (.ref fINotAWeb) = some (.type "function"))
    (lINotAWeb : K.lookup fINotAWeb = some ⟨ocINotAWeb, odINotAWeb, .func (PySem.W.fnOf "__init__" "NotAWeb.__init__" (defArgs s_x_NotAWeb) (defBody s_x_NotAWeb) (defScope s_x_NotAWeb) .none kVINotAWeb dcINotAWeb pmINotAWeb anINotAWeb cdINotAWeb ctINotAWeb), slINotAWeb⟩)
    (cINotAWeb : PySem.W.codeIn K cdINotAWeb "NotAWeb.__init__" = true)
    (kINotAWeb : PySem.W.keepIn K (.ref fINotAWeb) = true)
    (kCNotAWeb : PySem.W.keepIn K (.ref CNotAWeb) = true)
    (eCNotAWeb : PySem.W.subIn K (.ref CNotAWeb) (.type "BaseException") = some true)
    (tCNotAWeb : PySem.W.typeIn K (.ref CNotAWeb) = some (.type "type"))
    (hCNotAWeb : PySem.W.hasDictIn K CNotAWeb = true)
    (sHNotAWeb : PySem.W.subIn K (.ref CNotAWeb) (.ref CH) = some true)
    (caNotAWeb : PySem.W.findIn K (.ref CNotAWeb) "__class__" = some (some (.builtin "object.__class__")))
    (moNotAWeb : PySem.W.mroIn K CNotAWeb (.type "object") = some true)
    (icNotAWeb : PySem.W.isClsIn K CNotAWeb = true)
    (aCInvalidNumber : PySem.W.nsIn K mainGlobals "InvalidNumber" = some (some (.ref CInvalidNumber)))
    (xLInvalidNumber : K.lookup CInvalidNumber = some (excClassObj nmInvalidNumber qnInvalidNumber CInvalidNumber NInvalidNumber bsInvalidNumber [.ref CH, .type "ValueError", .type "Exception", .type "BaseException", .type "object"] true snInvalidNumber subInvalidNumber abInvalidNumber colInvalidNumber ddInvalidNumber m0InvalidNumber m1InvalidNumber m2InvalidNumber m3InvalidNumber m5InvalidNumber "ValueError.__new__"))
    (saInvalidNumber : PySem.W.findIn K (.ref CInvalidNumber) "__setattr__" = some (some (.builtin "object.__setattr__")))
    (gaInvalidNumber : PySem.W.findIn K (.ref CInvalidNumber) "__getattribute__" = some (some (.builtin "BaseException.__getattribute__")))
    (ggInvalidNumber : PySem.W.findIn K (.ref CInvalidNumber) "__getattr__" = some none)
    (noInvalidNumber : PySem.W.findIn K (.ref CInvalidNumber) "given" = some none)
    (iCInvalidNumber : PySem.W.findIn K (.ref CInvalidNumber) "__init__" = some (some (.ref fIInvalidNumber)))
    (tIInvalidNumber : PySem.W.typeIn K (.ref fIInvalidNumber) = some (.type "function"))
    (lIInvalidNumber : K.lookup fIInvalidNumber = some ⟨ocIInvalidNumber, odIInvalidNumber, .func (PySem.W.fnOf "__init__" "InvalidNumber.__init__" (defArgs s_x_InvalidNumber) (defBody s_x_InvalidNumber) (defScope s_x_InvalidNumber) .none kVIInvalidNumber dcIInvalidNumber pmIInvalidNumber anIInvalidNumber cdIInvalidNumber ctIInvalidNumber), slIInvalidNumber⟩)
    (cIInvalidNumber : PySem.W.codeIn K cdIInvalidNumber "InvalidNumber.__init__" = true)
    (kIInvalidNumber : PySem.W.keepIn K (.ref fIInvalidNumber) = true)
    (kCInvalidNumber : PySem.W.keepIn K (.ref CInvalidNumber) = true)
    (eCInvalidNumber : PySem.W.subIn K (.ref CInvalidNumber) (.type "BaseException") = some true)
    (tCInvalidNumber : PySem.W.typeIn K (.ref CInvalidNumber) = some (.type "type"))
    (hCInvalidNumber : PySem.W.hasDictIn K CInvalidNumber = true)
    (sHInvalidNumber : PySem.W.subIn K (.ref CInvalidNumber) (.ref CH) = some true)
    (caInvalidNumber : PySem.W.findIn K (.ref CInvalidNumber) "__class__" = some (some (.builtin "object.__class__")))
    (moInvalidNumber : PySem.W.mroIn K CInvalidNumber (.type "object") = some true)
    (icInvalidNumber : PySem.W.isClsIn K CInvalidNumber = true)
    (aCInvalidSketch : PySem.W.nsIn K mainGlobals "InvalidSketch" = some (some (.ref CInvalidSketch)))
    (xLInvalidSketch : K.lookup CInvalidSketch = some (excClassObj nmInvalidSketch qnInvalidSketch CInvalidSketch NInvalidSketch bsInvalidSketch [.ref CH, .type "ValueError", .type "Exception", .type "BaseException", .type "object"] true snInvalidSketch subInvalidSketch abInvalidSketch colInvalidSketch ddInvalidSketch m0InvalidSketch m1InvalidSketch m2InvalidSketch m3InvalidSketch m5InvalidSketch "ValueError.__new__"))
    (saInvalidSketch : PySem.W.findIn K (.ref CInvalidSketch) "__setattr__" = some (some (.builtin "object.__setattr__")))
    (gaInvalidSketch : PySem.W.findIn K (.ref CInvalidSketch) "__getattribute__" = some (some (.builtin "BaseException.__getattribute__")))
    (ggInvalidSketch : PySem.W.findIn K (.ref CInvalidSketch) "__getattr__" = some none)
    (noInvalidSketch : PySem.W.findIn K (.ref CInvalidSketch) "index" = some none)
    (iCInvalidSketch : PySem.W.findIn K (.ref CInvalidSketch) "__init__" = some (some (.ref fIInvalidSketch)))
    (tIInvalidSketch : PySem.W.typeIn K (.ref fIInvalidSketch) = some (.type "function"))
    (lIInvalidSketch : K.lookup fIInvalidSketch = some ⟨ocIInvalidSketch, odIInvalidSketch, .func (PySem.W.fnOf "__init__" "InvalidSketch.__init__" (defArgs s_x_InvalidSketch) (defBody s_x_InvalidSketch) (defScope s_x_InvalidSketch) .none kVIInvalidSketch dcIInvalidSketch pmIInvalidSketch anIInvalidSketch cdIInvalidSketch ctIInvalidSketch), slIInvalidSketch⟩)
    (cIInvalidSketch : PySem.W.codeIn K cdIInvalidSketch "InvalidSketch.__init__" = true)
    (kIInvalidSketch : PySem.W.keepIn K (.ref fIInvalidSketch) = true)
    (kCInvalidSketch : PySem.W.keepIn K (.ref CInvalidSketch) = true)
    (eCInvalidSketch : PySem.W.subIn K (.ref CInvalidSketch) (.type "BaseException") = some true)
    (tCInvalidSketch : PySem.W.typeIn K (.ref CInvalidSketch) = some (.type "type"))
    (hCInvalidSketch : PySem.W.hasDictIn K CInvalidSketch = true)
    (sHInvalidSketch : PySem.W.subIn K (.ref CInvalidSketch) (.ref CH) = some true)
    (caInvalidSketch : PySem.W.findIn K (.ref CInvalidSketch) "__class__" = some (some (.builtin "object.__class__")))
    (moInvalidSketch : PySem.W.mroIn K CInvalidSketch (.type "object") = some true)
    (icInvalidSketch : PySem.W.isClsIn K CInvalidSketch = true)
    (skInvalidLists_InvalidNumber : PySem.W.subIn K (.ref CInvalidLists) (.ref CInvalidNumber) = some false)
    (ssInvalidLists : PySem.W.subIn K (.ref CInvalidLists) (.ref CInvalidLists) = some true)
    (skInvalidLists_InvalidSketch : PySem.W.subIn K (.ref CInvalidLists) (.ref CInvalidSketch) = some false)
    (skInvalidLists_NotAWeb : PySem.W.subIn K (.ref CInvalidLists) (.ref CNotAWeb) = some false)
    (svInvalidLists : PySem.W.subIn K (.ref CInvalidLists) (.type "ValueError") = some true)
    (skInvalidNumber_InvalidLists : PySem.W.subIn K (.ref CInvalidNumber) (.ref CInvalidLists) = some false)
    (ssInvalidNumber : PySem.W.subIn K (.ref CInvalidNumber) (.ref CInvalidNumber) = some true)
    (skInvalidNumber_InvalidSketch : PySem.W.subIn K (.ref CInvalidNumber) (.ref CInvalidSketch) = some false)
    (skInvalidNumber_NotAWeb : PySem.W.subIn K (.ref CInvalidNumber) (.ref CNotAWeb) = some false)
    (svInvalidNumber : PySem.W.subIn K (.ref CInvalidNumber) (.type "ValueError") = some true)
    (skInvalidSketch_InvalidLists : PySem.W.subIn K (.ref CInvalidSketch) (.ref CInvalidLists) = some false)
    (ssInvalidSketch : PySem.W.subIn K (.ref CInvalidSketch) (.ref CInvalidSketch) = some true)
    (skInvalidSketch_InvalidNumber : PySem.W.subIn K (.ref CInvalidSketch) (.ref CInvalidNumber) = some false)
    (skInvalidSketch_NotAWeb : PySem.W.subIn K (.ref CInvalidSketch) (.ref CNotAWeb) = some false)
    (svInvalidSketch : PySem.W.subIn K (.ref CInvalidSketch) (.type "ValueError") = some true)
    (skNotAWeb_InvalidLists : PySem.W.subIn K (.ref CNotAWeb) (.ref CInvalidLists) = some false)
    (ssNotAWeb : PySem.W.subIn K (.ref CNotAWeb) (.ref CNotAWeb) = some true)
    (skNotAWeb_InvalidNumber : PySem.W.subIn K (.ref CNotAWeb) (.ref CInvalidNumber) = some false)
    (skNotAWeb_InvalidSketch : PySem.W.subIn K (.ref CNotAWeb) (.ref CInvalidSketch) = some false)
    (svNotAWeb : PySem.W.subIn K (.ref CNotAWeb) (.type "ValueError") = some true)
    : LawAtG l w K 15 63 "script" mg fa h := by
  have e := hfa.symm.trans (PySem.W.mg_of X G a49)
  cases e
  subst kcd0
  subst kcd1
  subst kcd2
  subst kcd3
  have Fi : FunD K "__init__" "Web.__init__" (defArgs s_init) (defBody s_init) (defScope s_init) [.ref T1] [] fi _ := ⟨⟨oci, odi, _, kVi, dci, pmi, ani, cdi, cti, sli, rfl, li, ci, .inr ⟨by simp, T0, _, [.ref T1], nt, rfl, lt, rfl, .cons rfl .nil⟩, .inl rfl⟩, ki⟩
  obtain ⟨ds2, vd2, b2⟩ := Fi.binds1 (ps := ["self", "places", "ties"]) 3 1 (by simp) rfl (fun _ _ _ _ _ _ _ us its h1 h2 => match us, its, h1, h2 with | [_, _, _], [_], _, _ => ⟨_, rfl, rfl⟩)
  obtain ⟨ds1, vd1, b1⟩ := Fi.binds1 (ps := ["self", "places", "ties"]) 2 0 (by simp) rfl (fun _ _ _ _ _ _ _ us its h1 h2 => match us, its, h1, h2 with | [_, _], [_], _, _ => ⟨_, rfl, rfl⟩)
  have e2 : ds2 = [] := by cases vd2; rfl
  subst e2
  obtain ⟨Gd, eG⟩ : ∃ Gd : Gb, Gd = { K := K, ga := fun k => if k = 0 then CInvalidLists else if k = 1 then CNotAWeb else if k = 2 then CInvalidNumber else if k = 3 then CInvalidSketch else if k = 100 then f40 else if k = 101 then f23 else if k = 102 then f38 else if k = 103 then f47 else if k = 104 then f46 else if k = 105 then f37 else if k = 106 then f45 else if k = 107 then f44 else if k = 108 then f43 else 0, cw := C, memo := memoK, exf := fun k => if k = 0 then "index" else if k = 1 then "given" else if k = 2 then "given" else if k = 3 then "index" else Str.empty, tabs := [(PP0, q_wrong_tie), (PP1, q_wrong_list), (PP2, q_wrong_note), (PP3, q__law_right)] } := ⟨_, rfl⟩
  let T : Tx K mg := {
    _law_bag := ⟨_, _, fun_mk (st := s__law_bag) l0 c0 k0, PySem.W.mg_of X G a0, (fun_mk (st := s__law_bag) l0 c0 k0).binds (ps := ["script", "lap"]) fun _ _ _ _ _ _ us hl => match us, hl with | [_, _], _ => rfl⟩
    is_whole := ⟨_, _, fun_mk (st := s_is_whole) l1 c1 k1, PySem.W.mg_of X G a1, (fun_mk (st := s_is_whole) l1 c1 k1).binds (ps := ["value"]) fun _ _ _ _ _ _ us hl => match us, hl with | [_], _ => rfl⟩
    is_between := ⟨_, _, fun_mk (st := s_is_between) l2 c2 k2, PySem.W.mg_of X G a2, (fun_mk (st := s_is_between) l2 c2 k2).binds (ps := ["value", "least", "most"]) fun _ _ _ _ _ _ us hl => match us, hl with | [_, _, _], _ => rfl⟩
    is_places := ⟨_, _, fun_mk (st := s_is_places) l3 c3 k3, PySem.W.mg_of X G a3, (fun_mk (st := s_is_places) l3 c3 k3).binds (ps := ["value"]) fun _ _ _ _ _ _ us hl => match us, hl with | [_], _ => rfl⟩
    first_wrong := ⟨_, _, fun_mk (st := s_first_wrong) l4 c4 k4, PySem.W.mg_of X G a4, (fun_mk (st := s_first_wrong) l4 c4 k4).binds (ps := ["value", "is_right"]) fun _ _ _ _ _ _ us hl => match us, hl with | [_, _], _ => rfl⟩
    is_tuple_of := ⟨_, _, fun_mk (st := s_is_tuple_of) l5 c5 k5, PySem.W.mg_of X G a5, (fun_mk (st := s_is_tuple_of) l5 c5 k5).binds (ps := ["value", "many"]) fun _ _ _ _ _ _ us hl => match us, hl with | [_, _], _ => rfl⟩
    is_tie := ⟨_, _, fun_mk (st := s_is_tie) l6 c6 k6, PySem.W.mg_of X G a6, (fun_mk (st := s_is_tie) l6 c6 k6).binds (ps := ["places", "value"]) fun _ _ _ _ _ _ us hl => match us, hl with | [_, _], _ => rfl⟩
    wrong_tie := ⟨_, _, fun_mk (st := s_wrong_tie) l7 c7 k7, PySem.W.mg_of X G a7, (fun_mk (st := s_wrong_tie) l7 c7 k7).binds (ps := ["places", "value"]) fun _ _ _ _ _ _ us hl => match us, hl with | [_, _], _ => rfl⟩
    _law_take := ⟨_, _, fun_mk (st := s__law_take) l8 c8 k8, PySem.W.mg_of X G a8, (fun_mk (st := s__law_take) l8 c8 k8).binds (ps := ["bag", "top"]) fun _ _ _ _ _ _ us hl => match us, hl with | [_, _], _ => rfl⟩
    _law_pull := ⟨_, _, fun_mk (st := s__law_pull) l9 c9 k9, PySem.W.mg_of X G a9, (fun_mk (st := s__law_pull) l9 c9 k9).binds (ps := ["bag", "some"]) fun _ _ _ _ _ _ us hl => match us, hl with | [_, _], _ => rfl⟩
    _law_raised := ⟨_, _, fun_mk (st := s__law_raised) l10 c10 k10, PySem.W.mg_of X G a10, (fun_mk (st := s__law_raised) l10 c10 k10).binds (ps := ["act"]) fun _ _ _ _ _ _ us hl => match us, hl with | [_], _ => rfl⟩
    with_hue := ⟨_, _, fun_mk (st := s_with_hue) l11 c11 k11, PySem.W.mg_of X G a11, (fun_mk (st := s_with_hue) l11 c11 k11).binds (ps := ["colouring", "place", "hue"]) fun _ _ _ _ _ _ us hl => match us, hl with | [_, _, _], _ => rfl⟩
    come_by := ⟨_, _, fun_mk (st := s_come_by) l12 c12 k12, PySem.W.mg_of X G a12, (fun_mk (st := s_come_by) l12 c12 k12).binds (ps := ["fitting", "lists", "first"]) fun _ _ _ _ _ _ us hl => match us, hl with | [_, _, _], _ => rfl⟩
    are_tied := ⟨_, _, fun_mk (st := s_are_tied) l13 c13 k13, PySem.W.mg_of X G a13, (fun_mk (st := s_are_tied) l13 c13 k13).binds (ps := ["web", "one", "other"]) fun _ _ _ _ _ _ us hl => match us, hl with | [_, _, _], _ => rfl⟩
    places_of := ⟨_, _, fun_mk (st := s_places_of) l14 c14 k14, PySem.W.mg_of X G a14, (fun_mk (st := s_places_of) l14 c14 k14).binds (ps := ["web"]) fun _ _ _ _ _ _ us hl => match us, hl with | [_], _ => rfl⟩
    neighbours_of := ⟨_, _, fun_mk (st := s_neighbours_of) l15 c15 k15, PySem.W.mg_of X G a15, (fun_mk (st := s_neighbours_of) l15 c15 k15).binds (ps := ["web", "place"]) fun _ _ _ _ _ _ us hl => match us, hl with | [_, _], _ => rfl⟩
    fitting_by := ⟨_, _, fun_mk (st := s_fitting_by) l16 c16 k16, PySem.W.mg_of X G a16, (fun_mk (st := s_fitting_by) l16 c16 k16).binds (ps := ["web", "lists"]) fun _ _ _ _ _ _ us hl => match us, hl with | [_, _], _ => rfl⟩
    are_joined_by := ⟨_, _, fun_mk (st := s_are_joined_by) l17 c17 k17, PySem.W.mg_of X G a17, (fun_mk (st := s_are_joined_by) l17 c17 k17).binds (ps := ["web", "lists"]) fun _ _ _ _ _ _ us hl => match us, hl with | [_, _], _ => rfl⟩
    is_list := ⟨_, _, fun_mk (st := s_is_list) l18 c18 k18, PySem.W.mg_of X G a18, (fun_mk (st := s_is_list) l18 c18 k18).binds (ps := ["value"]) fun _ _ _ _ _ _ us hl => match us, hl with | [_], _ => rfl⟩
    wrong_list := ⟨_, _, fun_mk (st := s_wrong_list) l19 c19 k19, PySem.W.mg_of X G a19, (fun_mk (st := s_wrong_list) l19 c19 k19).binds (ps := ["value"]) fun _ _ _ _ _ _ us hl => match us, hl with | [_], _ => rfl⟩
    check_lists := ⟨_, _, fun_mk (st := s_check_lists) l20 c20 k20, PySem.W.mg_of X G a20, (fun_mk (st := s_check_lists) l20 c20 k20).binds (ps := ["web", "value"]) fun _ _ _ _ _ _ us hl => match us, hl with | [_, _], _ => rfl⟩
    check_web := ⟨_, _, fun_mk (st := s_check_web) l21 c21 k21, PySem.W.mg_of X G a21, (fun_mk (st := s_check_web) l21 c21 k21).binds (ps := ["value"]) fun _ _ _ _ _ _ us hl => match us, hl with | [_], _ => rfl⟩
    check_listed := ⟨_, _, fun_mk (st := s_check_listed) l22 c22 k22, PySem.W.mg_of X G a22, (fun_mk (st := s_check_listed) l22 c22 k22).binds (ps := ["web", "lists"]) fun _ _ _ _ _ _ us hl => match us, hl with | [_, _], _ => rfl⟩
    are_lists_joined := ⟨_, _, fun_mk (st := s_are_lists_joined) l23 c23 k23, PySem.W.mg_of X G a23, (fun_mk (st := s_are_lists_joined) l23 c23 k23).binds (ps := ["web", "lists"]) fun _ _ _ _ _ _ us hl => match us, hl with | [_, _], _ => rfl⟩
    may_follow := ⟨_, _, fun_mk (st := s_may_follow) l24 c24 k24, PySem.W.mg_of X G a24, (fun_mk (st := s_may_follow) l24 c24 k24).binds (ps := ["web", "row", "hue"]) fun _ _ _ _ _ _ us hl => match us, hl with | [_, _, _], _ => rfl⟩
    colourings_by := ⟨_, _, fun_mk (st := s_colourings_by) l25 c25 k25, PySem.W.mg_of X G a25, (fun_mk (st := s_colourings_by) l25 c25 k25).binds (ps := ["web", "hues"]) fun _ _ _ _ _ _ us hl => match us, hl with | [_, _], _ => rfl⟩
    sketched_by := ⟨_, _, fun_mk (st := s_sketched_by) l26 c26 k26, PySem.W.mg_of X G a26, (fun_mk (st := s_sketched_by) l26 c26 k26).binds (ps := ["web", "hues", "sketch"]) fun _ _ _ _ _ _ us hl => match us, hl with | [_, _, _], _ => rfl⟩
    best_look_by := ⟨_, _, fun_mk (st := s_best_look_by) l27 c27 k27, PySem.W.mg_of X G a27, (fun_mk (st := s_best_look_by) l27 c27 k27).binds (ps := ["web", "hues", "sketch"]) fun _ _ _ _ _ _ us hl => match us, hl with | [_, _, _], _ => rfl⟩
    is_hues := ⟨_, _, fun_mk (st := s_is_hues) l28 c28 k28, PySem.W.mg_of X G a28, (fun_mk (st := s_is_hues) l28 c28 k28).binds (ps := ["value"]) fun _ _ _ _ _ _ us hl => match us, hl with | [_], _ => rfl⟩
    check_hues := ⟨_, _, fun_mk (st := s_check_hues) l29 c29 k29, PySem.W.mg_of X G a29, (fun_mk (st := s_check_hues) l29 c29 k29).binds (ps := ["value"]) fun _ _ _ _ _ _ us hl => match us, hl with | [_], _ => rfl⟩
    check_hued := ⟨_, _, fun_mk (st := s_check_hued) l30 c30 k30, PySem.W.mg_of X G a30, (fun_mk (st := s_check_hued) l30 c30 k30).binds (ps := ["web", "hues"]) fun _ _ _ _ _ _ us hl => match us, hl with | [_, _], _ => rfl⟩
    is_hue := ⟨_, _, fun_mk (st := s_is_hue) l31 c31 k31, PySem.W.mg_of X G a31, (fun_mk (st := s_is_hue) l31 c31 k31).binds (ps := ["hues", "value"]) fun _ _ _ _ _ _ us hl => match us, hl with | [_, _], _ => rfl⟩
    is_place := ⟨_, _, fun_mk (st := s_is_place) l32 c32 k32, PySem.W.mg_of X G a32, (fun_mk (st := s_is_place) l32 c32 k32).binds (ps := ["web", "value"]) fun _ _ _ _ _ _ us hl => match us, hl with | [_, _], _ => rfl⟩
    is_note := ⟨_, _, fun_mk (st := s_is_note) l33 c33 k33, PySem.W.mg_of X G a33, (fun_mk (st := s_is_note) l33 c33 k33).binds (ps := ["web", "hues", "value", "ahead"]) fun _ _ _ _ _ _ us hl => match us, hl with | [_, _, _, _], _ => rfl⟩
    wrong_note := ⟨_, _, fun_mk (st := s_wrong_note) l34 c34 k34, PySem.W.mg_of X G a34, (fun_mk (st := s_wrong_note) l34 c34 k34).binds (ps := ["web", "hues", "value"]) fun _ _ _ _ _ _ us hl => match us, hl with | [_, _, _], _ => rfl⟩
    check_sketch := ⟨_, _, fun_mk (st := s_check_sketch) l35 c35 k35, PySem.W.mg_of X G a35, (fun_mk (st := s_check_sketch) l35 c35 k35).binds (ps := ["web", "hues", "value"]) fun _ _ _ _ _ _ us hl => match us, hl with | [_, _, _], _ => rfl⟩
    check_sketched := ⟨_, _, fun_mk (st := s_check_sketched) l36 c36 k36, PySem.W.mg_of X G a36, (fun_mk (st := s_check_sketched) l36 c36 k36).binds (ps := ["web", "hues", "sketch"]) fun _ _ _ _ _ _ us hl => match us, hl with | [_, _, _], _ => rfl⟩
    best_look := ⟨_, _, fun_mk (st := s_best_look) l37 c37 k37, PySem.W.mg_of X G a37, (fun_mk (st := s_best_look) l37 c37 k37).binds (ps := ["web", "hues", "sketch"]) fun _ _ _ _ _ _ us hl => match us, hl with | [_, _, _], _ => rfl⟩
    count_fitting := ⟨_, _, fun_mk (st := s_count_fitting) l38 c38 k38, PySem.W.mg_of X G a38, (fun_mk (st := s_count_fitting) l38 c38 k38).binds (ps := ["web", "lists"]) fun _ _ _ _ _ _ us hl => match us, hl with | [_, _], _ => rfl⟩
    parts_of := ⟨_, _, fun_mk (st := s_parts_of) l39 c39 k39, PySem.W.mg_of X G a39, (fun_mk (st := s_parts_of) l39 c39 k39).binds (ps := ["web"]) fun _ _ _ _ _ _ us hl => match us, hl with | [_], _ => rfl⟩
    certify_lists := ⟨_, _, fun_mk (st := s_certify_lists) l40 c40 k40, PySem.W.mg_of X G a40, (fun_mk (st := s_certify_lists) l40 c40 k40).binds (ps := ["web", "lists"]) fun _ _ _ _ _ _ us hl => match us, hl with | [_, _], _ => rfl⟩
    check_place := ⟨_, _, fun_mk (st := s_check_place) l41 c41 k41, PySem.W.mg_of X G a41, (fun_mk (st := s_check_place) l41 c41 k41).binds (ps := ["web", "value"]) fun _ _ _ _ _ _ us hl => match us, hl with | [_, _], _ => rfl⟩
    may_by := ⟨_, _, fun_mk (st := s_may_by) l42 c42 k42, PySem.W.mg_of X G a42, (fun_mk (st := s_may_by) l42 c42 k42).binds (ps := ["web", "hues", "sketch", "place"]) fun _ _ _ _ _ _ us hl => match us, hl with | [_, _, _, _], _ => rfl⟩
    may_have := ⟨_, _, fun_mk (st := s_may_have) l43 c43 k43, PySem.W.mg_of X G a43, (fun_mk (st := s_may_have) l43 c43 k43).binds (ps := ["web", "hues", "sketch", "place"]) fun _ _ _ _ _ _ us hl => match us, hl with | [_, _, _, _], _ => rfl⟩
    certify_may := ⟨_, _, fun_mk (st := s_certify_may) l44 c44 k44, PySem.W.mg_of X G a44, (fun_mk (st := s_certify_may) l44 c44 k44).binds (ps := ["web", "hues", "sketch", "place"]) fun _ _ _ _ _ _ us hl => match us, hl with | [_, _, _, _], _ => rfl⟩
    count_sketch := ⟨_, _, fun_mk (st := s_count_sketch) l45 c45 k45, PySem.W.mg_of X G a45, (fun_mk (st := s_count_sketch) l45 c45 k45).binds (ps := ["web", "hues", "sketch"]) fun _ _ _ _ _ _ us hl => match us, hl with | [_, _, _], _ => rfl⟩
    certify_sketch := ⟨_, _, fun_mk (st := s_certify_sketch) l46 c46 k46, PySem.W.mg_of X G a46, (fun_mk (st := s_certify_sketch) l46 c46 k46).binds (ps := ["web", "hues", "sketch"]) fun _ _ _ _ _ _ us hl => match us, hl with | [_, _, _], _ => rfl⟩
    fitting := ⟨_, _, fun_mk (st := s_fitting) l47 c47 k47, PySem.W.mg_of X G a47, (fun_mk (st := s_fitting) l47 c47 k47).binds (ps := ["web", "lists"]) fun _ _ _ _ _ _ us hl => match us, hl with | [_, _], _ => rfl⟩
    _law_right := ⟨_, _, fun_mk (st := s__law_right) l48 c48 k48, PySem.W.mg_of X G a48, (fun_mk (st := s__law_right) l48 c48 k48).binds (ps := ["bag"]) fun _ _ _ _ _ _ us hl => match us, hl with | [_], _ => rfl⟩
    law := ⟨_, _, fun_mk (st := s_law) l49 c49 k49, PySem.W.mg_of X G a49, (fun_mk (st := s_law) l49 c49 k49).binds (ps := ["script"]) fun _ _ _ _ _ _ us hl => match us, hl with | [_], _ => rfl⟩
    k_COLOURINGS := tk_COLOURINGS
    g_COLOURINGS := PySem.W.mg_of X G g_COLOURINGS
    k_MOST_HUE := tk_MOST_HUE
    g_MOST_HUE := PySem.W.mg_of X G g_MOST_HUE
    k_MOST_HUES := tk_MOST_HUES
    g_MOST_HUES := PySem.W.mg_of X G g_MOST_HUES
    k_MOST_PLACES := tk_MOST_PLACES
    g_MOST_PLACES := PySem.W.mg_of X G g_MOST_PLACES
    n_ValueError := PySem.W.mg_none_of X G n_ValueError
    n_abs := PySem.W.mg_none_of X G n_abs
    n_all := PySem.W.mg_none_of X G n_all
    n_any := PySem.W.mg_none_of X G n_any
    n_bool := PySem.W.mg_none_of X G n_bool
    n_divmod := PySem.W.mg_none_of X G n_divmod
    n_enumerate := PySem.W.mg_none_of X G n_enumerate
    n_int := PySem.W.mg_none_of X G n_int
    n_isinstance := PySem.W.mg_none_of X G n_isinstance
    n_len := PySem.W.mg_none_of X G n_len
    n_list := PySem.W.mg_none_of X G n_list
    n_max := PySem.W.mg_none_of X G n_max
    n_min := PySem.W.mg_none_of X G n_min
    n_range := PySem.W.mg_none_of X G n_range
    n_repr := PySem.W.mg_none_of X G n_repr
    n_set := PySem.W.mg_none_of X G n_set
    n_sorted := PySem.W.mg_none_of X G n_sorted
    n_str := PySem.W.mg_none_of X G n_str
    n_tuple := PySem.W.mg_none_of X G n_tuple
    C_Hue := CH
    m_Hue := PySem.W.mg_of X G aH
    C_InvalidLists := CInvalidLists
    fI_InvalidLists := fIInvalidLists
    fd_InvalidLists := _
    xF_InvalidLists := ⟨⟨⟨_, _, _, _, _, _, _, _, _, _, _, _, _, _, _, xLInvalidLists, by rfl⟩, saInvalidLists, eCInvalidLists, tCInvalidLists, kCInvalidLists⟩, iCInvalidLists, tIInvalidLists, noInvalidLists, PySem.W.mg_of X G aCInvalidLists, (fun_mk (st := s_x_InvalidLists) lIInvalidLists cIInvalidLists kIInvalidLists).binds (ps := ["self", "index"]) fun _ _ _ _ _ _ us hl => match us, hl with | [_, _], _ => rfl⟩
    xO_InvalidLists := fun P W base => fnEx (st := s_x_InvalidLists) (fun_mk (st := s_x_InvalidLists) lIInvalidLists cIInvalidLists kIInvalidLists) ⟨rfl, rfl, rfl, by decide +kernel, rfl, by decide +kernel, by decide +kernel⟩ ⟨⟨_, _, _, _, _, _, _, _, _, _, _, _, _, _, _, xLInvalidLists, by rfl⟩, saInvalidLists, eCInvalidLists, tCInvalidLists, kCInvalidLists⟩ noInvalidLists rfl (by first | exact Or.inl rfl | exact Or.inr (Or.inl rfl)) (by first | exact Or.inl rfl | exact Or.inr (Or.inl rfl)) (by decide) (by decide) (fun _ => by rfl)
    xE_InvalidLists := ⟨gaInvalidLists, ggInvalidLists, eCInvalidLists, hCInvalidLists, caInvalidLists, hn, htk, moInvalidLists⟩
    xA_InvalidLists := ⟨gaInvalidLists, ggInvalidLists, eCInvalidLists, hCInvalidLists⟩
    xH_InvalidLists := PySem.W.exm_ref eH dH tH sHInvalidLists
    C_NotAWeb := CNotAWeb
    fI_NotAWeb := fINotAWeb
    fd_NotAWeb := _
    xF_NotAWeb := ⟨⟨⟨_, _, _, _, _, _, _, _, _, _, _, _, _, _, _, xLNotAWeb, by rfl⟩, saNotAWeb, eCNotAWeb, tCNotAWeb, kCNotAWeb⟩, iCNotAWeb, tINotAWeb, noNotAWeb, PySem.W.mg_of X G aCNotAWeb, (fun_mk (st := s_x_NotAWeb) lINotAWeb cINotAWeb kINotAWeb).binds (ps := ["self", "given"]) fun _ _ _ _ _ _ us hl => match us, hl with | [_, _], _ => rfl⟩
    xO_NotAWeb := fun P W base => fnEx (st := s_x_NotAWeb) (fun_mk (st := s_x_NotAWeb) lINotAWeb cINotAWeb kINotAWeb) ⟨rfl, rfl, rfl, by decide +kernel, rfl, by decide +kernel, by decide +kernel⟩ ⟨⟨_, _, _, _, _, _, _, _, _, _, _, _, _, _, _, xLNotAWeb, by rfl⟩, saNotAWeb, eCNotAWeb, tCNotAWeb, kCNotAWeb⟩ noNotAWeb rfl (by first | exact Or.inl rfl | exact Or.inr (Or.inl rfl)) (by first | exact Or.inl rfl | exact Or.inr (Or.inl rfl)) (by decide) (by decide) (fun _ => by rfl)
    xE_NotAWeb := ⟨gaNotAWeb, ggNotAWeb, eCNotAWeb, hCNotAWeb, caNotAWeb, hn, htk, moNotAWeb⟩
    xA_NotAWeb := ⟨gaNotAWeb, ggNotAWeb, eCNotAWeb, hCNotAWeb⟩
    xH_NotAWeb := PySem.W.exm_ref eH dH tH sHNotAWeb
    C_InvalidNumber := CInvalidNumber
    fI_InvalidNumber := fIInvalidNumber
    fd_InvalidNumber := _
    xF_InvalidNumber := ⟨⟨⟨_, _, _, _, _, _, _, _, _, _, _, _, _, _, _, xLInvalidNumber, by rfl⟩, saInvalidNumber, eCInvalidNumber, tCInvalidNumber, kCInvalidNumber⟩, iCInvalidNumber, tIInvalidNumber, noInvalidNumber, PySem.W.mg_of X G aCInvalidNumber, (fun_mk (st := s_x_InvalidNumber) lIInvalidNumber cIInvalidNumber kIInvalidNumber).binds (ps := ["self", "given"]) fun _ _ _ _ _ _ us hl => match us, hl with | [_, _], _ => rfl⟩
    xO_InvalidNumber := fun P W base => fnEx (st := s_x_InvalidNumber) (fun_mk (st := s_x_InvalidNumber) lIInvalidNumber cIInvalidNumber kIInvalidNumber) ⟨rfl, rfl, rfl, by decide +kernel, rfl, by decide +kernel, by decide +kernel⟩ ⟨⟨_, _, _, _, _, _, _, _, _, _, _, _, _, _, _, xLInvalidNumber, by rfl⟩, saInvalidNumber, eCInvalidNumber, tCInvalidNumber, kCInvalidNumber⟩ noInvalidNumber rfl (by first | exact Or.inl rfl | exact Or.inr (Or.inl rfl)) (by first | exact Or.inl rfl | exact Or.inr (Or.inl rfl)) (by decide) (by decide) (fun _ => by rfl)
    xE_InvalidNumber := ⟨gaInvalidNumber, ggInvalidNumber, eCInvalidNumber, hCInvalidNumber, caInvalidNumber, hn, htk, moInvalidNumber⟩
    xA_InvalidNumber := ⟨gaInvalidNumber, ggInvalidNumber, eCInvalidNumber, hCInvalidNumber⟩
    xH_InvalidNumber := PySem.W.exm_ref eH dH tH sHInvalidNumber
    C_InvalidSketch := CInvalidSketch
    fI_InvalidSketch := fIInvalidSketch
    fd_InvalidSketch := _
    xF_InvalidSketch := ⟨⟨⟨_, _, _, _, _, _, _, _, _, _, _, _, _, _, _, xLInvalidSketch, by rfl⟩, saInvalidSketch, eCInvalidSketch, tCInvalidSketch, kCInvalidSketch⟩, iCInvalidSketch, tIInvalidSketch, noInvalidSketch, PySem.W.mg_of X G aCInvalidSketch, (fun_mk (st := s_x_InvalidSketch) lIInvalidSketch cIInvalidSketch kIInvalidSketch).binds (ps := ["self", "index"]) fun _ _ _ _ _ _ us hl => match us, hl with | [_, _], _ => rfl⟩
    xO_InvalidSketch := fun P W base => fnEx (st := s_x_InvalidSketch) (fun_mk (st := s_x_InvalidSketch) lIInvalidSketch cIInvalidSketch kIInvalidSketch) ⟨rfl, rfl, rfl, by decide +kernel, rfl, by decide +kernel, by decide +kernel⟩ ⟨⟨_, _, _, _, _, _, _, _, _, _, _, _, _, _, _, xLInvalidSketch, by rfl⟩, saInvalidSketch, eCInvalidSketch, tCInvalidSketch, kCInvalidSketch⟩ noInvalidSketch rfl (by first | exact Or.inl rfl | exact Or.inr (Or.inl rfl)) (by first | exact Or.inl rfl | exact Or.inr (Or.inl rfl)) (by decide) (by decide) (fun _ => by rfl)
    xE_InvalidSketch := ⟨gaInvalidSketch, ggInvalidSketch, eCInvalidSketch, hCInvalidSketch, caInvalidSketch, hn, htk, moInvalidSketch⟩
    xA_InvalidSketch := ⟨gaInvalidSketch, ggInvalidSketch, eCInvalidSketch, hCInvalidSketch⟩
    xH_InvalidSketch := PySem.W.exm_ref eH dH tH sHInvalidSketch
    kit_InvalidLists_InvalidLists := kit_self
    kit_InvalidLists_InvalidNumber := kit_other ssInvalidLists skInvalidLists_InvalidNumber icInvalidNumber tCInvalidNumber
    kit_InvalidLists_InvalidSketch := kit_other ssInvalidLists skInvalidLists_InvalidSketch icInvalidSketch tCInvalidSketch
    kit_InvalidLists_NotAWeb := kit_other ssInvalidLists skInvalidLists_NotAWeb icNotAWeb tCNotAWeb
    kitv_InvalidLists := kit_VE svInvalidLists
    kit_InvalidNumber_InvalidLists := kit_other ssInvalidNumber skInvalidNumber_InvalidLists icInvalidLists tCInvalidLists
    kit_InvalidNumber_InvalidNumber := kit_self
    kit_InvalidNumber_InvalidSketch := kit_other ssInvalidNumber skInvalidNumber_InvalidSketch icInvalidSketch tCInvalidSketch
    kit_InvalidNumber_NotAWeb := kit_other ssInvalidNumber skInvalidNumber_NotAWeb icNotAWeb tCNotAWeb
    kitv_InvalidNumber := kit_VE svInvalidNumber
    kit_InvalidSketch_InvalidLists := kit_other ssInvalidSketch skInvalidSketch_InvalidLists icInvalidLists tCInvalidLists
    kit_InvalidSketch_InvalidNumber := kit_other ssInvalidSketch skInvalidSketch_InvalidNumber icInvalidNumber tCInvalidNumber
    kit_InvalidSketch_InvalidSketch := kit_self
    kit_InvalidSketch_NotAWeb := kit_other ssInvalidSketch skInvalidSketch_NotAWeb icNotAWeb tCNotAWeb
    kitv_InvalidSketch := kit_VE svInvalidSketch
    kit_NotAWeb_InvalidLists := kit_other ssNotAWeb skNotAWeb_InvalidLists icInvalidLists tCInvalidLists
    kit_NotAWeb_InvalidNumber := kit_other ssNotAWeb skNotAWeb_InvalidNumber icInvalidNumber tCInvalidNumber
    kit_NotAWeb_InvalidSketch := kit_other ssNotAWeb skNotAWeb_InvalidSketch icInvalidSketch tCInvalidSketch
    kit_NotAWeb_NotAWeb := kit_self
    kitv_NotAWeb := kit_VE svNotAWeb
    fi := fi
    fdi := _
    dvi := [.ref T1]
    Fi := Fi
    bi2 := b2
    dsi := ds1
    bi1 := b1
    vi1 := vd1
    ci1 := fun G w ρ H e => RelCs.cons (by unfold RelC; exact ⟨T1, [], rfl, ⟨.inr ⟨_, #[], nu, by rw [e]; exact lu, rfl, rfl, by decide, .nil⟩, fun z => (z rfl).elim⟩, RelCs.nil⟩) RelCs.nil
    c_wrong_tie := cc0
    P_wrong_tie := PP0
    c_wrong_list := cc1
    P_wrong_list := PP1
    c_wrong_note := cc2
    P_wrong_note := PP2
    c__law_right := cc3
    P__law_right := PP3 }
  have W : WebF K Gd.cw tsW := by rw [eG]; exact ⟨⟨pg, hd, po, sa⟩, ha, hn, htk, hm, nP, nT, nK, fun t ht => by
    simp only [tsW, List.mem_cons, List.not_mem_nil, or_false] at ht
    rcases ht with z | z | z | z | z | z
    · rw [z]; exact kit_noT icW tyW ts0
    · rw [z]; exact kit_noT icW tyW ts1
    · rw [z]; exact kit_noT icW tyW ts2
    · rw [z]; exact kit_noT icW tyW ts3
    · rw [z]; exact kit_noT icW tyW ts4
    · rw [z]; exact kit_noT icW tyW ts5
    ⟩
  have Z : Gz K mg Gd memoK tsW T.fi := ⟨by rw [eG], by rw [eG], by rw [eG]; exact PySem.W.mg_of X G aC, W, by rw [eG]; exact ⟨mk, ai, ii, kc⟩⟩
  have Zx : Gx T Gd := ⟨by rw [eG]; rfl, by rw [eG]; rfl, by rw [eG]; rfl, by rw [eG]; rfl, by rw [eG]; rfl, by rw [eG]; rfl, by rw [eG]; rfl, by rw [eG]; rfl, by rw [eG]; rfl, by rw [eG]; rfl, by rw [eG]; rfl, by rw [eG]; rfl, by rw [eG]; rfl, by rw [eG]; rfl, by rw [eG]; rfl, by rw [eG]; rfl, by rw [eG]; rfl⟩
  obtain ⟨t10, t20⟩ := tf0 _ _ _ _ _ _ _ _ _ (PySem.W.mg_of X G a7) l7 rfl rfl kcl0 kcp0
  obtain ⟨t11, t21⟩ := tf1 _ _ _ _ _ _ _ _ _ (PySem.W.mg_of X G a19) l19 rfl rfl kcl1 kcp1
  obtain ⟨t12, t22⟩ := tf2 _ _ _ _ _ _ _ _ _ (PySem.W.mg_of X G a34) l34 rfl rfl kcl2 kcp2
  obtain ⟨t13, t23⟩ := tf3 _ _ _ _ _ _ _ _ _ (PySem.W.mg_of X G a48) l48 rfl rfl kcl3 kcp3
  refine ⟨T.law.fd, [(cc0, PP0), (cc1, PP1), (cc2, PP2), (cc3, PP3)], spF Gd 1 F_law, fun p hp => ?_, fun p hp => ?_, fun p hp => ?_, fun s v => .of_eq rfl, fun H a ns hn hb hT hS => ?_, fun base KB GB TB => ?_⟩
  · rcases List.mem_cons.mp hp with hp | hp
    · rw [hp]; exact t10
    rcases List.mem_cons.mp hp with hp | hp
    · rw [hp]; exact t11
    rcases List.mem_cons.mp hp with hp | hp
    · rw [hp]; exact t12
    rcases List.mem_cons.mp hp with hp | hp
    · rw [hp]; exact t13
    · cases hp
  · rcases List.mem_cons.mp hp with hp | hp
    · rw [hp]; exact kcn0
    rcases List.mem_cons.mp hp with hp | hp
    · rw [hp]; exact kcn1
    rcases List.mem_cons.mp hp with hp | hp
    · rw [hp]; exact kcn2
    rcases List.mem_cons.mp hp with hp | hp
    · rw [hp]; exact kcn3
    · cases hp
  · rcases List.mem_cons.mp hp with hp | hp
    · rw [hp]; exact t20
    rcases List.mem_cons.mp hp with hp | hp
    · rw [hp]; exact t21
    rcases List.mem_cons.mp hp with hp | hp
    · rw [hp]; exact t22
    rcases List.mem_cons.mp hp with hp | hp
    · rw [hp]; exact t23
    · cases hp
  · have ok : okScr ns = true := by
      simp only [okScr, Bool.and_eq_true, decide_eq_true_eq, List.all_eq_true]
      exact ⟨hn, hb⟩
    have R0 : Rep Gd ⟨[], [], []⟩ [] [] H := by
      refine ⟨List.nodup_nil, by simp, rfl, by simp, fun n a o h => by simp at h, by simp, by simp, by simp, by simp, fun p hp => ?_, fun p hp => ?_, ⟨by simp, fun a p t e => by rw [eG] at e; cases e⟩, ⟨fun dd f c e => (by rw [eG] at e; cases e), fun p hp => (by rw [eG] at hp; cases hp)⟩⟩
      · rw [eG] at hp
        rcases List.mem_cons.mp hp with hp | hp
        · rw [hp]; exact TabS.nil (hT (cc0, PP0) (by simp))
        rcases List.mem_cons.mp hp with hp | hp
        · rw [hp]; exact TabS.nil (hT (cc1, PP1) (by simp))
        rcases List.mem_cons.mp hp with hp | hp
        · rw [hp]; exact TabS.nil (hT (cc2, PP2) (by simp))
        rcases List.mem_cons.mp hp with hp | hp
        · rw [hp]; exact TabS.nil (hT (cc3, PP3) (by simp))
        · cases hp
      · rw [eG] at hp
        cases hp
    refine ⟨rfl, ⟨[], [], []⟩, [], [], [.scr ns], R0, RelCs.cons (by unfold RelC; exact ⟨a, rfl, by rw [eG]; exact hS⟩) RelCs.nil, (plain ns ok).mono (fun v h q w' ρ' H' u e R r => ?_) fun _ _ _ q => q.elim⟩
    rw [q] at r
    exact rc_bl r
  · have Lz : Lzz T base Gd := ⟨⟨TB (cc0, PP0) (by simp), rfl, by rw [eG]; simp [T], fun p hp hq => by
      rw [eG] at hp
      rcases List.mem_cons.mp hp with hp | hp
      · rw [hp]
      rcases List.mem_cons.mp hp with hp | hp
      · rw [hp] at hq; exact absurd hq une10
      rcases List.mem_cons.mp hp with hp | hp
      · rw [hp] at hq; exact absurd hq une20
      rcases List.mem_cons.mp hp with hp | hp
      · rw [hp] at hq; exact absurd hq une30
      · cases hp⟩, ⟨TB (cc1, PP1) (by simp), rfl, by rw [eG]; simp [T], fun p hp hq => by
      rw [eG] at hp
      rcases List.mem_cons.mp hp with hp | hp
      · rw [hp] at hq; exact absurd hq une01
      rcases List.mem_cons.mp hp with hp | hp
      · rw [hp]
      rcases List.mem_cons.mp hp with hp | hp
      · rw [hp] at hq; exact absurd hq une21
      rcases List.mem_cons.mp hp with hp | hp
      · rw [hp] at hq; exact absurd hq une31
      · cases hp⟩, ⟨TB (cc2, PP2) (by simp), rfl, by rw [eG]; simp [T], fun p hp hq => by
      rw [eG] at hp
      rcases List.mem_cons.mp hp with hp | hp
      · rw [hp] at hq; exact absurd hq une02
      rcases List.mem_cons.mp hp with hp | hp
      · rw [hp] at hq; exact absurd hq une12
      rcases List.mem_cons.mp hp with hp | hp
      · rw [hp]
      rcases List.mem_cons.mp hp with hp | hp
      · rw [hp] at hq; exact absurd hq une32
      · cases hp⟩, ⟨TB (cc3, PP3) (by simp), rfl, by rw [eG]; simp [T], fun p hp hq => by
      rw [eG] at hp
      rcases List.mem_cons.mp hp with hp | hp
      · rw [hp] at hq; exact absurd hq une03
      rcases List.mem_cons.mp hp with hp | hp
      · rw [hp] at hq; exact absurd hq une13
      rcases List.mem_cons.mp hp with hp | hp
      · rw [hp] at hq; exact absurd hq une23
      rcases List.mem_cons.mp hp with hp | hp
      · rw [hp]
      · cases hp⟩⟩
    exact ok_law T Z Zx Lz
end
end K61

open PySem PySem.W PyProof.Rows in
set_option maxRecDepth 100000 in
set_option maxHeartbeats 0 in
theorem PySem.Challenge.cw_hueways_k61_lists_refused_holds : PySem.Challenge.rw_hueways_k61_lists_refused.Holds := by
  w_on; o_law; k_head; (case hw => w_witness2)
  k_fill
  refine Rn.walkG (l := PySem.Challenge.rw_hueways_k61_lists_refused) (n := 63) (k := 15) (x := "script") rfl (by decide) rfl ⟨rfl, by decide, by decide⟩ (fun w h Y => by first | exact PySem.W.km_in_of Y | exact PySem.W.kIn_of Y) ?F
  case F =>
    intro w mg fa h Y KX G hmg tf
    refine' K61.all_mk KX G hmg (tf "wrong_tie" (by decide +kernel)) (tf "wrong_list" (by decide +kernel)) (tf "wrong_note" (by decide +kernel)) (tf "_law_right" (by decide +kernel)) ?a0 ?l0 ?c0 ?k0 ?a1 ?l1 ?c1 ?k1 ?a2 ?l2 ?c2 ?k2 ?a3 ?l3 ?c3 ?k3 ?a4 ?l4 ?c4 ?k4 ?a5 ?l5 ?c5 ?k5 ?a6 ?l6 ?c6 ?k6 ?a7 ?l7 ?c7 ?k7 ?a8 ?l8 ?c8 ?k8 ?a9 ?l9 ?c9 ?k9 ?a10 ?l10 ?c10 ?k10 ?a11 ?l11 ?c11 ?k11 ?a12 ?l12 ?c12 ?k12 ?a13 ?l13 ?c13 ?k13 ?a14 ?l14 ?c14 ?k14 ?a15 ?l15 ?c15 ?k15 ?a16 ?l16 ?c16 ?k16 ?a17 ?l17 ?c17 ?k17 ?a18 ?l18 ?c18 ?k18 ?a19 ?l19 ?c19 ?k19 ?a20 ?l20 ?c20 ?k20 ?a21 ?l21 ?c21 ?k21 ?a22 ?l22 ?c22 ?k22 ?a23 ?l23 ?c23 ?k23 ?a24 ?l24 ?c24 ?k24 ?a25 ?l25 ?c25 ?k25 ?a26 ?l26 ?c26 ?k26 ?a27 ?l27 ?c27 ?k27 ?a28 ?l28 ?c28 ?k28 ?a29 ?l29 ?c29 ?k29 ?a30 ?l30 ?c30 ?k30 ?a31 ?l31 ?c31 ?k31 ?a32 ?l32 ?c32 ?k32 ?a33 ?l33 ?c33 ?k33 ?a34 ?l34 ?c34 ?k34 ?a35 ?l35 ?c35 ?k35 ?a36 ?l36 ?c36 ?k36 ?a37 ?l37 ?c37 ?k37 ?a38 ?l38 ?c38 ?k38 ?a39 ?l39 ?c39 ?k39 ?a40 ?l40 ?c40 ?k40 ?a41 ?l41 ?c41 ?k41 ?a42 ?l42 ?c42 ?k42 ?a43 ?l43 ?c43 ?k43 ?a44 ?l44 ?c44 ?k44 ?a45 ?l45 ?c45 ?k45 ?a46 ?l46 ?c46 ?k46 ?a47 ?l47 ?c47 ?k47 ?a48 ?l48 ?c48 ?k48 ?a49 ?l49 ?c49 ?k49 ?g_COLOURINGS ?g_MOST_HUE ?g_MOST_HUES ?g_MOST_PLACES ?n_ValueError ?n_abs ?n_all ?n_any ?n_bool ?n_divmod ?n_enumerate ?n_int ?n_isinstance ?n_len ?n_list ?n_max ?n_min ?n_range ?n_repr ?n_set ?n_sorted ?n_str ?n_tuple ?aC ?ai ?ii ?li ?ci ?ki ?lt ?lu ?pg ?hd ?po ?sa ?mk ?kc ?ha ?hn ?htk ?hm ?nP ?nT ?nK ?icW ?tyW ?ts0 ?ts1 ?ts2 ?ts3 ?ts4 ?ts5 ?kcd0 ?kcl0 ?kcp0 ?kcn0 ?kcd1 ?kcl1 ?kcp1 ?kcn1 ?kcd2 ?kcl2 ?kcp2 ?kcn2 ?kcd3 ?kcl3 ?kcp3 ?kcn3 ?une01 ?une02 ?une03 ?une10 ?une12 ?une13 ?une20 ?une21 ?une23 ?une30 ?une31 ?une32 ?aH ?eH ?dH ?tH ?aCInvalidLists ?xLInvalidLists ?saInvalidLists ?gaInvalidLists ?ggInvalidLists ?noInvalidLists ?iCInvalidLists ?tIInvalidLists ?lIInvalidLists ?cIInvalidLists ?kIInvalidLists ?kCInvalidLists ?eCInvalidLists ?tCInvalidLists ?hCInvalidLists ?sHInvalidLists ?caInvalidLists ?moInvalidLists ?icInvalidLists ?aCNotAWeb ?xLNotAWeb ?saNotAWeb ?gaNotAWeb ?ggNotAWeb ?noNotAWeb ?iCNotAWeb ?tINotAWeb ?lINotAWeb ?cINotAWeb ?kINotAWeb ?kCNotAWeb ?eCNotAWeb ?tCNotAWeb ?hCNotAWeb ?sHNotAWeb ?caNotAWeb ?moNotAWeb ?icNotAWeb ?aCInvalidNumber ?xLInvalidNumber ?saInvalidNumber ?gaInvalidNumber ?ggInvalidNumber ?noInvalidNumber ?iCInvalidNumber ?tIInvalidNumber ?lIInvalidNumber ?cIInvalidNumber ?kIInvalidNumber ?kCInvalidNumber ?eCInvalidNumber ?tCInvalidNumber ?hCInvalidNumber ?sHInvalidNumber ?caInvalidNumber ?moInvalidNumber ?icInvalidNumber ?aCInvalidSketch ?xLInvalidSketch ?saInvalidSketch ?gaInvalidSketch ?ggInvalidSketch ?noInvalidSketch ?iCInvalidSketch ?tIInvalidSketch ?lIInvalidSketch ?cIInvalidSketch ?kIInvalidSketch ?kCInvalidSketch ?eCInvalidSketch ?tCInvalidSketch ?hCInvalidSketch ?sHInvalidSketch ?caInvalidSketch ?moInvalidSketch ?icInvalidSketch ?skInvalidLists_InvalidNumber ?ssInvalidLists ?skInvalidLists_InvalidSketch ?skInvalidLists_NotAWeb ?svInvalidLists ?skInvalidNumber_InvalidLists ?ssInvalidNumber ?skInvalidNumber_InvalidSketch ?skInvalidNumber_NotAWeb ?svInvalidNumber ?skInvalidSketch_InvalidLists ?ssInvalidSketch ?skInvalidSketch_InvalidNumber ?skInvalidSketch_NotAWeb ?svInvalidSketch ?skNotAWeb_InvalidLists ?ssNotAWeb ?skNotAWeb_InvalidNumber ?skNotAWeb_InvalidSketch ?svNotAWeb
    (case a0 => k_is)
    (case l0 => k_is)
    (case c0 => k_is)
    (case k0 => k_is)
    (case a1 => k_is)
    (case l1 => k_is)
    (case c1 => k_is)
    (case k1 => k_is)
    (case a2 => k_is)
    (case l2 => k_is)
    (case c2 => k_is)
    (case k2 => k_is)
    (case a3 => k_is)
    (case l3 => k_is)
    (case c3 => k_is)
    (case k3 => k_is)
    (case a4 => k_is)
    (case l4 => k_is)
    (case c4 => k_is)
    (case k4 => k_is)
    (case a5 => k_is)
    (case l5 => k_is)
    (case c5 => k_is)
    (case k5 => k_is)
    (case a6 => k_is)
    (case l6 => k_is)
    (case c6 => k_is)
    (case k6 => k_is)
    (case a7 => k_is)
    (case l7 => k_is)
    (case c7 => k_is)
    (case k7 => k_is)
    (case a8 => k_is)
    (case l8 => k_is)
    (case c8 => k_is)
    (case k8 => k_is)
    (case a9 => k_is)
    (case l9 => k_is)
    (case c9 => k_is)
    (case k9 => k_is)
    (case a10 => k_is)
    (case l10 => k_is)
    (case c10 => k_is)
    (case k10 => k_is)
    (case a11 => k_is)
    (case l11 => k_is)
    (case c11 => k_is)
    (case k11 => k_is)
    (case a12 => k_is)
    (case l12 => k_is)
    (case c12 => k_is)
    (case k12 => k_is)
    (case a13 => k_is)
    (case l13 => k_is)
    (case c13 => k_is)
    (case k13 => k_is)
    (case a14 => k_is)
    (case l14 => k_is)
    (case c14 => k_is)
    (case k14 => k_is)
    (case a15 => k_is)
    (case l15 => k_is)
    (case c15 => k_is)
    (case k15 => k_is)
    (case a16 => k_is)
    (case l16 => k_is)
    (case c16 => k_is)
    (case k16 => k_is)
    (case a17 => k_is)
    (case l17 => k_is)
    (case c17 => k_is)
    (case k17 => k_is)
    (case a18 => k_is)
    (case l18 => k_is)
    (case c18 => k_is)
    (case k18 => k_is)
    (case a19 => k_is)
    (case l19 => k_is)
    (case c19 => k_is)
    (case k19 => k_is)
    (case a20 => k_is)
    (case l20 => k_is)
    (case c20 => k_is)
    (case k20 => k_is)
    (case a21 => k_is)
    (case l21 => k_is)
    (case c21 => k_is)
    (case k21 => k_is)
    (case a22 => k_is)
    (case l22 => k_is)
    (case c22 => k_is)
    (case k22 => k_is)
    (case a23 => k_is)
    (case l23 => k_is)
    (case c23 => k_is)
    (case k23 => k_is)
    (case a24 => k_is)
    (case l24 => k_is)
    (case c24 => k_is)
    (case k24 => k_is)
    (case a25 => k_is)
    (case l25 => k_is)
    (case c25 => k_is)
    (case k25 => k_is)
    (case a26 => k_is)
    (case l26 => k_is)
    (case c26 => k_is)
    (case k26 => k_is)
    (case a27 => k_is)
    (case l27 => k_is)
    (case c27 => k_is)
    (case k27 => k_is)
    (case a28 => k_is)
    (case l28 => k_is)
    (case c28 => k_is)
    (case k28 => k_is)
    (case a29 => k_is)
    (case l29 => k_is)
    (case c29 => k_is)
    (case k29 => k_is)
    (case a30 => k_is)
    (case l30 => k_is)
    (case c30 => k_is)
    (case k30 => k_is)
    (case a31 => k_is)
    (case l31 => k_is)
    (case c31 => k_is)
    (case k31 => k_is)
    (case a32 => k_is)
    (case l32 => k_is)
    (case c32 => k_is)
    (case k32 => k_is)
    (case a33 => k_is)
    (case l33 => k_is)
    (case c33 => k_is)
    (case k33 => k_is)
    (case a34 => k_is)
    (case l34 => k_is)
    (case c34 => k_is)
    (case k34 => k_is)
    (case a35 => k_is)
    (case l35 => k_is)
    (case c35 => k_is)
    (case k35 => k_is)
    (case a36 => k_is)
    (case l36 => k_is)
    (case c36 => k_is)
    (case k36 => k_is)
    (case a37 => k_is)
    (case l37 => k_is)
    (case c37 => k_is)
    (case k37 => k_is)
    (case a38 => k_is)
    (case l38 => k_is)
    (case c38 => k_is)
    (case k38 => k_is)
    (case a39 => k_is)
    (case l39 => k_is)
    (case c39 => k_is)
    (case k39 => k_is)
    (case a40 => k_is)
    (case l40 => k_is)
    (case c40 => k_is)
    (case k40 => k_is)
    (case a41 => k_is)
    (case l41 => k_is)
    (case c41 => k_is)
    (case k41 => k_is)
    (case a42 => k_is)
    (case l42 => k_is)
    (case c42 => k_is)
    (case k42 => k_is)
    (case a43 => k_is)
    (case l43 => k_is)
    (case c43 => k_is)
    (case k43 => k_is)
    (case a44 => k_is)
    (case l44 => k_is)
    (case c44 => k_is)
    (case k44 => k_is)
    (case a45 => k_is)
    (case l45 => k_is)
    (case c45 => k_is)
    (case k45 => k_is)
    (case a46 => k_is)
    (case l46 => k_is)
    (case c46 => k_is)
    (case k46 => k_is)
    (case a47 => k_is)
    (case l47 => k_is)
    (case c47 => k_is)
    (case k47 => k_is)
    (case a48 => k_is)
    (case l48 => k_is)
    (case c48 => k_is)
    (case k48 => k_is)
    (case a49 => k_is)
    (case l49 => k_is)
    (case c49 => k_is)
    (case k49 => k_is)
    (case g_COLOURINGS => k_is)
    (case g_MOST_HUE => k_is)
    (case g_MOST_HUES => k_is)
    (case g_MOST_PLACES => k_is)
    (case n_ValueError => k_is)
    (case n_abs => k_is)
    (case n_all => k_is)
    (case n_any => k_is)
    (case n_bool => k_is)
    (case n_divmod => k_is)
    (case n_enumerate => k_is)
    (case n_int => k_is)
    (case n_isinstance => k_is)
    (case n_len => k_is)
    (case n_list => k_is)
    (case n_max => k_is)
    (case n_min => k_is)
    (case n_range => k_is)
    (case n_repr => k_is)
    (case n_set => k_is)
    (case n_sorted => k_is)
    (case n_str => k_is)
    (case n_tuple => k_is)
    (case aC => k_is)
    (case ai => k_is)
    (case ii => k_is)
    (case li => k_is)
    (case ci => k_is)
    (case ki => k_is)
    (case lt => k_is)
    (case lu => k_is)
    (case pg => k_is)
    (case hd => k_is)
    (case po => k_is)
    (case sa => k_is)
    (case mk => k_is)
    (case kc => k_is)
    (case ha => k_is)
    (case hn => k_is)
    (case htk => k_is)
    (case hm => k_is)
    (case nP => k_is)
    (case nT => k_is)
    (case nK => k_is)
    (case icW => k_is)
    (case tyW => k_is)
    (case ts0 => k_is)
    (case ts1 => k_is)
    (case ts2 => k_is)
    (case ts3 => k_is)
    (case ts4 => k_is)
    (case ts5 => k_is)
    (case kcd0 => first | rfl | k_is)
    (case kcl0 => k_is)
    (case kcp0 => first | rfl | k_is)
    (case kcn0 => first | kernel_rfl | rfl | decide +kernel)
    (case kcd1 => first | rfl | k_is)
    (case kcl1 => k_is)
    (case kcp1 => first | rfl | k_is)
    (case kcn1 => first | kernel_rfl | rfl | decide +kernel)
    (case kcd2 => first | rfl | k_is)
    (case kcl2 => k_is)
    (case kcp2 => first | rfl | k_is)
    (case kcn2 => first | kernel_rfl | rfl | decide +kernel)
    (case kcd3 => first | rfl | k_is)
    (case kcl3 => k_is)
    (case kcp3 => first | rfl | k_is)
    (case kcn3 => first | kernel_rfl | rfl | decide +kernel)
    (case une01 => decide)
    (case une02 => decide)
    (case une03 => decide)
    (case une10 => decide)
    (case une12 => decide)
    (case une13 => decide)
    (case une20 => decide)
    (case une21 => decide)
    (case une23 => decide)
    (case une30 => decide)
    (case une31 => decide)
    (case une32 => decide)
    (case aH => k_is)
    (case eH => k_is)
    (case dH => k_is)
    (case tH => k_is)
    (case aCInvalidLists => k_is)
    (case xLInvalidLists => k_is)
    (case saInvalidLists => k_is)
    (case gaInvalidLists => k_is)
    (case ggInvalidLists => k_is)
    (case noInvalidLists => k_is)
    (case iCInvalidLists => k_is)
    (case tIInvalidLists => k_is)
    (case lIInvalidLists => k_is)
    (case cIInvalidLists => k_is)
    (case kIInvalidLists => k_is)
    (case kCInvalidLists => k_is)
    (case eCInvalidLists => k_is)
    (case tCInvalidLists => k_is)
    (case hCInvalidLists => k_is)
    (case sHInvalidLists => first | k_is | rfl)
    (case caInvalidLists => k_is)
    (case moInvalidLists => k_is)
    (case icInvalidLists => k_is)
    (case aCNotAWeb => k_is)
    (case xLNotAWeb => k_is)
    (case saNotAWeb => k_is)
    (case gaNotAWeb => k_is)
    (case ggNotAWeb => k_is)
    (case noNotAWeb => k_is)
    (case iCNotAWeb => k_is)
    (case tINotAWeb => k_is)
    (case lINotAWeb => k_is)
    (case cINotAWeb => k_is)
    (case kINotAWeb => k_is)
    (case kCNotAWeb => k_is)
    (case eCNotAWeb => k_is)
    (case tCNotAWeb => k_is)
    (case hCNotAWeb => k_is)
    (case sHNotAWeb => first | k_is | rfl)
    (case caNotAWeb => k_is)
    (case moNotAWeb => k_is)
    (case icNotAWeb => k_is)
    (case aCInvalidNumber => k_is)
    (case xLInvalidNumber => k_is)
    (case saInvalidNumber => k_is)
    (case gaInvalidNumber => k_is)
    (case ggInvalidNumber => k_is)
    (case noInvalidNumber => k_is)
    (case iCInvalidNumber => k_is)
    (case tIInvalidNumber => k_is)
    (case lIInvalidNumber => k_is)
    (case cIInvalidNumber => k_is)
    (case kIInvalidNumber => k_is)
    (case kCInvalidNumber => k_is)
    (case eCInvalidNumber => k_is)
    (case tCInvalidNumber => k_is)
    (case hCInvalidNumber => k_is)
    (case sHInvalidNumber => first | k_is | rfl)
    (case caInvalidNumber => k_is)
    (case moInvalidNumber => k_is)
    (case icInvalidNumber => k_is)
    (case aCInvalidSketch => k_is)
    (case xLInvalidSketch => k_is)
    (case saInvalidSketch => k_is)
    (case gaInvalidSketch => k_is)
    (case ggInvalidSketch => k_is)
    (case noInvalidSketch => k_is)
    (case iCInvalidSketch => k_is)
    (case tIInvalidSketch => k_is)
    (case lIInvalidSketch => k_is)
    (case cIInvalidSketch => k_is)
    (case kIInvalidSketch => k_is)
    (case kCInvalidSketch => k_is)
    (case eCInvalidSketch => k_is)
    (case tCInvalidSketch => k_is)
    (case hCInvalidSketch => k_is)
    (case sHInvalidSketch => first | k_is | rfl)
    (case caInvalidSketch => k_is)
    (case moInvalidSketch => k_is)
    (case icInvalidSketch => k_is)
    (case skInvalidLists_InvalidNumber => first | k_is | rfl)
    (case ssInvalidLists => first | k_is | rfl)
    (case skInvalidLists_InvalidSketch => first | k_is | rfl)
    (case skInvalidLists_NotAWeb => first | k_is | rfl)
    (case svInvalidLists => k_is)
    (case skInvalidNumber_InvalidLists => first | k_is | rfl)
    (case ssInvalidNumber => first | k_is | rfl)
    (case skInvalidNumber_InvalidSketch => first | k_is | rfl)
    (case skInvalidNumber_NotAWeb => first | k_is | rfl)
    (case svInvalidNumber => k_is)
    (case skInvalidSketch_InvalidLists => first | k_is | rfl)
    (case ssInvalidSketch => first | k_is | rfl)
    (case skInvalidSketch_InvalidNumber => first | k_is | rfl)
    (case skInvalidSketch_NotAWeb => first | k_is | rfl)
    (case svInvalidSketch => k_is)
    (case skNotAWeb_InvalidLists => first | k_is | rfl)
    (case ssNotAWeb => first | k_is | rfl)
    (case skNotAWeb_InvalidNumber => first | k_is | rfl)
    (case skNotAWeb_InvalidSketch => first | k_is | rfl)
    (case svNotAWeb => k_is)
